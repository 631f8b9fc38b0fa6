/-
Who wins where: what lot.Wins and the document's answer.
-/
import Derived.Test.YtooljmmlekmkeaaF13
import Derived.Test.YtooljmmlekmkeaaF14
import Derived.Test.YtooljmmlekmkeaaVBase
set_option linter.unusedVariables false
set_option linter.unusedSimpArgs false
namespace Go.Proofs.Ytooljmmlekmkeaa
open Go.Abs

def winB (l : List Int) (slot node : Int) : Bool := decide (1 ≤ slot) && decide (slot ≤ l.length) && decide (0 ≤ node) && decide (node < 7) && (l.getD (slot - 1).toNat 0).toNat.testBit node.toNat
theorem shr_and0 : ∀ d : Fin 128, ∀ n : Fin 7, decide (andI .i64 ((d.val : Int).fdiv (2 ^ min (Int.toNat (n.val : Int)) (IntKind.bits .i64))) 1 = 1) = d.val.testBit n.val := by decide +kernel
theorem shr_and {d n : Int} (h0 : 0 ≤ d) (h1 : d ≤ 127) (n0 : 0 ≤ n) (n7 : n < 7) : decide (andI .i64 (d.fdiv (2 ^ min n.toNat (IntKind.bits .i64))) 1 = 1) = d.toNat.testBit n.toNat := by
  have := shr_and0 ⟨d.toNat, by omega⟩ ⟨n.toNat, by omega⟩
  simp only [Int.toNat_of_nonneg h0, Int.toNat_of_nonneg n0] at this
  exact this
theorem quo_rem0 : ∀ d : Fin 128, ∀ n : Fin 7, decide ((IntKind.i64.wrap ((d.val : Int).tdiv (2 ^ n.val))).tmod 2 = 1) = d.val.testBit n.val := by decide +kernel
theorem quo_rem {d n : Int} (h0 : 0 ≤ d) (h1 : d ≤ 127) (n0 : 0 ≤ n) (n7 : n < 7) : decide ((IntKind.i64.wrap (d.tdiv (2 ^ n.toNat))).tmod 2 = 1) = d.toNat.testBit n.toNat := by
  have := quo_rem0 ⟨d.toNat, by omega⟩ ⟨n.toNat, by omega⟩
  simp only [Int.toNat_of_nonneg h0] at this
  exact this
theorem bits_at0 (S : AHeap) : andThen (aBuild Try.prog 35 [(0, (.int .i64 1)), (1, (.int .i64 2)), (2, (.int .i64 4)), (3, (.int .i64 8)), (4, (.int .i64 16)), (5, (.int .i64 32)), (6, (.int .i64 64))] S) (fun v S1 => aIndex Try.prog 35 v (.int .i64 0) S1) = some (.int .i64 1, S) := by kernel_rfl
theorem bits_at1 (S : AHeap) : andThen (aBuild Try.prog 35 [(0, (.int .i64 1)), (1, (.int .i64 2)), (2, (.int .i64 4)), (3, (.int .i64 8)), (4, (.int .i64 16)), (5, (.int .i64 32)), (6, (.int .i64 64))] S) (fun v S1 => aIndex Try.prog 35 v (.int .i64 1) S1) = some (.int .i64 2, S) := by kernel_rfl
theorem bits_at2 (S : AHeap) : andThen (aBuild Try.prog 35 [(0, (.int .i64 1)), (1, (.int .i64 2)), (2, (.int .i64 4)), (3, (.int .i64 8)), (4, (.int .i64 16)), (5, (.int .i64 32)), (6, (.int .i64 64))] S) (fun v S1 => aIndex Try.prog 35 v (.int .i64 2) S1) = some (.int .i64 4, S) := by kernel_rfl
theorem bits_at3 (S : AHeap) : andThen (aBuild Try.prog 35 [(0, (.int .i64 1)), (1, (.int .i64 2)), (2, (.int .i64 4)), (3, (.int .i64 8)), (4, (.int .i64 16)), (5, (.int .i64 32)), (6, (.int .i64 64))] S) (fun v S1 => aIndex Try.prog 35 v (.int .i64 3) S1) = some (.int .i64 8, S) := by kernel_rfl
theorem bits_at4 (S : AHeap) : andThen (aBuild Try.prog 35 [(0, (.int .i64 1)), (1, (.int .i64 2)), (2, (.int .i64 4)), (3, (.int .i64 8)), (4, (.int .i64 16)), (5, (.int .i64 32)), (6, (.int .i64 64))] S) (fun v S1 => aIndex Try.prog 35 v (.int .i64 4) S1) = some (.int .i64 16, S) := by kernel_rfl
theorem bits_at5 (S : AHeap) : andThen (aBuild Try.prog 35 [(0, (.int .i64 1)), (1, (.int .i64 2)), (2, (.int .i64 4)), (3, (.int .i64 8)), (4, (.int .i64 16)), (5, (.int .i64 32)), (6, (.int .i64 64))] S) (fun v S1 => aIndex Try.prog 35 v (.int .i64 5) S1) = some (.int .i64 32, S) := by kernel_rfl
theorem bits_at6 (S : AHeap) : andThen (aBuild Try.prog 35 [(0, (.int .i64 1)), (1, (.int .i64 2)), (2, (.int .i64 4)), (3, (.int .i64 8)), (4, (.int .i64 16)), (5, (.int .i64 32)), (6, (.int .i64 64))] S) (fun v S1 => aIndex Try.prog 35 v (.int .i64 6) S1) = some (.int .i64 64, S) := by kernel_rfl
theorem bits_at {n : Int} (n0 : 0 ≤ n) (n7 : n < 7) (S : AHeap) : andThen (aBuild Try.prog 35 [(0, (.int .i64 1)), (1, (.int .i64 2)), (2, (.int .i64 4)), (3, (.int .i64 8)), (4, (.int .i64 16)), (5, (.int .i64 32)), (6, (.int .i64 64))] S) (fun v S1 => aIndex Try.prog 35 v (.int .i64 n) S1) = some (.int .i64 (2 ^ n.toNat), S) := by
  have : n = 0 ∨ n = 1 ∨ n = 2 ∨ n = 3 ∨ n = 4 ∨ n = 5 ∨ n = 6 := by omega
  rcases this with rfl | rfl | rfl | rfl | rfl | rfl | rfl
  · exact bits_at0 S
  · exact bits_at1 S
  · exact bits_at2 S
  · exact bits_at3 S
  · exact bits_at4 S
  · exact bits_at5 S
  · exact bits_at6 S
section
variable {k : Nat} {l : List Int} {slot node : Int}
theorem at_getD {l : List Int} {i : Int} (h0 : 0 ≤ i) (h : i < l.length) : l[i.toNat]'(by omega) = l.getD i.toNat 0 := by
  rw [List.getD_eq_getElem?_getD, List.getElem?_eq_getElem (by omega : i.toNat < l.length)]; rfl
theorem getD_in (hd : ∀ d ∈ l, 0 ≤ d ∧ d ≤ 127) {i : Int} (h0 : 0 ≤ i) (h : i < l.length) : 0 ≤ l.getD i.toNat 0 ∧ l.getD i.toNat 0 ≤ 127 := by
  rw [← at_getD h0 h]; exact hd _ (List.getElem_mem _)
theorem lot_Wins.v (hv : Okl k l) (hk : k ≠ 2) (hl : l.length ≤ 200) (hd : ∀ d ∈ l, 0 ≤ d ∧ d ≤ 127) (S : AHeap) : vlim Try.prog O lot_Wins.id [iz k l, .int .i64 slot, .int .i64 node] S = some (.bool (winB l slot node), S) := by
  obtain ⟨T, hTe⟩ : ∃ T, T = (iz k l :: .int .i64 slot :: .int .i64 node :: undef :: undef :: undef :: undef :: undef :: undef :: undef :: undef :: undef :: undef :: undef :: undef :: undef :: undef :: undef :: undef :: undef :: undef :: undef :: undef :: undef :: undef :: undef :: undef :: undef :: undef :: undef :: undef :: undef :: undef :: undef :: []) := ⟨_, rfl⟩
  have hr : vcodeV Try.prog O false lot_Wins.code T S = vcodeV Try.prog O false lot_Wins.code T S := rfl
  unfold winB
  by_cases h1 : 1 ≤ slot
  · by_cases h2 : slot ≤ l.length
    · by_cases h3 : 0 ≤ node
      · by_cases h4 : node < 7
        · have w1 : IntKind.i64.wrap (slot - 1) = slot - 1 := wrap_i64 (by omega) (by omega)
          have e1 : ∀ S, vIndexAddr Try.prog 22 (iz k l) (.int .i64 (slot - 1)) S = some (EP [.int .i64 (l.getD (slot - 1).toNat 0)], S) := fun S => by
            rw [iz_at hv (by omega) (by omega), at_getD (by omega) (by omega)]
          obtain ⟨g1, g2⟩ := getD_in hd (i := slot - 1) (by omega) (by omega)
          conv at hr =>
            rhs
            rw [hTe]
            simp only [lot_Wins.code, lot_Wins.rs, wk, List.getD_cons_succ, List.getD_cons_zero, if_true, if_false, List.getElem?_cons_succ, List.getElem?_cons_zero, Option.map_some, eq_self, reduceIte, Nat.reduceEqDiff, Int.reduceEq, Int.reduceLT, Int.reduceLE, if_neg hk, iz_len hv, goInt, h1, h2, h3, h4, w1, e1, iz_load, aBin_shr _ _ _ _ h3, aBin_and, shr_and g1 g2 h3 h4]
          rw [hTe] at hr
          simp only [h1, h2, h3, h4, decide_true, Bool.true_and]
          exact lot_Wins.runs hr (.inr rfl)
        · conv at hr =>
            rhs
            rw [hTe]
            simp only [lot_Wins.code, lot_Wins.rs, wk, List.getD_cons_succ, List.getD_cons_zero, if_true, if_false, List.getElem?_cons_succ, List.getElem?_cons_zero, Option.map_some, eq_self, reduceIte, Nat.reduceEqDiff, Int.reduceEq, Int.reduceLT, Int.reduceLE, if_neg hk, iz_len hv, goInt, h1, h2, h3, h4]
          rw [hTe] at hr
          simp only [h4, decide_false, Bool.and_false, Bool.false_and]
          exact lot_Wins.runs hr (.inr rfl)
      · conv at hr =>
          rhs
          rw [hTe]
          simp only [lot_Wins.code, lot_Wins.rs, wk, List.getD_cons_succ, List.getD_cons_zero, if_true, if_false, List.getElem?_cons_succ, List.getElem?_cons_zero, Option.map_some, eq_self, reduceIte, Nat.reduceEqDiff, Int.reduceEq, Int.reduceLT, Int.reduceLE, if_neg hk, iz_len hv, goInt, h1, h2, h3]
        rw [hTe] at hr
        simp only [h3, decide_false, Bool.and_false, Bool.false_and]
        exact lot_Wins.runs hr (.inr rfl)
    · conv at hr =>
        rhs
        rw [hTe]
        simp only [lot_Wins.code, lot_Wins.rs, wk, List.getD_cons_succ, List.getD_cons_zero, if_true, if_false, List.getElem?_cons_succ, List.getElem?_cons_zero, Option.map_some, eq_self, reduceIte, Nat.reduceEqDiff, Int.reduceEq, Int.reduceLT, Int.reduceLE, if_neg hk, iz_len hv, goInt, h1, h2]
      rw [hTe] at hr
      simp only [h2, decide_false, Bool.and_false, Bool.false_and]
      exact lot_Wins.runs hr (.inr rfl)
  · conv at hr =>
      rhs
      rw [hTe]
      simp only [lot_Wins.code, lot_Wins.rs, wk, List.getD_cons_succ, List.getD_cons_zero, if_true, if_false, List.getElem?_cons_succ, List.getElem?_cons_zero, Option.map_some, eq_self, reduceIte, Nat.reduceEqDiff, Int.reduceEq, Int.reduceLT, Int.reduceLE, if_neg hk, iz_len hv, goInt, h1]
    rw [hTe] at hr
    simp only [h1, decide_false, Bool.and_false, Bool.false_and]
    exact lot_Wins.runs hr (.inr rfl)
theorem neaptideref10_Wins.v (hv : Okl k l) (hk : k ≠ 2) (hl : l.length ≤ 200) (hd : ∀ d ∈ l, 0 ≤ d ∧ d ≤ 127) (S : AHeap) : vlim Try.prog O neaptideref10_Wins.id [iz k l, .int .i64 slot, .int .i64 node] S = some (.bool (winB l slot node), S) := by
  obtain ⟨T, hTe⟩ : ∃ T, T = (iz k l :: .int .i64 slot :: .int .i64 node :: undef :: undef :: undef :: undef :: undef :: undef :: undef :: undef :: undef :: undef :: undef :: undef :: undef :: undef :: undef :: undef :: undef :: undef :: undef :: undef :: undef :: undef :: undef :: undef :: undef :: undef :: undef :: undef :: undef :: undef :: undef :: undef :: undef :: []) := ⟨_, rfl⟩
  have hr : vcodeV Try.prog O false neaptideref10_Wins.code T S = vcodeV Try.prog O false neaptideref10_Wins.code T S := rfl
  unfold winB
  by_cases h1 : slot < 1
  · conv at hr =>
      rhs
      rw [hTe]
      simp only [neaptideref10_Wins.code, neaptideref10_Wins.rs, wk, List.getD_cons_succ, List.getD_cons_zero, if_true, if_false, List.getElem?_cons_succ, List.getElem?_cons_zero, Option.map_some, eq_self, reduceIte, Nat.reduceEqDiff, Int.reduceEq, Int.reduceLT, Int.reduceLE, if_neg hk, iz_len hv, goInt, h1]
    rw [hTe] at hr
    rw [decide_eq_false (show ¬ 1 ≤ slot by omega)]
    simp only [Bool.false_and]
    exact neaptideref10_Wins.runs hr (.inr rfl)
  · by_cases h2 : (l.length : Int) < slot
    · conv at hr =>
        rhs
        rw [hTe]
        simp only [neaptideref10_Wins.code, neaptideref10_Wins.rs, wk, List.getD_cons_succ, List.getD_cons_zero, if_true, if_false, List.getElem?_cons_succ, List.getElem?_cons_zero, Option.map_some, eq_self, reduceIte, Nat.reduceEqDiff, Int.reduceEq, Int.reduceLT, Int.reduceLE, if_neg hk, iz_len hv, goInt, h1, h2]
      rw [hTe] at hr
      rw [decide_eq_false (show ¬ slot ≤ l.length by omega)]
      simp only [Bool.false_and, Bool.and_false]
      exact neaptideref10_Wins.runs hr (.inr rfl)
    · by_cases h3 : node < 0
      · conv at hr =>
          rhs
          rw [hTe]
          simp only [neaptideref10_Wins.code, neaptideref10_Wins.rs, wk, List.getD_cons_succ, List.getD_cons_zero, if_true, if_false, List.getElem?_cons_succ, List.getElem?_cons_zero, Option.map_some, eq_self, reduceIte, Nat.reduceEqDiff, Int.reduceEq, Int.reduceLT, Int.reduceLE, if_neg hk, iz_len hv, goInt, h1, h2, h3]
        rw [hTe] at hr
        rw [decide_eq_false (show ¬ 0 ≤ node by omega)]
        simp only [Bool.false_and, Bool.and_false]
        exact neaptideref10_Wins.runs hr (.inr rfl)
      · by_cases h4 : 6 < node
        · conv at hr =>
            rhs
            rw [hTe]
            simp only [neaptideref10_Wins.code, neaptideref10_Wins.rs, wk, List.getD_cons_succ, List.getD_cons_zero, if_true, if_false, List.getElem?_cons_succ, List.getElem?_cons_zero, Option.map_some, eq_self, reduceIte, Nat.reduceEqDiff, Int.reduceEq, Int.reduceLT, Int.reduceLE, if_neg hk, iz_len hv, goInt, h1, h2, h3, h4]
          rw [hTe] at hr
          rw [decide_eq_false (show ¬ node < 7 by omega)]
          simp only [Bool.false_and, Bool.and_false]
          exact neaptideref10_Wins.runs hr (.inr rfl)
        · have w1 : IntKind.i64.wrap (slot - 1) = slot - 1 := wrap_i64 (by omega) (by omega)
          have e1 : ∀ S, vIndexAddr Try.prog 22 (iz k l) (.int .i64 (slot - 1)) S = some (EP [.int .i64 (l.getD (slot - 1).toNat 0)], S) := fun S => by
            rw [iz_at hv (by omega) (by omega), at_getD (by omega) (by omega)]
          obtain ⟨g1, g2⟩ := getD_in hd (i := slot - 1) (by omega) (by omega)
          have b1 := bits_at (n := node) (by omega) (by omega) S
          cases hb : aBuild Try.prog 35 [(0, (.int .i64 1)), (1, (.int .i64 2)), (2, (.int .i64 4)), (3, (.int .i64 8)), (4, (.int .i64 16)), (5, (.int .i64 32)), (6, (.int .i64 64))] S with
          | none => rw [hb] at b1; cases b1
          | some vs =>
            obtain ⟨v, S1⟩ := vs
            rw [hb] at b1
            simp only [andThen_some] at b1
            have p0 : ¬ (2 : Int) ^ node.toNat = 0 := by have := Int.pow_pos (n := 2) (m := node.toNat) (by omega); omega
            conv at hr =>
              rhs
              rw [hTe]
              simp only [neaptideref10_Wins.code, neaptideref10_Wins.rs, wk, List.getD_cons_succ, List.getD_cons_zero, if_true, if_false, List.getElem?_cons_succ, List.getElem?_cons_zero, Option.map_some, eq_self, reduceIte, Nat.reduceEqDiff, Int.reduceEq, Int.reduceLT, Int.reduceLE, if_neg hk, iz_len hv, goInt, h1, h2, h3, h4, hb, b1, w1, e1, iz_load, aBin_quo _ _ _ p0, aBin_rem _ _ _ (show (2 : Int) ≠ 0 by omega), quo_rem g1 g2 (show 0 ≤ node by omega) (show node < 7 by omega)]
            rw [hTe] at hr
            rw [decide_eq_true (show 1 ≤ slot by omega), decide_eq_true (show slot ≤ l.length by omega), decide_eq_true (show 0 ≤ node by omega), decide_eq_true (show node < 7 by omega)]
            simp only [Bool.true_and]
            exact neaptideref10_Wins.runs hr (.inr rfl)
end
end Go.Proofs.Ytooljmmlekmkeaa
