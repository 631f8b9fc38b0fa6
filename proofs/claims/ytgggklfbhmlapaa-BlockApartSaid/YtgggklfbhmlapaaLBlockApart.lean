/-
Two blocks' names: the law's run. Printed by genb6.py.
-/
import Derived.Test.YtgggklfbhmlapaaF4
import Derived.Test.YtgggklfbhmlapaaPk3
set_option linter.unusedVariables false
set_option linter.unusedSimpArgs false
set_option maxRecDepth 100000
namespace Go.Proofs.Ytgggklfbhmlapaa
open Go.Abs

namespace blockApart
def codes : List (Bool × Ty) := [(true, tBk), (true, tBk)]
theorem coded : argsOf Try.prog 9 [29, 29] = some codes := by kernel_rfl
theorem name_facts {b : BlkV} (h : rightBk b = true) : nameOf b = b.slot * 65536 + b.miner * 256 + b.variant ∧ slotOf (nameOf b) = b.slot ∧ minerOf (nameOf b) = b.miner ∧ (1 ≤ b.slot ∧ b.slot ≤ 4095) ∧ (0 ≤ b.miner ∧ b.miner ≤ 6) ∧ (0 ≤ b.variant ∧ b.variant ≤ 255) ∧ b.parent < nameOf b := by
  have hn : nameOf b = b.slot * 65536 + b.miner * 256 + b.variant := if_pos h
  simp only [rightBk, Bool.and_eq_true, head_iff] at h
  obtain ⟨⟨h1, h2, h3, h4⟩, _⟩ := h
  have nm : namedB (nameOf b) = true := named_iff.mpr (by omega)
  refine ⟨hn, ?_, ?_, h1, h2, h3, ?_⟩
  · unfold slotOf; rw [if_pos nm]; omega
  · unfold minerOf; rw [if_pos nm]; omega
  · rcases h4 with h4 | ⟨h4, h5⟩
    · omega
    · have := named_iff.mp h4; omega
theorem run {a b : BlkV} (ha : a.Ok) (hb : b.Ok) (S : AHeap) : ∃ S', vlim Try.prog O 4 [bv a, bv b] S = some (.bool true, S') := by
  obtain ⟨T, hTe⟩ : ∃ T, T = (bv a :: bv b :: undef :: undef :: undef :: undef :: undef :: undef :: undef :: undef :: undef :: undef :: undef :: undef :: undef :: undef :: undef :: undef :: undef :: undef :: undef :: undef :: undef :: undef :: undef :: undef :: undef :: undef :: undef :: undef :: undef :: undef :: undef :: undef :: undef :: undef :: undef :: undef :: undef :: undef :: undef :: undef :: undef :: undef :: undef :: undef :: undef :: undef :: undef :: undef :: undef :: undef :: undef :: undef :: undef :: undef :: undef :: undef :: undef :: undef :: undef :: undef :: undef :: undef :: undef :: undef :: undef :: undef :: undef :: undef :: undef :: undef :: undef :: []) := ⟨_, rfl⟩
  have hr : vcodeV Try.prog O false neaptidelaw07_BlockApart.code T S = vcodeV Try.prog O false neaptidelaw07_BlockApart.code T S := rfl
  obtain ⟨S1, b1, b2, b3, b4⟩ := box_bk a S
  obtain ⟨S2, d1, d2, d3, d4⟩ := box_bk b S1
  have ga : S2.get S.next = some (.cells (fBk a) (.own []) 0) := (d3.get _ b4).trans b2
  have c3 := fun S => block_Right.v ha S
  have c4 := fun S => block_Right.v hb S
  have c5 := fun S => block_Name.v ha S
  have c6 := fun S => block_Name.v hb S
  have c7 := fun S => block_Slot.v (nameOf a) S
  have c8 := fun S => block_Miner.v (nameOf a) S
  have q0 := stillQ_same (o := 0 + 0) ga
  have q1 := stillQ_same (o := 0 + 1) ga
  cases hA : rightBk a
  · rw [hA] at c3
    conv at hr =>
      rhs
      rw [hTe]
      simp only [neaptidelaw07_BlockApart.code, neaptidelaw07_BlockApart.rs, wk, List.getD_cons_succ, List.getD_cons_zero, if_true, if_false, List.getElem?_cons_succ, List.getElem?_cons_zero, Option.map_some, eq_self, reduceIte, Nat.reduceEqDiff, Int.reduceEq, Int.reduceLT, Int.reduceLE, b1, d1, ld_b ga ha.ne, ld_b d2 hb.ne, c3, c4, neaptidelaw07_blockAlive.v, okK_bv]
    rw [hTe] at hr
    exact ⟨_, neaptidelaw07_BlockApart.runs hr (.inr rfl)⟩
  · rw [hA] at c3
    cases hB : rightBk b
    · rw [hB] at c4
      conv at hr =>
        rhs
        rw [hTe]
        simp only [neaptidelaw07_BlockApart.code, neaptidelaw07_BlockApart.rs, wk, List.getD_cons_succ, List.getD_cons_zero, if_true, if_false, List.getElem?_cons_succ, List.getElem?_cons_zero, Option.map_some, eq_self, reduceIte, Nat.reduceEqDiff, Int.reduceEq, Int.reduceLT, Int.reduceLE, b1, d1, ld_b ga ha.ne, ld_b d2 hb.ne, c3, c4, neaptidelaw07_blockAlive.v, okK_bv]
      rw [hTe] at hr
      exact ⟨_, neaptidelaw07_BlockApart.runs hr (.inr rfl)⟩
    · rw [hB] at c4
      obtain ⟨n1, n2, n3, n4, n5, n6, n7⟩ := name_facts hA
      obtain ⟨m1, m2, m3, m4, m5, m6, m7⟩ := name_facts hB
      rw [n2] at c7
      rw [n3] at c8
      have gt1 := decide_eq_true n7
      by_cases h1 : a.slot = b.slot
      rotate_left
      · have e1 := decide_eq_false h1
        have e0 : decide (nameOf a = nameOf b) = false := decide_eq_false (by omega)
        by_cases hp : a.parent = nameOf b
        · have hp1 := decide_eq_true hp
          have hp2 : decide (nameOf b < nameOf a) = true := decide_eq_true (by omega)
          conv at hr =>
            rhs
            rw [hTe]
            simp only [neaptidelaw07_BlockApart.code, neaptidelaw07_BlockApart.rs, wk, List.getD_cons_succ, List.getD_cons_zero, if_true, if_false, List.getElem?_cons_succ, List.getElem?_cons_zero, Option.map_some, eq_self, reduceIte, Nat.reduceEqDiff, Int.reduceEq, Int.reduceLT, Int.reduceLE, b1, d1, ld_b ga ha.ne, ld_b d2 hb.ne, c3, c4, neaptidelaw07_blockAlive.v, okK_bv, c5, c6, c7, c8, fa_api_Block_0, fa_api_Block_1, fa_api_Block_2, fa_api_Block_3, ld_b0 ga, ld_b1 ga, ld_b2 ga, ld_b3 ga, ld_b0 d2, ld_b1 d2, ld_b2 d2, stillQ_same ga, stillQ_same d2, q0, q1, tf_neq, bne_self_eq_false, gt1, e1, e0, hp1, hp2]
          rw [hTe] at hr
          exact ⟨_, neaptidelaw07_BlockApart.runs hr (.inr rfl)⟩
        · have hp1 := decide_eq_false hp
          conv at hr =>
            rhs
            rw [hTe]
            simp only [neaptidelaw07_BlockApart.code, neaptidelaw07_BlockApart.rs, wk, List.getD_cons_succ, List.getD_cons_zero, if_true, if_false, List.getElem?_cons_succ, List.getElem?_cons_zero, Option.map_some, eq_self, reduceIte, Nat.reduceEqDiff, Int.reduceEq, Int.reduceLT, Int.reduceLE, b1, d1, ld_b ga ha.ne, ld_b d2 hb.ne, c3, c4, neaptidelaw07_blockAlive.v, okK_bv, c5, c6, c7, c8, fa_api_Block_0, fa_api_Block_1, fa_api_Block_2, fa_api_Block_3, ld_b0 ga, ld_b1 ga, ld_b2 ga, ld_b3 ga, ld_b0 d2, ld_b1 d2, ld_b2 d2, stillQ_same ga, stillQ_same d2, q0, q1, tf_neq, bne_self_eq_false, gt1, e1, e0, hp1]
          rw [hTe] at hr
          exact ⟨_, neaptidelaw07_BlockApart.runs hr (.inr rfl)⟩
      have e1 := decide_eq_true h1
      by_cases h2 : a.miner = b.miner
      rotate_left
      · have e2 := decide_eq_false h2
        have e0 : decide (nameOf a = nameOf b) = false := decide_eq_false (by omega)
        by_cases hp : a.parent = nameOf b
        · have hp1 := decide_eq_true hp
          have hp2 : decide (nameOf b < nameOf a) = true := decide_eq_true (by omega)
          conv at hr =>
            rhs
            rw [hTe]
            simp only [neaptidelaw07_BlockApart.code, neaptidelaw07_BlockApart.rs, wk, List.getD_cons_succ, List.getD_cons_zero, if_true, if_false, List.getElem?_cons_succ, List.getElem?_cons_zero, Option.map_some, eq_self, reduceIte, Nat.reduceEqDiff, Int.reduceEq, Int.reduceLT, Int.reduceLE, b1, d1, ld_b ga ha.ne, ld_b d2 hb.ne, c3, c4, neaptidelaw07_blockAlive.v, okK_bv, c5, c6, c7, c8, fa_api_Block_0, fa_api_Block_1, fa_api_Block_2, fa_api_Block_3, ld_b0 ga, ld_b1 ga, ld_b2 ga, ld_b3 ga, ld_b0 d2, ld_b1 d2, ld_b2 d2, stillQ_same ga, stillQ_same d2, q0, q1, tf_neq, bne_self_eq_false, gt1, e1, e2, e0, hp1, hp2]
          rw [hTe] at hr
          exact ⟨_, neaptidelaw07_BlockApart.runs hr (.inr rfl)⟩
        · have hp1 := decide_eq_false hp
          conv at hr =>
            rhs
            rw [hTe]
            simp only [neaptidelaw07_BlockApart.code, neaptidelaw07_BlockApart.rs, wk, List.getD_cons_succ, List.getD_cons_zero, if_true, if_false, List.getElem?_cons_succ, List.getElem?_cons_zero, Option.map_some, eq_self, reduceIte, Nat.reduceEqDiff, Int.reduceEq, Int.reduceLT, Int.reduceLE, b1, d1, ld_b ga ha.ne, ld_b d2 hb.ne, c3, c4, neaptidelaw07_blockAlive.v, okK_bv, c5, c6, c7, c8, fa_api_Block_0, fa_api_Block_1, fa_api_Block_2, fa_api_Block_3, ld_b0 ga, ld_b1 ga, ld_b2 ga, ld_b3 ga, ld_b0 d2, ld_b1 d2, ld_b2 d2, stillQ_same ga, stillQ_same d2, q0, q1, tf_neq, bne_self_eq_false, gt1, e1, e2, e0, hp1]
          rw [hTe] at hr
          exact ⟨_, neaptidelaw07_BlockApart.runs hr (.inr rfl)⟩
      have e2 := decide_eq_true h2
      by_cases h3 : a.variant = b.variant
      rotate_left
      · have e3 := decide_eq_false h3
        have e0 : decide (nameOf a = nameOf b) = false := decide_eq_false (by omega)
        by_cases hp : a.parent = nameOf b
        · have hp1 := decide_eq_true hp
          have hp2 : decide (nameOf b < nameOf a) = true := decide_eq_true (by omega)
          conv at hr =>
            rhs
            rw [hTe]
            simp only [neaptidelaw07_BlockApart.code, neaptidelaw07_BlockApart.rs, wk, List.getD_cons_succ, List.getD_cons_zero, if_true, if_false, List.getElem?_cons_succ, List.getElem?_cons_zero, Option.map_some, eq_self, reduceIte, Nat.reduceEqDiff, Int.reduceEq, Int.reduceLT, Int.reduceLE, b1, d1, ld_b ga ha.ne, ld_b d2 hb.ne, c3, c4, neaptidelaw07_blockAlive.v, okK_bv, c5, c6, c7, c8, fa_api_Block_0, fa_api_Block_1, fa_api_Block_2, fa_api_Block_3, ld_b0 ga, ld_b1 ga, ld_b2 ga, ld_b3 ga, ld_b0 d2, ld_b1 d2, ld_b2 d2, stillQ_same ga, stillQ_same d2, q0, q1, tf_neq, bne_self_eq_false, gt1, e1, e2, e3, e0, hp1, hp2]
          rw [hTe] at hr
          exact ⟨_, neaptidelaw07_BlockApart.runs hr (.inr rfl)⟩
        · have hp1 := decide_eq_false hp
          conv at hr =>
            rhs
            rw [hTe]
            simp only [neaptidelaw07_BlockApart.code, neaptidelaw07_BlockApart.rs, wk, List.getD_cons_succ, List.getD_cons_zero, if_true, if_false, List.getElem?_cons_succ, List.getElem?_cons_zero, Option.map_some, eq_self, reduceIte, Nat.reduceEqDiff, Int.reduceEq, Int.reduceLT, Int.reduceLE, b1, d1, ld_b ga ha.ne, ld_b d2 hb.ne, c3, c4, neaptidelaw07_blockAlive.v, okK_bv, c5, c6, c7, c8, fa_api_Block_0, fa_api_Block_1, fa_api_Block_2, fa_api_Block_3, ld_b0 ga, ld_b1 ga, ld_b2 ga, ld_b3 ga, ld_b0 d2, ld_b1 d2, ld_b2 d2, stillQ_same ga, stillQ_same d2, q0, q1, tf_neq, bne_self_eq_false, gt1, e1, e2, e3, e0, hp1]
          rw [hTe] at hr
          exact ⟨_, neaptidelaw07_BlockApart.runs hr (.inr rfl)⟩
      have e3 := decide_eq_true h3
      have e0 : decide (nameOf a = nameOf b) = true := decide_eq_true (by omega)
      by_cases hp : a.parent = nameOf b
      · have hp1 := decide_eq_true hp
        have hp2 : decide (nameOf b < nameOf a) = true := decide_eq_true (by omega)
        conv at hr =>
          rhs
          rw [hTe]
          simp only [neaptidelaw07_BlockApart.code, neaptidelaw07_BlockApart.rs, wk, List.getD_cons_succ, List.getD_cons_zero, if_true, if_false, List.getElem?_cons_succ, List.getElem?_cons_zero, Option.map_some, eq_self, reduceIte, Nat.reduceEqDiff, Int.reduceEq, Int.reduceLT, Int.reduceLE, b1, d1, ld_b ga ha.ne, ld_b d2 hb.ne, c3, c4, neaptidelaw07_blockAlive.v, okK_bv, c5, c6, c7, c8, fa_api_Block_0, fa_api_Block_1, fa_api_Block_2, fa_api_Block_3, ld_b0 ga, ld_b1 ga, ld_b2 ga, ld_b3 ga, ld_b0 d2, ld_b1 d2, ld_b2 d2, stillQ_same ga, stillQ_same d2, q0, q1, tf_neq, bne_self_eq_false, gt1, e1, e2, e3, e0, hp1, hp2]
        rw [hTe] at hr
        exact ⟨_, neaptidelaw07_BlockApart.runs hr (.inr rfl)⟩
      · have hp1 := decide_eq_false hp
        conv at hr =>
          rhs
          rw [hTe]
          simp only [neaptidelaw07_BlockApart.code, neaptidelaw07_BlockApart.rs, wk, List.getD_cons_succ, List.getD_cons_zero, if_true, if_false, List.getElem?_cons_succ, List.getElem?_cons_zero, Option.map_some, eq_self, reduceIte, Nat.reduceEqDiff, Int.reduceEq, Int.reduceLT, Int.reduceLE, b1, d1, ld_b ga ha.ne, ld_b d2 hb.ne, c3, c4, neaptidelaw07_blockAlive.v, okK_bv, c5, c6, c7, c8, fa_api_Block_0, fa_api_Block_1, fa_api_Block_2, fa_api_Block_3, ld_b0 ga, ld_b1 ga, ld_b2 ga, ld_b3 ga, ld_b0 d2, ld_b1 d2, ld_b2 d2, stillQ_same ga, stillQ_same d2, q0, q1, tf_neq, bne_self_eq_false, gt1, e1, e2, e3, e0, hp1]
        rw [hTe] at hr
        exact ⟨_, neaptidelaw07_BlockApart.runs hr (.inr rfl)⟩
theorem law (x : Args codes) (h : Args.Good codes x) : ∃ k, (acall Try.prog k 4 (Args.place codes x AHeap.empty).1 (Args.place codes x AHeap.empty).2).map (·.1) = some (.bool true) := by
  obtain ⟨a, b, u⟩ := x
  obtain ⟨h1, h2, _⟩ := h
  obtain ⟨t, t1, ht⟩ := in_bk a h1
  obtain ⟨w, w1, hw⟩ := in_bk b h2
  obtain ⟨S', e⟩ := run ht hw AHeap.empty
  refine law_of_vlim ora_ok (S' := S') ?_
  have e2 : Args.vval codes (a, b, u) = [bv t, bv w] := by
    show [argOf true (tBk.vval a), argOf true (tBk.vval b)] = _
    rw [t1, w1]; rfl
  rw [e2]
  exact e
end blockApart
end Go.Proofs.Ytgggklfbhmlapaa
