/-
Which blocks can be, their names and bytes, and whether two are the same: the law's run.
-/
import Derived.Test.YtgggklfbhmlapaaF5
import Derived.Test.YtgggklfbhmlapaaPk3
set_option linter.unusedVariables false
set_option linter.unusedSimpArgs false
set_option maxRecDepth 100000
namespace Go.Proofs.Ytgggklfbhmlapaa
open Go.Abs

namespace blockTells
def codes : List (Bool × Ty) := [(true, tBk), (true, tBk)]
theorem coded : argsOf Try.prog 9 [29, 29] = some codes := by kernel_rfl
theorem run {a b : BlkV} (ha : a.Ok) (hb : b.Ok) (S : AHeap) : ∃ S', vlim Try.prog O 5 [bv a, bv b] S = some (.bool true, S') := by
  obtain ⟨T, hTe⟩ : ∃ T, T = (bv a :: bv b :: undef :: undef :: undef :: undef :: undef :: undef :: undef :: undef :: undef :: undef :: undef :: undef :: undef :: undef :: undef :: undef :: undef :: undef :: undef :: undef :: undef :: undef :: undef :: undef :: undef :: undef :: undef :: undef :: undef :: undef :: undef :: undef :: undef :: undef :: undef :: undef :: undef :: undef :: undef :: undef :: undef :: undef :: undef :: undef :: undef :: undef :: undef :: undef :: undef :: undef :: undef :: undef :: undef :: []) := ⟨_, rfl⟩
  have hr : vcodeV Try.prog O false neaptidelaw07_BlockTells.code T S = vcodeV Try.prog O false neaptidelaw07_BlockTells.code T S := rfl
  obtain ⟨S1, b1, b2, b3, b4⟩ := box_bk a S
  obtain ⟨S2, d1, d2, d3, d4⟩ := box_bk b S1
  have ga : S2.get S.next = some (.cells (fBk a) (.own []) 0) := (d3.get _ b4).trans b2
  obtain ⟨k, x, e, q1, q2, q3, _⟩ := blkBV_form a
  have c1 := fun S => block_Bytes.v ha S
  have c2 := fun S => neaptideref07_Bytes.v ha S
  rw [q3] at c1 c2
  have c3 := fun S => block_Right.v ha S
  have c4 := fun S => neaptideref07_Right.v ha S
  have c5 := fun S => block_Name.v ha S
  have c6 := fun S => neaptideref07_Name.v ha S
  have c7 := fun S => block_Same.v ha hb S
  have c8 := fun S => neaptideref07_Same.v ha hb S
  have s1 : ∀ S, vConv Try.prog 33 9 (by_ (if k = 2 then 1 else k) x) S = some (.string ⟨x.toArray⟩, S) := fun S => by_str q1.dem
  conv at hr =>
    rhs
    rw [hTe]
    simp only [neaptidelaw07_BlockTells.code, neaptidelaw07_BlockTells.rs, wk, List.getD_cons_succ, List.getD_cons_zero, if_true, if_false, List.getElem?_cons_succ, List.getElem?_cons_zero, Option.map_some, eq_self, reduceIte, Nat.reduceEqDiff, Int.reduceEq, Int.reduceLT, Int.reduceLE, b1, d1, ld_b ga ha.ne, ld_b d2 hb.ne, c1, c2, c3, c4, c5, c6, c7, c8, neaptidelaw07_blockAlive.v, stillQ_same ga, stillQ_same d2, tf_eql, beq_self_eq_true, s1, tx_eql, dem2, okK_bv]
  rw [hTe] at hr
  exact ⟨_, neaptidelaw07_BlockTells.runs hr (.inr rfl)⟩
theorem law (x : Args codes) (h : Args.Good codes x) : ∃ k, (acall Try.prog k 5 (Args.place codes x AHeap.empty).1 (Args.place codes x AHeap.empty).2).map (·.1) = some (.bool true) := by
  obtain ⟨a, b, u⟩ := x
  obtain ⟨h1, h2, _⟩ := h
  obtain ⟨t, t1, ht⟩ := in_bk a h1
  obtain ⟨w, w1, hw⟩ := in_bk b h2
  obtain ⟨S', e⟩ := run ht hw AHeap.empty
  refine law_of_vlim ora_ok (S' := S') ?_
  have e2 : Args.vval codes (a, b, u) = [bv t, bv w] := by
    show [argOf true (tBk.vval a), argOf true (tBk.vval b)] = _
    rw [t1, w1]; rfl
  rw [e2]
  exact e
end blockTells
end Go.Proofs.Ytgggklfbhmlapaa
