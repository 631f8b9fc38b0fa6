/-
Which transactions can be, their bytes, which goes ahead: the law's run.
-/
import Derived.Test.YtfnlcbgijkakiaaF3
import Derived.Test.YtfnlcbgijkakiaaPk3
set_option linter.unusedVariables false
set_option linter.unusedSimpArgs false
set_option maxRecDepth 100000
namespace Go.Proofs.Ytfnlcbgijkakiaa
open Go.Abs

namespace txTells
def codes : List (Bool × Ty) := [(true, tTx), (true, tTx)]
theorem coded : argsOf Try.prog 9 [23, 23] = some codes := by kernel_rfl
theorem run (a b : TxV) (S : AHeap) : ∃ S', vlim Try.prog O 3 [tv a, tv b] S = some (.bool true, S') := by
  obtain ⟨T, hTe⟩ : ∃ T, T = (tv a :: tv b :: undef :: undef :: undef :: undef :: undef :: undef :: undef :: undef :: undef :: undef :: undef :: undef :: undef :: undef :: undef :: undef :: undef :: undef :: undef :: undef :: undef :: undef :: undef :: undef :: undef :: undef :: undef :: undef :: undef :: undef :: undef :: undef :: undef :: undef :: undef :: undef :: undef :: undef :: undef :: undef :: undef :: undef :: undef :: undef :: undef :: undef :: []) := ⟨_, rfl⟩
  have hr : vcodeV Try.prog O false neaptidelaw06_TxTells.code T S = vcodeV Try.prog O false neaptidelaw06_TxTells.code T S := rfl
  obtain ⟨S1, b1, b2, b3, b4⟩ := box_tx a S
  obtain ⟨S2, d1, d2, d3, d4⟩ := box_tx b S1
  have ga : S2.get S.next = some (.cells (fT a) (.own []) 0) := (d3.get _ b4).trans b2
  obtain ⟨k, x, e, q1, q2, q3, _⟩ := txBV_form a
  have c1 := fun S => tx_Bytes.v a S
  have c2 := fun S => neaptideref06_Bytes.v a S
  rw [q3] at c1 c2
  have s1 : ∀ S, vConv Try.prog 24 9 (by_ (if k = 2 then 1 else k) x) S = some (.string ⟨x.toArray⟩, S) := fun S => by_str q1.dem
  conv at hr =>
    rhs
    rw [hTe]
    simp only [neaptidelaw06_TxTells.code, neaptidelaw06_TxTells.rs, wk, List.getD_cons_succ, List.getD_cons_zero, if_true, if_false, List.getElem?_cons_succ, List.getElem?_cons_zero, Option.map_some, eq_self, reduceIte, Nat.reduceEqDiff, Int.reduceEq, Int.reduceLT, Int.reduceLE, b1, d1, ld_tx ga, ld_tx d2, c1, c2, neaptidelaw06_txAlive.v, tx_Right.v, neaptideref06_Right.v, stillQ_same ga, stillQ_same d2, tf_eql, beq_self_eq_true, s1, tx_eql, dem2, okK_tx, tx_Less.v, neaptideref06_Less.v]
  rw [hTe] at hr
  exact ⟨_, neaptidelaw06_TxTells.runs hr (.inr rfl)⟩
theorem law (x : Args codes) (h : Args.Good codes x) : ∃ k, (acall Try.prog k 3 (Args.place codes x AHeap.empty).1 (Args.place codes x AHeap.empty).2).map (·.1) = some (.bool true) := by
  obtain ⟨a, b, u⟩ := x
  obtain ⟨h1, h2, _⟩ := h
  obtain ⟨t, t1, _⟩ := in_tx a h1
  obtain ⟨w, w1, _⟩ := in_tx b h2
  obtain ⟨S', e⟩ := run t w AHeap.empty
  refine law_of_vlim ora_ok (S' := S') ?_
  have e2 : Args.vval codes (a, b, u) = [tv t, tv w] := by
    show [argOf true (tTx.vval a), argOf true (tTx.vval b)] = _
    rw [t1, w1]; rfl
  rw [e2]
  exact e
end txTells
end Go.Proofs.Ytfnlcbgijkakiaa
