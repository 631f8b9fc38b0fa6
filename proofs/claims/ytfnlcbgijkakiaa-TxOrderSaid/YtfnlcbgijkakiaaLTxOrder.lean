/-
What goes ahead of one that goes ahead of another goes ahead of that: the law's run.
-/
import Derived.Test.YtfnlcbgijkakiaaF4
import Derived.Test.YtfnlcbgijkakiaaPk3
set_option linter.unusedVariables false
set_option linter.unusedSimpArgs false
set_option maxRecDepth 100000
namespace Go.Proofs.Ytfnlcbgijkakiaa
open Go.Abs

namespace txOrder
def codes : List (Bool × Ty) := [(true, tTx), (true, tTx), (true, tTx)]
theorem coded : argsOf Try.prog 9 [23, 23, 23] = some codes := by kernel_rfl
theorem less_irr (a : TxV) : lessB a a = false := by simp [lessB]
theorem less_iff (a b : TxV) : lessB a b = true ↔ b.fee < a.fee ∨ (a.fee = b.fee ∧ a.id < b.id) := by
  unfold lessB
  split
  · rename_i h; simp [h]
  · rename_i h; simp [h]
theorem less_trans {a b c : TxV} (h1 : lessB a b = true) (h2 : lessB b c = true) : lessB a c = true := by
  rw [less_iff] at *; omega
theorem run (a b c : TxV) (S : AHeap) : ∃ S', vlim Try.prog O 4 [tv a, tv b, tv c] S = some (.bool true, S') := by
  obtain ⟨T, hTe⟩ : ∃ T, T = (tv a :: tv b :: tv c :: undef :: undef :: undef :: undef :: undef :: undef :: undef :: undef :: undef :: undef :: undef :: undef :: undef :: undef :: undef :: undef :: undef :: undef :: undef :: undef :: undef :: undef :: undef :: undef :: undef :: undef :: undef :: undef :: undef :: undef :: undef :: undef :: undef :: undef :: undef :: undef :: undef :: undef :: undef :: undef :: undef :: undef :: undef :: undef :: undef :: undef :: undef :: undef :: undef :: undef :: undef :: undef :: undef :: undef :: undef :: []) := ⟨_, rfl⟩
  have hr : vcodeV Try.prog O false neaptidelaw06_TxOrder.code T S = vcodeV Try.prog O false neaptidelaw06_TxOrder.code T S := rfl
  obtain ⟨S1, b1, b2, b3, b4⟩ := box_tx a S
  obtain ⟨S2, d1, d2, d3, d4⟩ := box_tx b S1
  obtain ⟨S3, e1, e2, e3, e4⟩ := box_tx c S2
  have ga : S3.get S.next = some (.cells (fT a) (.own []) 0) := (e3.get _ (by omega)).trans ((d3.get _ b4).trans b2)
  have gb : S3.get S1.next = some (.cells (fT b) (.own []) 0) := (e3.get _ d4).trans d2
  have q1 := stillQ_same (o := 0 + 0) ga
  have q2 := stillQ_same (o := 0 + 0) gb
  have la := less_irr a
  have tr : ∀ x y z, lessB a b = x → lessB b c = y → lessB a c = z → (x && y && !z) = false := by
    rintro x y z rfl rfl rfl
    cases h1 : lessB a b <;> cases h2 : lessB b c <;> simp
    exact less_trans h1 h2
  have key : ∃ S', vlim Try.prog O 4 [tv a, tv b, tv c] S = some (.bool true, S') := by
    by_cases f1 : b.fee < a.fee
    · have hab : lessB a b = true := (less_iff a b).mpr (.inl f1)
      have hba : lessB b a = false := by
        cases h : lessB b a with
        | false => rfl
        | true => have := (less_iff b a).mp h; omega
      cases hbc : lessB b c
      · conv at hr =>
          rhs
          rw [hTe]
          simp only [neaptidelaw06_TxOrder.code, neaptidelaw06_TxOrder.rs, wk, List.getD_cons_succ, List.getD_cons_zero, if_true, if_false, List.getElem?_cons_succ, List.getElem?_cons_zero, Option.map_some, eq_self, reduceIte, Nat.reduceEqDiff, Int.reduceEq, Int.reduceLT, Int.reduceLE, b1, d1, e1, ld_tx ga, ld_tx gb, ld_tx e2, ld_tx0 ga, ld_tx0 gb, ld_tx1 ga, ld_tx1 gb, fa_api_Tx_0, fa_api_Tx_1, neaptidelaw06_txAlive.v, tx_Less.v, la, hab, hba, hbc, decide_eq_true f1]
        rw [hTe] at hr
        exact ⟨_, neaptidelaw06_TxOrder.runs hr (.inr rfl)⟩
      · have hac := less_trans hab hbc
        conv at hr =>
          rhs
          rw [hTe]
          simp only [neaptidelaw06_TxOrder.code, neaptidelaw06_TxOrder.rs, wk, List.getD_cons_succ, List.getD_cons_zero, if_true, if_false, List.getElem?_cons_succ, List.getElem?_cons_zero, Option.map_some, eq_self, reduceIte, Nat.reduceEqDiff, Int.reduceEq, Int.reduceLT, Int.reduceLE, b1, d1, e1, ld_tx ga, ld_tx gb, ld_tx e2, ld_tx0 ga, ld_tx0 gb, ld_tx1 ga, ld_tx1 gb, fa_api_Tx_0, fa_api_Tx_1, neaptidelaw06_txAlive.v, tx_Less.v, la, hab, hba, hbc, hac, decide_eq_true f1]
        rw [hTe] at hr
        exact ⟨_, neaptidelaw06_TxOrder.runs hr (.inr rfl)⟩
    · by_cases f2 : a.fee < b.fee
      · have hab : lessB a b = false := by
          cases h : lessB a b with
          | false => rfl
          | true => have := (less_iff a b).mp h; omega
        conv at hr =>
          rhs
          rw [hTe]
          simp only [neaptidelaw06_TxOrder.code, neaptidelaw06_TxOrder.rs, wk, List.getD_cons_succ, List.getD_cons_zero, if_true, if_false, List.getElem?_cons_succ, List.getElem?_cons_zero, Option.map_some, eq_self, reduceIte, Nat.reduceEqDiff, Int.reduceEq, Int.reduceLT, Int.reduceLE, b1, d1, e1, ld_tx ga, ld_tx gb, ld_tx e2, ld_tx0 ga, ld_tx0 gb, ld_tx1 ga, ld_tx1 gb, fa_api_Tx_0, fa_api_Tx_1, neaptidelaw06_txAlive.v, tx_Less.v, la, hab, decide_eq_false f1, decide_eq_true f2]
        rw [hTe] at hr
        exact ⟨_, neaptidelaw06_TxOrder.runs hr (.inr rfl)⟩
      · have hid : decide (a.id < b.id) = lessB a b := by
          rw [Bool.eq_iff_iff, less_iff]; simp; omega
        cases hab : lessB a b
        · rw [hab] at hid
          conv at hr =>
            rhs
            rw [hTe]
            simp only [neaptidelaw06_TxOrder.code, neaptidelaw06_TxOrder.rs, wk, List.getD_cons_succ, List.getD_cons_zero, if_true, if_false, List.getElem?_cons_succ, List.getElem?_cons_zero, Option.map_some, eq_self, reduceIte, Nat.reduceEqDiff, Int.reduceEq, Int.reduceLT, Int.reduceLE, b1, d1, e1, ld_tx ga, ld_tx gb, ld_tx e2, ld_tx0 ga, ld_tx0 gb, ld_tx1 ga, ld_tx1 gb, fa_api_Tx_0, fa_api_Tx_1, neaptidelaw06_txAlive.v, tx_Less.v, la, hab, decide_eq_false f1, decide_eq_false f2, hid, q1, q2, tf_eql, beq_self_eq_true]
          rw [hTe] at hr
          exact ⟨_, neaptidelaw06_TxOrder.runs hr (.inr rfl)⟩
        · rw [hab] at hid
          cases hbc : lessB b c
          · conv at hr =>
              rhs
              rw [hTe]
              simp only [neaptidelaw06_TxOrder.code, neaptidelaw06_TxOrder.rs, wk, List.getD_cons_succ, List.getD_cons_zero, if_true, if_false, List.getElem?_cons_succ, List.getElem?_cons_zero, Option.map_some, eq_self, reduceIte, Nat.reduceEqDiff, Int.reduceEq, Int.reduceLT, Int.reduceLE, b1, d1, e1, ld_tx ga, ld_tx gb, ld_tx e2, ld_tx0 ga, ld_tx0 gb, ld_tx1 ga, ld_tx1 gb, fa_api_Tx_0, fa_api_Tx_1, neaptidelaw06_txAlive.v, tx_Less.v, la, hab, hbc, decide_eq_false f1, decide_eq_false f2, hid, q1, q2, tf_eql, beq_self_eq_true]
            rw [hTe] at hr
            exact ⟨_, neaptidelaw06_TxOrder.runs hr (.inr rfl)⟩
          · have hac := less_trans hab hbc
            conv at hr =>
              rhs
              rw [hTe]
              simp only [neaptidelaw06_TxOrder.code, neaptidelaw06_TxOrder.rs, wk, List.getD_cons_succ, List.getD_cons_zero, if_true, if_false, List.getElem?_cons_succ, List.getElem?_cons_zero, Option.map_some, eq_self, reduceIte, Nat.reduceEqDiff, Int.reduceEq, Int.reduceLT, Int.reduceLE, b1, d1, e1, ld_tx ga, ld_tx gb, ld_tx e2, ld_tx0 ga, ld_tx0 gb, ld_tx1 ga, ld_tx1 gb, fa_api_Tx_0, fa_api_Tx_1, neaptidelaw06_txAlive.v, tx_Less.v, la, hab, hbc, hac, decide_eq_false f1, decide_eq_false f2, hid, q1, q2, tf_eql, beq_self_eq_true]
            rw [hTe] at hr
            exact ⟨_, neaptidelaw06_TxOrder.runs hr (.inr rfl)⟩
  exact key
theorem law (x : Args codes) (h : Args.Good codes x) : ∃ k, (acall Try.prog k 4 (Args.place codes x AHeap.empty).1 (Args.place codes x AHeap.empty).2).map (·.1) = some (.bool true) := by
  obtain ⟨a, b, c, u⟩ := x
  obtain ⟨h1, h2, h3, _⟩ := h
  obtain ⟨t, t1, _⟩ := in_tx a h1
  obtain ⟨w, w1, _⟩ := in_tx b h2
  obtain ⟨y, y1, _⟩ := in_tx c h3
  obtain ⟨S', e⟩ := run t w y AHeap.empty
  refine law_of_vlim ora_ok (S' := S') ?_
  have e2 : Args.vval codes (a, b, c, u) = [tv t, tv w, tv y] := by
    show [argOf true (tTx.vval a), argOf true (tTx.vval b), argOf true (tTx.vval c)] = _
    rw [t1, w1, y1]; rfl
  rw [e2]
  exact e
end txOrder
end Go.Proofs.Ytfnlcbgijkakiaa
