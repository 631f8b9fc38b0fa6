/-
Any transactions as bytes: the law's run.
-/
import Derived.Test.YtfnlcbgijkakiaaF5
import Derived.Test.YtfnlcbgijkakiaaPk3
set_option linter.unusedVariables false
set_option linter.unusedSimpArgs false
set_option maxRecDepth 100000
namespace Go.Proofs.Ytfnlcbgijkakiaa
open Go.Abs

namespace txLists
def codes : List (Bool × Ty) := [(false, .slc 16 tTx)]
theorem coded : argsOf Try.prog 9 [34] = some codes := by kernel_rfl
theorem run {k : Nat} {l : List TxV} (hk : Okl k l) (k2 : k ≠ 2) (hl : l.length * 16 ≤ 140737488351232) (S : AHeap) : vlim Try.prog O 5 [tl k l] S = some (.bool true, S) := by
  obtain ⟨T, hTe⟩ : ∃ T, T = (tl k l :: undef :: undef :: undef :: undef :: undef :: undef :: undef :: undef :: undef :: undef :: undef :: undef :: undef :: undef :: undef :: undef :: undef :: undef :: undef :: undef :: undef :: undef :: undef :: undef :: undef :: undef :: undef :: undef :: undef :: undef :: undef :: []) := ⟨_, rfl⟩
  have hr : vcodeV Try.prog O false neaptidelaw06_TxLists.code T S = vcodeV Try.prog O false neaptidelaw06_TxLists.code T S := rfl
  obtain ⟨j, x, e, q1, q2, q3, _⟩ := txsV_form l
  have c1 := fun S => tx_List.v (k := 1) (l := l) Okl.read (by decide) (by omega) S
  have c2 := fun S => neaptideref06_List.v hk k2 (by omega) S
  rw [q3] at c1 c2
  have cp := fun S => tl_copy (S := S) hk (by omega)
  have s1 : ∀ S, vConv Try.prog 24 9 (by_ (if j = 2 then 1 else j) x) S = some (.string ⟨x.toArray⟩, S) := fun S => by_str q1.dem
  conv at hr =>
    rhs
    rw [hTe]
    simp only [neaptidelaw06_TxLists.code, neaptidelaw06_TxLists.rs, wk, List.getD_cons_succ, List.getD_cons_zero, if_true, if_false, List.getElem?_cons_succ, List.getElem?_cons_zero, Option.map_some, eq_self, reduceIte, Nat.reduceEqDiff, Int.reduceEq, Int.reduceLT, Int.reduceLE, if_neg k2, tl0, cp, c1, c2, neaptidelaw06_txAlive.v, s1, tx_eql, dem2]
  rw [hTe] at hr
  exact neaptidelaw06_TxLists.runs hr (.inr rfl)
theorem law (x : Args codes) (h : Args.Good codes x) : ∃ k, (acall Try.prog k 5 (Args.place codes x AHeap.empty).1 (Args.place codes x AHeap.empty).2).map (·.1) = some (.bool true) := by
  obtain ⟨a, u⟩ := x
  obtain ⟨h1, _⟩ := h
  obtain ⟨k, l, p1, p2, p3, p4, p5⟩ := in_txs a h1
  refine law_of_vlim ora_ok (S' := AHeap.empty) ?_
  have e2 : Args.vval codes (a, u) = [tl k l] := by
    show [argOf false ((Ty.slc 16 tTx).vval a)] = _
    rw [p3]; rfl
  rw [e2]
  exact run p1 p2 p4 _
end txLists
end Go.Proofs.Ytfnlcbgijkakiaa
