/-
The transaction, and the transactions, of any bytes: the law's run.
-/
import Derived.Test.YtfnlcbgijkakiaaF8
import Derived.Test.YtfnlcbgijkakiaaPk3
set_option linter.unusedVariables false
set_option linter.unusedSimpArgs false
set_option maxRecDepth 100000
namespace Go.Proofs.Ytfnlcbgijkakiaa
open Go.Abs

namespace txReads
def codes : List (Bool × Ty) := [(false, .slc 1 (.int .u8))]
theorem coded : argsOf Try.prog 9 [24] = some codes := by kernel_rfl
theorem run {k : Nat} {l : List UInt8} (hk : Okl k l) (k2 : k ≠ 2) (hl : l.length ≤ 140737488351232) (S : AHeap) : ∃ S', vlim Try.prog O 8 [by_ k l] S = some (.bool true, S') := by
  obtain ⟨T, hTe⟩ : ∃ T, T = (by_ k l :: undef :: undef :: undef :: undef :: undef :: undef :: undef :: undef :: undef :: undef :: undef :: undef :: undef :: undef :: undef :: undef :: undef :: undef :: undef :: undef :: undef :: undef :: undef :: undef :: undef :: undef :: undef :: undef :: undef :: undef :: undef :: undef :: undef :: undef :: undef :: undef :: undef :: undef :: undef :: undef :: undef :: undef :: undef :: undef :: undef :: undef :: undef :: undef :: undef :: undef :: undef :: undef :: undef :: undef :: undef :: []) := ⟨_, rfl⟩
  have hr : vcodeV Try.prog O false neaptidelaw06_TxReads.code T S = vcodeV Try.prog O false neaptidelaw06_TxReads.code T S := rfl
  obtain ⟨t, e, q1, _⟩ := txRdV_form l
  have c1 := fun S => tx_Read.v (k := 1) (l := l) Okl.read (by decide) (by omega) S
  have c2 := fun S => neaptideref06_Read.v hk k2 (by omega) S
  rw [q1] at c1 c2
  obtain ⟨k1, k3, ts, g, o1, o2, o3, o4, o5⟩ := txsRd_both l
  have c3 := fun S => tx_ReadList.v (k := 1) (l := l) Okl.read (by decide) (by omega) S
  have c4 := fun S => neaptideref06_ReadList.v hk k2 (by omega) S
  rw [o4] at c3
  rw [o5] at c4
  have c5 := fun S => neaptideref06_Same.v o1.dem o2.dem (dem_ne2 k1) (dem_ne2 k3) (by omega) S
  rw [decide_eq_true rfl] at c5
  have cp := fun S => by_copy (S := S) hk (by omega)
  obtain ⟨S1, b1, b2, b3, b4⟩ := st_tx S t
  obtain ⟨S2, d1, d2, d3, d4⟩ := st_tx S1 t
  have ga : S2.get S.next = some (.cells (fT t) (.own []) 0) := (d3.get _ b4).trans b2
  have eq := fun S => (eq_tx t t S).1
  rw [decide_eq_true rfl] at eq
  conv at hr =>
    rhs
    rw [hTe]
    simp only [neaptidelaw06_TxReads.code, neaptidelaw06_TxReads.rs, wk, List.getD_cons_succ, List.getD_cons_zero, if_true, if_false, List.getElem?_cons_succ, List.getElem?_cons_zero, Option.map_some, eq_self, reduceIte, Nat.reduceEqDiff, Int.reduceEq, Int.reduceLT, Int.reduceLE, if_neg k2, bb0, cp, c1, al_tx, b1, c2, d1, c3, c4, neaptidelaw06_txAlive.v, ld_tx ga, ld_tx d2, eq, dem2, c5]
  rw [hTe] at hr
  exact ⟨_, neaptidelaw06_TxReads.runs hr (.inr rfl)⟩
theorem law (x : Args codes) (h : Args.Good codes x) : ∃ k, (acall Try.prog k 8 (Args.place codes x AHeap.empty).1 (Args.place codes x AHeap.empty).2).map (·.1) = some (.bool true) := by
  obtain ⟨a, u⟩ := x
  obtain ⟨h1, _⟩ := h
  obtain ⟨k, l, p1, p2, p3, p4⟩ := in_bytes a h1
  obtain ⟨S', e⟩ := run p1 p2 p4 AHeap.empty
  refine law_of_vlim ora_ok (S' := S') ?_
  have e2 : Args.vval codes (a, u) = [by_ k l] := by
    show [argOf false ((Ty.slc 1 (.int .u8)).vval a)] = _
    rw [p3]; rfl
  rw [e2]
  exact e
end txReads
end Go.Proofs.Ytfnlcbgijkakiaa
