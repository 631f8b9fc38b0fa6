/-
The block of any bytes: the law's run.
-/
import Derived.Test.YtgggklfbhmlapaaF7
import Derived.Test.YtgggklfbhmlapaaPk3
set_option linter.unusedVariables false
set_option linter.unusedSimpArgs false
set_option maxRecDepth 100000
namespace Go.Proofs.Ytgggklfbhmlapaa
open Go.Abs

namespace blockReads
def codes : List (Bool × Ty) := [(false, .slc 1 (.int .u8))]
theorem coded : argsOf Try.prog 9 [33] = some codes := by kernel_rfl
theorem reads_same {l : List UInt8} {x y : BlkV} {e f : Int} (h : ReadsBk l x e) (g : ReadsBk l y f) : sameB x y = true ∧ e = f := by
  obtain ⟨_, _, ⟨rfl, h1, _⟩ | ⟨rfl, h1, rfl⟩⟩ := h <;> obtain ⟨_, _, ⟨rfl, g1, _⟩ | ⟨rfl, g1, rfl⟩⟩ := g
  · rw [h1] at g1
    injection g1 with g1
    simp only [BlkV.mk.injEq, true_and] at g1
    refine ⟨?_, rfl⟩
    simp [sameB, g1]
  · rw [h1] at g1; cases g1
  · rw [h1] at g1; cases g1
  · exact ⟨by simp [sameB], rfl⟩
theorem run {k : Nat} {l : List UInt8} (hk : Okl k l) (k2 : k ≠ 2) (hl : l.length ≤ 140737488351232) (S : AHeap) : ∃ S', vlim Try.prog O 7 [by_ k l] S = some (.bool true, S') := by
  obtain ⟨T, hTe⟩ : ∃ T, T = (by_ k l :: undef :: undef :: undef :: undef :: undef :: undef :: undef :: undef :: undef :: undef :: undef :: undef :: undef :: undef :: undef :: undef :: undef :: undef :: undef :: undef :: undef :: undef :: undef :: undef :: undef :: undef :: undef :: undef :: undef :: []) := ⟨_, rfl⟩
  have hr : vcodeV Try.prog O false neaptidelaw07_BlockReads.code T S = vcodeV Try.prog O false neaptidelaw07_BlockReads.code T S := rfl
  obtain ⟨x, e, q1, c1⟩ := block_Read.v (k := 1) (l := l) Okl.read (by decide) (by omega)
  obtain ⟨y, f, q2, c2⟩ := neaptideref07_Read.v hk k2 (by omega)
  obtain ⟨sm, rfl⟩ := reads_same q1 q2
  have c3 := fun S => neaptideref07_Same.v q1.1 q2.1 S
  rw [sm] at c3
  have cp := fun S => by_copy (S := S) hk (by omega)
  obtain ⟨S1, b1, b2, b3, b4⟩ := st_bk S x
  obtain ⟨S2, d1, d2, d3, d4⟩ := st_bk S1 y
  have ga : S2.get S.next = some (.cells (fBk x) (.own []) 0) := (d3.get _ b4).trans b2
  conv at hr =>
    rhs
    rw [hTe]
    simp only [neaptidelaw07_BlockReads.code, neaptidelaw07_BlockReads.rs, wk, List.getD_cons_succ, List.getD_cons_zero, if_true, if_false, List.getElem?_cons_succ, List.getElem?_cons_zero, Option.map_some, eq_self, reduceIte, Nat.reduceEqDiff, Int.reduceEq, Int.reduceLT, Int.reduceLE, if_neg k2, bb0, cp, c1, al_bk, b1, c2, d1, neaptidelaw07_blockAlive.v, ld_b ga q1.1.ne, ld_b d2 q2.1.ne, c3]
  rw [hTe] at hr
  exact ⟨_, neaptidelaw07_BlockReads.runs hr (.inr rfl)⟩
theorem law (x : Args codes) (h : Args.Good codes x) : ∃ k, (acall Try.prog k 7 (Args.place codes x AHeap.empty).1 (Args.place codes x AHeap.empty).2).map (·.1) = some (.bool true) := by
  obtain ⟨a, u⟩ := x
  obtain ⟨h1, _⟩ := h
  obtain ⟨k, l, p1, p2, p3, p4⟩ := in_bytes a h1
  obtain ⟨S', e⟩ := run p1 p2 p4 AHeap.empty
  refine law_of_vlim ora_ok (S' := S') ?_
  have e2 : Args.vval codes (a, u) = [by_ k l] := by
    show [argOf false ((Ty.slc 1 (.int .u8)).vval a)] = _
    rw [p3]; rfl
  rw [e2]
  exact e
end blockReads
end Go.Proofs.Ytgggklfbhmlapaa
