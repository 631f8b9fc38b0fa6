/-
Bytes: copies, new slices, lists of texts.
-/
import Derived.Test.YtgfpjnblookppaaTy
import Derived.Test.YtgfpjnblookppaaVMem
set_option linter.unusedVariables false
set_option linter.unusedSimpArgs false
namespace Go.Proofs.Ytgfpjnblookppaa
open Go.Abs

theorem bb0 (S : AHeap) : vBuildSlice Try.prog 27 0 [] S = some (by_ 2 [], S) := by rw [bs_L_uint8_0]; rfl
/-- A text that comes in: nil or not, its bytes. -/
structure Tb where
  k : Nat
  b : List UInt8
structure Tb.Ok (t : Tb) : Prop where
  okl : Okl t.k t.b
  ne : t.k ≠ 2
  le : t.b.length ≤ 140737488351232
def fB (t : Tb) : List Value := [by_ t.k t.b]
theorem fB_len (t : Tb) : (fB t).length = 1 := rfl
theorem in_tb (x : (Ty.slc 1 (.int .u8)).Val) (hg : (Ty.slc 1 (.int .u8)).Good x) : ∃ t : Tb, (Ty.slc 1 (.int .u8)).vval x = fB t ∧ t.Ok := by
  obtain ⟨k, l, h1, h2, h3, h4⟩ := in_bytes x hg
  exact ⟨⟨k, l⟩, h3, h1, h2, h4⟩
theorem in_tbs (x : (Ty.slc 24 (.slc 1 (.int .u8))).Val) (hg : (Ty.slc 24 (.slc 1 (.int .u8))).Good x) : ∃ k l, Okl k l ∧ k ≠ 2 ∧ (Ty.slc 24 (.slc 1 (.int .u8))).vval x = [vs fB 1 k l] ∧ l.length * 24 ≤ 140737488351232 ∧ ∀ t ∈ l, t.Ok :=
  in_slc (b := 24) fB Tb.Ok in_tb fB_len x hg
end Go.Proofs.Ytgfpjnblookppaa
