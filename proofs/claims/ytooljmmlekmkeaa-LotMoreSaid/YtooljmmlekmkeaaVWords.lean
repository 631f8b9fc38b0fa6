/-
Texts compared and put together; truth compared.
-/
import Derived.Test.YtooljmmlekmkeaaTy
set_option linter.unusedVariables false
set_option linter.unusedSimpArgs false
namespace Go.Proofs.Ytooljmmlekmkeaa
open Go.Abs

theorem tx_eql {t : TypeId} {a b : List UInt8} {S : AHeap} : aBin Try.prog .eql t (.string ⟨a.toArray⟩) (.string ⟨b.toArray⟩) S = some (.bool (decide (a = b)), S) := by rw [aBin_streq]
theorem tx_neq {t : TypeId} {a b : List UInt8} {S : AHeap} : aBin Try.prog .neq t (.string ⟨a.toArray⟩) (.string ⟨b.toArray⟩) S = some (.bool (!decide (a = b)), S) := by rw [aBin_strne]
theorem tx_add {t : TypeId} {a b : List UInt8} {S : AHeap} (h : a.length + b.length ≤ 9223372036854775807) : aBin Try.prog .add t (.string ⟨a.toArray⟩) (.string ⟨b.toArray⟩) S = some (.string ⟨(a ++ b).toArray⟩, S) := by
  rw [aBin_stradd _ _ (by simpa using h)]
theorem tf_neq {a b : Bool} {S : AHeap} : aBin Try.prog .neq 4 (.bool a) (.bool b) S = some (.bool (a != b), S) := by cases a <;> cases b <;> kernel_rfl
theorem tf_eql {a b : Bool} {S : AHeap} : aBin Try.prog .eql 4 (.bool a) (.bool b) S = some (.bool (a == b), S) := by cases a <;> cases b <;> kernel_rfl
end Go.Proofs.Ytooljmmlekmkeaa
