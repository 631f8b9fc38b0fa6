/-
No operation is taken from elsewhere; whose slices are made in memory.
-/
import Derived.Test.YtooljmmlekmkeaaValB
import Derived.Test.YtooljmmlekmkeaaChecked
namespace Go.Proofs.Ytooljmmlekmkeaa
open Go.Abs
def O : Ora := ⟨fun _ => none, fun f => ([7] : List Nat).contains f, fun f => ([] : List Nat).contains f⟩
theorem ora_ok : OraOK Try.prog O := ora_none
end Go.Proofs.Ytooljmmlekmkeaa
