/-
No operation is taken from elsewhere; whose slices are made in memory.
-/
import Derived.Test.YtfnlcbgijkakiaaValB
import Derived.Test.YtfnlcbgijkakiaaChecked
namespace Go.Proofs.Ytfnlcbgijkakiaa
open Go.Abs
def O : Ora := ⟨fun _ => none, fun f => ([] : List Nat).contains f, fun f => ([10, 11, 13, 14, 15, 16, 17, 18, 19, 21, 22, 28, 29] : List Nat).contains f⟩
theorem ora_ok : OraOK Try.prog O := ora_none
end Go.Proofs.Ytfnlcbgijkakiaa
