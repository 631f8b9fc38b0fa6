/-
No operation is taken from elsewhere; whose slices are made in memory.
-/
import Derived.Test.YtgggklfbhmlapaaValB
import Derived.Test.YtgggklfbhmlapaaChecked
namespace Go.Proofs.Ytgggklfbhmlapaa
open Go.Abs
def O : Ora := ⟨fun _ => none, fun f => ([] : List Nat).contains f, fun f => ([11, 14, 15, 16, 17, 18, 19, 20, 21, 22, 23, 24, 27, 30, 34, 38, 39, 42, 45, 47] : List Nat).contains f⟩
theorem ora_ok : OraOK Try.prog O := ora_none
end Go.Proofs.Ytgggklfbhmlapaa
