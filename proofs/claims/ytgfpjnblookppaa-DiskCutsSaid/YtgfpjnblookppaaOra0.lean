/-
The base: no operation is taken from elsewhere; whose slices are made in memory.
-/
import Derived.Test.YtgfpjnblookppaaValB
import Derived.Test.YtgfpjnblookppaaChecked
namespace Go.Proofs.Ytgfpjnblookppaa
open Go.Abs
def O0 : Ora := ⟨fun _ => none, fun f => ([11, 12, 14] : List Nat).contains f, fun f => ([17, 18, 19, 20, 23, 24] : List Nat).contains f⟩
theorem ora0_ok : OraOK Try.prog O0 := ora_none
end Go.Proofs.Ytgfpjnblookppaa
