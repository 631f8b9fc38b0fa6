/-
No operation is taken from elsewhere.
-/
import Derived.Test.YtjlhjebmbllkiaaValB
import Derived.Test.YtjlhjebmbllkiaaChecked
namespace Go.Proofs.Ytjlhjebmbllkiaa
open Go.Abs
def O : Ora := fun _ => none
theorem ora_ok : OraOK Try.prog O := ora_none
end Go.Proofs.Ytjlhjebmbllkiaa
