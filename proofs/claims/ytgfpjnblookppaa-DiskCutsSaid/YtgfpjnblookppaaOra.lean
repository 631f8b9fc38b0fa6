/-
What is taken as one operation: disk.Bytes; whose slices are made in memory.
-/
import Derived.Test.YtgfpjnblookppaaVDisk0
namespace Go.Proofs.Ytgfpjnblookppaa
open Go.Abs
def O : Ora := ⟨fun f => if f = 14 then some bytesQ else none, fun f => ([11, 12, 14] : List Nat).contains f, fun f => ([17, 18, 19, 20, 23, 24] : List Nat).contains f⟩
theorem ora_ok : OraOK Try.prog O := by
  intro f q h
  simp only [O] at h
  split at h
  · rename_i hf; subst hf; cases h; exact bytesQ_ok
  · cases h
end Go.Proofs.Ytgfpjnblookppaa
