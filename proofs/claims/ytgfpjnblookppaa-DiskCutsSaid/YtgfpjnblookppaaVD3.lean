/-
The example of the disk's chapter; disks and nil; one loop's step.
-/
import Derived.Test.YtgfpjnblookppaaVD2
import Derived.Test.YtgfpjnblookppaaVBy
import Derived.Test.YtgfpjnblookppaaVWords
set_option linter.unusedVariables false
set_option linter.unusedSimpArgs false
set_option maxRecDepth 100000
namespace Go.Proofs.Ytgfpjnblookppaa
open Go.Abs

theorem neaptidelaw04_diskAlive.v : ∃ S1, vlim Try.prog O 9 [] AHeap.empty = some (.bool true, S1) := by
  have h : (vcall Try.prog O 20 9 [] AHeap.empty).map (·.1) = some (.bool true) := by kernel_rfl
  cases hc : vcall Try.prog O 20 9 [] AHeap.empty with
  | none => rw [hc] at h; cases h
  | some r =>
    obtain ⟨v, S1⟩ := r
    rw [hc] at h
    cases h
    exact ⟨S1, vlim_run hc⟩

theorem disk_eql (q : Nat) (S : AHeap) : vBin Try.prog .eql 24 (.pointer (some ⟨q, 0, none⟩)) (.pointer none) S = some (.bool false, S) := by kernel_rfl
theorem disk_neq (q : Nat) (S : AHeap) : vBin Try.prog .neq 24 (.pointer (some ⟨q, 0, none⟩)) (.pointer none) S = some (.bool true, S) := by kernel_rfl
theorem by_take {k : Nat} {l : List UInt8} {m : Int} {S : AHeap} (h : Okl k l) (h0 : 0 ≤ m) (h1 : m ≤ l.length) : vSlice Try.prog 27 (by_ k l) none (some (.int .i64 m)) S = some (by_ (if k = 2 then 1 else k) (l.take m.toNat), S) := by
  rw [by_slice h (i := 0) (j := m) rfl rfl (by omega) h0 h1]
  simp
end Go.Proofs.Ytgfpjnblookppaa
