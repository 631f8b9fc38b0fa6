/-
Small facts of numbers and lists that all texts use.
-/
import Derived.Test.YtooljmmlekmkeaaTy
set_option linter.unusedVariables false
set_option linter.unusedSimpArgs false
namespace Go.Proofs.Ytooljmmlekmkeaa
open Go.Abs

theorem wrap_i64 {n : Int} (h0 : -9223372036854775808 ≤ n) (h : n < 9223372036854775808) : IntKind.i64.wrap n = n := by
  simp [IntKind.wrap, IntKind.bits, IntKind.signed]
  split <;> omega
theorem iz_at_pre {l pre suf : List Int} {n : Int} (hl : l = pre ++ n :: suf) (h : Int.toNat (pre.length : Int) < l.length) : l[Int.toNat (pre.length : Int)] = n := by
  subst hl; simp
theorem dem2 (k : Nat) : (if (if k = 2 then 1 else k) = 2 then 1 else if k = 2 then 1 else k) = if k = 2 then 1 else k := by split <;> simp_all
theorem dem_ne2 (k : Nat) : (if k = 2 then 1 else k) ≠ 2 := by split <;> omega
theorem bz0 (S : AHeap) : vBuildSlice Try.prog 22 0 [] S = some (iz 2 [], S) := by rw [bs_L_int_0]; rfl
theorem iz2_1 (x : Int) : sv 2 1 1 [.int .i64 x] = iz 2 [x] := rfl
theorem iz_more {k : Nat} {l : List Int} {x : Int} {S : AHeap} (h : Okl k l) (hk : k ≠ 1) (hl : l.length ≤ 17592186044000) : vAppend Try.prog 22 22 (iz k l) (iz 2 [x]) S = some (iz 2 (l ++ [x]), S) := by
  rw [iz_append h hk Okl.own (by simp; omega), if_neg (fun h => by have := h.2; simp at this)]
end Go.Proofs.Ytooljmmlekmkeaa
