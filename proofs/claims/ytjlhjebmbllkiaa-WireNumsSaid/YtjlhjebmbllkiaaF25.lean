/-
The seat's functions in a shallow form: each region as a chain of the interpreter's operations. Printed by a program; Lean checks each row.
-/
import Derived.Test.YtjlhjebmbllkiaaChecked
import Derived.Test.YtjlhjebmbllkiaaAbs22
import Derived.KernelRfl
set_option linter.unusedVariables false
set_option maxRecDepth 100000
namespace Go.Proofs.Ytjlhjebmbllkiaa
open Go.Abs

/-- slices.Clone[[]byte,byte] -/
abbrev slices_Clone.id : FuncId := 25
noncomputable def slices_Clone.code : Code := (Code.seq (Code.region 0 (reg Try.f25 0) false) (Code.seq (Code.seq (Code.region 1 (reg Try.f25 1) false) (Code.cond (Operand.tmp 4) (Code.seq (Code.region 2 (reg Try.f25 2) false) Code.ret) Code.skip)) (Code.seq (Code.region 3 (reg Try.f25 3) false) Code.ret)))
theorem slices_Clone.body : Try.f25.body = some slices_Clone.code := by kernel_rfl
theorem slices_Clone.r0 (x0 x1 x2 x3 x4 x5 x6 x7 : Value) (H : AHeap) : aOps Try.prog (lim Try.prog) (reg Try.f25 0) (reg Try.f25 0).toList (x0 :: x1 :: x2 :: x3 :: x4 :: x5 :: x6 :: x7 :: []) H =
    ( some (x0 :: x1 :: (Value.slice none 0 0) :: x3 :: x4 :: x5 :: x6 :: x7 :: [], H)) := by kernel_rfl
theorem slices_Clone.r1 (x0 x1 x2 x3 x4 x5 x6 x7 : Value) (H : AHeap) : aOps Try.prog (lim Try.prog) (reg Try.f25 1) (reg Try.f25 1).toList (x0 :: x1 :: x2 :: x3 :: x4 :: x5 :: x6 :: x7 :: []) H =
    (andThen (aBin Try.prog BinOp.eql 23 x0 (Value.slice none 0 0) H) fun v1 H1 => some (x0 :: x1 :: x2 :: x0 :: v1 :: x5 :: x6 :: x7 :: [], H1)) := by kernel_rfl
theorem slices_Clone.r2 (x0 x1 x2 x3 x4 x5 x6 x7 : Value) (H : AHeap) : aOps Try.prog (lim Try.prog) (reg Try.f25 2) (reg Try.f25 2).toList (x0 :: x1 :: x2 :: x3 :: x4 :: x5 :: x6 :: x7 :: []) H =
    ( some (x0 :: x1 :: (Value.slice none 0 0) :: x3 :: x4 :: x5 :: x6 :: x7 :: [], H)) := by kernel_rfl
theorem slices_Clone.r3 (x0 x1 x2 x3 x4 x5 x6 x7 : Value) (H : AHeap) : aOps Try.prog (lim Try.prog) (reg Try.f25 3) (reg Try.f25 3).toList (x0 :: x1 :: x2 :: x3 :: x4 :: x5 :: x6 :: x7 :: []) H =
    (andThen (aBuildSlice Try.prog 23 0 [] H) fun v0 H1 => andThen (aAppend Try.prog 23 23 v0 x0 H1) fun v2 H2 => some (x0 :: x1 :: v2 :: x3 :: x4 :: v0 :: x0 :: v2 :: [], H2)) := by kernel_rfl
theorem slices_Clone.runs {x0 : Value} {H H1 : AHeap} {e : AEx} {T : List Value} (h : codeV Try.prog slices_Clone.code (x0 :: undef :: undef :: undef :: undef :: undef :: undef :: undef :: []) H = some (e, T, H1)) (he : e = .normal ∨ e = .ret) : lim Try.prog 25 [x0] H = some (T.getD 2 undef, H1) :=
  lim_code Try.func25 (by decide) slices_Clone.body (by exact h) he rfl
end Go.Proofs.Ytjlhjebmbllkiaa
