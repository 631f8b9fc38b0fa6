/-
The seat's functions in a shallow form: each region as a chain of the interpreter's operations. Printed by a program; Lean checks each row.
-/
import Derived.Test.YtjlhjebmbllkiaaChecked
import Derived.Test.YtjlhjebmbllkiaaAbs22
import Derived.KernelRfl
set_option linter.unusedVariables false
set_option maxRecDepth 100000
namespace Go.Proofs.Ytjlhjebmbllkiaa
open Go.Abs

/-- neaptide.wire.Text -/
abbrev wire_Text.id : FuncId := 16
noncomputable def wire_Text.code : Code := (Code.seq (Code.region 0 (reg Try.f16 0) false) (Code.seq (Code.seq (Code.region 1 (reg Try.f16 1) false) (Code.cond (Operand.tmp 6) (Code.seq (Code.region 2 (reg Try.f16 2) false) Code.ret) Code.skip)) (Code.seq (Code.region 3 (reg Try.f16 3) false) Code.ret)))
theorem wire_Text.body : Try.f16.body = some wire_Text.code := by kernel_rfl
theorem wire_Text.r0 (x0 x1 x2 x3 x4 x5 x6 x7 x8 x9 x10 x11 x12 : Value) (H : AHeap) : aOps Try.prog (lim Try.prog) (reg Try.f16 0) (reg Try.f16 0).toList (x0 :: x1 :: x2 :: x3 :: x4 :: x5 :: x6 :: x7 :: x8 :: x9 :: x10 :: x11 :: x12 :: []) H =
    ( some (x0 :: x1 :: (Value.slice none 0 0) :: (Value.int IntKind.i64 0) :: x4 :: x5 :: x6 :: x7 :: x8 :: x9 :: x10 :: x11 :: x12 :: [], H)) := by kernel_rfl
theorem wire_Text.r1 (x0 x1 x2 x3 x4 x5 x6 x7 x8 x9 x10 x11 x12 : Value) (H : AHeap) : aOps Try.prog (lim Try.prog) (reg Try.f16 1) (reg Try.f16 1).toList (x0 :: x1 :: x2 :: x3 :: x4 :: x5 :: x6 :: x7 :: x8 :: x9 :: x10 :: x11 :: x12 :: []) H =
    (andThen (aLen Try.prog 23 x0 H) fun v1 H1 => andThen (aBin Try.prog BinOp.gtr 3 v1 (Value.int IntKind.i64 4096) H1) fun v2 H2 => some (x0 :: x1 :: x2 :: x3 :: x0 :: v1 :: v2 :: x7 :: x8 :: x9 :: x10 :: x11 :: x12 :: [], H2)) := by kernel_rfl
theorem wire_Text.r2 (x0 x1 x2 x3 x4 x5 x6 x7 x8 x9 x10 x11 x12 : Value) (H : AHeap) : aOps Try.prog (lim Try.prog) (reg Try.f16 2) (reg Try.f16 2).toList (x0 :: x1 :: x2 :: x3 :: x4 :: x5 :: x6 :: x7 :: x8 :: x9 :: x10 :: x11 :: x12 :: []) H =
    ( some (x0 :: x1 :: (Value.slice none 0 0) :: (Value.int IntKind.i64 11) :: x4 :: x5 :: x6 :: x7 :: x8 :: x9 :: x10 :: x11 :: x12 :: [], H)) := by kernel_rfl
theorem wire_Text.r3 (x0 x1 x2 x3 x4 x5 x6 x7 x8 x9 x10 x11 x12 : Value) (H : AHeap) : aOps Try.prog (lim Try.prog) (reg Try.f16 3) (reg Try.f16 3).toList (x0 :: x1 :: x2 :: x3 :: x4 :: x5 :: x6 :: x7 :: x8 :: x9 :: x10 :: x11 :: x12 :: []) H =
    (andThen (aLen Try.prog 23 x0 H) fun v1 H1 => andThen (aConv Try.prog 3 22 v1 H1) fun v2 H2 => andThen ((lim Try.prog) 14 [v2] H2) fun v3 H3 => andThen (aAppend Try.prog 23 23 v3 x0 H3) fun v5 H4 => some (x0 :: x1 :: v5 :: (Value.int IntKind.i64 0) :: x4 :: x5 :: x6 :: x0 :: v1 :: v2 :: v3 :: x0 :: v5 :: [], H4)) := by kernel_rfl
theorem wire_Text.runs {x0 : Value} {H H1 : AHeap} {e : AEx} {T : List Value} (h : codeV Try.prog wire_Text.code (x0 :: undef :: undef :: undef :: undef :: undef :: undef :: undef :: undef :: undef :: undef :: undef :: undef :: []) H = some (e, T, H1)) (he : e = .normal ∨ e = .ret) : lim Try.prog 16 [x0] H = some (Value.tuple #[T.getD 2 undef, T.getD 3 undef], H1) :=
  lim_code Try.func16 (by decide) wire_Text.body (by exact h) he rfl
end Go.Proofs.Ytjlhjebmbllkiaa
