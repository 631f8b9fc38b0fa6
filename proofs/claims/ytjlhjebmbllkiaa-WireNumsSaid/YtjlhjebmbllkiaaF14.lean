/-
The seat's functions in a shallow form: each region as a chain of the interpreter's operations. Printed by a program; Lean checks each row.
-/
import Derived.Test.YtjlhjebmbllkiaaChecked
import Derived.Test.YtjlhjebmbllkiaaAbs22
import Derived.KernelRfl
set_option linter.unusedVariables false
set_option maxRecDepth 100000
namespace Go.Proofs.Ytjlhjebmbllkiaa
open Go.Abs

/-- neaptide.wire.Num -/
abbrev wire_Num.id : FuncId := 14
noncomputable def wire_Num.loop1 : Code := (Code.seq (Code.seq (Code.region 2 (reg Try.f14 2) false) (Code.cond (Operand.tmp 5) Code.skip (Code.exit 0))) (Code.block 1 (Code.seq (Code.region 3 (reg Try.f14 3) false) (Code.region 4 (reg Try.f14 4) false))))
noncomputable def wire_Num.code : Code := (Code.seq (Code.region 0 (reg Try.f14 0) false) (Code.seq (Code.region 1 (reg Try.f14 1) false) (Code.seq (Code.block 0 (Code.loop wire_Num.loop1)) (Code.seq (Code.region 5 (reg Try.f14 5) false) Code.ret))))
theorem wire_Num.body : Try.f14.body = some wire_Num.code := by kernel_rfl
theorem wire_Num.list {T : List Value} (h : T.length = 19) : ∃ x0 x1 x2 x3 x4 x5 x6 x7 x8 x9 x10 x11 x12 x13 x14 x15 x16 x17 x18, T = x0 :: x1 :: x2 :: x3 :: x4 :: x5 :: x6 :: x7 :: x8 :: x9 :: x10 :: x11 :: x12 :: x13 :: x14 :: x15 :: x16 :: x17 :: x18 :: [] := ⟨T.getD 0 undef, T.getD 1 undef, T.getD 2 undef, T.getD 3 undef, T.getD 4 undef, T.getD 5 undef, T.getD 6 undef, T.getD 7 undef, T.getD 8 undef, T.getD 9 undef, T.getD 10 undef, T.getD 11 undef, T.getD 12 undef, T.getD 13 undef, T.getD 14 undef, T.getD 15 undef, T.getD 16 undef, T.getD 17 undef, T.getD 18 undef, (list_getD T 19 h).trans (by kernel_rfl)⟩
theorem wire_Num.r0 (x0 x1 x2 x3 x4 x5 x6 x7 x8 x9 x10 x11 x12 x13 x14 x15 x16 x17 x18 : Value) (H : AHeap) : aOps Try.prog (lim Try.prog) (reg Try.f14 0) (reg Try.f14 0).toList (x0 :: x1 :: x2 :: x3 :: x4 :: x5 :: x6 :: x7 :: x8 :: x9 :: x10 :: x11 :: x12 :: x13 :: x14 :: x15 :: x16 :: x17 :: x18 :: []) H =
    ( some (x0 :: x1 :: (Value.slice none 0 0) :: x3 :: x4 :: x5 :: x6 :: x7 :: x8 :: x9 :: x10 :: x11 :: x12 :: x13 :: x14 :: x15 :: x16 :: x17 :: x18 :: [], H)) := by kernel_rfl
theorem wire_Num.r1 (x0 x1 x2 x3 x4 x5 x6 x7 x8 x9 x10 x11 x12 x13 x14 x15 x16 x17 x18 : Value) (H : AHeap) : aOps Try.prog (lim Try.prog) (reg Try.f14 1) (reg Try.f14 1).toList (x0 :: x1 :: x2 :: x3 :: x4 :: x5 :: x6 :: x7 :: x8 :: x9 :: x10 :: x11 :: x12 :: x13 :: x14 :: x15 :: x16 :: x17 :: x18 :: []) H =
    ( some (x0 :: x1 :: x2 :: (Value.slice none 0 0) :: x4 :: x5 :: x6 :: x7 :: x8 :: x9 :: x10 :: x11 :: x12 :: x13 :: x14 :: x15 :: x16 :: x17 :: x18 :: [], H)) := by kernel_rfl
theorem wire_Num.r2 (x0 x1 x2 x3 x4 x5 x6 x7 x8 x9 x10 x11 x12 x13 x14 x15 x16 x17 x18 : Value) (H : AHeap) : aOps Try.prog (lim Try.prog) (reg Try.f14 2) (reg Try.f14 2).toList (x0 :: x1 :: x2 :: x3 :: x4 :: x5 :: x6 :: x7 :: x8 :: x9 :: x10 :: x11 :: x12 :: x13 :: x14 :: x15 :: x16 :: x17 :: x18 :: []) H =
    (andThen (aBin Try.prog BinOp.geq 22 x0 (Value.int IntKind.u64 128) H) fun v1 H1 => some (x0 :: x1 :: x2 :: x3 :: x0 :: v1 :: x6 :: x7 :: x8 :: x9 :: x10 :: x11 :: x12 :: x13 :: x14 :: x15 :: x16 :: x17 :: x18 :: [], H1)) := by kernel_rfl
theorem wire_Num.r3 (x0 x1 x2 x3 x4 x5 x6 x7 x8 x9 x10 x11 x12 x13 x14 x15 x16 x17 x18 : Value) (H : AHeap) : aOps Try.prog (lim Try.prog) (reg Try.f14 3) (reg Try.f14 3).toList (x0 :: x1 :: x2 :: x3 :: x4 :: x5 :: x6 :: x7 :: x8 :: x9 :: x10 :: x11 :: x12 :: x13 :: x14 :: x15 :: x16 :: x17 :: x18 :: []) H =
    (andThen (aConv Try.prog 22 5 x0 H) fun v2 H1 => andThen (aBin Try.prog BinOp.or 5 v2 (Value.int IntKind.u8 128) H1) fun v3 H2 => andThen (aBuildSlice Try.prog 23 1 [(0, v3)] H2) fun v4 H3 => andThen (aAppend Try.prog 23 23 x3 v4 H3) fun v5 H4 => some (x0 :: x1 :: x2 :: v5 :: x4 :: x5 :: x3 :: x0 :: v2 :: v3 :: v4 :: v5 :: x12 :: x13 :: x14 :: x15 :: x16 :: x17 :: x18 :: [], H4)) := by kernel_rfl
theorem wire_Num.r4 (x0 x1 x2 x3 x4 x5 x6 x7 x8 x9 x10 x11 x12 x13 x14 x15 x16 x17 x18 : Value) (H : AHeap) : aOps Try.prog (lim Try.prog) (reg Try.f14 4) (reg Try.f14 4).toList (x0 :: x1 :: x2 :: x3 :: x4 :: x5 :: x6 :: x7 :: x8 :: x9 :: x10 :: x11 :: x12 :: x13 :: x14 :: x15 :: x16 :: x17 :: x18 :: []) H =
    (andThen (aBin Try.prog BinOp.shr 22 x0 (Value.int IntKind.u64 7) H) fun v1 H1 => some (v1 :: x1 :: x2 :: x3 :: x4 :: x5 :: x6 :: x7 :: x8 :: x9 :: x10 :: x11 :: x0 :: v1 :: x14 :: x15 :: x16 :: x17 :: x18 :: [], H1)) := by kernel_rfl
theorem wire_Num.r5 (x0 x1 x2 x3 x4 x5 x6 x7 x8 x9 x10 x11 x12 x13 x14 x15 x16 x17 x18 : Value) (H : AHeap) : aOps Try.prog (lim Try.prog) (reg Try.f14 5) (reg Try.f14 5).toList (x0 :: x1 :: x2 :: x3 :: x4 :: x5 :: x6 :: x7 :: x8 :: x9 :: x10 :: x11 :: x12 :: x13 :: x14 :: x15 :: x16 :: x17 :: x18 :: []) H =
    (andThen (aConv Try.prog 22 5 x0 H) fun v2 H1 => andThen (aBuildSlice Try.prog 23 1 [(0, v2)] H1) fun v3 H2 => andThen (aAppend Try.prog 23 23 x3 v3 H2) fun v4 H3 => some (x0 :: x1 :: v4 :: x3 :: x4 :: x5 :: x6 :: x7 :: x8 :: x9 :: x10 :: x11 :: x12 :: x13 :: x3 :: x0 :: v2 :: v3 :: v4 :: [], H3)) := by kernel_rfl
theorem wire_Num.runs {x0 : Value} {H H1 : AHeap} {e : AEx} {T : List Value} (h : codeV Try.prog wire_Num.code (x0 :: undef :: undef :: undef :: undef :: undef :: undef :: undef :: undef :: undef :: undef :: undef :: undef :: undef :: undef :: undef :: undef :: undef :: undef :: []) H = some (e, T, H1)) (he : e = .normal ∨ e = .ret) : lim Try.prog 14 [x0] H = some (T.getD 2 undef, H1) :=
  lim_code Try.func14 (by decide) wire_Num.body (by exact h) he rfl
end Go.Proofs.Ytjlhjebmbllkiaa
