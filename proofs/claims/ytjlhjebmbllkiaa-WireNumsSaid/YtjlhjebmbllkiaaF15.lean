/-
The seat's functions in a shallow form: each region as a chain of the interpreter's operations. Printed by a program; Lean checks each row.
-/
import Derived.Test.YtjlhjebmbllkiaaChecked
import Derived.Test.YtjlhjebmbllkiaaAbs22
import Derived.KernelRfl
set_option linter.unusedVariables false
set_option maxRecDepth 100000
namespace Go.Proofs.Ytjlhjebmbllkiaa
open Go.Abs

/-- neaptide.neaptideref01.Num -/
abbrev neaptideref01_Num.id : FuncId := 15
noncomputable def neaptideref01_Num.loop1 : Code := (Code.block 1 (Code.seq (Code.region 2 (reg Try.f15 2) false) (Code.seq (Code.region 3 (reg Try.f15 3) false) (Code.seq (Code.seq (Code.region 4 (reg Try.f15 4) false) (Code.cond (Operand.tmp 12) (Code.seq (Code.region 5 (reg Try.f15 5) false) Code.ret) Code.skip)) (Code.region 6 (reg Try.f15 6) false)))))
noncomputable def neaptideref01_Num.code : Code := (Code.seq (Code.region 0 (reg Try.f15 0) false) (Code.seq (Code.region 1 (reg Try.f15 1) false) (Code.block 0 (Code.loop neaptideref01_Num.loop1))))
theorem neaptideref01_Num.body : Try.f15.body = some neaptideref01_Num.code := by kernel_rfl
theorem neaptideref01_Num.list {T : List Value} (h : T.length = 22) : ∃ x0 x1 x2 x3 x4 x5 x6 x7 x8 x9 x10 x11 x12 x13 x14 x15 x16 x17 x18 x19 x20 x21, T = x0 :: x1 :: x2 :: x3 :: x4 :: x5 :: x6 :: x7 :: x8 :: x9 :: x10 :: x11 :: x12 :: x13 :: x14 :: x15 :: x16 :: x17 :: x18 :: x19 :: x20 :: x21 :: [] := ⟨T.getD 0 undef, T.getD 1 undef, T.getD 2 undef, T.getD 3 undef, T.getD 4 undef, T.getD 5 undef, T.getD 6 undef, T.getD 7 undef, T.getD 8 undef, T.getD 9 undef, T.getD 10 undef, T.getD 11 undef, T.getD 12 undef, T.getD 13 undef, T.getD 14 undef, T.getD 15 undef, T.getD 16 undef, T.getD 17 undef, T.getD 18 undef, T.getD 19 undef, T.getD 20 undef, T.getD 21 undef, (list_getD T 22 h).trans (by kernel_rfl)⟩
theorem neaptideref01_Num.r0 (x0 x1 x2 x3 x4 x5 x6 x7 x8 x9 x10 x11 x12 x13 x14 x15 x16 x17 x18 x19 x20 x21 : Value) (H : AHeap) : aOps Try.prog (lim Try.prog) (reg Try.f15 0) (reg Try.f15 0).toList (x0 :: x1 :: x2 :: x3 :: x4 :: x5 :: x6 :: x7 :: x8 :: x9 :: x10 :: x11 :: x12 :: x13 :: x14 :: x15 :: x16 :: x17 :: x18 :: x19 :: x20 :: x21 :: []) H =
    ( some (x0 :: x1 :: (Value.slice none 0 0) :: x3 :: x4 :: x5 :: x6 :: x7 :: x8 :: x9 :: x10 :: x11 :: x12 :: x13 :: x14 :: x15 :: x16 :: x17 :: x18 :: x19 :: x20 :: x21 :: [], H)) := by kernel_rfl
theorem neaptideref01_Num.r1 (x0 x1 x2 x3 x4 x5 x6 x7 x8 x9 x10 x11 x12 x13 x14 x15 x16 x17 x18 x19 x20 x21 : Value) (H : AHeap) : aOps Try.prog (lim Try.prog) (reg Try.f15 1) (reg Try.f15 1).toList (x0 :: x1 :: x2 :: x3 :: x4 :: x5 :: x6 :: x7 :: x8 :: x9 :: x10 :: x11 :: x12 :: x13 :: x14 :: x15 :: x16 :: x17 :: x18 :: x19 :: x20 :: x21 :: []) H =
    (andThen (aBuildSlice Try.prog 23 0 [] H) fun v0 H1 => some (x0 :: x1 :: x2 :: v0 :: x4 :: v0 :: x6 :: x7 :: x8 :: x9 :: x10 :: x11 :: x12 :: x13 :: x14 :: x15 :: x16 :: x17 :: x18 :: x19 :: x20 :: x21 :: [], H1)) := by kernel_rfl
theorem neaptideref01_Num.r2 (x0 x1 x2 x3 x4 x5 x6 x7 x8 x9 x10 x11 x12 x13 x14 x15 x16 x17 x18 x19 x20 x21 : Value) (H : AHeap) : aOps Try.prog (lim Try.prog) (reg Try.f15 2) (reg Try.f15 2).toList (x0 :: x1 :: x2 :: x3 :: x4 :: x5 :: x6 :: x7 :: x8 :: x9 :: x10 :: x11 :: x12 :: x13 :: x14 :: x15 :: x16 :: x17 :: x18 :: x19 :: x20 :: x21 :: []) H =
    (andThen (aBin Try.prog BinOp.rem 22 x0 (Value.int IntKind.u64 128) H) fun v1 H1 => andThen (aConv Try.prog 22 5 v1 H1) fun v2 H2 => some (x0 :: x1 :: x2 :: x3 :: v2 :: x5 :: x0 :: v1 :: v2 :: x9 :: x10 :: x11 :: x12 :: x13 :: x14 :: x15 :: x16 :: x17 :: x18 :: x19 :: x20 :: x21 :: [], H2)) := by kernel_rfl
theorem neaptideref01_Num.r3 (x0 x1 x2 x3 x4 x5 x6 x7 x8 x9 x10 x11 x12 x13 x14 x15 x16 x17 x18 x19 x20 x21 : Value) (H : AHeap) : aOps Try.prog (lim Try.prog) (reg Try.f15 3) (reg Try.f15 3).toList (x0 :: x1 :: x2 :: x3 :: x4 :: x5 :: x6 :: x7 :: x8 :: x9 :: x10 :: x11 :: x12 :: x13 :: x14 :: x15 :: x16 :: x17 :: x18 :: x19 :: x20 :: x21 :: []) H =
    (andThen (aBin Try.prog BinOp.quo 22 x0 (Value.int IntKind.u64 128) H) fun v1 H1 => some (v1 :: x1 :: x2 :: x3 :: x4 :: x5 :: x6 :: x7 :: x8 :: x0 :: v1 :: x11 :: x12 :: x13 :: x14 :: x15 :: x16 :: x17 :: x18 :: x19 :: x20 :: x21 :: [], H1)) := by kernel_rfl
theorem neaptideref01_Num.r4 (x0 x1 x2 x3 x4 x5 x6 x7 x8 x9 x10 x11 x12 x13 x14 x15 x16 x17 x18 x19 x20 x21 : Value) (H : AHeap) : aOps Try.prog (lim Try.prog) (reg Try.f15 4) (reg Try.f15 4).toList (x0 :: x1 :: x2 :: x3 :: x4 :: x5 :: x6 :: x7 :: x8 :: x9 :: x10 :: x11 :: x12 :: x13 :: x14 :: x15 :: x16 :: x17 :: x18 :: x19 :: x20 :: x21 :: []) H =
    (andThen (aBin Try.prog BinOp.eql 22 x0 (Value.int IntKind.u64 0) H) fun v1 H1 => some (x0 :: x1 :: x2 :: x3 :: x4 :: x5 :: x6 :: x7 :: x8 :: x9 :: x10 :: x0 :: v1 :: x13 :: x14 :: x15 :: x16 :: x17 :: x18 :: x19 :: x20 :: x21 :: [], H1)) := by kernel_rfl
theorem neaptideref01_Num.r5 (x0 x1 x2 x3 x4 x5 x6 x7 x8 x9 x10 x11 x12 x13 x14 x15 x16 x17 x18 x19 x20 x21 : Value) (H : AHeap) : aOps Try.prog (lim Try.prog) (reg Try.f15 5) (reg Try.f15 5).toList (x0 :: x1 :: x2 :: x3 :: x4 :: x5 :: x6 :: x7 :: x8 :: x9 :: x10 :: x11 :: x12 :: x13 :: x14 :: x15 :: x16 :: x17 :: x18 :: x19 :: x20 :: x21 :: []) H =
    (andThen (aBuildSlice Try.prog 23 1 [(0, x4)] H) fun v2 H1 => andThen (aAppend Try.prog 23 23 x3 v2 H1) fun v3 H2 => some (x0 :: x1 :: v3 :: x3 :: x4 :: x5 :: x6 :: x7 :: x8 :: x9 :: x10 :: x11 :: x12 :: x3 :: x4 :: v2 :: v3 :: x17 :: x18 :: x19 :: x20 :: x21 :: [], H2)) := by kernel_rfl
theorem neaptideref01_Num.r6 (x0 x1 x2 x3 x4 x5 x6 x7 x8 x9 x10 x11 x12 x13 x14 x15 x16 x17 x18 x19 x20 x21 : Value) (H : AHeap) : aOps Try.prog (lim Try.prog) (reg Try.f15 6) (reg Try.f15 6).toList (x0 :: x1 :: x2 :: x3 :: x4 :: x5 :: x6 :: x7 :: x8 :: x9 :: x10 :: x11 :: x12 :: x13 :: x14 :: x15 :: x16 :: x17 :: x18 :: x19 :: x20 :: x21 :: []) H =
    (andThen (aBin Try.prog BinOp.add 5 x4 (Value.int IntKind.u8 128) H) fun v2 H1 => andThen (aBuildSlice Try.prog 23 1 [(0, v2)] H1) fun v3 H2 => andThen (aAppend Try.prog 23 23 x3 v3 H2) fun v4 H3 => some (x0 :: x1 :: x2 :: v4 :: x4 :: x5 :: x6 :: x7 :: x8 :: x9 :: x10 :: x11 :: x12 :: x13 :: x14 :: x15 :: x16 :: x3 :: x4 :: v2 :: v3 :: v4 :: [], H3)) := by kernel_rfl
theorem neaptideref01_Num.runs {x0 : Value} {H H1 : AHeap} {e : AEx} {T : List Value} (h : codeV Try.prog neaptideref01_Num.code (x0 :: undef :: undef :: undef :: undef :: undef :: undef :: undef :: undef :: undef :: undef :: undef :: undef :: undef :: undef :: undef :: undef :: undef :: undef :: undef :: undef :: undef :: []) H = some (e, T, H1)) (he : e = .normal ∨ e = .ret) : lim Try.prog 15 [x0] H = some (T.getD 2 undef, H1) :=
  lim_code Try.func15 (by decide) neaptideref01_Num.body (by exact h) he rfl
end Go.Proofs.Ytjlhjebmbllkiaa
