/-
The seat's functions in a shallow form: each region as a chain of the interpreter's operations. Printed by a program; Lean checks each row.
-/
import Derived.Test.YtooljmmlekmkeaaChecked
import Derived.Test.YtooljmmlekmkeaaOra
import Derived.KernelRfl
set_option linter.unusedVariables false
set_option maxRecDepth 100000
namespace Go.Proofs.Ytooljmmlekmkeaa
open Go.Abs

/-- neaptide.lot.Slots -/
abbrev lot_Slots.id : FuncId := 18
noncomputable def lot_Slots.loop1 : Code := (Code.seq (Code.region 3 (reg Try.f18 3) false) (Code.seq (Code.cond (Operand.tmp 10) Code.skip (Code.exit 0)) (Code.seq (Code.block 1 (Code.seq (Code.region 4 (reg Try.f18 4) false) (Code.seq (Code.region 5 (reg Try.f18 5) false) (Code.cond (Operand.tmp 16) (Code.region 6 (reg Try.f18 6) false) Code.skip)))) (Code.region 7 (reg Try.f18 7) false))))
noncomputable def lot_Slots.code : Code := (Code.seq (Code.region 0 (reg Try.f18 0) false) (Code.seq (Code.region 1 (reg Try.f18 1) false) (Code.seq (Code.seq (Code.region 2 (reg Try.f18 2) false) (Code.block 0 (Code.loop lot_Slots.loop1))) (Code.seq (Code.region 8 (reg Try.f18 8) false) Code.ret))))
theorem lot_Slots.body : Try.f18.body = some lot_Slots.code := by kernel_rfl
theorem lot_Slots.eta {T : List Value} (h : T.length = 24) : T = [T.getD 0 undef,T.getD 1 undef,T.getD 2 undef,T.getD 3 undef,T.getD 4 undef,T.getD 5 undef,T.getD 6 undef,T.getD 7 undef,T.getD 8 undef,T.getD 9 undef,T.getD 10 undef,T.getD 11 undef,T.getD 12 undef,T.getD 13 undef,T.getD 14 undef,T.getD 15 undef,T.getD 16 undef,T.getD 17 undef,T.getD 18 undef,T.getD 19 undef,T.getD 20 undef,T.getD 21 undef,T.getD 22 undef,T.getD 23 undef] := (list_getD T 24 h).trans (by kernel_rfl)
theorem lot_Slots.list {T : List Value} (h : T.length = 24) : ∃ x0 x1 x2 x3 x4 x5 x6 x7 x8 x9 x10 x11 x12 x13 x14 x15 x16 x17 x18 x19 x20 x21 x22 x23, T = [x0,x1,x2,x3,x4,x5,x6,x7,x8,x9,x10,x11,x12,x13,x14,x15,x16,x17,x18,x19,x20,x21,x22,x23] := ⟨_, _, _, _, _, _, _, _, _, _, _, _, _, _, _, _, _, _, _, _, _, _, _, _, lot_Slots.eta h⟩
variable (x0 x1 x2 x3 x4 x5 x6 x7 x8 x9 x10 x11 x12 x13 x14 x15 x16 x17 x18 x19 x20 x21 x22 x23 : Value) (S : AHeap)
theorem lot_Slots.r0  : vOps Try.prog ⟨false, false, false⟩ (vlim Try.prog O) (reg Try.f18 0) (reg Try.f18 0).toList ([x0,x1,x2,x3,x4,x5,x6,x7,x8,x9,x10,x11,x12,x13,x14,x15,x16,x17,x18,x19,x20,x21,x22,x23]) S =
    ( some ([x0,x1,x2,x3,Value.slice none 0 0,x5,x6,x7,x8,x9,x10,x11,x12,x13,x14,x15,x16,x17,x18,x19,x20,x21,x22,x23], S)) := by
  refine sP Try.f18 0 0 (v := (Value.slice none 0 0)) ?_
  kernel_rfl
theorem lot_Slots.r1  : vOps Try.prog ⟨false, false, false⟩ (vlim Try.prog O) (reg Try.f18 1) (reg Try.f18 1).toList ([x0,x1,x2,x3,x4,x5,x6,x7,x8,x9,x10,x11,x12,x13,x14,x15,x16,x17,x18,x19,x20,x21,x22,x23]) S =
    ( some ([x0,x1,x2,x3,x4,Value.slice none 0 0,x6,x7,x8,x9,x10,x11,x12,x13,x14,x15,x16,x17,x18,x19,x20,x21,x22,x23], S)) := by
  refine sP Try.f18 1 0 (v := (Value.slice none 0 0)) ?_
  kernel_rfl
theorem lot_Slots.r2  : vOps Try.prog ⟨false, false, false⟩ (vlim Try.prog O) (reg Try.f18 2) (reg Try.f18 2).toList ([x0,x1,x2,x3,x4,x5,x6,x7,x8,x9,x10,x11,x12,x13,x14,x15,x16,x17,x18,x19,x20,x21,x22,x23]) S =
    (andK (vLen Try.prog 22 (dem x0) S) (fun v1 S1 => some ([x0,x1,x2,x3,x4,x5,x6,dem x0,v1,Value.int IntKind.i64 0,x10,x11,x12,x13,x14,x15,x16,x17,x18,x19,x20,x21,x22,x23], S1)) ()) := by
  refine sP Try.f18 2 0 (v := x0) ?_
  refine sD Try.f18 2 1 (fun v1 S1 => ?_)
  refine sP Try.f18 2 2 (v := (Value.int IntKind.i64 0)) ?_
  kernel_rfl
theorem lot_Slots.r3  : vOps Try.prog ⟨false, false, false⟩ (vlim Try.prog O) (reg Try.f18 3) (reg Try.f18 3).toList ([x0,x1,x2,x3,x4,x5,x6,x7,x8,x9,x10,x11,x12,x13,x14,x15,x16,x17,x18,x19,x20,x21,x22,x23]) S =
    (andK (vBin Try.prog BinOp.lss 3 x9 x8 S) (fun v0 S1 => some ([x0,x1,x2,x3,x4,x5,x6,x7,x8,x9,v0,x11,x12,x13,x14,x15,x16,x17,x18,x19,x20,x21,x22,x23], S1)) ()) := by
  refine sD Try.f18 3 0 (fun v0 S1 => ?_)
  kernel_rfl
theorem lot_Slots.r4  : vOps Try.prog ⟨false, false, false⟩ (vlim Try.prog O) (reg Try.f18 4) (reg Try.f18 4).toList ([x0,x1,x2,x3,x4,x5,x6,x7,x8,x9,x10,x11,x12,x13,x14,x15,x16,x17,x18,x19,x20,x21,x22,x23]) S =
    ( some ([x0,x1,x2,x3,x4,x5,x9,x7,x8,dem x9,x10,dem x9,x12,x13,x14,x15,x16,x17,x18,x19,x20,x21,x22,x23], S)) := by
  refine sP Try.f18 4 0 (v := x9) ?_
  refine sP Try.f18 4 1 (v := x9) ?_
  kernel_rfl
theorem lot_Slots.r5  : vOps Try.prog ⟨false, false, false⟩ (vlim Try.prog O) (reg Try.f18 5) (reg Try.f18 5).toList ([x0,x1,x2,x3,x4,x5,x6,x7,x8,x9,x10,x11,x12,x13,x14,x15,x16,x17,x18,x19,x20,x21,x22,x23]) S =
    (andK (vBin Try.prog BinOp.add 3 (dem x6) (Value.int IntKind.i64 1) S) (fun v2 S1 => andK ((vlim Try.prog O) 13 [(dem (dem x0)), (dem v2), (dem (dem x1))] S1) (fun v4 S2 => some ([x0,x1,x2,x3,x4,x5,x6,x7,x8,x9,x10,x11,dem x0,dem x6,v2,dem x1,v4,x17,x18,x19,x20,x21,x22,x23], S2)) ()) ()) := by
  refine sP Try.f18 5 0 (v := x0) ?_
  refine sP Try.f18 5 1 (v := x6) ?_
  refine sD Try.f18 5 2 (fun v2 S1 => ?_)
  refine sP Try.f18 5 3 (v := x1) ?_
  refine sD Try.f18 5 4 (fun v4 S2 => ?_)
  kernel_rfl
theorem lot_Slots.r6  : vOps Try.prog ⟨false, false, false⟩ (vlim Try.prog O) (reg Try.f18 6) (reg Try.f18 6).toList ([x0,x1,x2,x3,x4,x5,x6,x7,x8,x9,x10,x11,x12,x13,x14,x15,x16,x17,x18,x19,x20,x21,x22,x23]) S =
    (andK (vBin Try.prog BinOp.add 3 (dem x6) (Value.int IntKind.i64 1) S) (fun v2 S1 => andK (vBuildSlice Try.prog 22 1 [(0, v2)] S1) (fun v3 S2 => andK (vAppend Try.prog 22 22 x5 v3 S2) (fun v4 S3 => some ([x0,x1,x2,x3,x4,v4,x6,x7,x8,x9,x10,x11,x12,x13,x14,x15,x16,dem x5,dem x6,v2,v3,dem v4,x22,x23], S3)) ()) ()) ()) := by
  refine sP Try.f18 6 0 (v := x5) ?_
  refine sP Try.f18 6 1 (v := x6) ?_
  refine sD Try.f18 6 2 (fun v2 S1 => ?_)
  refine sD Try.f18 6 3 (fun v3 S2 => ?_)
  refine sD Try.f18 6 4 (fun v4 S3 => ?_)
  refine sP Try.f18 6 5 (v := v4) ?_
  kernel_rfl
theorem lot_Slots.r7  : vOps Try.prog ⟨false, false, false⟩ (vlim Try.prog O) (reg Try.f18 7) (reg Try.f18 7).toList ([x0,x1,x2,x3,x4,x5,x6,x7,x8,x9,x10,x11,x12,x13,x14,x15,x16,x17,x18,x19,x20,x21,x22,x23]) S =
    (andK (vBin Try.prog BinOp.add 3 x9 (Value.int IntKind.i64 1) S) (fun v0 S1 => some ([x0,x1,x2,x3,x4,x5,x6,x7,x8,dem v0,x10,x11,x12,x13,x14,x15,x16,x17,x18,x19,x20,x21,v0,x23], S1)) ()) := by
  refine sD Try.f18 7 0 (fun v0 S1 => ?_)
  refine sP Try.f18 7 1 (v := v0) ?_
  kernel_rfl
theorem lot_Slots.r8  : vOps Try.prog ⟨false, false, false⟩ (vlim Try.prog O) (reg Try.f18 8) (reg Try.f18 8).toList ([x0,x1,x2,x3,x4,x5,x6,x7,x8,x9,x10,x11,x12,x13,x14,x15,x16,x17,x18,x19,x20,x21,x22,x23]) S =
    ( some ([x0,x1,x2,x3,x5,dem x5,x6,x7,x8,x9,x10,x11,x12,x13,x14,x15,x16,x17,x18,x19,x20,x21,x22,dem x5], S)) := by
  refine sP Try.f18 8 0 (v := x5) ?_
  refine sP Try.f18 8 1 (v := x5) ?_
  kernel_rfl
theorem lot_Slots.rs : type_of% (And.intro @lot_Slots.r0 (And.intro @lot_Slots.r1 (And.intro @lot_Slots.r2 (And.intro @lot_Slots.r3 (And.intro @lot_Slots.r4 (And.intro @lot_Slots.r5 (And.intro @lot_Slots.r6 (And.intro @lot_Slots.r7 (@lot_Slots.r8))))))))) := And.intro @lot_Slots.r0 (And.intro @lot_Slots.r1 (And.intro @lot_Slots.r2 (And.intro @lot_Slots.r3 (And.intro @lot_Slots.r4 (And.intro @lot_Slots.r5 (And.intro @lot_Slots.r6 (And.intro @lot_Slots.r7 (@lot_Slots.r8))))))))
theorem lot_Slots.runs {x0 x1 : Value} {S S1 : AHeap} {e : AEx} {T : List Value} (h : vcodeV Try.prog O false lot_Slots.code ([x0,x1,undef,undef,undef,undef,undef,undef,undef,undef,undef,undef,undef,undef,undef,undef,undef,undef,undef,undef,undef,undef,undef,undef]) S = some (e, T, S1)) (he : e = .normal ∨ e = .ret) : vlim Try.prog O 18 [x0, x1] S = some (T.getD 4 undef, S1) :=
  vlim_code rfl rfl Try.func18 (by decide) lot_Slots.body (by exact h) he (vRes_one (a := T.getD 4 undef) ((show vResVals Try.prog T S1 Try.f18.results.toList = vResVals Try.prog T S1 [(ResultVar.tmp 4)] from by kernel_rfl).trans (by simp only [vResVals])) (by kernel_rfl))
end Go.Proofs.Ytooljmmlekmkeaa
