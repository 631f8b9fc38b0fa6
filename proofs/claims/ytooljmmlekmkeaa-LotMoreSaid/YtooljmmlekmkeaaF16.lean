/-
The seat's functions in a shallow form: each region as a chain of the interpreter's operations. Printed by a program; Lean checks each row.
-/
import Derived.Test.YtooljmmlekmkeaaChecked
import Derived.Test.YtooljmmlekmkeaaOra
import Derived.KernelRfl
set_option linter.unusedVariables false
set_option maxRecDepth 100000
namespace Go.Proofs.Ytooljmmlekmkeaa
open Go.Abs

/-- neaptide.lot.Winners -/
abbrev lot_Winners.id : FuncId := 16
noncomputable def lot_Winners.loop1 : Code := (Code.seq (Code.region 3 (reg Try.f16 3) false) (Code.seq (Code.cond (Operand.tmp 8) Code.skip (Code.exit 0)) (Code.seq (Code.block 1 (Code.seq (Code.region 4 (reg Try.f16 4) false) (Code.seq (Code.region 5 (reg Try.f16 5) false) (Code.cond (Operand.tmp 13) (Code.region 6 (reg Try.f16 6) false) Code.skip)))) (Code.region 7 (reg Try.f16 7) false))))
noncomputable def lot_Winners.code : Code := (Code.seq (Code.region 0 (reg Try.f16 0) false) (Code.seq (Code.region 1 (reg Try.f16 1) false) (Code.seq (Code.seq (Code.region 2 (reg Try.f16 2) false) (Code.block 0 (Code.loop lot_Winners.loop1))) (Code.seq (Code.region 8 (reg Try.f16 8) false) Code.ret))))
theorem lot_Winners.body : Try.f16.body = some lot_Winners.code := by kernel_rfl
theorem lot_Winners.eta {T : List Value} (h : T.length = 20) : T = [T.getD 0 undef,T.getD 1 undef,T.getD 2 undef,T.getD 3 undef,T.getD 4 undef,T.getD 5 undef,T.getD 6 undef,T.getD 7 undef,T.getD 8 undef,T.getD 9 undef,T.getD 10 undef,T.getD 11 undef,T.getD 12 undef,T.getD 13 undef,T.getD 14 undef,T.getD 15 undef,T.getD 16 undef,T.getD 17 undef,T.getD 18 undef,T.getD 19 undef] := (list_getD T 20 h).trans (by kernel_rfl)
theorem lot_Winners.list {T : List Value} (h : T.length = 20) : ∃ x0 x1 x2 x3 x4 x5 x6 x7 x8 x9 x10 x11 x12 x13 x14 x15 x16 x17 x18 x19, T = [x0,x1,x2,x3,x4,x5,x6,x7,x8,x9,x10,x11,x12,x13,x14,x15,x16,x17,x18,x19] := ⟨_, _, _, _, _, _, _, _, _, _, _, _, _, _, _, _, _, _, _, _, lot_Winners.eta h⟩
variable (x0 x1 x2 x3 x4 x5 x6 x7 x8 x9 x10 x11 x12 x13 x14 x15 x16 x17 x18 x19 : Value) (S : AHeap)
theorem lot_Winners.r0  : vOps Try.prog ⟨false, false, false⟩ (vlim Try.prog O) (reg Try.f16 0) (reg Try.f16 0).toList ([x0,x1,x2,x3,x4,x5,x6,x7,x8,x9,x10,x11,x12,x13,x14,x15,x16,x17,x18,x19]) S =
    ( some ([x0,x1,x2,x3,Value.slice none 0 0,x5,x6,x7,x8,x9,x10,x11,x12,x13,x14,x15,x16,x17,x18,x19], S)) := by
  refine sP Try.f16 0 0 (v := (Value.slice none 0 0)) ?_
  kernel_rfl
theorem lot_Winners.r1  : vOps Try.prog ⟨false, false, false⟩ (vlim Try.prog O) (reg Try.f16 1) (reg Try.f16 1).toList ([x0,x1,x2,x3,x4,x5,x6,x7,x8,x9,x10,x11,x12,x13,x14,x15,x16,x17,x18,x19]) S =
    ( some ([x0,x1,x2,x3,x4,Value.slice none 0 0,x6,x7,x8,x9,x10,x11,x12,x13,x14,x15,x16,x17,x18,x19], S)) := by
  refine sP Try.f16 1 0 (v := (Value.slice none 0 0)) ?_
  kernel_rfl
theorem lot_Winners.r2  : vOps Try.prog ⟨false, false, false⟩ (vlim Try.prog O) (reg Try.f16 2) (reg Try.f16 2).toList ([x0,x1,x2,x3,x4,x5,x6,x7,x8,x9,x10,x11,x12,x13,x14,x15,x16,x17,x18,x19]) S =
    ( some ([x0,x1,x2,x3,x4,x5,x6,Value.int IntKind.i64 0,x8,x9,x10,x11,x12,x13,x14,x15,x16,x17,x18,x19], S)) := by
  refine sP Try.f16 2 0 (v := (Value.int IntKind.i64 0)) ?_
  kernel_rfl
theorem lot_Winners.r3  : vOps Try.prog ⟨false, false, false⟩ (vlim Try.prog O) (reg Try.f16 3) (reg Try.f16 3).toList ([x0,x1,x2,x3,x4,x5,x6,x7,x8,x9,x10,x11,x12,x13,x14,x15,x16,x17,x18,x19]) S =
    (andK (vBin Try.prog BinOp.lss 3 x7 (Value.int IntKind.i64 7) S) (fun v0 S1 => some ([x0,x1,x2,x3,x4,x5,x6,x7,v0,x9,x10,x11,x12,x13,x14,x15,x16,x17,x18,x19], S1)) ()) := by
  refine sD Try.f16 3 0 (fun v0 S1 => ?_)
  kernel_rfl
theorem lot_Winners.r4  : vOps Try.prog ⟨false, false, false⟩ (vlim Try.prog O) (reg Try.f16 4) (reg Try.f16 4).toList ([x0,x1,x2,x3,x4,x5,x6,x7,x8,x9,x10,x11,x12,x13,x14,x15,x16,x17,x18,x19]) S =
    ( some ([x0,x1,x2,x3,x4,x5,x7,dem x7,x8,dem x7,x10,x11,x12,x13,x14,x15,x16,x17,x18,x19], S)) := by
  refine sP Try.f16 4 0 (v := x7) ?_
  refine sP Try.f16 4 1 (v := x7) ?_
  kernel_rfl
theorem lot_Winners.r5  : vOps Try.prog ⟨false, false, false⟩ (vlim Try.prog O) (reg Try.f16 5) (reg Try.f16 5).toList ([x0,x1,x2,x3,x4,x5,x6,x7,x8,x9,x10,x11,x12,x13,x14,x15,x16,x17,x18,x19]) S =
    (andK ((vlim Try.prog O) 13 [(dem (dem x0)), (dem (dem x1)), (dem (dem x6))] S) (fun v3 S1 => some ([x0,x1,x2,x3,x4,x5,x6,x7,x8,x9,dem x0,dem x1,dem x6,v3,x14,x15,x16,x17,x18,x19], S1)) ()) := by
  refine sP Try.f16 5 0 (v := x0) ?_
  refine sP Try.f16 5 1 (v := x1) ?_
  refine sP Try.f16 5 2 (v := x6) ?_
  refine sD Try.f16 5 3 (fun v3 S1 => ?_)
  kernel_rfl
theorem lot_Winners.r6  : vOps Try.prog ⟨false, false, false⟩ (vlim Try.prog O) (reg Try.f16 6) (reg Try.f16 6).toList ([x0,x1,x2,x3,x4,x5,x6,x7,x8,x9,x10,x11,x12,x13,x14,x15,x16,x17,x18,x19]) S =
    (andK (vBuildSlice Try.prog 22 1 [(0, (dem x6))] S) (fun v2 S1 => andK (vAppend Try.prog 22 22 x5 v2 S1) (fun v3 S2 => some ([x0,x1,x2,x3,x4,v3,x6,x7,x8,x9,x10,x11,x12,x13,dem x5,dem x6,v2,dem v3,x18,x19], S2)) ()) ()) := by
  refine sP Try.f16 6 0 (v := x5) ?_
  refine sP Try.f16 6 1 (v := x6) ?_
  refine sD Try.f16 6 2 (fun v2 S1 => ?_)
  refine sD Try.f16 6 3 (fun v3 S2 => ?_)
  refine sP Try.f16 6 4 (v := v3) ?_
  kernel_rfl
theorem lot_Winners.r7  : vOps Try.prog ⟨false, false, false⟩ (vlim Try.prog O) (reg Try.f16 7) (reg Try.f16 7).toList ([x0,x1,x2,x3,x4,x5,x6,x7,x8,x9,x10,x11,x12,x13,x14,x15,x16,x17,x18,x19]) S =
    (andK (vBin Try.prog BinOp.add 3 x7 (Value.int IntKind.i64 1) S) (fun v0 S1 => some ([x0,x1,x2,x3,x4,x5,x6,dem v0,x8,x9,x10,x11,x12,x13,x14,x15,x16,x17,v0,x19], S1)) ()) := by
  refine sD Try.f16 7 0 (fun v0 S1 => ?_)
  refine sP Try.f16 7 1 (v := v0) ?_
  kernel_rfl
theorem lot_Winners.r8  : vOps Try.prog ⟨false, false, false⟩ (vlim Try.prog O) (reg Try.f16 8) (reg Try.f16 8).toList ([x0,x1,x2,x3,x4,x5,x6,x7,x8,x9,x10,x11,x12,x13,x14,x15,x16,x17,x18,x19]) S =
    ( some ([x0,x1,x2,x3,x5,dem x5,x6,x7,x8,x9,x10,x11,x12,x13,x14,x15,x16,x17,x18,dem x5], S)) := by
  refine sP Try.f16 8 0 (v := x5) ?_
  refine sP Try.f16 8 1 (v := x5) ?_
  kernel_rfl
theorem lot_Winners.rs : type_of% (And.intro @lot_Winners.r0 (And.intro @lot_Winners.r1 (And.intro @lot_Winners.r2 (And.intro @lot_Winners.r3 (And.intro @lot_Winners.r4 (And.intro @lot_Winners.r5 (And.intro @lot_Winners.r6 (And.intro @lot_Winners.r7 (@lot_Winners.r8))))))))) := And.intro @lot_Winners.r0 (And.intro @lot_Winners.r1 (And.intro @lot_Winners.r2 (And.intro @lot_Winners.r3 (And.intro @lot_Winners.r4 (And.intro @lot_Winners.r5 (And.intro @lot_Winners.r6 (And.intro @lot_Winners.r7 (@lot_Winners.r8))))))))
theorem lot_Winners.runs {x0 x1 : Value} {S S1 : AHeap} {e : AEx} {T : List Value} (h : vcodeV Try.prog O false lot_Winners.code ([x0,x1,undef,undef,undef,undef,undef,undef,undef,undef,undef,undef,undef,undef,undef,undef,undef,undef,undef,undef]) S = some (e, T, S1)) (he : e = .normal ∨ e = .ret) : vlim Try.prog O 16 [x0, x1] S = some (T.getD 4 undef, S1) :=
  vlim_code rfl rfl Try.func16 (by decide) lot_Winners.body (by exact h) he (vRes_one (a := T.getD 4 undef) ((show vResVals Try.prog T S1 Try.f16.results.toList = vResVals Try.prog T S1 [(ResultVar.tmp 4)] from by kernel_rfl).trans (by simp only [vResVals])) (by kernel_rfl))
end Go.Proofs.Ytooljmmlekmkeaa
