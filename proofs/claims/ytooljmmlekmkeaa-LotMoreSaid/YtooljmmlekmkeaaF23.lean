/-
The seat's functions in a shallow form: each region as a chain of the interpreter's operations. Printed by a program; Lean checks each row.
-/
import Derived.Test.YtooljmmlekmkeaaChecked
import Derived.Test.YtooljmmlekmkeaaOra
import Derived.KernelRfl
set_option linter.unusedVariables false
set_option maxRecDepth 100000
namespace Go.Proofs.Ytooljmmlekmkeaa
open Go.Abs

/-- slices.Index[[]int,int] -/
abbrev slices_Index.id : FuncId := 23
noncomputable def slices_Index.loop1 : Code := (Code.seq (Code.region 2 (reg Try.f23 2) false) (Code.seq (Code.cond (Operand.tmp 9) Code.skip (Code.exit 0)) (Code.seq (Code.block 1 (Code.seq (Code.region 3 (reg Try.f23 3) false) (Code.seq (Code.region 4 (reg Try.f23 4) false) (Code.cond (Operand.tmp 16) (Code.seq (Code.region 5 (reg Try.f23 5) false) Code.ret) Code.skip)))) (Code.region 6 (reg Try.f23 6) false))))
noncomputable def slices_Index.code : Code := (Code.seq (Code.region 0 (reg Try.f23 0) false) (Code.seq (Code.seq (Code.region 1 (reg Try.f23 1) false) (Code.block 0 (Code.loop slices_Index.loop1))) (Code.seq (Code.region 7 (reg Try.f23 7) false) Code.ret)))
theorem slices_Index.body : Try.f23.body = some slices_Index.code := by kernel_rfl
theorem slices_Index.eta {T : List Value} (h : T.length = 19) : T = [T.getD 0 undef,T.getD 1 undef,T.getD 2 undef,T.getD 3 undef,T.getD 4 undef,T.getD 5 undef,T.getD 6 undef,T.getD 7 undef,T.getD 8 undef,T.getD 9 undef,T.getD 10 undef,T.getD 11 undef,T.getD 12 undef,T.getD 13 undef,T.getD 14 undef,T.getD 15 undef,T.getD 16 undef,T.getD 17 undef,T.getD 18 undef] := (list_getD T 19 h).trans (by kernel_rfl)
theorem slices_Index.list {T : List Value} (h : T.length = 19) : ∃ x0 x1 x2 x3 x4 x5 x6 x7 x8 x9 x10 x11 x12 x13 x14 x15 x16 x17 x18, T = [x0,x1,x2,x3,x4,x5,x6,x7,x8,x9,x10,x11,x12,x13,x14,x15,x16,x17,x18] := ⟨_, _, _, _, _, _, _, _, _, _, _, _, _, _, _, _, _, _, _, slices_Index.eta h⟩
variable (x0 x1 x2 x3 x4 x5 x6 x7 x8 x9 x10 x11 x12 x13 x14 x15 x16 x17 x18 : Value) (S : AHeap)
theorem slices_Index.r0  : vOps Try.prog ⟨false, false, false⟩ (vlim Try.prog O) (reg Try.f23 0) (reg Try.f23 0).toList ([x0,x1,x2,x3,x4,x5,x6,x7,x8,x9,x10,x11,x12,x13,x14,x15,x16,x17,x18]) S =
    ( some ([x0,x1,x2,x3,Value.int IntKind.i64 0,x5,x6,x7,x8,x9,x10,x11,x12,x13,x14,x15,x16,x17,x18], S)) := by
  refine sP Try.f23 0 0 (v := (Value.int IntKind.i64 0)) ?_
  kernel_rfl
theorem slices_Index.r1  : vOps Try.prog ⟨false, false, false⟩ (vlim Try.prog O) (reg Try.f23 1) (reg Try.f23 1).toList ([x0,x1,x2,x3,x4,x5,x6,x7,x8,x9,x10,x11,x12,x13,x14,x15,x16,x17,x18]) S =
    (andK (vLen Try.prog 22 (dem x0) S) (fun v1 S1 => some ([x0,x1,x2,x3,x4,x5,dem x0,v1,Value.int IntKind.i64 0,x9,x10,x11,x12,x13,x14,x15,x16,x17,x18], S1)) ()) := by
  refine sP Try.f23 1 0 (v := x0) ?_
  refine sD Try.f23 1 1 (fun v1 S1 => ?_)
  refine sP Try.f23 1 2 (v := (Value.int IntKind.i64 0)) ?_
  kernel_rfl
theorem slices_Index.r2  : vOps Try.prog ⟨false, false, false⟩ (vlim Try.prog O) (reg Try.f23 2) (reg Try.f23 2).toList ([x0,x1,x2,x3,x4,x5,x6,x7,x8,x9,x10,x11,x12,x13,x14,x15,x16,x17,x18]) S =
    (andK (vBin Try.prog BinOp.lss 3 x8 x7 S) (fun v0 S1 => some ([x0,x1,x2,x3,x4,x5,x6,x7,x8,v0,x10,x11,x12,x13,x14,x15,x16,x17,x18], S1)) ()) := by
  refine sD Try.f23 2 0 (fun v0 S1 => ?_)
  kernel_rfl
theorem slices_Index.r3  : vOps Try.prog ⟨false, false, false⟩ (vlim Try.prog O) (reg Try.f23 3) (reg Try.f23 3).toList ([x0,x1,x2,x3,x4,x5,x6,x7,x8,x9,x10,x11,x12,x13,x14,x15,x16,x17,x18]) S =
    ( some ([x0,x1,x2,x3,x4,x8,x6,x7,dem x8,x9,dem x8,x11,x12,x13,x14,x15,x16,x17,x18], S)) := by
  refine sP Try.f23 3 0 (v := x8) ?_
  refine sP Try.f23 3 1 (v := x8) ?_
  kernel_rfl
theorem slices_Index.r4  : vOps Try.prog ⟨false, false, false⟩ (vlim Try.prog O) (reg Try.f23 4) (reg Try.f23 4).toList ([x0,x1,x2,x3,x4,x5,x6,x7,x8,x9,x10,x11,x12,x13,x14,x15,x16,x17,x18]) S =
    (andK (vIndexAddr Try.prog 22 (dem x0) (dem x5) S) (fun v3 S1 => andK (vLoad Try.prog false 3 v3 S1) (fun v4 S2 => andK (vBin Try.prog BinOp.eql 3 (dem x1) v4 S2) (fun v5 S3 => some ([x0,x1,x2,x3,x4,x5,x6,x7,x8,x9,x10,dem x1,dem x0,dem x5,v3,v4,v5,x17,x18], S3)) ()) ()) ()) := by
  refine sP Try.f23 4 0 (v := x1) ?_
  refine sP Try.f23 4 1 (v := x0) ?_
  refine sP Try.f23 4 2 (v := x5) ?_
  refine sD Try.f23 4 3 (fun v3 S1 => ?_)
  refine sD Try.f23 4 4 (fun v4 S2 => ?_)
  refine sD Try.f23 4 5 (fun v5 S3 => ?_)
  kernel_rfl
theorem slices_Index.r5  : vOps Try.prog ⟨false, false, false⟩ (vlim Try.prog O) (reg Try.f23 5) (reg Try.f23 5).toList ([x0,x1,x2,x3,x4,x5,x6,x7,x8,x9,x10,x11,x12,x13,x14,x15,x16,x17,x18]) S =
    ( some ([x0,x1,x2,x3,x5,dem x5,x6,x7,x8,x9,x10,x11,x12,x13,x14,x15,x16,dem x5,x18], S)) := by
  refine sP Try.f23 5 0 (v := x5) ?_
  refine sP Try.f23 5 1 (v := x5) ?_
  kernel_rfl
theorem slices_Index.r6  : vOps Try.prog ⟨false, false, false⟩ (vlim Try.prog O) (reg Try.f23 6) (reg Try.f23 6).toList ([x0,x1,x2,x3,x4,x5,x6,x7,x8,x9,x10,x11,x12,x13,x14,x15,x16,x17,x18]) S =
    (andK (vBin Try.prog BinOp.add 3 x8 (Value.int IntKind.i64 1) S) (fun v0 S1 => some ([x0,x1,x2,x3,x4,x5,x6,x7,dem v0,x9,x10,x11,x12,x13,x14,x15,x16,x17,v0], S1)) ()) := by
  refine sD Try.f23 6 0 (fun v0 S1 => ?_)
  refine sP Try.f23 6 1 (v := v0) ?_
  kernel_rfl
theorem slices_Index.r7  : vOps Try.prog ⟨false, false, false⟩ (vlim Try.prog O) (reg Try.f23 7) (reg Try.f23 7).toList ([x0,x1,x2,x3,x4,x5,x6,x7,x8,x9,x10,x11,x12,x13,x14,x15,x16,x17,x18]) S =
    ( some ([x0,x1,x2,x3,Value.int IntKind.i64 (-1),x5,x6,x7,x8,x9,x10,x11,x12,x13,x14,x15,x16,x17,x18], S)) := by
  refine sP Try.f23 7 0 (v := (Value.int IntKind.i64 (-1))) ?_
  kernel_rfl
theorem slices_Index.rs : type_of% (And.intro @slices_Index.r0 (And.intro @slices_Index.r1 (And.intro @slices_Index.r2 (And.intro @slices_Index.r3 (And.intro @slices_Index.r4 (And.intro @slices_Index.r5 (And.intro @slices_Index.r6 (@slices_Index.r7)))))))) := And.intro @slices_Index.r0 (And.intro @slices_Index.r1 (And.intro @slices_Index.r2 (And.intro @slices_Index.r3 (And.intro @slices_Index.r4 (And.intro @slices_Index.r5 (And.intro @slices_Index.r6 (@slices_Index.r7)))))))
theorem slices_Index.runs {x0 x1 : Value} {S S1 : AHeap} {e : AEx} {T : List Value} (h : vcodeV Try.prog O false slices_Index.code ([x0,x1,undef,undef,undef,undef,undef,undef,undef,undef,undef,undef,undef,undef,undef,undef,undef,undef,undef]) S = some (e, T, S1)) (he : e = .normal ∨ e = .ret) : vlim Try.prog O 23 [x0, x1] S = some (T.getD 4 undef, S1) :=
  vlim_code rfl rfl Try.func23 (by decide) slices_Index.body (by exact h) he (vRes_one (a := T.getD 4 undef) ((show vResVals Try.prog T S1 Try.f23.results.toList = vResVals Try.prog T S1 [(ResultVar.tmp 4)] from by kernel_rfl).trans (by simp only [vResVals])) (by kernel_rfl))
end Go.Proofs.Ytooljmmlekmkeaa
