/-
The seat's functions in a shallow form: each region as a chain of the interpreter's operations. Printed by a program; Lean checks each row.
-/
import Derived.Test.YtooljmmlekmkeaaChecked
import Derived.Test.YtooljmmlekmkeaaOra
import Derived.KernelRfl
set_option linter.unusedVariables false
set_option maxRecDepth 100000
namespace Go.Proofs.Ytooljmmlekmkeaa
open Go.Abs

/-- neaptide.neaptideref10.Slots -/
abbrev neaptideref10_Slots.id : FuncId := 19
noncomputable def neaptideref10_Slots.loop1 : Code := (Code.seq (Code.seq (Code.region 3 (reg Try.f19 3) false) (Code.cond (Operand.tmp 11) Code.skip (Code.exit 0))) (Code.seq (Code.block 1 (Code.seq (Code.region 5 (reg Try.f19 5) false) (Code.cond (Operand.tmp 17) (Code.region 6 (reg Try.f19 6) false) Code.skip))) (Code.region 4 (reg Try.f19 4) false)))
noncomputable def neaptideref10_Slots.code : Code := (Code.seq (Code.region 0 (reg Try.f19 0) false) (Code.seq (Code.region 1 (reg Try.f19 1) false) (Code.seq (Code.seq (Code.region 2 (reg Try.f19 2) false) (Code.block 0 (Code.loop neaptideref10_Slots.loop1))) (Code.seq (Code.region 7 (reg Try.f19 7) false) Code.ret))))
theorem neaptideref10_Slots.body : Try.f19.body = some neaptideref10_Slots.code := by kernel_rfl
theorem neaptideref10_Slots.eta {T : List Value} (h : T.length = 23) : T = [T.getD 0 undef,T.getD 1 undef,T.getD 2 undef,T.getD 3 undef,T.getD 4 undef,T.getD 5 undef,T.getD 6 undef,T.getD 7 undef,T.getD 8 undef,T.getD 9 undef,T.getD 10 undef,T.getD 11 undef,T.getD 12 undef,T.getD 13 undef,T.getD 14 undef,T.getD 15 undef,T.getD 16 undef,T.getD 17 undef,T.getD 18 undef,T.getD 19 undef,T.getD 20 undef,T.getD 21 undef,T.getD 22 undef] := (list_getD T 23 h).trans (by kernel_rfl)
theorem neaptideref10_Slots.list {T : List Value} (h : T.length = 23) : ∃ x0 x1 x2 x3 x4 x5 x6 x7 x8 x9 x10 x11 x12 x13 x14 x15 x16 x17 x18 x19 x20 x21 x22, T = [x0,x1,x2,x3,x4,x5,x6,x7,x8,x9,x10,x11,x12,x13,x14,x15,x16,x17,x18,x19,x20,x21,x22] := ⟨_, _, _, _, _, _, _, _, _, _, _, _, _, _, _, _, _, _, _, _, _, _, _, neaptideref10_Slots.eta h⟩
variable (x0 x1 x2 x3 x4 x5 x6 x7 x8 x9 x10 x11 x12 x13 x14 x15 x16 x17 x18 x19 x20 x21 x22 : Value) (S : AHeap)
theorem neaptideref10_Slots.r0  : vOps Try.prog ⟨false, false, false⟩ (vlim Try.prog O) (reg Try.f19 0) (reg Try.f19 0).toList ([x0,x1,x2,x3,x4,x5,x6,x7,x8,x9,x10,x11,x12,x13,x14,x15,x16,x17,x18,x19,x20,x21,x22]) S =
    ( some ([x0,x1,x2,x3,Value.slice none 0 0,x5,x6,x7,x8,x9,x10,x11,x12,x13,x14,x15,x16,x17,x18,x19,x20,x21,x22], S)) := by
  refine sP Try.f19 0 0 (v := (Value.slice none 0 0)) ?_
  kernel_rfl
theorem neaptideref10_Slots.r1  : vOps Try.prog ⟨false, false, false⟩ (vlim Try.prog O) (reg Try.f19 1) (reg Try.f19 1).toList ([x0,x1,x2,x3,x4,x5,x6,x7,x8,x9,x10,x11,x12,x13,x14,x15,x16,x17,x18,x19,x20,x21,x22]) S =
    (andK (vBuildSlice Try.prog 22 0 [] S) (fun v0 S1 => some ([x0,x1,x2,x3,x4,v0,x6,dem v0,x8,x9,x10,x11,x12,x13,x14,x15,x16,x17,x18,x19,x20,x21,x22], S1)) ()) := by
  refine sD Try.f19 1 0 (fun v0 S1 => ?_)
  refine sP Try.f19 1 1 (v := v0) ?_
  kernel_rfl
theorem neaptideref10_Slots.r2  : vOps Try.prog ⟨false, false, false⟩ (vlim Try.prog O) (reg Try.f19 2) (reg Try.f19 2).toList ([x0,x1,x2,x3,x4,x5,x6,x7,x8,x9,x10,x11,x12,x13,x14,x15,x16,x17,x18,x19,x20,x21,x22]) S =
    ( some ([x0,x1,x2,x3,x4,x5,Value.int IntKind.i64 1,x7,x8,x9,x10,x11,x12,x13,x14,x15,x16,x17,x18,x19,x20,x21,x22], S)) := by
  refine sP Try.f19 2 0 (v := (Value.int IntKind.i64 1)) ?_
  kernel_rfl
theorem neaptideref10_Slots.r3  : vOps Try.prog ⟨false, false, false⟩ (vlim Try.prog O) (reg Try.f19 3) (reg Try.f19 3).toList ([x0,x1,x2,x3,x4,x5,x6,x7,x8,x9,x10,x11,x12,x13,x14,x15,x16,x17,x18,x19,x20,x21,x22]) S =
    (andK (vLen Try.prog 22 (dem x0) S) (fun v2 S1 => andK (vBin Try.prog BinOp.leq 3 (dem x6) v2 S1) (fun v3 S2 => some ([x0,x1,x2,x3,x4,x5,x6,x7,dem x6,dem x0,v2,v3,x12,x13,x14,x15,x16,x17,x18,x19,x20,x21,x22], S2)) ()) ()) := by
  refine sP Try.f19 3 0 (v := x6) ?_
  refine sP Try.f19 3 1 (v := x0) ?_
  refine sD Try.f19 3 2 (fun v2 S1 => ?_)
  refine sD Try.f19 3 3 (fun v3 S2 => ?_)
  kernel_rfl
theorem neaptideref10_Slots.r5  : vOps Try.prog ⟨false, false, false⟩ (vlim Try.prog O) (reg Try.f19 5) (reg Try.f19 5).toList ([x0,x1,x2,x3,x4,x5,x6,x7,x8,x9,x10,x11,x12,x13,x14,x15,x16,x17,x18,x19,x20,x21,x22]) S =
    (andK ((vlim Try.prog O) 14 [(dem (dem x0)), (dem (dem x6)), (dem (dem x1))] S) (fun v3 S1 => some ([x0,x1,x2,x3,x4,x5,x6,x7,x8,x9,x10,x11,x12,x13,dem x0,dem x6,dem x1,v3,x18,x19,x20,x21,x22], S1)) ()) := by
  refine sP Try.f19 5 0 (v := x0) ?_
  refine sP Try.f19 5 1 (v := x6) ?_
  refine sP Try.f19 5 2 (v := x1) ?_
  refine sD Try.f19 5 3 (fun v3 S1 => ?_)
  kernel_rfl
theorem neaptideref10_Slots.r6  : vOps Try.prog ⟨false, false, false⟩ (vlim Try.prog O) (reg Try.f19 6) (reg Try.f19 6).toList ([x0,x1,x2,x3,x4,x5,x6,x7,x8,x9,x10,x11,x12,x13,x14,x15,x16,x17,x18,x19,x20,x21,x22]) S =
    (andK (vBuildSlice Try.prog 22 1 [(0, (dem x6))] S) (fun v2 S1 => andK (vAppend Try.prog 22 22 x5 v2 S1) (fun v3 S2 => some ([x0,x1,x2,x3,x4,v3,x6,x7,x8,x9,x10,x11,x12,x13,x14,x15,x16,x17,dem x5,dem x6,v2,dem v3,x22], S2)) ()) ()) := by
  refine sP Try.f19 6 0 (v := x5) ?_
  refine sP Try.f19 6 1 (v := x6) ?_
  refine sD Try.f19 6 2 (fun v2 S1 => ?_)
  refine sD Try.f19 6 3 (fun v3 S2 => ?_)
  refine sP Try.f19 6 4 (v := v3) ?_
  kernel_rfl
theorem neaptideref10_Slots.r4  : vOps Try.prog ⟨false, false, false⟩ (vlim Try.prog O) (reg Try.f19 4) (reg Try.f19 4).toList ([x0,x1,x2,x3,x4,x5,x6,x7,x8,x9,x10,x11,x12,x13,x14,x15,x16,x17,x18,x19,x20,x21,x22]) S =
    (andK (vBin Try.prog BinOp.add 3 (dem x6) (Value.int IntKind.i64 1) S) (fun v1 S1 => some ([x0,x1,x2,x3,x4,x5,v1,x7,x8,x9,x10,x11,dem x6,dem v1,x14,x15,x16,x17,x18,x19,x20,x21,x22], S1)) ()) := by
  refine sP Try.f19 4 0 (v := x6) ?_
  refine sD Try.f19 4 1 (fun v1 S1 => ?_)
  refine sP Try.f19 4 2 (v := v1) ?_
  kernel_rfl
theorem neaptideref10_Slots.r7  : vOps Try.prog ⟨false, false, false⟩ (vlim Try.prog O) (reg Try.f19 7) (reg Try.f19 7).toList ([x0,x1,x2,x3,x4,x5,x6,x7,x8,x9,x10,x11,x12,x13,x14,x15,x16,x17,x18,x19,x20,x21,x22]) S =
    ( some ([x0,x1,x2,x3,x5,dem x5,x6,x7,x8,x9,x10,x11,x12,x13,x14,x15,x16,x17,x18,x19,x20,x21,dem x5], S)) := by
  refine sP Try.f19 7 0 (v := x5) ?_
  refine sP Try.f19 7 1 (v := x5) ?_
  kernel_rfl
theorem neaptideref10_Slots.rs : type_of% (And.intro @neaptideref10_Slots.r0 (And.intro @neaptideref10_Slots.r1 (And.intro @neaptideref10_Slots.r2 (And.intro @neaptideref10_Slots.r3 (And.intro @neaptideref10_Slots.r5 (And.intro @neaptideref10_Slots.r6 (And.intro @neaptideref10_Slots.r4 (@neaptideref10_Slots.r7)))))))) := And.intro @neaptideref10_Slots.r0 (And.intro @neaptideref10_Slots.r1 (And.intro @neaptideref10_Slots.r2 (And.intro @neaptideref10_Slots.r3 (And.intro @neaptideref10_Slots.r5 (And.intro @neaptideref10_Slots.r6 (And.intro @neaptideref10_Slots.r4 (@neaptideref10_Slots.r7)))))))
theorem neaptideref10_Slots.runs {x0 x1 : Value} {S S1 : AHeap} {e : AEx} {T : List Value} (h : vcodeV Try.prog O false neaptideref10_Slots.code ([x0,x1,undef,undef,undef,undef,undef,undef,undef,undef,undef,undef,undef,undef,undef,undef,undef,undef,undef,undef,undef,undef,undef]) S = some (e, T, S1)) (he : e = .normal ∨ e = .ret) : vlim Try.prog O 19 [x0, x1] S = some (T.getD 4 undef, S1) :=
  vlim_code rfl rfl Try.func19 (by decide) neaptideref10_Slots.body (by exact h) he (vRes_one (a := T.getD 4 undef) ((show vResVals Try.prog T S1 Try.f19.results.toList = vResVals Try.prog T S1 [(ResultVar.tmp 4)] from by kernel_rfl).trans (by simp only [vResVals])) (by kernel_rfl))
end Go.Proofs.Ytooljmmlekmkeaa
