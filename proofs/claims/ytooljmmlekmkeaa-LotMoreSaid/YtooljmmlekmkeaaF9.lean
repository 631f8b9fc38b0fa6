/-
The seat's functions in a shallow form: each region as a chain of the interpreter's operations. Printed by a program; Lean checks each row.
-/
import Derived.Test.YtooljmmlekmkeaaChecked
import Derived.Test.YtooljmmlekmkeaaOra
import Derived.KernelRfl
set_option linter.unusedVariables false
set_option maxRecDepth 100000
namespace Go.Proofs.Ytooljmmlekmkeaa
open Go.Abs

/-- neaptide.neaptideref10.Check -/
abbrev neaptideref10_Check.id : FuncId := 9
noncomputable def neaptideref10_Check.loop1 : Code := (Code.seq (Code.region 4 (reg Try.f9 4) false) (Code.seq (Code.cond (Operand.tmp 11) Code.skip (Code.exit 0)) (Code.seq (Code.block 1 (Code.seq (Code.region 5 (reg Try.f9 5) false) (Code.seq (Code.region 6 (reg Try.f9 6) false) (Code.cond (Operand.tmp 19) (Code.seq (Code.region 7 (reg Try.f9 7) false) Code.ret) Code.skip)))) (Code.region 8 (reg Try.f9 8) false))))
noncomputable def neaptideref10_Check.code : Code := (Code.seq (Code.region 0 (reg Try.f9 0) false) (Code.seq (Code.seq (Code.region 1 (reg Try.f9 1) false) (Code.cond (Operand.tmp 7) (Code.seq (Code.region 2 (reg Try.f9 2) false) Code.ret) Code.skip)) (Code.seq (Code.seq (Code.region 3 (reg Try.f9 3) false) (Code.block 0 (Code.loop neaptideref10_Check.loop1))) (Code.seq (Code.region 9 (reg Try.f9 9) false) Code.ret))))
theorem neaptideref10_Check.body : Try.f9.body = some neaptideref10_Check.code := by kernel_rfl
theorem neaptideref10_Check.eta {T : List Value} (h : T.length = 21) : T = [T.getD 0 undef,T.getD 1 undef,T.getD 2 undef,T.getD 3 undef,T.getD 4 undef,T.getD 5 undef,T.getD 6 undef,T.getD 7 undef,T.getD 8 undef,T.getD 9 undef,T.getD 10 undef,T.getD 11 undef,T.getD 12 undef,T.getD 13 undef,T.getD 14 undef,T.getD 15 undef,T.getD 16 undef,T.getD 17 undef,T.getD 18 undef,T.getD 19 undef,T.getD 20 undef] := (list_getD T 21 h).trans (by kernel_rfl)
theorem neaptideref10_Check.list {T : List Value} (h : T.length = 21) : ∃ x0 x1 x2 x3 x4 x5 x6 x7 x8 x9 x10 x11 x12 x13 x14 x15 x16 x17 x18 x19 x20, T = [x0,x1,x2,x3,x4,x5,x6,x7,x8,x9,x10,x11,x12,x13,x14,x15,x16,x17,x18,x19,x20] := ⟨_, _, _, _, _, _, _, _, _, _, _, _, _, _, _, _, _, _, _, _, _, neaptideref10_Check.eta h⟩
variable (x0 x1 x2 x3 x4 x5 x6 x7 x8 x9 x10 x11 x12 x13 x14 x15 x16 x17 x18 x19 x20 : Value) (S : AHeap)
theorem neaptideref10_Check.r0  : vOps Try.prog ⟨false, false, false⟩ (vlim Try.prog O) (reg Try.f9 0) (reg Try.f9 0).toList ([x0,x1,x2,x3,x4,x5,x6,x7,x8,x9,x10,x11,x12,x13,x14,x15,x16,x17,x18,x19,x20]) S =
    ( some ([x0,x1,Value.int IntKind.i64 0,x3,x4,x5,x6,x7,x8,x9,x10,x11,x12,x13,x14,x15,x16,x17,x18,x19,x20], S)) := by
  refine sP Try.f9 0 0 (v := (Value.int IntKind.i64 0)) ?_
  kernel_rfl
theorem neaptideref10_Check.r1  : vOps Try.prog ⟨false, false, false⟩ (vlim Try.prog O) (reg Try.f9 1) (reg Try.f9 1).toList ([x0,x1,x2,x3,x4,x5,x6,x7,x8,x9,x10,x11,x12,x13,x14,x15,x16,x17,x18,x19,x20]) S =
    (andK (vLen Try.prog 22 (dem x0) S) (fun v1 S1 => andK (vBin Try.prog BinOp.gtr 3 v1 (Value.int IntKind.i64 200) S1) (fun v2 S2 => some ([x0,x1,x2,x3,x4,dem x0,v1,v2,x8,x9,x10,x11,x12,x13,x14,x15,x16,x17,x18,x19,x20], S2)) ()) ()) := by
  refine sP Try.f9 1 0 (v := x0) ?_
  refine sD Try.f9 1 1 (fun v1 S1 => ?_)
  refine sD Try.f9 1 2 (fun v2 S2 => ?_)
  kernel_rfl
theorem neaptideref10_Check.r2  : vOps Try.prog ⟨false, false, false⟩ (vlim Try.prog O) (reg Try.f9 2) (reg Try.f9 2).toList ([x0,x1,x2,x3,x4,x5,x6,x7,x8,x9,x10,x11,x12,x13,x14,x15,x16,x17,x18,x19,x20]) S =
    ( some ([x0,x1,Value.int IntKind.i64 101,x3,x4,x5,x6,x7,x8,x9,x10,x11,x12,x13,x14,x15,x16,x17,x18,x19,x20], S)) := by
  refine sP Try.f9 2 0 (v := (Value.int IntKind.i64 101)) ?_
  kernel_rfl
theorem neaptideref10_Check.r3  : vOps Try.prog ⟨false, false, false⟩ (vlim Try.prog O) (reg Try.f9 3) (reg Try.f9 3).toList ([x0,x1,x2,x3,x4,x5,x6,x7,x8,x9,x10,x11,x12,x13,x14,x15,x16,x17,x18,x19,x20]) S =
    (andK (vLen Try.prog 22 (dem x0) S) (fun v1 S1 => some ([x0,x1,x2,x3,x4,x5,x6,x7,dem x0,v1,Value.int IntKind.i64 0,x11,x12,x13,x14,x15,x16,x17,x18,x19,x20], S1)) ()) := by
  refine sP Try.f9 3 0 (v := x0) ?_
  refine sD Try.f9 3 1 (fun v1 S1 => ?_)
  refine sP Try.f9 3 2 (v := (Value.int IntKind.i64 0)) ?_
  kernel_rfl
theorem neaptideref10_Check.r4  : vOps Try.prog ⟨false, false, false⟩ (vlim Try.prog O) (reg Try.f9 4) (reg Try.f9 4).toList ([x0,x1,x2,x3,x4,x5,x6,x7,x8,x9,x10,x11,x12,x13,x14,x15,x16,x17,x18,x19,x20]) S =
    (andK (vBin Try.prog BinOp.lss 3 x10 x9 S) (fun v0 S1 => some ([x0,x1,x2,x3,x4,x5,x6,x7,x8,x9,x10,v0,x12,x13,x14,x15,x16,x17,x18,x19,x20], S1)) ()) := by
  refine sD Try.f9 4 0 (fun v0 S1 => ?_)
  kernel_rfl
theorem neaptideref10_Check.r5  : vOps Try.prog ⟨false, false, false⟩ (vlim Try.prog O) (reg Try.f9 5) (reg Try.f9 5).toList ([x0,x1,x2,x3,x4,x5,x6,x7,x8,x9,x10,x11,x12,x13,x14,x15,x16,x17,x18,x19,x20]) S =
    (andK (vIndexAddr Try.prog 22 x8 x10 S) (fun v0 S1 => andK (vLoad Try.prog false 3 v0 S1) (fun v1 S2 => some ([x0,x1,x2,x3,v1,x5,x6,x7,x8,x9,x10,x11,v0,dem v1,x14,x15,x16,x17,x18,x19,x20], S2)) ()) ()) := by
  refine sD Try.f9 5 0 (fun v0 S1 => ?_)
  refine sD Try.f9 5 1 (fun v1 S2 => ?_)
  refine sP Try.f9 5 2 (v := v1) ?_
  kernel_rfl
theorem neaptideref10_Check.r6  : vOps Try.prog ⟨false, false, false⟩ (vlim Try.prog O) (reg Try.f9 6) (reg Try.f9 6).toList ([x0,x1,x2,x3,x4,x5,x6,x7,x8,x9,x10,x11,x12,x13,x14,x15,x16,x17,x18,x19,x20]) S =
    (andK (vBin Try.prog BinOp.lss 3 (dem x4) (Value.int IntKind.i64 0) S) (fun v1 S1 => gdK (dem v1) false (ret x4) S1 (fun v3 S2 => gdK (dem v1) false (vBin Try.prog BinOp.gtr 3 (dem v3) (Value.int IntKind.i64 127)) S2 (fun v4 S3 => andK (vPick (dem v1) (Value.bool true) v4 S3) (fun v5 S4 => some ([x0,x1,x2,x3,x4,x5,x6,x7,x8,x9,x10,x11,x12,x13,dem x4,v1,dem v1,dem v3,v4,v5,x20], S4)) ()) ()) ()) ()) := by
  refine sP Try.f9 6 0 (v := x4) ?_
  refine sD Try.f9 6 1 (fun v1 S1 => ?_)
  refine sP Try.f9 6 2 (v := v1) ?_
  refine sG Try.f9 6 3 (j := 2) (fun v3 S2 => ?_)
  refine sG Try.f9 6 4 (j := 2) (fun v4 S3 => ?_)
  refine sD Try.f9 6 5 (fun v5 S4 => ?_)
  kernel_rfl
theorem neaptideref10_Check.r7  : vOps Try.prog ⟨false, false, false⟩ (vlim Try.prog O) (reg Try.f9 7) (reg Try.f9 7).toList ([x0,x1,x2,x3,x4,x5,x6,x7,x8,x9,x10,x11,x12,x13,x14,x15,x16,x17,x18,x19,x20]) S =
    ( some ([x0,x1,Value.int IntKind.i64 101,x3,x4,x5,x6,x7,x8,x9,x10,x11,x12,x13,x14,x15,x16,x17,x18,x19,x20], S)) := by
  refine sP Try.f9 7 0 (v := (Value.int IntKind.i64 101)) ?_
  kernel_rfl
theorem neaptideref10_Check.r8  : vOps Try.prog ⟨false, false, false⟩ (vlim Try.prog O) (reg Try.f9 8) (reg Try.f9 8).toList ([x0,x1,x2,x3,x4,x5,x6,x7,x8,x9,x10,x11,x12,x13,x14,x15,x16,x17,x18,x19,x20]) S =
    (andK (vBin Try.prog BinOp.add 3 x10 (Value.int IntKind.i64 1) S) (fun v0 S1 => some ([x0,x1,x2,x3,x4,x5,x6,x7,x8,x9,dem v0,x11,x12,x13,x14,x15,x16,x17,x18,x19,v0], S1)) ()) := by
  refine sD Try.f9 8 0 (fun v0 S1 => ?_)
  refine sP Try.f9 8 1 (v := v0) ?_
  kernel_rfl
theorem neaptideref10_Check.r9  : vOps Try.prog ⟨false, false, false⟩ (vlim Try.prog O) (reg Try.f9 9) (reg Try.f9 9).toList ([x0,x1,x2,x3,x4,x5,x6,x7,x8,x9,x10,x11,x12,x13,x14,x15,x16,x17,x18,x19,x20]) S =
    ( some ([x0,x1,Value.int IntKind.i64 0,x3,x4,x5,x6,x7,x8,x9,x10,x11,x12,x13,x14,x15,x16,x17,x18,x19,x20], S)) := by
  refine sP Try.f9 9 0 (v := (Value.int IntKind.i64 0)) ?_
  kernel_rfl
theorem neaptideref10_Check.rs : type_of% (And.intro @neaptideref10_Check.r0 (And.intro @neaptideref10_Check.r1 (And.intro @neaptideref10_Check.r2 (And.intro @neaptideref10_Check.r3 (And.intro @neaptideref10_Check.r4 (And.intro @neaptideref10_Check.r5 (And.intro @neaptideref10_Check.r6 (And.intro @neaptideref10_Check.r7 (And.intro @neaptideref10_Check.r8 (@neaptideref10_Check.r9)))))))))) := And.intro @neaptideref10_Check.r0 (And.intro @neaptideref10_Check.r1 (And.intro @neaptideref10_Check.r2 (And.intro @neaptideref10_Check.r3 (And.intro @neaptideref10_Check.r4 (And.intro @neaptideref10_Check.r5 (And.intro @neaptideref10_Check.r6 (And.intro @neaptideref10_Check.r7 (And.intro @neaptideref10_Check.r8 (@neaptideref10_Check.r9)))))))))
theorem neaptideref10_Check.runs {x0 : Value} {S S1 : AHeap} {e : AEx} {T : List Value} (h : vcodeV Try.prog O false neaptideref10_Check.code ([x0,undef,undef,undef,undef,undef,undef,undef,undef,undef,undef,undef,undef,undef,undef,undef,undef,undef,undef,undef,undef]) S = some (e, T, S1)) (he : e = .normal ∨ e = .ret) : vlim Try.prog O 9 [x0] S = some (T.getD 2 undef, S1) :=
  vlim_code rfl rfl Try.func9 (by decide) neaptideref10_Check.body (by exact h) he (vRes_one (a := T.getD 2 undef) ((show vResVals Try.prog T S1 Try.f9.results.toList = vResVals Try.prog T S1 [(ResultVar.tmp 2)] from by kernel_rfl).trans (by simp only [vResVals])) (by kernel_rfl))
end Go.Proofs.Ytooljmmlekmkeaa
