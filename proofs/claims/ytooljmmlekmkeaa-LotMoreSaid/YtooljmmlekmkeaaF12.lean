/-
The seat's functions in a shallow form: each region as a chain of the interpreter's operations. Printed by a program; Lean checks each row.
-/
import Derived.Test.YtooljmmlekmkeaaChecked
import Derived.Test.YtooljmmlekmkeaaOra
import Derived.KernelRfl
set_option linter.unusedVariables false
set_option maxRecDepth 100000
namespace Go.Proofs.Ytooljmmlekmkeaa
open Go.Abs

/-- neaptide.lot.Check -/
abbrev lot_Check.id : FuncId := 12
noncomputable def lot_Check.code : Code := (Code.seq (Code.region 0 (reg Try.f12 0) false) (Code.seq (Code.seq (Code.region 1 (reg Try.f12 1) false) (Code.cond (Operand.tmp 9) (Code.seq (Code.region 2 (reg Try.f12 2) false) Code.ret) Code.skip)) (Code.seq (Code.region 3 (reg Try.f12 3) false) Code.ret)))
theorem lot_Check.body : Try.f12.body = some lot_Check.code := by kernel_rfl
theorem lot_Check.eta {T : List Value} (h : T.length = 10) : T = [T.getD 0 undef,T.getD 1 undef,T.getD 2 undef,T.getD 3 undef,T.getD 4 undef,T.getD 5 undef,T.getD 6 undef,T.getD 7 undef,T.getD 8 undef,T.getD 9 undef] := (list_getD T 10 h).trans (by kernel_rfl)
variable (x0 x1 x2 x3 x4 x5 x6 x7 x8 x9 : Value) (S : AHeap)
theorem lot_Check.r0  : vOps Try.prog ⟨false, false, false⟩ (vlim Try.prog O) (reg Try.f12 0) (reg Try.f12 0).toList ([x0,x1,x2,x3,x4,x5,x6,x7,x8,x9]) S =
    ( some ([x0,x1,Value.int IntKind.i64 0,x3,x4,x5,x6,x7,x8,x9], S)) := by
  refine sP Try.f12 0 0 (v := (Value.int IntKind.i64 0)) ?_
  kernel_rfl
theorem lot_Check.r1  : vOps Try.prog ⟨false, false, false⟩ (vlim Try.prog O) (reg Try.f12 1) (reg Try.f12 1).toList ([x0,x1,x2,x3,x4,x5,x6,x7,x8,x9]) S =
    (andK (vLen Try.prog 22 (dem x0) S) (fun v1 S1 => andK (vBin Try.prog BinOp.gtr 3 v1 (Value.int IntKind.i64 200) S1) (fun v2 S2 => gdK (dem v2) false (ret x0) S2 (fun v4 S3 => gdK (dem v2) false ((vlim Try.prog O) 21 [(dem (dem v4)), (Value.func (Fn.func 22) #[] #[])]) S3 (fun v5 S4 => andK (vPick (dem v2) (Value.bool true) v5 S4) (fun v6 S5 => some ([x0,x1,x2,dem x0,v1,v2,dem v2,dem v4,v5,v6], S5)) ()) ()) ()) ()) ()) := by
  refine sP Try.f12 1 0 (v := x0) ?_
  refine sD Try.f12 1 1 (fun v1 S1 => ?_)
  refine sD Try.f12 1 2 (fun v2 S2 => ?_)
  refine sP Try.f12 1 3 (v := v2) ?_
  refine sG Try.f12 1 4 (j := 3) (fun v4 S3 => ?_)
  refine sG Try.f12 1 5 (j := 3) (fun v5 S4 => ?_)
  refine sD Try.f12 1 6 (fun v6 S5 => ?_)
  kernel_rfl
theorem lot_Check.r2  : vOps Try.prog ⟨false, false, false⟩ (vlim Try.prog O) (reg Try.f12 2) (reg Try.f12 2).toList ([x0,x1,x2,x3,x4,x5,x6,x7,x8,x9]) S =
    ( some ([x0,x1,Value.int IntKind.i64 101,x3,x4,x5,x6,x7,x8,x9], S)) := by
  refine sP Try.f12 2 0 (v := (Value.int IntKind.i64 101)) ?_
  kernel_rfl
theorem lot_Check.r3  : vOps Try.prog ⟨false, false, false⟩ (vlim Try.prog O) (reg Try.f12 3) (reg Try.f12 3).toList ([x0,x1,x2,x3,x4,x5,x6,x7,x8,x9]) S =
    ( some ([x0,x1,Value.int IntKind.i64 0,x3,x4,x5,x6,x7,x8,x9], S)) := by
  refine sP Try.f12 3 0 (v := (Value.int IntKind.i64 0)) ?_
  kernel_rfl
theorem lot_Check.rs : type_of% (And.intro @lot_Check.r0 (And.intro @lot_Check.r1 (And.intro @lot_Check.r2 (@lot_Check.r3)))) := And.intro @lot_Check.r0 (And.intro @lot_Check.r1 (And.intro @lot_Check.r2 (@lot_Check.r3)))
theorem lot_Check.runs {x0 : Value} {S S1 : AHeap} {e : AEx} {T : List Value} (h : vcodeV Try.prog O false lot_Check.code ([x0,undef,undef,undef,undef,undef,undef,undef,undef,undef]) S = some (e, T, S1)) (he : e = .normal ∨ e = .ret) : vlim Try.prog O 12 [x0] S = some (T.getD 2 undef, S1) :=
  vlim_code rfl rfl Try.func12 (by decide) lot_Check.body (by exact h) he (vRes_one (a := T.getD 2 undef) ((show vResVals Try.prog T S1 Try.f12.results.toList = vResVals Try.prog T S1 [(ResultVar.tmp 2)] from by kernel_rfl).trans (by simp only [vResVals])) (by kernel_rfl))
end Go.Proofs.Ytooljmmlekmkeaa
