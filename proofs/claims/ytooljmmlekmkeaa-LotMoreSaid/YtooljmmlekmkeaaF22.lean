/-
The seat's functions in a shallow form: each region as a chain of the interpreter's operations. Printed by a program; Lean checks each row.
-/
import Derived.Test.YtooljmmlekmkeaaChecked
import Derived.Test.YtooljmmlekmkeaaOra
import Derived.KernelRfl
set_option linter.unusedVariables false
set_option maxRecDepth 100000
namespace Go.Proofs.Ytooljmmlekmkeaa
open Go.Abs

/-- neaptide.lot.Check$1 -/
abbrev lot_Check_1.id : FuncId := 22
noncomputable def lot_Check_1.code : Code := (Code.seq (Code.region 0 (reg Try.f22 0) false) (Code.seq (Code.region 1 (reg Try.f22 1) false) Code.ret))
theorem lot_Check_1.body : Try.f22.body = some lot_Check_1.code := by kernel_rfl
theorem lot_Check_1.eta {T : List Value} (h : T.length = 9) : T = [T.getD 0 undef,T.getD 1 undef,T.getD 2 undef,T.getD 3 undef,T.getD 4 undef,T.getD 5 undef,T.getD 6 undef,T.getD 7 undef,T.getD 8 undef] := (list_getD T 9 h).trans (by kernel_rfl)
variable (x0 x1 x2 x3 x4 x5 x6 x7 x8 : Value) (S : AHeap)
theorem lot_Check_1.r0  : vOps Try.prog ⟨false, false, false⟩ (vlim Try.prog O) (reg Try.f22 0) (reg Try.f22 0).toList ([x0,x1,x2,x3,x4,x5,x6,x7,x8]) S =
    ( some ([x0,x1,Value.bool false,x3,x4,x5,x6,x7,x8], S)) := by
  refine sP Try.f22 0 0 (v := (Value.bool false)) ?_
  kernel_rfl
theorem lot_Check_1.r1  : vOps Try.prog ⟨false, false, false⟩ (vlim Try.prog O) (reg Try.f22 1) (reg Try.f22 1).toList ([x0,x1,x2,x3,x4,x5,x6,x7,x8]) S =
    (andK (vBin Try.prog BinOp.lss 3 (dem x0) (Value.int IntKind.i64 0) S) (fun v1 S1 => gdK (dem v1) false (ret x0) S1 (fun v3 S2 => gdK (dem v1) false (vBin Try.prog BinOp.geq 3 (dem v3) (Value.int IntKind.i64 128)) S2 (fun v4 S3 => andK (vPick (dem v1) (Value.bool true) v4 S3) (fun v5 S4 => some ([x0,x1,v5,dem x0,v1,dem v1,dem v3,v4,dem v5], S4)) ()) ()) ()) ()) := by
  refine sP Try.f22 1 0 (v := x0) ?_
  refine sD Try.f22 1 1 (fun v1 S1 => ?_)
  refine sP Try.f22 1 2 (v := v1) ?_
  refine sG Try.f22 1 3 (j := 2) (fun v3 S2 => ?_)
  refine sG Try.f22 1 4 (j := 2) (fun v4 S3 => ?_)
  refine sD Try.f22 1 5 (fun v5 S4 => ?_)
  refine sP Try.f22 1 6 (v := v5) ?_
  kernel_rfl
theorem lot_Check_1.rs : type_of% (And.intro @lot_Check_1.r0 (@lot_Check_1.r1)) := And.intro @lot_Check_1.r0 (@lot_Check_1.r1)
theorem lot_Check_1.runs {x0 : Value} {S S1 : AHeap} {e : AEx} {T : List Value} (h : vcodeV Try.prog O false lot_Check_1.code ([x0,undef,undef,undef,undef,undef,undef,undef,undef]) S = some (e, T, S1)) (he : e = .normal ∨ e = .ret) : vlim Try.prog O 22 [x0] S = some (T.getD 2 undef, S1) :=
  vlim_code rfl rfl Try.func22 (by decide) lot_Check_1.body (by exact h) he (vRes_one (a := T.getD 2 undef) ((show vResVals Try.prog T S1 Try.f22.results.toList = vResVals Try.prog T S1 [(ResultVar.tmp 2)] from by kernel_rfl).trans (by simp only [vResVals])) (by kernel_rfl))
end Go.Proofs.Ytooljmmlekmkeaa
