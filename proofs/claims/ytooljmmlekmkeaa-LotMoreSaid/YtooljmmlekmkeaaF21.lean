/-
The seat's functions in a shallow form: each region as a chain of the interpreter's operations. Printed by a program; Lean checks each row.
-/
import Derived.Test.YtooljmmlekmkeaaChecked
import Derived.Test.YtooljmmlekmkeaaOra
import Derived.KernelRfl
set_option linter.unusedVariables false
set_option maxRecDepth 100000
namespace Go.Proofs.Ytooljmmlekmkeaa
open Go.Abs

/-- slices.ContainsFunc[[]int,int] -/
abbrev slices_ContainsFunc.id : FuncId := 21
noncomputable def slices_ContainsFunc.code : Code := (Code.seq (Code.region 0 (reg Try.f21 0) false) (Code.seq (Code.region 1 (reg Try.f21 1) false) Code.ret))
theorem slices_ContainsFunc.body : Try.f21.body = some slices_ContainsFunc.code := by kernel_rfl
theorem slices_ContainsFunc.eta {T : List Value} (h : T.length = 9) : T = [T.getD 0 undef,T.getD 1 undef,T.getD 2 undef,T.getD 3 undef,T.getD 4 undef,T.getD 5 undef,T.getD 6 undef,T.getD 7 undef,T.getD 8 undef] := (list_getD T 9 h).trans (by kernel_rfl)
variable (x0 x1 x2 x3 x4 x5 x6 x7 x8 : Value) (S : AHeap)
theorem slices_ContainsFunc.r0  : vOps Try.prog ⟨false, false, false⟩ (vlim Try.prog O) (reg Try.f21 0) (reg Try.f21 0).toList ([x0,x1,x2,x3,x4,x5,x6,x7,x8]) S =
    ( some ([x0,x1,x2,x3,Value.bool false,x5,x6,x7,x8], S)) := by
  refine sP Try.f21 0 0 (v := (Value.bool false)) ?_
  kernel_rfl
theorem slices_ContainsFunc.r1  : vOps Try.prog ⟨false, false, false⟩ (vlim Try.prog O) (reg Try.f21 1) (reg Try.f21 1).toList ([x0,x1,x2,x3,x4,x5,x6,x7,x8]) S =
    (andK ((vlim Try.prog O) 24 [(dem (dem x0)), (dem (dem x1))] S) (fun v2 S1 => andK (vBin Try.prog BinOp.geq 3 v2 (Value.int IntKind.i64 0) S1) (fun v3 S2 => some ([x0,x1,x2,x3,v3,dem x0,dem x1,v2,dem v3], S2)) ()) ()) := by
  refine sP Try.f21 1 0 (v := x0) ?_
  refine sP Try.f21 1 1 (v := x1) ?_
  refine sD Try.f21 1 2 (fun v2 S1 => ?_)
  refine sD Try.f21 1 3 (fun v3 S2 => ?_)
  refine sP Try.f21 1 4 (v := v3) ?_
  kernel_rfl
theorem slices_ContainsFunc.rs : type_of% (And.intro @slices_ContainsFunc.r0 (@slices_ContainsFunc.r1)) := And.intro @slices_ContainsFunc.r0 (@slices_ContainsFunc.r1)
theorem slices_ContainsFunc.runs {x0 x1 : Value} {S S1 : AHeap} {e : AEx} {T : List Value} (h : vcodeV Try.prog O false slices_ContainsFunc.code ([x0,x1,undef,undef,undef,undef,undef,undef,undef]) S = some (e, T, S1)) (he : e = .normal ∨ e = .ret) : vlim Try.prog O 21 [x0, x1] S = some (T.getD 4 undef, S1) :=
  vlim_code rfl rfl Try.func21 (by decide) slices_ContainsFunc.body (by exact h) he (vRes_one (a := T.getD 4 undef) ((show vResVals Try.prog T S1 Try.f21.results.toList = vResVals Try.prog T S1 [(ResultVar.tmp 4)] from by kernel_rfl).trans (by simp only [vResVals])) (by kernel_rfl))
end Go.Proofs.Ytooljmmlekmkeaa
