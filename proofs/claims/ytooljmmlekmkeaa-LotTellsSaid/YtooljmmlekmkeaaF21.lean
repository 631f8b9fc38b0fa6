/-
The seat's functions in a shallow form: each region as a chain of the interpreter's operations. Printed by a program; Lean checks each row.
-/
import Derived.Test.YtooljmmlekmkeaaChecked
import Derived.Test.YtooljmmlekmkeaaOra
import Derived.KernelRfl
set_option linter.unusedVariables false
set_option maxRecDepth 100000
namespace Go.Proofs.Ytooljmmlekmkeaa
open Go.Abs

/-- slices.ContainsFunc[[]int,int] -/
abbrev slices_ContainsFunc.id : FuncId := 21
noncomputable def slices_ContainsFunc.code : Code := (Code.seq (Code.region 0 (reg Try.f21 0) false) (Code.seq (Code.region 1 (reg Try.f21 1) false) Code.ret))
theorem slices_ContainsFunc.body : Try.f21.body = some slices_ContainsFunc.code := by kernel_rfl
theorem slices_ContainsFunc.eta {T : List Value} (h : T.length = 9) : T = [T.getD 0 undef,T.getD 1 undef,T.getD 2 undef,T.getD 3 undef,T.getD 4 undef,T.getD 5 undef,T.getD 6 undef,T.getD 7 undef,T.getD 8 undef] := (list_getD T 9 h).trans (by kernel_rfl)
theorem slices_ContainsFunc.r0 (x0 x1 x2 x3 x4 x5 x6 x7 x8 : Value) (S : AHeap) : vOps Try.prog ⟨false, false, false⟩ (vlim Try.prog O) (reg Try.f21 0) (reg Try.f21 0).toList ([x0,x1,x2,x3,x4,x5,x6,x7,x8]) S =
    ( some ([x0,x1,x2,x3,Value.bool false,x5,x6,x7,x8], S)) := by
  refine vOps_pure (v := (Value.bool false)) (o := opAt Try.f21 0 0) (rest := (reg Try.f21 0).toList.drop 1) (by kernel_rfl) (by kernel_rfl) (fun _ => rfl) (by kernel_rfl) ?_
  kernel_rfl
theorem slices_ContainsFunc.r1 (x0 x1 x2 x3 x4 x5 x6 x7 x8 : Value) (S : AHeap) : vOps Try.prog ⟨false, false, false⟩ (vlim Try.prog O) (reg Try.f21 1) (reg Try.f21 1).toList ([x0,x1,x2,x3,x4,x5,x6,x7,x8]) S =
    (andK ((vlim Try.prog O) 24 [(dem (dem x0)), (dem (dem x1))] S) (fun v2 S1 => andK (vBin Try.prog BinOp.geq 3 v2 (Value.int IntKind.i64 0) S1) (fun v3 S2 => some ([x0,x1,x2,x3,v3,dem x0,dem x1,v2,dem v3], S2)) ()) ()) := by
  refine vOps_pure (v := x0) (o := opAt Try.f21 1 0) (rest := (reg Try.f21 1).toList.drop 1) (by kernel_rfl) (by kernel_rfl) (fun _ => rfl) (by kernel_rfl) ?_
  refine vOps_pure (v := x1) (o := opAt Try.f21 1 1) (rest := (reg Try.f21 1).toList.drop 2) (by kernel_rfl) (by kernel_rfl) (fun _ => rfl) (by kernel_rfl) ?_
  refine vOps_do (o := opAt Try.f21 1 2) (rest := (reg Try.f21 1).toList.drop 3) (by kernel_rfl) (by kernel_rfl) (fun _ => rfl) (by kernel_rfl) (fun v2 S1 => ?_)
  refine vOps_do (o := opAt Try.f21 1 3) (rest := (reg Try.f21 1).toList.drop 4) (by kernel_rfl) (by kernel_rfl) (fun _ => rfl) (by kernel_rfl) (fun v3 S2 => ?_)
  refine vOps_pure (v := v3) (o := opAt Try.f21 1 4) (rest := (reg Try.f21 1).toList.drop 5) (by kernel_rfl) (by kernel_rfl) (fun _ => rfl) (by kernel_rfl) ?_
  kernel_rfl
theorem slices_ContainsFunc.runs {x0 x1 : Value} {S S1 : AHeap} {e : AEx} {T : List Value} (h : vcodeV Try.prog O false slices_ContainsFunc.code ([x0,x1,undef,undef,undef,undef,undef,undef,undef]) S = some (e, T, S1)) (he : e = .normal ∨ e = .ret) : vlim Try.prog O 21 [x0, x1] S = some (T.getD 4 undef, S1) :=
  vlim_code rfl Try.func21 (by decide) slices_ContainsFunc.body (by exact h) he rfl
end Go.Proofs.Ytooljmmlekmkeaa
