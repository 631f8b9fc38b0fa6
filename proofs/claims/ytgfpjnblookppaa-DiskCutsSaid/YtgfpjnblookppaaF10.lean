/-
The seat's functions in a shallow form: each region as a chain of the interpreter's operations. Printed by a program; Lean checks each row.
-/
import Derived.Test.YtgfpjnblookppaaChecked
import Derived.Test.YtgfpjnblookppaaOra
import Derived.KernelRfl
set_option linter.unusedVariables false
set_option maxRecDepth 100000
namespace Go.Proofs.Ytgfpjnblookppaa
open Go.Abs

/-- neaptide.disk.New -/
abbrev disk_New.id : FuncId := 10
noncomputable def disk_New.code : Code := (Code.seq (Code.region 0 (reg Try.f10 0) false) (Code.seq (Code.region 1 (reg Try.f10 1) false) (Code.seq (Code.region 2 (reg Try.f10 2) false) (Code.seq (Code.region 3 (reg Try.f10 3) false) Code.ret))))
theorem disk_New.body : Try.f10.body = some disk_New.code := by kernel_rfl
theorem disk_New.eta {T : List Value} (h : T.length = 10) : T = [T.getD 0 undef,T.getD 1 undef,T.getD 2 undef,T.getD 3 undef,T.getD 4 undef,T.getD 5 undef,T.getD 6 undef,T.getD 7 undef,T.getD 8 undef,T.getD 9 undef] := (list_getD T 10 h).trans (by kernel_rfl)
theorem disk_New.r0 (x0 x1 x2 x3 x4 x5 x6 x7 x8 x9 : Value) (S : AHeap) : vOps Try.prog ⟨false, false, false⟩ (vlim Try.prog O) (reg Try.f10 0) (reg Try.f10 0).toList ([x0,x1,x2,x3,x4,x5,x6,x7,x8,x9]) S =
    ( some ([x0,x1,Value.pointer none,x3,x4,x5,x6,x7,x8,x9], S)) := by
  refine vOps_pure (v := (Value.pointer none)) (o := opAt Try.f10 0 0) (rest := (reg Try.f10 0).toList.drop 1) (by kernel_rfl) (by kernel_rfl) (fun _ => rfl) (by kernel_rfl) ?_
  kernel_rfl
theorem disk_New.r1 (x0 x1 x2 x3 x4 x5 x6 x7 x8 x9 : Value) (S : AHeap) : vOps Try.prog ⟨false, false, false⟩ (vlim Try.prog O) (reg Try.f10 1) (reg Try.f10 1).toList ([x0,x1,x2,x3,x4,x5,x6,x7,x8,x9]) S =
    (andK (aBuild Try.prog 49 [] S) (fun v0 S1 => andK (aBox (dem v0) S1) (fun v1 S2 => some ([x0,x1,x2,v1,v0,dem v1,x6,x7,x8,x9], S2)) ()) ()) := by
  refine vOps_do (o := opAt Try.f10 1 0) (rest := (reg Try.f10 1).toList.drop 1) (by kernel_rfl) (by kernel_rfl) (fun _ => rfl) (by kernel_rfl) (fun v0 S1 => ?_)
  refine vOps_do (o := opAt Try.f10 1 1) (rest := (reg Try.f10 1).toList.drop 2) (by kernel_rfl) (by kernel_rfl) (fun _ => rfl) (by kernel_rfl) (fun v1 S2 => ?_)
  refine vOps_pure (v := v1) (o := opAt Try.f10 1 2) (rest := (reg Try.f10 1).toList.drop 3) (by kernel_rfl) (by kernel_rfl) (fun _ => rfl) (by kernel_rfl) ?_
  kernel_rfl
theorem disk_New.r2 (x0 x1 x2 x3 x4 x5 x6 x7 x8 x9 : Value) (S : AHeap) : vOps Try.prog ⟨false, false, false⟩ (vlim Try.prog O) (reg Try.f10 2) (reg Try.f10 2).toList ([x0,x1,x2,x3,x4,x5,x6,x7,x8,x9]) S =
    (andK ((vlim Try.prog O) 21 [(dem (dem x3)), (dem (dem x0))] S) (fun v2 S1 => some ([x0,x1,x2,x3,x4,x5,dem x3,dem x0,v2,x9], S1)) ()) := by
  refine vOps_pure (v := x3) (o := opAt Try.f10 2 0) (rest := (reg Try.f10 2).toList.drop 1) (by kernel_rfl) (by kernel_rfl) (fun _ => rfl) (by kernel_rfl) ?_
  refine vOps_pure (v := x0) (o := opAt Try.f10 2 1) (rest := (reg Try.f10 2).toList.drop 2) (by kernel_rfl) (by kernel_rfl) (fun _ => rfl) (by kernel_rfl) ?_
  refine vOps_do (o := opAt Try.f10 2 2) (rest := (reg Try.f10 2).toList.drop 3) (by kernel_rfl) (by kernel_rfl) (fun _ => rfl) (by kernel_rfl) (fun v2 S1 => ?_)
  kernel_rfl
theorem disk_New.r3 (x0 x1 x2 x3 x4 x5 x6 x7 x8 x9 : Value) (S : AHeap) : vOps Try.prog ⟨false, false, false⟩ (vlim Try.prog O) (reg Try.f10 3) (reg Try.f10 3).toList ([x0,x1,x2,x3,x4,x5,x6,x7,x8,x9]) S =
    ( some ([x0,x1,x3,dem x3,x4,x5,x6,x7,x8,dem x3], S)) := by
  refine vOps_pure (v := x3) (o := opAt Try.f10 3 0) (rest := (reg Try.f10 3).toList.drop 1) (by kernel_rfl) (by kernel_rfl) (fun _ => rfl) (by kernel_rfl) ?_
  refine vOps_pure (v := x3) (o := opAt Try.f10 3 1) (rest := (reg Try.f10 3).toList.drop 2) (by kernel_rfl) (by kernel_rfl) (fun _ => rfl) (by kernel_rfl) ?_
  kernel_rfl
theorem disk_New.runs {x0 : Value} {S S1 : AHeap} {e : AEx} {T : List Value} (h : vcodeV Try.prog O false disk_New.code ([x0,undef,undef,undef,undef,undef,undef,undef,undef,undef]) S = some (e, T, S1)) (he : e = .normal ∨ e = .ret) : vlim Try.prog O 10 [x0] S = some (T.getD 2 undef, S1) :=
  vlim_code rfl rfl Try.func10 (by decide) disk_New.body (by exact h) he (vRes_one (a := T.getD 2 undef) ((show vResVals Try.prog T S1 Try.f10.results.toList = vResVals Try.prog T S1 [(ResultVar.tmp 2)] from by kernel_rfl).trans (by simp only [vResVals])) (by kernel_rfl))
end Go.Proofs.Ytgfpjnblookppaa
