/-
The seat's functions in a shallow form: each region as a chain of the interpreter's operations. Printed by a program; Lean checks each row.
-/
import Derived.Test.YtgfpjnblookppaaChecked
import Derived.Test.YtgfpjnblookppaaOra
import Derived.KernelRfl
set_option linter.unusedVariables false
set_option maxRecDepth 100000
namespace Go.Proofs.Ytgfpjnblookppaa
open Go.Abs

/-- (*neaptide.disk.Disk).Synced -/
abbrev disk_Disk_Synced.id : FuncId := 15
noncomputable def disk_Disk_Synced.code : Code := (Code.seq (Code.region 0 (reg Try.f15 0) false) (Code.seq (Code.region 1 (reg Try.f15 1) false) Code.ret))
theorem disk_Disk_Synced.body : Try.f15.body = some disk_Disk_Synced.code := by kernel_rfl
theorem disk_Disk_Synced.eta {T : List Value} (h : T.length = 7) : T = [T.getD 0 undef,T.getD 1 undef,T.getD 2 undef,T.getD 3 undef,T.getD 4 undef,T.getD 5 undef,T.getD 6 undef] := (list_getD T 7 h).trans (by kernel_rfl)
theorem disk_Disk_Synced.r0 (x0 x1 x2 x3 x4 x5 x6 : Value) (S : AHeap) : vOps Try.prog ⟨false, false, false⟩ (vlim Try.prog O) (reg Try.f15 0) (reg Try.f15 0).toList ([x0,x1,x2,x3,x4,x5,x6]) S =
    ( some ([x0,x1,Value.int IntKind.i64 0,x3,x4,x5,x6], S)) := by
  refine vOps_pure (v := (Value.int IntKind.i64 0)) (o := opAt Try.f15 0 0) (rest := (reg Try.f15 0).toList.drop 1) (by kernel_rfl) (by kernel_rfl) (fun _ => rfl) (by kernel_rfl) ?_
  kernel_rfl
theorem disk_Disk_Synced.r1 (x0 x1 x2 x3 x4 x5 x6 : Value) (S : AHeap) : vOps Try.prog ⟨false, false, false⟩ (vlim Try.prog O) (reg Try.f15 1) (reg Try.f15 1).toList ([x0,x1,x2,x3,x4,x5,x6]) S =
    (andK (vNilCheck (dem x0) S) (fun v1 S1 => andK (vFieldAddr Try.prog 49 v1 1 S1) (fun v2 S2 => andK (vLoad Try.prog false 3 v2 S2) (fun v3 S3 => some ([x0,x1,v3,dem x0,v1,v2,dem v3], S3)) ()) ()) ()) := by
  refine vOps_pure (v := x0) (o := opAt Try.f15 1 0) (rest := (reg Try.f15 1).toList.drop 1) (by kernel_rfl) (by kernel_rfl) (fun _ => rfl) (by kernel_rfl) ?_
  refine vOps_do (o := opAt Try.f15 1 1) (rest := (reg Try.f15 1).toList.drop 2) (by kernel_rfl) (by kernel_rfl) (fun _ => rfl) (by kernel_rfl) (fun v1 S1 => ?_)
  refine vOps_do (o := opAt Try.f15 1 2) (rest := (reg Try.f15 1).toList.drop 3) (by kernel_rfl) (by kernel_rfl) (fun _ => rfl) (by kernel_rfl) (fun v2 S2 => ?_)
  refine vOps_do (o := opAt Try.f15 1 3) (rest := (reg Try.f15 1).toList.drop 4) (by kernel_rfl) (by kernel_rfl) (fun _ => rfl) (by kernel_rfl) (fun v3 S3 => ?_)
  refine vOps_pure (v := v3) (o := opAt Try.f15 1 4) (rest := (reg Try.f15 1).toList.drop 5) (by kernel_rfl) (by kernel_rfl) (fun _ => rfl) (by kernel_rfl) ?_
  kernel_rfl
theorem disk_Disk_Synced.runs {x0 : Value} {S S1 : AHeap} {e : AEx} {T : List Value} (h : vcodeV Try.prog O false disk_Disk_Synced.code ([x0,undef,undef,undef,undef,undef,undef]) S = some (e, T, S1)) (he : e = .normal ∨ e = .ret) : vlim Try.prog O 15 [x0] S = some (T.getD 2 undef, S1) :=
  vlim_code rfl rfl Try.func15 (by decide) disk_Disk_Synced.body (by exact h) he (vRes_one (a := T.getD 2 undef) ((show vResVals Try.prog T S1 Try.f15.results.toList = vResVals Try.prog T S1 [(ResultVar.tmp 2)] from by kernel_rfl).trans (by simp only [vResVals])) (by kernel_rfl))
end Go.Proofs.Ytgfpjnblookppaa
