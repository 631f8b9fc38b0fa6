/-
The seat's functions in a shallow form: each region as a chain of the interpreter's operations. Printed by a program; Lean checks each row.
-/
import Derived.Test.YtgfpjnblookppaaChecked
import Derived.Test.YtgfpjnblookppaaOra
import Derived.KernelRfl
set_option linter.unusedVariables false
set_option maxRecDepth 100000
namespace Go.Proofs.Ytgfpjnblookppaa
open Go.Abs

/-- (*neaptide.disk.Disk).Sync -/
abbrev disk_Disk_Sync.id : FuncId := 13
noncomputable def disk_Disk_Sync.code : Code := (Code.region 0 (reg Try.f13 0) false)
theorem disk_Disk_Sync.body : Try.f13.body = some disk_Disk_Sync.code := by kernel_rfl
theorem disk_Disk_Sync.eta {T : List Value} (h : T.length = 10) : T = [T.getD 0 undef,T.getD 1 undef,T.getD 2 undef,T.getD 3 undef,T.getD 4 undef,T.getD 5 undef,T.getD 6 undef,T.getD 7 undef,T.getD 8 undef,T.getD 9 undef] := (list_getD T 10 h).trans (by kernel_rfl)
theorem disk_Disk_Sync.r0 (x0 x1 x2 x3 x4 x5 x6 x7 x8 x9 : Value) (S : AHeap) : vOps Try.prog ⟨false, false, false⟩ (vlim Try.prog O) (reg Try.f13 0) (reg Try.f13 0).toList ([x0,x1,x2,x3,x4,x5,x6,x7,x8,x9]) S =
    (andK (vNilCheck (dem x0) S) (fun v2 S1 => andK (vFieldAddr Try.prog 49 v2 0 S1) (fun v3 S2 => andK (vLoad Try.prog false 27 v3 S2) (fun v4 S3 => andK (vLen Try.prog 27 v4 S3) (fun v5 S4 => andK (vNilCheck (dem x0) S4) (fun v6 S5 => andK (vFieldAddr Try.prog 49 v6 1 S5) (fun v7 S6 => andK (vStore Try.prog 3 v7 (dem v5) S6) (fun v8 S7 => some ([x0,x1,dem x0,dem x0,v2,v3,v4,v5,v6,v7], S7)) ()) ()) ()) ()) ()) ()) ()) := by
  refine vOps_pure (v := x0) (o := opAt Try.f13 0 0) (rest := (reg Try.f13 0).toList.drop 1) (by kernel_rfl) (by kernel_rfl) (fun _ => rfl) (by kernel_rfl) ?_
  refine vOps_pure (v := x0) (o := opAt Try.f13 0 1) (rest := (reg Try.f13 0).toList.drop 2) (by kernel_rfl) (by kernel_rfl) (fun _ => rfl) (by kernel_rfl) ?_
  refine vOps_do (o := opAt Try.f13 0 2) (rest := (reg Try.f13 0).toList.drop 3) (by kernel_rfl) (by kernel_rfl) (fun _ => rfl) (by kernel_rfl) (fun v2 S1 => ?_)
  refine vOps_do (o := opAt Try.f13 0 3) (rest := (reg Try.f13 0).toList.drop 4) (by kernel_rfl) (by kernel_rfl) (fun _ => rfl) (by kernel_rfl) (fun v3 S2 => ?_)
  refine vOps_do (o := opAt Try.f13 0 4) (rest := (reg Try.f13 0).toList.drop 5) (by kernel_rfl) (by kernel_rfl) (fun _ => rfl) (by kernel_rfl) (fun v4 S3 => ?_)
  refine vOps_do (o := opAt Try.f13 0 5) (rest := (reg Try.f13 0).toList.drop 6) (by kernel_rfl) (by kernel_rfl) (fun _ => rfl) (by kernel_rfl) (fun v5 S4 => ?_)
  refine vOps_do (o := opAt Try.f13 0 6) (rest := (reg Try.f13 0).toList.drop 7) (by kernel_rfl) (by kernel_rfl) (fun _ => rfl) (by kernel_rfl) (fun v6 S5 => ?_)
  refine vOps_do (o := opAt Try.f13 0 7) (rest := (reg Try.f13 0).toList.drop 8) (by kernel_rfl) (by kernel_rfl) (fun _ => rfl) (by kernel_rfl) (fun v7 S6 => ?_)
  refine vOps_do (o := opAt Try.f13 0 8) (rest := (reg Try.f13 0).toList.drop 9) (by kernel_rfl) (by kernel_rfl) (fun _ => rfl) (by kernel_rfl) (fun v8 S7 => ?_)
  kernel_rfl
theorem disk_Disk_Sync.runs {x0 : Value} {S S1 : AHeap} {e : AEx} {T : List Value} (h : vcodeV Try.prog O false disk_Disk_Sync.code ([x0,undef,undef,undef,undef,undef,undef,undef,undef,undef]) S = some (e, T, S1)) (he : e = .normal ∨ e = .ret) : vlim Try.prog O 13 [x0] S = some (Value.tuple #[], S1) :=
  vlim_code rfl rfl Try.func13 (by decide) disk_Disk_Sync.body (by exact h) he rfl
end Go.Proofs.Ytgfpjnblookppaa
