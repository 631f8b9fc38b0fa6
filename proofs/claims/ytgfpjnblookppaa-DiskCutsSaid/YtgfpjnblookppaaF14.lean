/-
The seat's functions in a shallow form: each region as a chain of the interpreter's operations. Printed by a program; Lean checks each row.
-/
import Derived.Test.YtgfpjnblookppaaChecked
import Derived.Test.YtgfpjnblookppaaOra0
import Derived.KernelRfl
set_option linter.unusedVariables false
set_option maxRecDepth 100000
namespace Go.Proofs.Ytgfpjnblookppaa
open Go.Abs

/-- (*neaptide.disk.Disk).Bytes -/
abbrev disk_Disk_Bytes.id : FuncId := 14
noncomputable def disk_Disk_Bytes.code : Code := (Code.seq (Code.region 0 (reg Try.f14 0) false) (Code.seq (Code.region 1 (reg Try.f14 1) false) (Code.seq (Code.region 2 (reg Try.f14 2) false) (Code.seq (Code.region 3 (reg Try.f14 3) false) Code.ret))))
theorem disk_Disk_Bytes.body : Try.f14.body = some disk_Disk_Bytes.code := by kernel_rfl
theorem disk_Disk_Bytes.eta {T : List Value} (h : T.length = 17) : T = [T.getD 0 undef,T.getD 1 undef,T.getD 2 undef,T.getD 3 undef,T.getD 4 undef,T.getD 5 undef,T.getD 6 undef,T.getD 7 undef,T.getD 8 undef,T.getD 9 undef,T.getD 10 undef,T.getD 11 undef,T.getD 12 undef,T.getD 13 undef,T.getD 14 undef,T.getD 15 undef,T.getD 16 undef] := (list_getD T 17 h).trans (by kernel_rfl)
theorem disk_Disk_Bytes.r0 (x0 x1 x2 x3 x4 x5 x6 x7 x8 x9 x10 x11 x12 x13 x14 x15 x16 : Value) (S : AHeap) : vOps Try.prog ⟨true, false, false⟩ (callF O0.hp true (vlim Try.prog O0)) (reg Try.f14 0) (reg Try.f14 0).toList ([x0,x1,x2,x3,x4,x5,x6,x7,x8,x9,x10,x11,x12,x13,x14,x15,x16]) S =
    ( some ([x0,x1,Value.slice none 0 0,x3,x4,x5,x6,x7,x8,x9,x10,x11,x12,x13,x14,x15,x16], S)) := by
  refine vOps_pure (v := (Value.slice none 0 0)) (o := opAt Try.f14 0 0) (rest := (reg Try.f14 0).toList.drop 1) (by kernel_rfl) (by kernel_rfl) (fun _ => rfl) (by kernel_rfl) ?_
  kernel_rfl
theorem disk_Disk_Bytes.r1 (x0 x1 x2 x3 x4 x5 x6 x7 x8 x9 x10 x11 x12 x13 x14 x15 x16 : Value) (S : AHeap) : vOps Try.prog ⟨true, false, false⟩ (callF O0.hp true (vlim Try.prog O0)) (reg Try.f14 1) (reg Try.f14 1).toList ([x0,x1,x2,x3,x4,x5,x6,x7,x8,x9,x10,x11,x12,x13,x14,x15,x16]) S =
    (andK (vNilCheck (dem x0) S) (fun v1 S1 => andK (vFieldAddr Try.prog 49 v1 0 S1) (fun v2 S2 => andK (vLoad Try.prog false 27 v2 S2) (fun v3 S3 => andK (vLen Try.prog 27 v3 S3) (fun v4 S4 => andK (aMakeSlice Try.prog 27 v4 v4 S4) (fun v5 S5 => some ([x0,x1,x2,v5,dem x0,v1,v2,v3,v4,dem v5,x10,x11,x12,x13,x14,x15,x16], S5)) ()) ()) ()) ()) ()) := by
  refine vOps_pure (v := x0) (o := opAt Try.f14 1 0) (rest := (reg Try.f14 1).toList.drop 1) (by kernel_rfl) (by kernel_rfl) (fun _ => rfl) (by kernel_rfl) ?_
  refine vOps_do (o := opAt Try.f14 1 1) (rest := (reg Try.f14 1).toList.drop 2) (by kernel_rfl) (by kernel_rfl) (fun _ => rfl) (by kernel_rfl) (fun v1 S1 => ?_)
  refine vOps_do (o := opAt Try.f14 1 2) (rest := (reg Try.f14 1).toList.drop 3) (by kernel_rfl) (by kernel_rfl) (fun _ => rfl) (by kernel_rfl) (fun v2 S2 => ?_)
  refine vOps_do (o := opAt Try.f14 1 3) (rest := (reg Try.f14 1).toList.drop 4) (by kernel_rfl) (by kernel_rfl) (fun _ => rfl) (by kernel_rfl) (fun v3 S3 => ?_)
  refine vOps_do (o := opAt Try.f14 1 4) (rest := (reg Try.f14 1).toList.drop 5) (by kernel_rfl) (by kernel_rfl) (fun _ => rfl) (by kernel_rfl) (fun v4 S4 => ?_)
  refine vOps_do (o := opAt Try.f14 1 5) (rest := (reg Try.f14 1).toList.drop 6) (by kernel_rfl) (by kernel_rfl) (fun _ => rfl) (by kernel_rfl) (fun v5 S5 => ?_)
  refine vOps_pure (v := v5) (o := opAt Try.f14 1 6) (rest := (reg Try.f14 1).toList.drop 7) (by kernel_rfl) (by kernel_rfl) (fun _ => rfl) (by kernel_rfl) ?_
  kernel_rfl
theorem disk_Disk_Bytes.r2 (x0 x1 x2 x3 x4 x5 x6 x7 x8 x9 x10 x11 x12 x13 x14 x15 x16 : Value) (S : AHeap) : vOps Try.prog ⟨true, false, false⟩ (callF O0.hp true (vlim Try.prog O0)) (reg Try.f14 2) (reg Try.f14 2).toList ([x0,x1,x2,x3,x4,x5,x6,x7,x8,x9,x10,x11,x12,x13,x14,x15,x16]) S =
    (andK (vNilCheck (dem x0) S) (fun v2 S1 => andK (vFieldAddr Try.prog 49 v2 0 S1) (fun v3 S2 => andK (vLoad Try.prog false 27 v3 S2) (fun v4 S3 => andK (vCopy Try.prog 27 27 (dem x3) v4 S3) (fun v5 S4 => some ([x0,x1,x2,x3,x4,x5,x6,x7,x8,x9,dem x3,dem x0,v2,v3,v4,v5,x16], S4)) ()) ()) ()) ()) := by
  refine vOps_pure (v := x3) (o := opAt Try.f14 2 0) (rest := (reg Try.f14 2).toList.drop 1) (by kernel_rfl) (by kernel_rfl) (fun _ => rfl) (by kernel_rfl) ?_
  refine vOps_pure (v := x0) (o := opAt Try.f14 2 1) (rest := (reg Try.f14 2).toList.drop 2) (by kernel_rfl) (by kernel_rfl) (fun _ => rfl) (by kernel_rfl) ?_
  refine vOps_do (o := opAt Try.f14 2 2) (rest := (reg Try.f14 2).toList.drop 3) (by kernel_rfl) (by kernel_rfl) (fun _ => rfl) (by kernel_rfl) (fun v2 S1 => ?_)
  refine vOps_do (o := opAt Try.f14 2 3) (rest := (reg Try.f14 2).toList.drop 4) (by kernel_rfl) (by kernel_rfl) (fun _ => rfl) (by kernel_rfl) (fun v3 S2 => ?_)
  refine vOps_do (o := opAt Try.f14 2 4) (rest := (reg Try.f14 2).toList.drop 5) (by kernel_rfl) (by kernel_rfl) (fun _ => rfl) (by kernel_rfl) (fun v4 S3 => ?_)
  refine vOps_do (o := opAt Try.f14 2 5) (rest := (reg Try.f14 2).toList.drop 6) (by kernel_rfl) (by kernel_rfl) (fun _ => rfl) (by kernel_rfl) (fun v5 S4 => ?_)
  kernel_rfl
theorem disk_Disk_Bytes.r3 (x0 x1 x2 x3 x4 x5 x6 x7 x8 x9 x10 x11 x12 x13 x14 x15 x16 : Value) (S : AHeap) : vOps Try.prog ⟨true, false, false⟩ (callF O0.hp true (vlim Try.prog O0)) (reg Try.f14 3) (reg Try.f14 3).toList ([x0,x1,x2,x3,x4,x5,x6,x7,x8,x9,x10,x11,x12,x13,x14,x15,x16]) S =
    ( some ([x0,x1,x3,dem x3,x4,x5,x6,x7,x8,x9,x10,x11,x12,x13,x14,x15,dem x3], S)) := by
  refine vOps_pure (v := x3) (o := opAt Try.f14 3 0) (rest := (reg Try.f14 3).toList.drop 1) (by kernel_rfl) (by kernel_rfl) (fun _ => rfl) (by kernel_rfl) ?_
  refine vOps_pure (v := x3) (o := opAt Try.f14 3 1) (rest := (reg Try.f14 3).toList.drop 2) (by kernel_rfl) (by kernel_rfl) (fun _ => rfl) (by kernel_rfl) ?_
  kernel_rfl
theorem disk_Disk_Bytes.runs {x0 : Value} {S S1 : AHeap} {e : AEx} {T : List Value} (h : vcodeV Try.prog O0 true disk_Disk_Bytes.code ([x0,undef,undef,undef,undef,undef,undef,undef,undef,undef,undef,undef,undef,undef,undef,undef,undef]) S = some (e, T, S1)) (he : e = .normal ∨ e = .ret) : vlim Try.prog O0 14 [x0] S = some (T.getD 2 undef, S1) :=
  vlim_code rfl rfl Try.func14 (by decide) disk_Disk_Bytes.body (by exact h) he (vRes_one (a := T.getD 2 undef) ((show vResVals Try.prog T S1 Try.f14.results.toList = vResVals Try.prog T S1 [(ResultVar.tmp 2)] from by kernel_rfl).trans (by simp only [vResVals])) (by kernel_rfl))
end Go.Proofs.Ytgfpjnblookppaa
