/-
The seat's functions in a shallow form: each region as a chain of the interpreter's operations. Printed by a program; Lean checks each row.
-/
import Derived.Test.YtgfpjnblookppaaChecked
import Derived.Test.YtgfpjnblookppaaOra
import Derived.KernelRfl
set_option linter.unusedVariables false
set_option maxRecDepth 100000
namespace Go.Proofs.Ytgfpjnblookppaa
open Go.Abs

/-- (*neaptide.disk.Disk).Room -/
abbrev disk_Disk_Room.id : FuncId := 12
noncomputable def disk_Disk_Room.code : Code := (Code.seq (Code.region 0 (reg Try.f12 0) false) (Code.seq (Code.region 1 (reg Try.f12 1) true) Code.ret))
theorem disk_Disk_Room.body : Try.f12.body = some disk_Disk_Room.code := by kernel_rfl
theorem disk_Disk_Room.eta {T : List Value} (h : T.length = 14) : T = [T.getD 0 undef,T.getD 1 undef,T.getD 2 undef,T.getD 3 undef,T.getD 4 undef,T.getD 5 undef,T.getD 6 undef,T.getD 7 undef,T.getD 8 undef,T.getD 9 undef,T.getD 10 undef,T.getD 11 undef,T.getD 12 undef,T.getD 13 undef] := (list_getD T 14 h).trans (by kernel_rfl)
theorem disk_Disk_Room.r0 (x0 x1 x2 x3 x4 x5 x6 x7 x8 x9 x10 x11 x12 x13 : Value) (S : AHeap) : vOps Try.prog ⟨true, false, false⟩ (callF O.hp true (vlim Try.prog O)) (reg Try.f12 0) (reg Try.f12 0).toList ([x0,x1,x2,x3,x4,x5,x6,x7,x8,x9,x10,x11,x12,x13]) S =
    ( some ([x0,x1,Value.int IntKind.i64 0,x3,x4,x5,x6,x7,x8,x9,x10,x11,x12,x13], S)) := by
  refine vOps_pure (v := (Value.int IntKind.i64 0)) (o := opAt Try.f12 0 0) (rest := (reg Try.f12 0).toList.drop 1) (by kernel_rfl) (by kernel_rfl) (fun _ => rfl) (by kernel_rfl) ?_
  kernel_rfl
theorem disk_Disk_Room.d1 : drawnOk Try.prog (reg Try.f12 1) = true := by kernel_rfl
theorem disk_Disk_Room.x1 : fixed Try.prog (reg Try.f12 1) = false := by kernel_rfl
theorem disk_Disk_Room.k1 : checked Try.prog (reg Try.f12 1) = [] := by kernel_rfl
theorem disk_Disk_Room.r1 (x0 x1 x2 x3 x4 x5 x6 x7 x8 x9 x10 x11 x12 x13 : Value) (S : AHeap) : vcodeV Try.prog O true (.region 1 (reg Try.f12 1) true) ([x0,x1,x2,x3,x4,x5,x6,x7,x8,x9,x10,x11,x12,x13]) S =
    regV (andK (vNilCheck (dem x0) S) (fun v1 S1 => andK (vFieldAddr Try.prog 49 v1 2 S1) (fun v2 S2 => andK (vLoad Try.prog false 3 v2 S2) (fun v3 S3 => andK (vNilCheck (dem x0) S3) (fun v5 S4 => andK (vFieldAddr Try.prog 49 v5 0 S4) (fun v6 S5 => andK (vLoad Try.prog false 27 v6 S5) (fun v7 S6 => andK (vLen Try.prog 27 v7 S6) (fun v8 S7 => andK (vBin Try.prog BinOp.sub 3 v3 v8 S7) (fun v9 S8 => andK (vBuiltin Try.prog true Builtin.max #[3, 3] 3 [(Value.int IntKind.i64 0), v9] S8) (fun v10 S9 => some ([x0,x1,v10,dem x0,v1,v2,v3,dem x0,v5,v6,v7,v8,v9,dem v10], S9)) ()) ()) ()) ()) ()) ()) ()) ()) ()) := by
  rw [vcodeV_drawnH disk_Disk_Room.d1 disk_Disk_Room.x1 disk_Disk_Room.k1]
  refine congrArg regV ?_
  refine vOpsD_pure (v := x0) (o := opAt Try.f12 1 0) (rest := (reg Try.f12 1).toList.drop 1) (by kernel_rfl) (by kernel_rfl) (by kernel_rfl) (fun _ => rfl) (by kernel_rfl) ?_
  refine vOpsD_do (o := opAt Try.f12 1 1) (rest := (reg Try.f12 1).toList.drop 2) (by kernel_rfl) (by kernel_rfl) (by kernel_rfl) (fun _ => rfl) (by kernel_rfl) (fun v1 S1 => ?_)
  refine vOpsD_do (o := opAt Try.f12 1 2) (rest := (reg Try.f12 1).toList.drop 3) (by kernel_rfl) (by kernel_rfl) (by kernel_rfl) (fun _ => rfl) (by kernel_rfl) (fun v2 S2 => ?_)
  refine vOpsD_do (o := opAt Try.f12 1 3) (rest := (reg Try.f12 1).toList.drop 4) (by kernel_rfl) (by kernel_rfl) (by kernel_rfl) (fun _ => rfl) (by kernel_rfl) (fun v3 S3 => ?_)
  refine vOpsD_pure (v := x0) (o := opAt Try.f12 1 4) (rest := (reg Try.f12 1).toList.drop 5) (by kernel_rfl) (by kernel_rfl) (by kernel_rfl) (fun _ => rfl) (by kernel_rfl) ?_
  refine vOpsD_do (o := opAt Try.f12 1 5) (rest := (reg Try.f12 1).toList.drop 6) (by kernel_rfl) (by kernel_rfl) (by kernel_rfl) (fun _ => rfl) (by kernel_rfl) (fun v5 S4 => ?_)
  refine vOpsD_do (o := opAt Try.f12 1 6) (rest := (reg Try.f12 1).toList.drop 7) (by kernel_rfl) (by kernel_rfl) (by kernel_rfl) (fun _ => rfl) (by kernel_rfl) (fun v6 S5 => ?_)
  refine vOpsD_do (o := opAt Try.f12 1 7) (rest := (reg Try.f12 1).toList.drop 8) (by kernel_rfl) (by kernel_rfl) (by kernel_rfl) (fun _ => rfl) (by kernel_rfl) (fun v7 S6 => ?_)
  refine vOpsD_do (o := opAt Try.f12 1 8) (rest := (reg Try.f12 1).toList.drop 9) (by kernel_rfl) (by kernel_rfl) (by kernel_rfl) (fun _ => rfl) (by kernel_rfl) (fun v8 S7 => ?_)
  refine vOpsD_do (o := opAt Try.f12 1 9) (rest := (reg Try.f12 1).toList.drop 10) (by kernel_rfl) (by kernel_rfl) (by kernel_rfl) (fun _ => rfl) (by kernel_rfl) (fun v9 S8 => ?_)
  refine vOpsD_do (o := opAt Try.f12 1 10) (rest := (reg Try.f12 1).toList.drop 11) (by kernel_rfl) (by kernel_rfl) (by kernel_rfl) (fun _ => rfl) (by kernel_rfl) (fun v10 S9 => ?_)
  refine vOpsD_pure (v := v10) (o := opAt Try.f12 1 11) (rest := (reg Try.f12 1).toList.drop 12) (by kernel_rfl) (by kernel_rfl) (by kernel_rfl) (fun _ => rfl) (by kernel_rfl) ?_
  kernel_rfl
theorem disk_Disk_Room.runs {x0 : Value} {S S1 : AHeap} {e : AEx} {T : List Value} (h : vcodeV Try.prog O true disk_Disk_Room.code ([x0,undef,undef,undef,undef,undef,undef,undef,undef,undef,undef,undef,undef,undef]) S = some (e, T, S1)) (he : e = .normal ∨ e = .ret) : vlim Try.prog O 12 [x0] S = some (T.getD 2 undef, S1) :=
  vlim_code rfl rfl Try.func12 (by decide) disk_Disk_Room.body (by exact h) he (vRes_one (a := T.getD 2 undef) ((show vResVals Try.prog T S1 Try.f12.results.toList = vResVals Try.prog T S1 [(ResultVar.tmp 2)] from by kernel_rfl).trans (by simp only [vResVals])) (by kernel_rfl))
end Go.Proofs.Ytgfpjnblookppaa
