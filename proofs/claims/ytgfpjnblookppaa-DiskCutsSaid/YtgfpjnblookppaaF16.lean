/-
The seat's functions in a shallow form: each region as a chain of the interpreter's operations. Printed by a program; Lean checks each row.
-/
import Derived.Test.YtgfpjnblookppaaChecked
import Derived.Test.YtgfpjnblookppaaOra
import Derived.KernelRfl
set_option linter.unusedVariables false
set_option maxRecDepth 100000
namespace Go.Proofs.Ytgfpjnblookppaa
open Go.Abs

/-- (*neaptide.disk.Disk).Crash -/
abbrev disk_Disk_Crash.id : FuncId := 16
noncomputable def disk_Disk_Crash.code : Code := (Code.seq (Code.region 0 (reg Try.f16 0) true) (Code.region 1 (reg Try.f16 1) false))
theorem disk_Disk_Crash.body : Try.f16.body = some disk_Disk_Crash.code := by kernel_rfl
theorem disk_Disk_Crash.eta {T : List Value} (h : T.length = 32) : T = [T.getD 0 undef,T.getD 1 undef,T.getD 2 undef,T.getD 3 undef,T.getD 4 undef,T.getD 5 undef,T.getD 6 undef,T.getD 7 undef,T.getD 8 undef,T.getD 9 undef,T.getD 10 undef,T.getD 11 undef,T.getD 12 undef,T.getD 13 undef,T.getD 14 undef,T.getD 15 undef,T.getD 16 undef,T.getD 17 undef,T.getD 18 undef,T.getD 19 undef,T.getD 20 undef,T.getD 21 undef,T.getD 22 undef,T.getD 23 undef,T.getD 24 undef,T.getD 25 undef,T.getD 26 undef,T.getD 27 undef,T.getD 28 undef,T.getD 29 undef,T.getD 30 undef,T.getD 31 undef] := (list_getD T 32 h).trans (by kernel_rfl)
theorem disk_Disk_Crash.d0 : drawnOk Try.prog (reg Try.f16 0) = true := by kernel_rfl
theorem disk_Disk_Crash.x0 : fixed Try.prog (reg Try.f16 0) = false := by kernel_rfl
theorem disk_Disk_Crash.k0 : checked Try.prog (reg Try.f16 0) = [] := by kernel_rfl
theorem disk_Disk_Crash.r0 (x0 x1 x2 x3 x4 x5 x6 x7 x8 x9 x10 x11 x12 x13 x14 x15 x16 x17 x18 x19 x20 x21 x22 x23 x24 x25 x26 x27 x28 x29 x30 x31 : Value) (S : AHeap) : vcodeV Try.prog O false (.region 0 (reg Try.f16 0) true) ([x0,x1,x2,x3,x4,x5,x6,x7,x8,x9,x10,x11,x12,x13,x14,x15,x16,x17,x18,x19,x20,x21,x22,x23,x24,x25,x26,x27,x28,x29,x30,x31]) S =
    regV (andK (vNilCheck (dem x0) S) (fun v2 S1 => andK (vFieldAddr Try.prog 49 v2 0 S1) (fun v3 S2 => andK (vLoad Try.prog false 27 v3 S2) (fun v4 S3 => andK (vNilCheck (dem x0) S3) (fun v6 S4 => andK (vFieldAddr Try.prog 49 v6 1 S4) (fun v7 S5 => andK (vLoad Try.prog false 3 v7 S5) (fun v8 S6 => andK (vNilCheck (dem x0) S6) (fun v11 S7 => andK (vFieldAddr Try.prog 49 v11 0 S7) (fun v12 S8 => andK (vLoad Try.prog false 27 v12 S8) (fun v13 S9 => andK (vLen Try.prog 27 v13 S9) (fun v14 S10 => andK (vNilCheck (dem x0) S10) (fun v16 S11 => andK (vFieldAddr Try.prog 49 v16 1 S11) (fun v17 S12 => andK (vLoad Try.prog false 3 v17 S12) (fun v18 S13 => andK (vBin Try.prog BinOp.sub 3 v14 v18 S13) (fun v19 S14 => andK (vBuiltin Try.prog false Builtin.min #[3, 3] 3 [(dem x1), v19] S14) (fun v20 S15 => andK (vBuiltin Try.prog false Builtin.max #[3, 3] 3 [(Value.int IntKind.i64 0), v20] S15) (fun v21 S16 => andK (vBin Try.prog BinOp.add 3 v8 v21 S16) (fun v22 S17 => andK (vSliceF Try.prog false 27 v4 none (some v22) S17) (fun v23 S18 => andK (vNilCheck (dem x0) S18) (fun v24 S19 => andK (vFieldAddr Try.prog 49 v24 0 S19) (fun v25 S20 => andK (vStore Try.prog 27 v25 (dem v23) S20) (fun v26 S21 => some ([x0,x1,x2,x3,dem x0,dem x0,v2,v3,v4,dem x0,v6,v7,v8,dem x1,dem x0,v11,v12,v13,v14,dem x0,v16,v17,v18,v19,v20,v21,v22,v23,v24,v25,x30,x31], S21)) ()) ()) ()) ()) ()) ()) ()) ()) ()) ()) ()) ()) ()) ()) ()) ()) ()) ()) ()) ()) ()) := by
  rw [vcodeV_drawn disk_Disk_Crash.d0 disk_Disk_Crash.x0 disk_Disk_Crash.k0]
  refine congrArg regV ?_
  refine vOpsD_pure (v := x0) (o := opAt Try.f16 0 0) (rest := (reg Try.f16 0).toList.drop 1) (by kernel_rfl) (by kernel_rfl) (by kernel_rfl) (fun _ => rfl) (by kernel_rfl) ?_
  refine vOpsD_pure (v := x0) (o := opAt Try.f16 0 1) (rest := (reg Try.f16 0).toList.drop 2) (by kernel_rfl) (by kernel_rfl) (by kernel_rfl) (fun _ => rfl) (by kernel_rfl) ?_
  refine vOpsD_do (o := opAt Try.f16 0 2) (rest := (reg Try.f16 0).toList.drop 3) (by kernel_rfl) (by kernel_rfl) (by kernel_rfl) (fun _ => rfl) (by kernel_rfl) (fun v2 S1 => ?_)
  refine vOpsD_do (o := opAt Try.f16 0 3) (rest := (reg Try.f16 0).toList.drop 4) (by kernel_rfl) (by kernel_rfl) (by kernel_rfl) (fun _ => rfl) (by kernel_rfl) (fun v3 S2 => ?_)
  refine vOpsD_do (o := opAt Try.f16 0 4) (rest := (reg Try.f16 0).toList.drop 5) (by kernel_rfl) (by kernel_rfl) (by kernel_rfl) (fun _ => rfl) (by kernel_rfl) (fun v4 S3 => ?_)
  refine vOpsD_pure (v := x0) (o := opAt Try.f16 0 5) (rest := (reg Try.f16 0).toList.drop 6) (by kernel_rfl) (by kernel_rfl) (by kernel_rfl) (fun _ => rfl) (by kernel_rfl) ?_
  refine vOpsD_do (o := opAt Try.f16 0 6) (rest := (reg Try.f16 0).toList.drop 7) (by kernel_rfl) (by kernel_rfl) (by kernel_rfl) (fun _ => rfl) (by kernel_rfl) (fun v6 S4 => ?_)
  refine vOpsD_do (o := opAt Try.f16 0 7) (rest := (reg Try.f16 0).toList.drop 8) (by kernel_rfl) (by kernel_rfl) (by kernel_rfl) (fun _ => rfl) (by kernel_rfl) (fun v7 S5 => ?_)
  refine vOpsD_do (o := opAt Try.f16 0 8) (rest := (reg Try.f16 0).toList.drop 9) (by kernel_rfl) (by kernel_rfl) (by kernel_rfl) (fun _ => rfl) (by kernel_rfl) (fun v8 S6 => ?_)
  refine vOpsD_pure (v := x1) (o := opAt Try.f16 0 9) (rest := (reg Try.f16 0).toList.drop 10) (by kernel_rfl) (by kernel_rfl) (by kernel_rfl) (fun _ => rfl) (by kernel_rfl) ?_
  refine vOpsD_pure (v := x0) (o := opAt Try.f16 0 10) (rest := (reg Try.f16 0).toList.drop 11) (by kernel_rfl) (by kernel_rfl) (by kernel_rfl) (fun _ => rfl) (by kernel_rfl) ?_
  refine vOpsD_do (o := opAt Try.f16 0 11) (rest := (reg Try.f16 0).toList.drop 12) (by kernel_rfl) (by kernel_rfl) (by kernel_rfl) (fun _ => rfl) (by kernel_rfl) (fun v11 S7 => ?_)
  refine vOpsD_do (o := opAt Try.f16 0 12) (rest := (reg Try.f16 0).toList.drop 13) (by kernel_rfl) (by kernel_rfl) (by kernel_rfl) (fun _ => rfl) (by kernel_rfl) (fun v12 S8 => ?_)
  refine vOpsD_do (o := opAt Try.f16 0 13) (rest := (reg Try.f16 0).toList.drop 14) (by kernel_rfl) (by kernel_rfl) (by kernel_rfl) (fun _ => rfl) (by kernel_rfl) (fun v13 S9 => ?_)
  refine vOpsD_do (o := opAt Try.f16 0 14) (rest := (reg Try.f16 0).toList.drop 15) (by kernel_rfl) (by kernel_rfl) (by kernel_rfl) (fun _ => rfl) (by kernel_rfl) (fun v14 S10 => ?_)
  refine vOpsD_pure (v := x0) (o := opAt Try.f16 0 15) (rest := (reg Try.f16 0).toList.drop 16) (by kernel_rfl) (by kernel_rfl) (by kernel_rfl) (fun _ => rfl) (by kernel_rfl) ?_
  refine vOpsD_do (o := opAt Try.f16 0 16) (rest := (reg Try.f16 0).toList.drop 17) (by kernel_rfl) (by kernel_rfl) (by kernel_rfl) (fun _ => rfl) (by kernel_rfl) (fun v16 S11 => ?_)
  refine vOpsD_do (o := opAt Try.f16 0 17) (rest := (reg Try.f16 0).toList.drop 18) (by kernel_rfl) (by kernel_rfl) (by kernel_rfl) (fun _ => rfl) (by kernel_rfl) (fun v17 S12 => ?_)
  refine vOpsD_do (o := opAt Try.f16 0 18) (rest := (reg Try.f16 0).toList.drop 19) (by kernel_rfl) (by kernel_rfl) (by kernel_rfl) (fun _ => rfl) (by kernel_rfl) (fun v18 S13 => ?_)
  refine vOpsD_do (o := opAt Try.f16 0 19) (rest := (reg Try.f16 0).toList.drop 20) (by kernel_rfl) (by kernel_rfl) (by kernel_rfl) (fun _ => rfl) (by kernel_rfl) (fun v19 S14 => ?_)
  refine vOpsD_do (o := opAt Try.f16 0 20) (rest := (reg Try.f16 0).toList.drop 21) (by kernel_rfl) (by kernel_rfl) (by kernel_rfl) (fun _ => rfl) (by kernel_rfl) (fun v20 S15 => ?_)
  refine vOpsD_do (o := opAt Try.f16 0 21) (rest := (reg Try.f16 0).toList.drop 22) (by kernel_rfl) (by kernel_rfl) (by kernel_rfl) (fun _ => rfl) (by kernel_rfl) (fun v21 S16 => ?_)
  refine vOpsD_do (o := opAt Try.f16 0 22) (rest := (reg Try.f16 0).toList.drop 23) (by kernel_rfl) (by kernel_rfl) (by kernel_rfl) (fun _ => rfl) (by kernel_rfl) (fun v22 S17 => ?_)
  refine vOpsD_do (o := opAt Try.f16 0 23) (rest := (reg Try.f16 0).toList.drop 24) (by kernel_rfl) (by kernel_rfl) (by kernel_rfl) (fun _ => rfl) (by kernel_rfl) (fun v23 S18 => ?_)
  refine vOpsD_do (o := opAt Try.f16 0 24) (rest := (reg Try.f16 0).toList.drop 25) (by kernel_rfl) (by kernel_rfl) (by kernel_rfl) (fun _ => rfl) (by kernel_rfl) (fun v24 S19 => ?_)
  refine vOpsD_do (o := opAt Try.f16 0 25) (rest := (reg Try.f16 0).toList.drop 26) (by kernel_rfl) (by kernel_rfl) (by kernel_rfl) (fun _ => rfl) (by kernel_rfl) (fun v25 S20 => ?_)
  refine vOpsD_do (o := opAt Try.f16 0 26) (rest := (reg Try.f16 0).toList.drop 27) (by kernel_rfl) (by kernel_rfl) (by kernel_rfl) (fun _ => rfl) (by kernel_rfl) (fun v26 S21 => ?_)
  kernel_rfl
theorem disk_Disk_Crash.r1 (x0 x1 x2 x3 x4 x5 x6 x7 x8 x9 x10 x11 x12 x13 x14 x15 x16 x17 x18 x19 x20 x21 x22 x23 x24 x25 x26 x27 x28 x29 x30 x31 : Value) (S : AHeap) : vOps Try.prog ⟨false, false, false⟩ (vlim Try.prog O) (reg Try.f16 1) (reg Try.f16 1).toList ([x0,x1,x2,x3,x4,x5,x6,x7,x8,x9,x10,x11,x12,x13,x14,x15,x16,x17,x18,x19,x20,x21,x22,x23,x24,x25,x26,x27,x28,x29,x30,x31]) S =
    (andK ((vlim Try.prog O) 13 [(dem (dem x0))] S) (fun v1 S1 => some ([x0,x1,x2,x3,x4,x5,x6,x7,x8,x9,x10,x11,x12,x13,x14,x15,x16,x17,x18,x19,x20,x21,x22,x23,x24,x25,x26,x27,x28,x29,dem x0,v1], S1)) ()) := by
  refine vOps_pure (v := x0) (o := opAt Try.f16 1 0) (rest := (reg Try.f16 1).toList.drop 1) (by kernel_rfl) (by kernel_rfl) (fun _ => rfl) (by kernel_rfl) ?_
  refine vOps_do (o := opAt Try.f16 1 1) (rest := (reg Try.f16 1).toList.drop 2) (by kernel_rfl) (by kernel_rfl) (fun _ => rfl) (by kernel_rfl) (fun v1 S1 => ?_)
  kernel_rfl
theorem disk_Disk_Crash.runs {x0 x1 : Value} {S S1 : AHeap} {e : AEx} {T : List Value} (h : vcodeV Try.prog O false disk_Disk_Crash.code ([x0,x1,undef,undef,undef,undef,undef,undef,undef,undef,undef,undef,undef,undef,undef,undef,undef,undef,undef,undef,undef,undef,undef,undef,undef,undef,undef,undef,undef,undef,undef,undef]) S = some (e, T, S1)) (he : e = .normal ∨ e = .ret) : vlim Try.prog O 16 [x0, x1] S = some (Value.tuple #[], S1) :=
  vlim_code rfl rfl Try.func16 (by decide) disk_Disk_Crash.body (by exact h) he rfl
end Go.Proofs.Ytgfpjnblookppaa
