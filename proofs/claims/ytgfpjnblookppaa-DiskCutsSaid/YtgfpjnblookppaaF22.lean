/-
The seat's functions in a shallow form: each region as a chain of the interpreter's operations. Printed by a program; Lean checks each row.
-/
import Derived.Test.YtgfpjnblookppaaChecked
import Derived.Test.YtgfpjnblookppaaOra
import Derived.KernelRfl
set_option linter.unusedVariables false
set_option maxRecDepth 100000
namespace Go.Proofs.Ytgfpjnblookppaa
open Go.Abs

/-- (*neaptide.disk.Disk).Cut -/
abbrev disk_Disk_Cut.id : FuncId := 22
noncomputable def disk_Disk_Cut.code : Code := (Code.seq (Code.region 0 (reg Try.f22 0) true) (Code.region 1 (reg Try.f22 1) true))
theorem disk_Disk_Cut.body : Try.f22.body = some disk_Disk_Cut.code := by kernel_rfl
theorem disk_Disk_Cut.eta {T : List Value} (h : T.length = 33) : T = [T.getD 0 undef,T.getD 1 undef,T.getD 2 undef,T.getD 3 undef,T.getD 4 undef,T.getD 5 undef,T.getD 6 undef,T.getD 7 undef,T.getD 8 undef,T.getD 9 undef,T.getD 10 undef,T.getD 11 undef,T.getD 12 undef,T.getD 13 undef,T.getD 14 undef,T.getD 15 undef,T.getD 16 undef,T.getD 17 undef,T.getD 18 undef,T.getD 19 undef,T.getD 20 undef,T.getD 21 undef,T.getD 22 undef,T.getD 23 undef,T.getD 24 undef,T.getD 25 undef,T.getD 26 undef,T.getD 27 undef,T.getD 28 undef,T.getD 29 undef,T.getD 30 undef,T.getD 31 undef,T.getD 32 undef] := (list_getD T 33 h).trans (by kernel_rfl)
theorem disk_Disk_Cut.d0 : drawnOk Try.prog (reg Try.f22 0) = true := by kernel_rfl
theorem disk_Disk_Cut.x0 : fixed Try.prog (reg Try.f22 0) = false := by kernel_rfl
theorem disk_Disk_Cut.k0 : checked Try.prog (reg Try.f22 0) = [] := by kernel_rfl
theorem disk_Disk_Cut.r0 (x0 x1 x2 x3 x4 x5 x6 x7 x8 x9 x10 x11 x12 x13 x14 x15 x16 x17 x18 x19 x20 x21 x22 x23 x24 x25 x26 x27 x28 x29 x30 x31 x32 : Value) (S : AHeap) : vcodeV Try.prog O false (.region 0 (reg Try.f22 0) true) ([x0,x1,x2,x3,x4,x5,x6,x7,x8,x9,x10,x11,x12,x13,x14,x15,x16,x17,x18,x19,x20,x21,x22,x23,x24,x25,x26,x27,x28,x29,x30,x31,x32]) S =
    regV (andK (vNilCheck (dem x0) S) (fun v2 S1 => andK (vFieldAddr Try.prog 49 v2 0 S1) (fun v3 S2 => andK (vLoad Try.prog false 27 v3 S2) (fun v4 S3 => andK (vNilCheck (dem x0) S3) (fun v7 S4 => andK (vFieldAddr Try.prog 49 v7 0 S4) (fun v8 S5 => andK (vLoad Try.prog false 27 v8 S5) (fun v9 S6 => andK (vLen Try.prog 27 v9 S6) (fun v10 S7 => andK (vBuiltin Try.prog false Builtin.min #[3, 3] 3 [(dem x1), v10] S7) (fun v11 S8 => andK (vBuiltin Try.prog false Builtin.max #[3, 3] 3 [(Value.int IntKind.i64 0), v11] S8) (fun v12 S9 => andK (vSliceF Try.prog false 27 v4 none (some v12) S9) (fun v13 S10 => andK (vNilCheck (dem x0) S10) (fun v14 S11 => andK (vFieldAddr Try.prog 49 v14 0 S11) (fun v15 S12 => andK (vStore Try.prog 27 v15 (dem v13) S12) (fun v16 S13 => some ([x0,x1,x2,x3,dem x0,dem x0,v2,v3,v4,dem x1,dem x0,v7,v8,v9,v10,v11,v12,v13,v14,v15,x20,x21,x22,x23,x24,x25,x26,x27,x28,x29,x30,x31,x32], S13)) ()) ()) ()) ()) ()) ()) ()) ()) ()) ()) ()) ()) ()) := by
  rw [vcodeV_drawn disk_Disk_Cut.d0 disk_Disk_Cut.x0 disk_Disk_Cut.k0]
  refine congrArg regV ?_
  refine vOpsD_pure (v := x0) (o := opAt Try.f22 0 0) (rest := (reg Try.f22 0).toList.drop 1) (by kernel_rfl) (by kernel_rfl) (by kernel_rfl) (fun _ => rfl) (by kernel_rfl) ?_
  refine vOpsD_pure (v := x0) (o := opAt Try.f22 0 1) (rest := (reg Try.f22 0).toList.drop 2) (by kernel_rfl) (by kernel_rfl) (by kernel_rfl) (fun _ => rfl) (by kernel_rfl) ?_
  refine vOpsD_do (o := opAt Try.f22 0 2) (rest := (reg Try.f22 0).toList.drop 3) (by kernel_rfl) (by kernel_rfl) (by kernel_rfl) (fun _ => rfl) (by kernel_rfl) (fun v2 S1 => ?_)
  refine vOpsD_do (o := opAt Try.f22 0 3) (rest := (reg Try.f22 0).toList.drop 4) (by kernel_rfl) (by kernel_rfl) (by kernel_rfl) (fun _ => rfl) (by kernel_rfl) (fun v3 S2 => ?_)
  refine vOpsD_do (o := opAt Try.f22 0 4) (rest := (reg Try.f22 0).toList.drop 5) (by kernel_rfl) (by kernel_rfl) (by kernel_rfl) (fun _ => rfl) (by kernel_rfl) (fun v4 S3 => ?_)
  refine vOpsD_pure (v := x1) (o := opAt Try.f22 0 5) (rest := (reg Try.f22 0).toList.drop 6) (by kernel_rfl) (by kernel_rfl) (by kernel_rfl) (fun _ => rfl) (by kernel_rfl) ?_
  refine vOpsD_pure (v := x0) (o := opAt Try.f22 0 6) (rest := (reg Try.f22 0).toList.drop 7) (by kernel_rfl) (by kernel_rfl) (by kernel_rfl) (fun _ => rfl) (by kernel_rfl) ?_
  refine vOpsD_do (o := opAt Try.f22 0 7) (rest := (reg Try.f22 0).toList.drop 8) (by kernel_rfl) (by kernel_rfl) (by kernel_rfl) (fun _ => rfl) (by kernel_rfl) (fun v7 S4 => ?_)
  refine vOpsD_do (o := opAt Try.f22 0 8) (rest := (reg Try.f22 0).toList.drop 9) (by kernel_rfl) (by kernel_rfl) (by kernel_rfl) (fun _ => rfl) (by kernel_rfl) (fun v8 S5 => ?_)
  refine vOpsD_do (o := opAt Try.f22 0 9) (rest := (reg Try.f22 0).toList.drop 10) (by kernel_rfl) (by kernel_rfl) (by kernel_rfl) (fun _ => rfl) (by kernel_rfl) (fun v9 S6 => ?_)
  refine vOpsD_do (o := opAt Try.f22 0 10) (rest := (reg Try.f22 0).toList.drop 11) (by kernel_rfl) (by kernel_rfl) (by kernel_rfl) (fun _ => rfl) (by kernel_rfl) (fun v10 S7 => ?_)
  refine vOpsD_do (o := opAt Try.f22 0 11) (rest := (reg Try.f22 0).toList.drop 12) (by kernel_rfl) (by kernel_rfl) (by kernel_rfl) (fun _ => rfl) (by kernel_rfl) (fun v11 S8 => ?_)
  refine vOpsD_do (o := opAt Try.f22 0 12) (rest := (reg Try.f22 0).toList.drop 13) (by kernel_rfl) (by kernel_rfl) (by kernel_rfl) (fun _ => rfl) (by kernel_rfl) (fun v12 S9 => ?_)
  refine vOpsD_do (o := opAt Try.f22 0 13) (rest := (reg Try.f22 0).toList.drop 14) (by kernel_rfl) (by kernel_rfl) (by kernel_rfl) (fun _ => rfl) (by kernel_rfl) (fun v13 S10 => ?_)
  refine vOpsD_do (o := opAt Try.f22 0 14) (rest := (reg Try.f22 0).toList.drop 15) (by kernel_rfl) (by kernel_rfl) (by kernel_rfl) (fun _ => rfl) (by kernel_rfl) (fun v14 S11 => ?_)
  refine vOpsD_do (o := opAt Try.f22 0 15) (rest := (reg Try.f22 0).toList.drop 16) (by kernel_rfl) (by kernel_rfl) (by kernel_rfl) (fun _ => rfl) (by kernel_rfl) (fun v15 S12 => ?_)
  refine vOpsD_do (o := opAt Try.f22 0 16) (rest := (reg Try.f22 0).toList.drop 17) (by kernel_rfl) (by kernel_rfl) (by kernel_rfl) (fun _ => rfl) (by kernel_rfl) (fun v16 S13 => ?_)
  kernel_rfl
theorem disk_Disk_Cut.d1 : drawnOk Try.prog (reg Try.f22 1) = true := by kernel_rfl
theorem disk_Disk_Cut.x1 : fixed Try.prog (reg Try.f22 1) = false := by kernel_rfl
theorem disk_Disk_Cut.k1 : checked Try.prog (reg Try.f22 1) = [] := by kernel_rfl
theorem disk_Disk_Cut.r1 (x0 x1 x2 x3 x4 x5 x6 x7 x8 x9 x10 x11 x12 x13 x14 x15 x16 x17 x18 x19 x20 x21 x22 x23 x24 x25 x26 x27 x28 x29 x30 x31 x32 : Value) (S : AHeap) : vcodeV Try.prog O false (.region 1 (reg Try.f22 1) true) ([x0,x1,x2,x3,x4,x5,x6,x7,x8,x9,x10,x11,x12,x13,x14,x15,x16,x17,x18,x19,x20,x21,x22,x23,x24,x25,x26,x27,x28,x29,x30,x31,x32]) S =
    regV (andK (vNilCheck (dem x0) S) (fun v2 S1 => andK (vFieldAddr Try.prog 49 v2 1 S1) (fun v3 S2 => andK (vLoad Try.prog false 3 v3 S2) (fun v4 S3 => andK (vNilCheck (dem x0) S3) (fun v6 S4 => andK (vFieldAddr Try.prog 49 v6 0 S4) (fun v7 S5 => andK (vLoad Try.prog false 27 v7 S5) (fun v8 S6 => andK (vLen Try.prog 27 v8 S6) (fun v9 S7 => andK (vBuiltin Try.prog false Builtin.min #[3, 3] 3 [v4, v9] S7) (fun v10 S8 => andK (vNilCheck (dem x0) S8) (fun v11 S9 => andK (vFieldAddr Try.prog 49 v11 1 S9) (fun v12 S10 => andK (vStore Try.prog 3 v12 (dem v10) S10) (fun v13 S11 => some ([x0,x1,x2,x3,x4,x5,x6,x7,x8,x9,x10,x11,x12,x13,x14,x15,x16,x17,x18,x19,dem x0,dem x0,v2,v3,v4,dem x0,v6,v7,v8,v9,v10,v11,v12], S11)) ()) ()) ()) ()) ()) ()) ()) ()) ()) ()) ()) := by
  rw [vcodeV_drawn disk_Disk_Cut.d1 disk_Disk_Cut.x1 disk_Disk_Cut.k1]
  refine congrArg regV ?_
  refine vOpsD_pure (v := x0) (o := opAt Try.f22 1 0) (rest := (reg Try.f22 1).toList.drop 1) (by kernel_rfl) (by kernel_rfl) (by kernel_rfl) (fun _ => rfl) (by kernel_rfl) ?_
  refine vOpsD_pure (v := x0) (o := opAt Try.f22 1 1) (rest := (reg Try.f22 1).toList.drop 2) (by kernel_rfl) (by kernel_rfl) (by kernel_rfl) (fun _ => rfl) (by kernel_rfl) ?_
  refine vOpsD_do (o := opAt Try.f22 1 2) (rest := (reg Try.f22 1).toList.drop 3) (by kernel_rfl) (by kernel_rfl) (by kernel_rfl) (fun _ => rfl) (by kernel_rfl) (fun v2 S1 => ?_)
  refine vOpsD_do (o := opAt Try.f22 1 3) (rest := (reg Try.f22 1).toList.drop 4) (by kernel_rfl) (by kernel_rfl) (by kernel_rfl) (fun _ => rfl) (by kernel_rfl) (fun v3 S2 => ?_)
  refine vOpsD_do (o := opAt Try.f22 1 4) (rest := (reg Try.f22 1).toList.drop 5) (by kernel_rfl) (by kernel_rfl) (by kernel_rfl) (fun _ => rfl) (by kernel_rfl) (fun v4 S3 => ?_)
  refine vOpsD_pure (v := x0) (o := opAt Try.f22 1 5) (rest := (reg Try.f22 1).toList.drop 6) (by kernel_rfl) (by kernel_rfl) (by kernel_rfl) (fun _ => rfl) (by kernel_rfl) ?_
  refine vOpsD_do (o := opAt Try.f22 1 6) (rest := (reg Try.f22 1).toList.drop 7) (by kernel_rfl) (by kernel_rfl) (by kernel_rfl) (fun _ => rfl) (by kernel_rfl) (fun v6 S4 => ?_)
  refine vOpsD_do (o := opAt Try.f22 1 7) (rest := (reg Try.f22 1).toList.drop 8) (by kernel_rfl) (by kernel_rfl) (by kernel_rfl) (fun _ => rfl) (by kernel_rfl) (fun v7 S5 => ?_)
  refine vOpsD_do (o := opAt Try.f22 1 8) (rest := (reg Try.f22 1).toList.drop 9) (by kernel_rfl) (by kernel_rfl) (by kernel_rfl) (fun _ => rfl) (by kernel_rfl) (fun v8 S6 => ?_)
  refine vOpsD_do (o := opAt Try.f22 1 9) (rest := (reg Try.f22 1).toList.drop 10) (by kernel_rfl) (by kernel_rfl) (by kernel_rfl) (fun _ => rfl) (by kernel_rfl) (fun v9 S7 => ?_)
  refine vOpsD_do (o := opAt Try.f22 1 10) (rest := (reg Try.f22 1).toList.drop 11) (by kernel_rfl) (by kernel_rfl) (by kernel_rfl) (fun _ => rfl) (by kernel_rfl) (fun v10 S8 => ?_)
  refine vOpsD_do (o := opAt Try.f22 1 11) (rest := (reg Try.f22 1).toList.drop 12) (by kernel_rfl) (by kernel_rfl) (by kernel_rfl) (fun _ => rfl) (by kernel_rfl) (fun v11 S9 => ?_)
  refine vOpsD_do (o := opAt Try.f22 1 12) (rest := (reg Try.f22 1).toList.drop 13) (by kernel_rfl) (by kernel_rfl) (by kernel_rfl) (fun _ => rfl) (by kernel_rfl) (fun v12 S10 => ?_)
  refine vOpsD_do (o := opAt Try.f22 1 13) (rest := (reg Try.f22 1).toList.drop 14) (by kernel_rfl) (by kernel_rfl) (by kernel_rfl) (fun _ => rfl) (by kernel_rfl) (fun v13 S11 => ?_)
  kernel_rfl
theorem disk_Disk_Cut.runs {x0 x1 : Value} {S S1 : AHeap} {e : AEx} {T : List Value} (h : vcodeV Try.prog O false disk_Disk_Cut.code ([x0,x1,undef,undef,undef,undef,undef,undef,undef,undef,undef,undef,undef,undef,undef,undef,undef,undef,undef,undef,undef,undef,undef,undef,undef,undef,undef,undef,undef,undef,undef,undef,undef]) S = some (e, T, S1)) (he : e = .normal ∨ e = .ret) : vlim Try.prog O 22 [x0, x1] S = some (Value.tuple #[], S1) :=
  vlim_code rfl rfl Try.func22 (by decide) disk_Disk_Cut.body (by exact h) he rfl
end Go.Proofs.Ytgfpjnblookppaa
