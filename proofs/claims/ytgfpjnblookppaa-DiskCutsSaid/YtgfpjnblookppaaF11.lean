/-
The seat's functions in a shallow form: each region as a chain of the interpreter's operations. Printed by a program; Lean checks each row.
-/
import Derived.Test.YtgfpjnblookppaaChecked
import Derived.Test.YtgfpjnblookppaaOra
import Derived.KernelRfl
set_option linter.unusedVariables false
set_option maxRecDepth 100000
namespace Go.Proofs.Ytgfpjnblookppaa
open Go.Abs

/-- (*neaptide.disk.Disk).Append -/
abbrev disk_Disk_Append.id : FuncId := 11
noncomputable def disk_Disk_Append.code : Code := (Code.seq (Code.region 0 (reg Try.f11 0) false) (Code.seq (Code.seq (Code.region 1 (reg Try.f11 1) false) (Code.cond (Operand.tmp 9) (Code.seq (Code.region 2 (reg Try.f11 2) false) Code.ret) Code.skip)) (Code.seq (Code.region 3 (reg Try.f11 3) false) (Code.seq (Code.region 4 (reg Try.f11 4) false) Code.ret))))
theorem disk_Disk_Append.body : Try.f11.body = some disk_Disk_Append.code := by kernel_rfl
theorem disk_Disk_Append.eta {T : List Value} (h : T.length = 19) : T = [T.getD 0 undef,T.getD 1 undef,T.getD 2 undef,T.getD 3 undef,T.getD 4 undef,T.getD 5 undef,T.getD 6 undef,T.getD 7 undef,T.getD 8 undef,T.getD 9 undef,T.getD 10 undef,T.getD 11 undef,T.getD 12 undef,T.getD 13 undef,T.getD 14 undef,T.getD 15 undef,T.getD 16 undef,T.getD 17 undef,T.getD 18 undef] := (list_getD T 19 h).trans (by kernel_rfl)
theorem disk_Disk_Append.r0 (x0 x1 x2 x3 x4 x5 x6 x7 x8 x9 x10 x11 x12 x13 x14 x15 x16 x17 x18 : Value) (S : AHeap) : vOps Try.prog ⟨true, false, false⟩ (callF O.hp true (vlim Try.prog O)) (reg Try.f11 0) (reg Try.f11 0).toList ([x0,x1,x2,x3,x4,x5,x6,x7,x8,x9,x10,x11,x12,x13,x14,x15,x16,x17,x18]) S =
    ( some ([x0,x1,x2,x3,Value.int IntKind.i64 0,x5,x6,x7,x8,x9,x10,x11,x12,x13,x14,x15,x16,x17,x18], S)) := by
  refine vOps_pure (v := (Value.int IntKind.i64 0)) (o := opAt Try.f11 0 0) (rest := (reg Try.f11 0).toList.drop 1) (by kernel_rfl) (by kernel_rfl) (fun _ => rfl) (by kernel_rfl) ?_
  kernel_rfl
theorem disk_Disk_Append.r1 (x0 x1 x2 x3 x4 x5 x6 x7 x8 x9 x10 x11 x12 x13 x14 x15 x16 x17 x18 : Value) (S : AHeap) : vOps Try.prog ⟨true, false, false⟩ (callF O.hp true (vlim Try.prog O)) (reg Try.f11 1) (reg Try.f11 1).toList ([x0,x1,x2,x3,x4,x5,x6,x7,x8,x9,x10,x11,x12,x13,x14,x15,x16,x17,x18]) S =
    (andK (vLen Try.prog 27 (dem x1) S) (fun v1 S1 => andK ((vlim Try.prog O) 12 [(dem (dem x0))] S1) (fun v3 S2 => andK (vBin Try.prog BinOp.gtr 3 v1 v3 S2) (fun v4 S3 => some ([x0,x1,x2,x3,x4,dem x1,v1,dem x0,v3,v4,x10,x11,x12,x13,x14,x15,x16,x17,x18], S3)) ()) ()) ()) := by
  refine vOps_pure (v := x1) (o := opAt Try.f11 1 0) (rest := (reg Try.f11 1).toList.drop 1) (by kernel_rfl) (by kernel_rfl) (fun _ => rfl) (by kernel_rfl) ?_
  refine vOps_do (o := opAt Try.f11 1 1) (rest := (reg Try.f11 1).toList.drop 2) (by kernel_rfl) (by kernel_rfl) (fun _ => rfl) (by kernel_rfl) (fun v1 S1 => ?_)
  refine vOps_pure (v := x0) (o := opAt Try.f11 1 2) (rest := (reg Try.f11 1).toList.drop 3) (by kernel_rfl) (by kernel_rfl) (fun _ => rfl) (by kernel_rfl) ?_
  refine vOps_do (o := opAt Try.f11 1 3) (rest := (reg Try.f11 1).toList.drop 4) (by kernel_rfl) (by kernel_rfl) (fun _ => rfl) (by kernel_rfl) (fun v3 S2 => ?_)
  refine vOps_do (o := opAt Try.f11 1 4) (rest := (reg Try.f11 1).toList.drop 5) (by kernel_rfl) (by kernel_rfl) (fun _ => rfl) (by kernel_rfl) (fun v4 S3 => ?_)
  kernel_rfl
theorem disk_Disk_Append.r2 (x0 x1 x2 x3 x4 x5 x6 x7 x8 x9 x10 x11 x12 x13 x14 x15 x16 x17 x18 : Value) (S : AHeap) : vOps Try.prog ⟨true, false, false⟩ (callF O.hp true (vlim Try.prog O)) (reg Try.f11 2) (reg Try.f11 2).toList ([x0,x1,x2,x3,x4,x5,x6,x7,x8,x9,x10,x11,x12,x13,x14,x15,x16,x17,x18]) S =
    ( some ([x0,x1,x2,x3,Value.int IntKind.i64 41,x5,x6,x7,x8,x9,x10,x11,x12,x13,x14,x15,x16,x17,x18], S)) := by
  refine vOps_pure (v := (Value.int IntKind.i64 41)) (o := opAt Try.f11 2 0) (rest := (reg Try.f11 2).toList.drop 1) (by kernel_rfl) (by kernel_rfl) (fun _ => rfl) (by kernel_rfl) ?_
  kernel_rfl
theorem disk_Disk_Append.r3 (x0 x1 x2 x3 x4 x5 x6 x7 x8 x9 x10 x11 x12 x13 x14 x15 x16 x17 x18 : Value) (S : AHeap) : vOps Try.prog ⟨true, false, false⟩ (callF O.hp true (vlim Try.prog O)) (reg Try.f11 3) (reg Try.f11 3).toList ([x0,x1,x2,x3,x4,x5,x6,x7,x8,x9,x10,x11,x12,x13,x14,x15,x16,x17,x18]) S =
    (andK (vNilCheck (dem x0) S) (fun v2 S1 => andK (vFieldAddr Try.prog 49 v2 0 S1) (fun v3 S2 => andK (vLoad Try.prog false 27 v3 S2) (fun v4 S3 => andK (vAppendG Try.prog true 27 27 v4 (dem x1) S3) (fun v6 S4 => andK (vNilCheck (dem x0) S4) (fun v7 S5 => andK (vFieldAddr Try.prog 49 v7 0 S5) (fun v8 S6 => andK (vStore Try.prog 27 v8 (dem v6) S6) (fun v9 S7 => some ([x0,x1,x2,x3,x4,x5,x6,x7,x8,x9,dem x0,dem x0,v2,v3,dem v4,dem x1,v6,v7,v8], S7)) ()) ()) ()) ()) ()) ()) ()) := by
  refine vOps_pure (v := x0) (o := opAt Try.f11 3 0) (rest := (reg Try.f11 3).toList.drop 1) (by kernel_rfl) (by kernel_rfl) (fun _ => rfl) (by kernel_rfl) ?_
  refine vOps_pure (v := x0) (o := opAt Try.f11 3 1) (rest := (reg Try.f11 3).toList.drop 2) (by kernel_rfl) (by kernel_rfl) (fun _ => rfl) (by kernel_rfl) ?_
  refine vOps_do (o := opAt Try.f11 3 2) (rest := (reg Try.f11 3).toList.drop 3) (by kernel_rfl) (by kernel_rfl) (fun _ => rfl) (by kernel_rfl) (fun v2 S1 => ?_)
  refine vOps_do (o := opAt Try.f11 3 3) (rest := (reg Try.f11 3).toList.drop 4) (by kernel_rfl) (by kernel_rfl) (fun _ => rfl) (by kernel_rfl) (fun v3 S2 => ?_)
  refine vOps_do (o := opAt Try.f11 3 4) (rest := (reg Try.f11 3).toList.drop 5) (by kernel_rfl) (by kernel_rfl) (fun _ => rfl) (by kernel_rfl) (fun v4 S3 => ?_)
  refine vOps_pure (v := x1) (o := opAt Try.f11 3 5) (rest := (reg Try.f11 3).toList.drop 6) (by kernel_rfl) (by kernel_rfl) (fun _ => rfl) (by kernel_rfl) ?_
  refine vOps_do (o := opAt Try.f11 3 6) (rest := (reg Try.f11 3).toList.drop 7) (by kernel_rfl) (by kernel_rfl) (fun _ => rfl) (by kernel_rfl) (fun v6 S4 => ?_)
  refine vOps_do (o := opAt Try.f11 3 7) (rest := (reg Try.f11 3).toList.drop 8) (by kernel_rfl) (by kernel_rfl) (fun _ => rfl) (by kernel_rfl) (fun v7 S5 => ?_)
  refine vOps_do (o := opAt Try.f11 3 8) (rest := (reg Try.f11 3).toList.drop 9) (by kernel_rfl) (by kernel_rfl) (fun _ => rfl) (by kernel_rfl) (fun v8 S6 => ?_)
  refine vOps_do (o := opAt Try.f11 3 9) (rest := (reg Try.f11 3).toList.drop 10) (by kernel_rfl) (by kernel_rfl) (fun _ => rfl) (by kernel_rfl) (fun v9 S7 => ?_)
  kernel_rfl
theorem disk_Disk_Append.r4 (x0 x1 x2 x3 x4 x5 x6 x7 x8 x9 x10 x11 x12 x13 x14 x15 x16 x17 x18 : Value) (S : AHeap) : vOps Try.prog ⟨true, false, false⟩ (callF O.hp true (vlim Try.prog O)) (reg Try.f11 4) (reg Try.f11 4).toList ([x0,x1,x2,x3,x4,x5,x6,x7,x8,x9,x10,x11,x12,x13,x14,x15,x16,x17,x18]) S =
    ( some ([x0,x1,x2,x3,Value.int IntKind.i64 0,x5,x6,x7,x8,x9,x10,x11,x12,x13,x14,x15,x16,x17,x18], S)) := by
  refine vOps_pure (v := (Value.int IntKind.i64 0)) (o := opAt Try.f11 4 0) (rest := (reg Try.f11 4).toList.drop 1) (by kernel_rfl) (by kernel_rfl) (fun _ => rfl) (by kernel_rfl) ?_
  kernel_rfl
theorem disk_Disk_Append.runs {x0 x1 : Value} {S S1 : AHeap} {e : AEx} {T : List Value} (h : vcodeV Try.prog O true disk_Disk_Append.code ([x0,x1,undef,undef,undef,undef,undef,undef,undef,undef,undef,undef,undef,undef,undef,undef,undef,undef,undef]) S = some (e, T, S1)) (he : e = .normal ∨ e = .ret) : vlim Try.prog O 11 [x0, x1] S = some (T.getD 4 undef, S1) :=
  vlim_code rfl rfl Try.func11 (by decide) disk_Disk_Append.body (by exact h) he (vRes_one (a := T.getD 4 undef) ((show vResVals Try.prog T S1 Try.f11.results.toList = vResVals Try.prog T S1 [(ResultVar.tmp 4)] from by kernel_rfl).trans (by simp only [vResVals])) (by kernel_rfl))
end Go.Proofs.Ytgfpjnblookppaa
