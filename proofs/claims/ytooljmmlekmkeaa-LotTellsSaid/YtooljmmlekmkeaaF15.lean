/-
The seat's functions in a shallow form: each region as a chain of the interpreter's operations. Printed by a program; Lean checks each row.
-/
import Derived.Test.YtooljmmlekmkeaaChecked
import Derived.Test.YtooljmmlekmkeaaOra
import Derived.KernelRfl
set_option linter.unusedVariables false
set_option maxRecDepth 100000
namespace Go.Proofs.Ytooljmmlekmkeaa
open Go.Abs

/-- neaptide.neaptideref01.SameInts -/
abbrev neaptideref01_SameInts.id : FuncId := 15
noncomputable def neaptideref01_SameInts.loop1 : Code := (Code.seq (Code.region 4 (reg Try.f15 4) false) (Code.seq (Code.cond (Operand.tmp 14) Code.skip (Code.exit 0)) (Code.seq (Code.block 1 (Code.seq (Code.region 5 (reg Try.f15 5) false) (Code.seq (Code.region 6 (reg Try.f15 6) true) (Code.cond (Operand.tmp 24) (Code.seq (Code.region 7 (reg Try.f15 7) false) Code.ret) Code.skip)))) (Code.region 8 (reg Try.f15 8) false))))
noncomputable def neaptideref01_SameInts.code : Code := (Code.seq (Code.region 0 (reg Try.f15 0) false) (Code.seq (Code.seq (Code.region 1 (reg Try.f15 1) false) (Code.cond (Operand.tmp 10) (Code.seq (Code.region 2 (reg Try.f15 2) false) Code.ret) Code.skip)) (Code.seq (Code.seq (Code.region 3 (reg Try.f15 3) false) (Code.block 0 (Code.loop neaptideref01_SameInts.loop1))) (Code.seq (Code.region 9 (reg Try.f15 9) false) Code.ret))))
theorem neaptideref01_SameInts.body : Try.f15.body = some neaptideref01_SameInts.code := by kernel_rfl
theorem neaptideref01_SameInts.eta {T : List Value} (h : T.length = 26) : T = [T.getD 0 undef,T.getD 1 undef,T.getD 2 undef,T.getD 3 undef,T.getD 4 undef,T.getD 5 undef,T.getD 6 undef,T.getD 7 undef,T.getD 8 undef,T.getD 9 undef,T.getD 10 undef,T.getD 11 undef,T.getD 12 undef,T.getD 13 undef,T.getD 14 undef,T.getD 15 undef,T.getD 16 undef,T.getD 17 undef,T.getD 18 undef,T.getD 19 undef,T.getD 20 undef,T.getD 21 undef,T.getD 22 undef,T.getD 23 undef,T.getD 24 undef,T.getD 25 undef] := (list_getD T 26 h).trans (by kernel_rfl)
theorem neaptideref01_SameInts.list {T : List Value} (h : T.length = 26) : ∃ x0 x1 x2 x3 x4 x5 x6 x7 x8 x9 x10 x11 x12 x13 x14 x15 x16 x17 x18 x19 x20 x21 x22 x23 x24 x25, T = [x0,x1,x2,x3,x4,x5,x6,x7,x8,x9,x10,x11,x12,x13,x14,x15,x16,x17,x18,x19,x20,x21,x22,x23,x24,x25] := ⟨_, _, _, _, _, _, _, _, _, _, _, _, _, _, _, _, _, _, _, _, _, _, _, _, _, _, neaptideref01_SameInts.eta h⟩
theorem neaptideref01_SameInts.r0 (x0 x1 x2 x3 x4 x5 x6 x7 x8 x9 x10 x11 x12 x13 x14 x15 x16 x17 x18 x19 x20 x21 x22 x23 x24 x25 : Value) (S : AHeap) : vOps Try.prog ⟨false, false, false⟩ (vlim Try.prog O) (reg Try.f15 0) (reg Try.f15 0).toList ([x0,x1,x2,x3,x4,x5,x6,x7,x8,x9,x10,x11,x12,x13,x14,x15,x16,x17,x18,x19,x20,x21,x22,x23,x24,x25]) S =
    ( some ([x0,x1,x2,x3,Value.bool false,x5,x6,x7,x8,x9,x10,x11,x12,x13,x14,x15,x16,x17,x18,x19,x20,x21,x22,x23,x24,x25], S)) := by
  refine vOps_pure (v := (Value.bool false)) (o := opAt Try.f15 0 0) (rest := (reg Try.f15 0).toList.drop 1) (by kernel_rfl) (by kernel_rfl) (fun _ => rfl) (by kernel_rfl) ?_
  kernel_rfl
theorem neaptideref01_SameInts.r1 (x0 x1 x2 x3 x4 x5 x6 x7 x8 x9 x10 x11 x12 x13 x14 x15 x16 x17 x18 x19 x20 x21 x22 x23 x24 x25 : Value) (S : AHeap) : vOps Try.prog ⟨false, false, false⟩ (vlim Try.prog O) (reg Try.f15 1) (reg Try.f15 1).toList ([x0,x1,x2,x3,x4,x5,x6,x7,x8,x9,x10,x11,x12,x13,x14,x15,x16,x17,x18,x19,x20,x21,x22,x23,x24,x25]) S =
    (andK (vLen Try.prog 22 (dem x0) S) (fun v1 S1 => andK (vLen Try.prog 22 (dem x1) S1) (fun v3 S2 => andK (vBin Try.prog BinOp.neq 3 v1 v3 S2) (fun v4 S3 => some ([x0,x1,x2,x3,x4,x5,dem x0,v1,dem x1,v3,v4,x11,x12,x13,x14,x15,x16,x17,x18,x19,x20,x21,x22,x23,x24,x25], S3)) ()) ()) ()) := by
  refine vOps_pure (v := x0) (o := opAt Try.f15 1 0) (rest := (reg Try.f15 1).toList.drop 1) (by kernel_rfl) (by kernel_rfl) (fun _ => rfl) (by kernel_rfl) ?_
  refine vOps_do (o := opAt Try.f15 1 1) (rest := (reg Try.f15 1).toList.drop 2) (by kernel_rfl) (by kernel_rfl) (fun _ => rfl) (by kernel_rfl) (fun v1 S1 => ?_)
  refine vOps_pure (v := x1) (o := opAt Try.f15 1 2) (rest := (reg Try.f15 1).toList.drop 3) (by kernel_rfl) (by kernel_rfl) (fun _ => rfl) (by kernel_rfl) ?_
  refine vOps_do (o := opAt Try.f15 1 3) (rest := (reg Try.f15 1).toList.drop 4) (by kernel_rfl) (by kernel_rfl) (fun _ => rfl) (by kernel_rfl) (fun v3 S2 => ?_)
  refine vOps_do (o := opAt Try.f15 1 4) (rest := (reg Try.f15 1).toList.drop 5) (by kernel_rfl) (by kernel_rfl) (fun _ => rfl) (by kernel_rfl) (fun v4 S3 => ?_)
  kernel_rfl
theorem neaptideref01_SameInts.r2 (x0 x1 x2 x3 x4 x5 x6 x7 x8 x9 x10 x11 x12 x13 x14 x15 x16 x17 x18 x19 x20 x21 x22 x23 x24 x25 : Value) (S : AHeap) : vOps Try.prog ⟨false, false, false⟩ (vlim Try.prog O) (reg Try.f15 2) (reg Try.f15 2).toList ([x0,x1,x2,x3,x4,x5,x6,x7,x8,x9,x10,x11,x12,x13,x14,x15,x16,x17,x18,x19,x20,x21,x22,x23,x24,x25]) S =
    ( some ([x0,x1,x2,x3,Value.bool false,x5,x6,x7,x8,x9,x10,x11,x12,x13,x14,x15,x16,x17,x18,x19,x20,x21,x22,x23,x24,x25], S)) := by
  refine vOps_pure (v := (Value.bool false)) (o := opAt Try.f15 2 0) (rest := (reg Try.f15 2).toList.drop 1) (by kernel_rfl) (by kernel_rfl) (fun _ => rfl) (by kernel_rfl) ?_
  kernel_rfl
theorem neaptideref01_SameInts.r3 (x0 x1 x2 x3 x4 x5 x6 x7 x8 x9 x10 x11 x12 x13 x14 x15 x16 x17 x18 x19 x20 x21 x22 x23 x24 x25 : Value) (S : AHeap) : vOps Try.prog ⟨false, false, false⟩ (vlim Try.prog O) (reg Try.f15 3) (reg Try.f15 3).toList ([x0,x1,x2,x3,x4,x5,x6,x7,x8,x9,x10,x11,x12,x13,x14,x15,x16,x17,x18,x19,x20,x21,x22,x23,x24,x25]) S =
    (andK (vLen Try.prog 22 (dem x0) S) (fun v1 S1 => some ([x0,x1,x2,x3,x4,x5,x6,x7,x8,x9,x10,dem x0,v1,Value.int IntKind.i64 0,x14,x15,x16,x17,x18,x19,x20,x21,x22,x23,x24,x25], S1)) ()) := by
  refine vOps_pure (v := x0) (o := opAt Try.f15 3 0) (rest := (reg Try.f15 3).toList.drop 1) (by kernel_rfl) (by kernel_rfl) (fun _ => rfl) (by kernel_rfl) ?_
  refine vOps_do (o := opAt Try.f15 3 1) (rest := (reg Try.f15 3).toList.drop 2) (by kernel_rfl) (by kernel_rfl) (fun _ => rfl) (by kernel_rfl) (fun v1 S1 => ?_)
  refine vOps_pure (v := (Value.int IntKind.i64 0)) (o := opAt Try.f15 3 2) (rest := (reg Try.f15 3).toList.drop 3) (by kernel_rfl) (by kernel_rfl) (fun _ => rfl) (by kernel_rfl) ?_
  kernel_rfl
theorem neaptideref01_SameInts.r4 (x0 x1 x2 x3 x4 x5 x6 x7 x8 x9 x10 x11 x12 x13 x14 x15 x16 x17 x18 x19 x20 x21 x22 x23 x24 x25 : Value) (S : AHeap) : vOps Try.prog ⟨false, false, false⟩ (vlim Try.prog O) (reg Try.f15 4) (reg Try.f15 4).toList ([x0,x1,x2,x3,x4,x5,x6,x7,x8,x9,x10,x11,x12,x13,x14,x15,x16,x17,x18,x19,x20,x21,x22,x23,x24,x25]) S =
    (andK (vBin Try.prog BinOp.lss 3 x13 x12 S) (fun v0 S1 => some ([x0,x1,x2,x3,x4,x5,x6,x7,x8,x9,x10,x11,x12,x13,v0,x15,x16,x17,x18,x19,x20,x21,x22,x23,x24,x25], S1)) ()) := by
  refine vOps_do (o := opAt Try.f15 4 0) (rest := (reg Try.f15 4).toList.drop 1) (by kernel_rfl) (by kernel_rfl) (fun _ => rfl) (by kernel_rfl) (fun v0 S1 => ?_)
  kernel_rfl
theorem neaptideref01_SameInts.r5 (x0 x1 x2 x3 x4 x5 x6 x7 x8 x9 x10 x11 x12 x13 x14 x15 x16 x17 x18 x19 x20 x21 x22 x23 x24 x25 : Value) (S : AHeap) : vOps Try.prog ⟨false, false, false⟩ (vlim Try.prog O) (reg Try.f15 5) (reg Try.f15 5).toList ([x0,x1,x2,x3,x4,x5,x6,x7,x8,x9,x10,x11,x12,x13,x14,x15,x16,x17,x18,x19,x20,x21,x22,x23,x24,x25]) S =
    ( some ([x0,x1,x2,x3,x4,x13,x6,x7,x8,x9,x10,x11,x12,dem x13,x14,dem x13,x16,x17,x18,x19,x20,x21,x22,x23,x24,x25], S)) := by
  refine vOps_pure (v := x13) (o := opAt Try.f15 5 0) (rest := (reg Try.f15 5).toList.drop 1) (by kernel_rfl) (by kernel_rfl) (fun _ => rfl) (by kernel_rfl) ?_
  refine vOps_pure (v := x13) (o := opAt Try.f15 5 1) (rest := (reg Try.f15 5).toList.drop 2) (by kernel_rfl) (by kernel_rfl) (fun _ => rfl) (by kernel_rfl) ?_
  kernel_rfl
theorem neaptideref01_SameInts.d6 : drawnOk Try.prog (reg Try.f15 6) = true := by kernel_rfl
theorem neaptideref01_SameInts.x6 : fixed Try.prog (reg Try.f15 6) = false := by kernel_rfl
theorem neaptideref01_SameInts.k6 : checked Try.prog (reg Try.f15 6) = [] := by kernel_rfl
theorem neaptideref01_SameInts.r6 (x0 x1 x2 x3 x4 x5 x6 x7 x8 x9 x10 x11 x12 x13 x14 x15 x16 x17 x18 x19 x20 x21 x22 x23 x24 x25 : Value) (S : AHeap) : vcodeV Try.prog O false (.region 6 (reg Try.f15 6) true) ([x0,x1,x2,x3,x4,x5,x6,x7,x8,x9,x10,x11,x12,x13,x14,x15,x16,x17,x18,x19,x20,x21,x22,x23,x24,x25]) S =
    regV (andK (vIndexAddr Try.prog 22 (dem x0) (dem x5) S) (fun v2 S1 => andK (vLoad Try.prog false 3 v2 S1) (fun v3 S2 => andK (vIndexAddr Try.prog 22 (dem x1) (dem x5) S2) (fun v6 S3 => andK (vLoad Try.prog false 3 v6 S3) (fun v7 S4 => andK (vBin Try.prog BinOp.neq 3 v3 v7 S4) (fun v8 S5 => some ([x0,x1,x2,x3,x4,x5,x6,x7,x8,x9,x10,x11,x12,x13,x14,x15,dem x0,dem x5,v2,v3,dem x1,dem x5,v6,v7,v8,x25], S5)) ()) ()) ()) ()) ()) := by
  rw [vcodeV_drawn neaptideref01_SameInts.d6 neaptideref01_SameInts.x6 neaptideref01_SameInts.k6]
  refine congrArg regV ?_
  refine vOpsD_pure (v := x0) (o := opAt Try.f15 6 0) (rest := (reg Try.f15 6).toList.drop 1) (by kernel_rfl) (by kernel_rfl) (by kernel_rfl) (fun _ => rfl) (by kernel_rfl) ?_
  refine vOpsD_pure (v := x5) (o := opAt Try.f15 6 1) (rest := (reg Try.f15 6).toList.drop 2) (by kernel_rfl) (by kernel_rfl) (by kernel_rfl) (fun _ => rfl) (by kernel_rfl) ?_
  refine vOpsD_do (o := opAt Try.f15 6 2) (rest := (reg Try.f15 6).toList.drop 3) (by kernel_rfl) (by kernel_rfl) (by kernel_rfl) (fun _ => rfl) (by kernel_rfl) (fun v2 S1 => ?_)
  refine vOpsD_do (o := opAt Try.f15 6 3) (rest := (reg Try.f15 6).toList.drop 4) (by kernel_rfl) (by kernel_rfl) (by kernel_rfl) (fun _ => rfl) (by kernel_rfl) (fun v3 S2 => ?_)
  refine vOpsD_pure (v := x1) (o := opAt Try.f15 6 4) (rest := (reg Try.f15 6).toList.drop 5) (by kernel_rfl) (by kernel_rfl) (by kernel_rfl) (fun _ => rfl) (by kernel_rfl) ?_
  refine vOpsD_pure (v := x5) (o := opAt Try.f15 6 5) (rest := (reg Try.f15 6).toList.drop 6) (by kernel_rfl) (by kernel_rfl) (by kernel_rfl) (fun _ => rfl) (by kernel_rfl) ?_
  refine vOpsD_do (o := opAt Try.f15 6 6) (rest := (reg Try.f15 6).toList.drop 7) (by kernel_rfl) (by kernel_rfl) (by kernel_rfl) (fun _ => rfl) (by kernel_rfl) (fun v6 S3 => ?_)
  refine vOpsD_do (o := opAt Try.f15 6 7) (rest := (reg Try.f15 6).toList.drop 8) (by kernel_rfl) (by kernel_rfl) (by kernel_rfl) (fun _ => rfl) (by kernel_rfl) (fun v7 S4 => ?_)
  refine vOpsD_do (o := opAt Try.f15 6 8) (rest := (reg Try.f15 6).toList.drop 9) (by kernel_rfl) (by kernel_rfl) (by kernel_rfl) (fun _ => rfl) (by kernel_rfl) (fun v8 S5 => ?_)
  kernel_rfl
theorem neaptideref01_SameInts.r7 (x0 x1 x2 x3 x4 x5 x6 x7 x8 x9 x10 x11 x12 x13 x14 x15 x16 x17 x18 x19 x20 x21 x22 x23 x24 x25 : Value) (S : AHeap) : vOps Try.prog ⟨false, false, false⟩ (vlim Try.prog O) (reg Try.f15 7) (reg Try.f15 7).toList ([x0,x1,x2,x3,x4,x5,x6,x7,x8,x9,x10,x11,x12,x13,x14,x15,x16,x17,x18,x19,x20,x21,x22,x23,x24,x25]) S =
    ( some ([x0,x1,x2,x3,Value.bool false,x5,x6,x7,x8,x9,x10,x11,x12,x13,x14,x15,x16,x17,x18,x19,x20,x21,x22,x23,x24,x25], S)) := by
  refine vOps_pure (v := (Value.bool false)) (o := opAt Try.f15 7 0) (rest := (reg Try.f15 7).toList.drop 1) (by kernel_rfl) (by kernel_rfl) (fun _ => rfl) (by kernel_rfl) ?_
  kernel_rfl
theorem neaptideref01_SameInts.r8 (x0 x1 x2 x3 x4 x5 x6 x7 x8 x9 x10 x11 x12 x13 x14 x15 x16 x17 x18 x19 x20 x21 x22 x23 x24 x25 : Value) (S : AHeap) : vOps Try.prog ⟨false, false, false⟩ (vlim Try.prog O) (reg Try.f15 8) (reg Try.f15 8).toList ([x0,x1,x2,x3,x4,x5,x6,x7,x8,x9,x10,x11,x12,x13,x14,x15,x16,x17,x18,x19,x20,x21,x22,x23,x24,x25]) S =
    (andK (vBin Try.prog BinOp.add 3 x13 (Value.int IntKind.i64 1) S) (fun v0 S1 => some ([x0,x1,x2,x3,x4,x5,x6,x7,x8,x9,x10,x11,x12,dem v0,x14,x15,x16,x17,x18,x19,x20,x21,x22,x23,x24,v0], S1)) ()) := by
  refine vOps_do (o := opAt Try.f15 8 0) (rest := (reg Try.f15 8).toList.drop 1) (by kernel_rfl) (by kernel_rfl) (fun _ => rfl) (by kernel_rfl) (fun v0 S1 => ?_)
  refine vOps_pure (v := v0) (o := opAt Try.f15 8 1) (rest := (reg Try.f15 8).toList.drop 2) (by kernel_rfl) (by kernel_rfl) (fun _ => rfl) (by kernel_rfl) ?_
  kernel_rfl
theorem neaptideref01_SameInts.r9 (x0 x1 x2 x3 x4 x5 x6 x7 x8 x9 x10 x11 x12 x13 x14 x15 x16 x17 x18 x19 x20 x21 x22 x23 x24 x25 : Value) (S : AHeap) : vOps Try.prog ⟨false, false, false⟩ (vlim Try.prog O) (reg Try.f15 9) (reg Try.f15 9).toList ([x0,x1,x2,x3,x4,x5,x6,x7,x8,x9,x10,x11,x12,x13,x14,x15,x16,x17,x18,x19,x20,x21,x22,x23,x24,x25]) S =
    ( some ([x0,x1,x2,x3,Value.bool true,x5,x6,x7,x8,x9,x10,x11,x12,x13,x14,x15,x16,x17,x18,x19,x20,x21,x22,x23,x24,x25], S)) := by
  refine vOps_pure (v := (Value.bool true)) (o := opAt Try.f15 9 0) (rest := (reg Try.f15 9).toList.drop 1) (by kernel_rfl) (by kernel_rfl) (fun _ => rfl) (by kernel_rfl) ?_
  kernel_rfl
theorem neaptideref01_SameInts.runs {x0 x1 : Value} {S S1 : AHeap} {e : AEx} {T : List Value} (h : vcodeV Try.prog O false neaptideref01_SameInts.code ([x0,x1,undef,undef,undef,undef,undef,undef,undef,undef,undef,undef,undef,undef,undef,undef,undef,undef,undef,undef,undef,undef,undef,undef,undef,undef]) S = some (e, T, S1)) (he : e = .normal ∨ e = .ret) : vlim Try.prog O 15 [x0, x1] S = some (T.getD 4 undef, S1) :=
  vlim_code rfl Try.func15 (by decide) neaptideref01_SameInts.body (by exact h) he rfl
end Go.Proofs.Ytooljmmlekmkeaa
