/-
The seat's functions in a shallow form: each region as a chain of the interpreter's operations. Printed by a program; Lean checks each row.
-/
import Derived.Test.YtjlhjebmbllkiaaChecked
import Derived.Test.YtjlhjebmbllkiaaOra
import Derived.KernelRfl
set_option linter.unusedVariables false
set_option maxRecDepth 100000
namespace Go.Proofs.Ytjlhjebmbllkiaa
open Go.Abs

/-- neaptide.neaptideref01.Num -/
abbrev neaptideref01_Num.id : FuncId := 15
noncomputable def neaptideref01_Num.loop1 : Code := (Code.block 1 (Code.seq (Code.region 2 (reg Try.f15 2) false) (Code.seq (Code.region 3 (reg Try.f15 3) false) (Code.seq (Code.seq (Code.region 4 (reg Try.f15 4) false) (Code.cond (Operand.tmp 12) (Code.seq (Code.region 5 (reg Try.f15 5) false) Code.ret) Code.skip)) (Code.region 6 (reg Try.f15 6) false)))))
noncomputable def neaptideref01_Num.code : Code := (Code.seq (Code.region 0 (reg Try.f15 0) false) (Code.seq (Code.region 1 (reg Try.f15 1) false) (Code.block 0 (Code.loop neaptideref01_Num.loop1))))
theorem neaptideref01_Num.body : Try.f15.body = some neaptideref01_Num.code := by kernel_rfl
theorem neaptideref01_Num.eta {T : List Value} (h : T.length = 22) : T = [T.getD 0 undef,T.getD 1 undef,T.getD 2 undef,T.getD 3 undef,T.getD 4 undef,T.getD 5 undef,T.getD 6 undef,T.getD 7 undef,T.getD 8 undef,T.getD 9 undef,T.getD 10 undef,T.getD 11 undef,T.getD 12 undef,T.getD 13 undef,T.getD 14 undef,T.getD 15 undef,T.getD 16 undef,T.getD 17 undef,T.getD 18 undef,T.getD 19 undef,T.getD 20 undef,T.getD 21 undef] := (list_getD T 22 h).trans (by kernel_rfl)
theorem neaptideref01_Num.list {T : List Value} (h : T.length = 22) : ∃ x0 x1 x2 x3 x4 x5 x6 x7 x8 x9 x10 x11 x12 x13 x14 x15 x16 x17 x18 x19 x20 x21, T = [x0,x1,x2,x3,x4,x5,x6,x7,x8,x9,x10,x11,x12,x13,x14,x15,x16,x17,x18,x19,x20,x21] := ⟨_, _, _, _, _, _, _, _, _, _, _, _, _, _, _, _, _, _, _, _, _, _, neaptideref01_Num.eta h⟩
theorem neaptideref01_Num.r0 (x0 x1 x2 x3 x4 x5 x6 x7 x8 x9 x10 x11 x12 x13 x14 x15 x16 x17 x18 x19 x20 x21 : Value) (S : AHeap) : vOps Try.prog false (vlim Try.prog O) (reg Try.f15 0) (reg Try.f15 0).toList ([x0,x1,x2,x3,x4,x5,x6,x7,x8,x9,x10,x11,x12,x13,x14,x15,x16,x17,x18,x19,x20,x21]) S =
    ( some ([x0,x1,Value.slice none 0 0,x3,x4,x5,x6,x7,x8,x9,x10,x11,x12,x13,x14,x15,x16,x17,x18,x19,x20,x21], S)) := by
  refine vOps_pure (v := (Value.slice none 0 0)) (o := opAt Try.f15 0 0) (rest := (reg Try.f15 0).toList.drop 1) (by kernel_rfl) (by kernel_rfl) (fun _ => rfl) (by kernel_rfl) ?_
  kernel_rfl
theorem neaptideref01_Num.r1 (x0 x1 x2 x3 x4 x5 x6 x7 x8 x9 x10 x11 x12 x13 x14 x15 x16 x17 x18 x19 x20 x21 : Value) (S : AHeap) : vOps Try.prog false (vlim Try.prog O) (reg Try.f15 1) (reg Try.f15 1).toList ([x0,x1,x2,x3,x4,x5,x6,x7,x8,x9,x10,x11,x12,x13,x14,x15,x16,x17,x18,x19,x20,x21]) S =
    (andK (vBuildSlice Try.prog 23 0 [] S) (fun v0 S1 => some ([x0,x1,x2,v0,x4,dem v0,x6,x7,x8,x9,x10,x11,x12,x13,x14,x15,x16,x17,x18,x19,x20,x21], S1)) ()) := by
  refine vOps_do (o := opAt Try.f15 1 0) (rest := (reg Try.f15 1).toList.drop 1) (by kernel_rfl) (by kernel_rfl) (fun _ => rfl) (by kernel_rfl) (fun v0 S1 => ?_)
  refine vOps_pure (v := v0) (o := opAt Try.f15 1 1) (rest := (reg Try.f15 1).toList.drop 2) (by kernel_rfl) (by kernel_rfl) (fun _ => rfl) (by kernel_rfl) ?_
  kernel_rfl
theorem neaptideref01_Num.r2 (x0 x1 x2 x3 x4 x5 x6 x7 x8 x9 x10 x11 x12 x13 x14 x15 x16 x17 x18 x19 x20 x21 : Value) (S : AHeap) : vOps Try.prog false (vlim Try.prog O) (reg Try.f15 2) (reg Try.f15 2).toList ([x0,x1,x2,x3,x4,x5,x6,x7,x8,x9,x10,x11,x12,x13,x14,x15,x16,x17,x18,x19,x20,x21]) S =
    (andK (vBin Try.prog BinOp.rem 22 (dem x0) (Value.int IntKind.u64 128) S) (fun v1 S1 => andK (vConv Try.prog 22 5 v1 S1) (fun v2 S2 => some ([x0,x1,x2,x3,v2,x5,dem x0,v1,dem v2,x9,x10,x11,x12,x13,x14,x15,x16,x17,x18,x19,x20,x21], S2)) ()) ()) := by
  refine vOps_pure (v := x0) (o := opAt Try.f15 2 0) (rest := (reg Try.f15 2).toList.drop 1) (by kernel_rfl) (by kernel_rfl) (fun _ => rfl) (by kernel_rfl) ?_
  refine vOps_do (o := opAt Try.f15 2 1) (rest := (reg Try.f15 2).toList.drop 2) (by kernel_rfl) (by kernel_rfl) (fun _ => rfl) (by kernel_rfl) (fun v1 S1 => ?_)
  refine vOps_do (o := opAt Try.f15 2 2) (rest := (reg Try.f15 2).toList.drop 3) (by kernel_rfl) (by kernel_rfl) (fun _ => rfl) (by kernel_rfl) (fun v2 S2 => ?_)
  refine vOps_pure (v := v2) (o := opAt Try.f15 2 3) (rest := (reg Try.f15 2).toList.drop 4) (by kernel_rfl) (by kernel_rfl) (fun _ => rfl) (by kernel_rfl) ?_
  kernel_rfl
theorem neaptideref01_Num.r3 (x0 x1 x2 x3 x4 x5 x6 x7 x8 x9 x10 x11 x12 x13 x14 x15 x16 x17 x18 x19 x20 x21 : Value) (S : AHeap) : vOps Try.prog false (vlim Try.prog O) (reg Try.f15 3) (reg Try.f15 3).toList ([x0,x1,x2,x3,x4,x5,x6,x7,x8,x9,x10,x11,x12,x13,x14,x15,x16,x17,x18,x19,x20,x21]) S =
    (andK (vBin Try.prog BinOp.quo 22 (dem x0) (Value.int IntKind.u64 128) S) (fun v1 S1 => some ([v1,x1,x2,x3,x4,x5,x6,x7,x8,dem x0,dem v1,x11,x12,x13,x14,x15,x16,x17,x18,x19,x20,x21], S1)) ()) := by
  refine vOps_pure (v := x0) (o := opAt Try.f15 3 0) (rest := (reg Try.f15 3).toList.drop 1) (by kernel_rfl) (by kernel_rfl) (fun _ => rfl) (by kernel_rfl) ?_
  refine vOps_do (o := opAt Try.f15 3 1) (rest := (reg Try.f15 3).toList.drop 2) (by kernel_rfl) (by kernel_rfl) (fun _ => rfl) (by kernel_rfl) (fun v1 S1 => ?_)
  refine vOps_pure (v := v1) (o := opAt Try.f15 3 2) (rest := (reg Try.f15 3).toList.drop 3) (by kernel_rfl) (by kernel_rfl) (fun _ => rfl) (by kernel_rfl) ?_
  kernel_rfl
theorem neaptideref01_Num.r4 (x0 x1 x2 x3 x4 x5 x6 x7 x8 x9 x10 x11 x12 x13 x14 x15 x16 x17 x18 x19 x20 x21 : Value) (S : AHeap) : vOps Try.prog false (vlim Try.prog O) (reg Try.f15 4) (reg Try.f15 4).toList ([x0,x1,x2,x3,x4,x5,x6,x7,x8,x9,x10,x11,x12,x13,x14,x15,x16,x17,x18,x19,x20,x21]) S =
    (andK (vBin Try.prog BinOp.eql 22 (dem x0) (Value.int IntKind.u64 0) S) (fun v1 S1 => some ([x0,x1,x2,x3,x4,x5,x6,x7,x8,x9,x10,dem x0,v1,x13,x14,x15,x16,x17,x18,x19,x20,x21], S1)) ()) := by
  refine vOps_pure (v := x0) (o := opAt Try.f15 4 0) (rest := (reg Try.f15 4).toList.drop 1) (by kernel_rfl) (by kernel_rfl) (fun _ => rfl) (by kernel_rfl) ?_
  refine vOps_do (o := opAt Try.f15 4 1) (rest := (reg Try.f15 4).toList.drop 2) (by kernel_rfl) (by kernel_rfl) (fun _ => rfl) (by kernel_rfl) (fun v1 S1 => ?_)
  kernel_rfl
theorem neaptideref01_Num.r5 (x0 x1 x2 x3 x4 x5 x6 x7 x8 x9 x10 x11 x12 x13 x14 x15 x16 x17 x18 x19 x20 x21 : Value) (S : AHeap) : vOps Try.prog false (vlim Try.prog O) (reg Try.f15 5) (reg Try.f15 5).toList ([x0,x1,x2,x3,x4,x5,x6,x7,x8,x9,x10,x11,x12,x13,x14,x15,x16,x17,x18,x19,x20,x21]) S =
    (andK (vBuildSlice Try.prog 23 1 [(0, (dem x4))] S) (fun v2 S1 => andK (vAppend Try.prog 23 23 x3 v2 S1) (fun v3 S2 => some ([x0,x1,v3,dem x3,x4,x5,x6,x7,x8,x9,x10,x11,x12,dem x3,dem x4,v2,dem v3,x17,x18,x19,x20,x21], S2)) ()) ()) := by
  refine vOps_pure (v := x3) (o := opAt Try.f15 5 0) (rest := (reg Try.f15 5).toList.drop 1) (by kernel_rfl) (by kernel_rfl) (fun _ => rfl) (by kernel_rfl) ?_
  refine vOps_pure (v := x4) (o := opAt Try.f15 5 1) (rest := (reg Try.f15 5).toList.drop 2) (by kernel_rfl) (by kernel_rfl) (fun _ => rfl) (by kernel_rfl) ?_
  refine vOps_do (o := opAt Try.f15 5 2) (rest := (reg Try.f15 5).toList.drop 3) (by kernel_rfl) (by kernel_rfl) (fun _ => rfl) (by kernel_rfl) (fun v2 S1 => ?_)
  refine vOps_do (o := opAt Try.f15 5 3) (rest := (reg Try.f15 5).toList.drop 4) (by kernel_rfl) (by kernel_rfl) (fun _ => rfl) (by kernel_rfl) (fun v3 S2 => ?_)
  refine vOps_pure (v := v3) (o := opAt Try.f15 5 4) (rest := (reg Try.f15 5).toList.drop 5) (by kernel_rfl) (by kernel_rfl) (fun _ => rfl) (by kernel_rfl) ?_
  kernel_rfl
theorem neaptideref01_Num.r6 (x0 x1 x2 x3 x4 x5 x6 x7 x8 x9 x10 x11 x12 x13 x14 x15 x16 x17 x18 x19 x20 x21 : Value) (S : AHeap) : vOps Try.prog false (vlim Try.prog O) (reg Try.f15 6) (reg Try.f15 6).toList ([x0,x1,x2,x3,x4,x5,x6,x7,x8,x9,x10,x11,x12,x13,x14,x15,x16,x17,x18,x19,x20,x21]) S =
    (andK (vBin Try.prog BinOp.add 5 (dem x4) (Value.int IntKind.u8 128) S) (fun v2 S1 => andK (vBuildSlice Try.prog 23 1 [(0, v2)] S1) (fun v3 S2 => andK (vAppend Try.prog 23 23 x3 v3 S2) (fun v4 S3 => some ([x0,x1,x2,v4,x4,x5,x6,x7,x8,x9,x10,x11,x12,x13,x14,x15,x16,dem x3,dem x4,v2,v3,dem v4], S3)) ()) ()) ()) := by
  refine vOps_pure (v := x3) (o := opAt Try.f15 6 0) (rest := (reg Try.f15 6).toList.drop 1) (by kernel_rfl) (by kernel_rfl) (fun _ => rfl) (by kernel_rfl) ?_
  refine vOps_pure (v := x4) (o := opAt Try.f15 6 1) (rest := (reg Try.f15 6).toList.drop 2) (by kernel_rfl) (by kernel_rfl) (fun _ => rfl) (by kernel_rfl) ?_
  refine vOps_do (o := opAt Try.f15 6 2) (rest := (reg Try.f15 6).toList.drop 3) (by kernel_rfl) (by kernel_rfl) (fun _ => rfl) (by kernel_rfl) (fun v2 S1 => ?_)
  refine vOps_do (o := opAt Try.f15 6 3) (rest := (reg Try.f15 6).toList.drop 4) (by kernel_rfl) (by kernel_rfl) (fun _ => rfl) (by kernel_rfl) (fun v3 S2 => ?_)
  refine vOps_do (o := opAt Try.f15 6 4) (rest := (reg Try.f15 6).toList.drop 5) (by kernel_rfl) (by kernel_rfl) (fun _ => rfl) (by kernel_rfl) (fun v4 S3 => ?_)
  refine vOps_pure (v := v4) (o := opAt Try.f15 6 5) (rest := (reg Try.f15 6).toList.drop 6) (by kernel_rfl) (by kernel_rfl) (fun _ => rfl) (by kernel_rfl) ?_
  kernel_rfl
theorem neaptideref01_Num.runs {x0 : Value} {S S1 : AHeap} {e : AEx} {T : List Value} (h : vcodeV Try.prog O neaptideref01_Num.code ([x0,undef,undef,undef,undef,undef,undef,undef,undef,undef,undef,undef,undef,undef,undef,undef,undef,undef,undef,undef,undef,undef]) S = some (e, T, S1)) (he : e = .normal ∨ e = .ret) : vlim Try.prog O 15 [x0] S = some (T.getD 2 undef, S1) :=
  vlim_code rfl Try.func15 (by decide) neaptideref01_Num.body (by exact h) he rfl
end Go.Proofs.Ytjlhjebmbllkiaa
