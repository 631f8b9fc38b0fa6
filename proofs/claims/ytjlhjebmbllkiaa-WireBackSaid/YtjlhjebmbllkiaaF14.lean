/-
The seat's functions in a shallow form: each region as a chain of the interpreter's operations. Printed by a program; Lean checks each row.
-/
import Derived.Test.YtjlhjebmbllkiaaChecked
import Derived.Test.YtjlhjebmbllkiaaOra
import Derived.KernelRfl
set_option linter.unusedVariables false
set_option maxRecDepth 100000
namespace Go.Proofs.Ytjlhjebmbllkiaa
open Go.Abs

/-- neaptide.wire.Num -/
abbrev wire_Num.id : FuncId := 14
noncomputable def wire_Num.loop1 : Code := (Code.seq (Code.seq (Code.region 2 (reg Try.f14 2) false) (Code.cond (Operand.tmp 5) Code.skip (Code.exit 0))) (Code.block 1 (Code.seq (Code.region 3 (reg Try.f14 3) false) (Code.region 4 (reg Try.f14 4) false))))
noncomputable def wire_Num.code : Code := (Code.seq (Code.region 0 (reg Try.f14 0) false) (Code.seq (Code.region 1 (reg Try.f14 1) false) (Code.seq (Code.block 0 (Code.loop wire_Num.loop1)) (Code.seq (Code.region 5 (reg Try.f14 5) false) Code.ret))))
theorem wire_Num.body : Try.f14.body = some wire_Num.code := by kernel_rfl
theorem wire_Num.eta {T : List Value} (h : T.length = 19) : T = [T.getD 0 undef,T.getD 1 undef,T.getD 2 undef,T.getD 3 undef,T.getD 4 undef,T.getD 5 undef,T.getD 6 undef,T.getD 7 undef,T.getD 8 undef,T.getD 9 undef,T.getD 10 undef,T.getD 11 undef,T.getD 12 undef,T.getD 13 undef,T.getD 14 undef,T.getD 15 undef,T.getD 16 undef,T.getD 17 undef,T.getD 18 undef] := (list_getD T 19 h).trans (by kernel_rfl)
theorem wire_Num.list {T : List Value} (h : T.length = 19) : ∃ x0 x1 x2 x3 x4 x5 x6 x7 x8 x9 x10 x11 x12 x13 x14 x15 x16 x17 x18, T = [x0,x1,x2,x3,x4,x5,x6,x7,x8,x9,x10,x11,x12,x13,x14,x15,x16,x17,x18] := ⟨_, _, _, _, _, _, _, _, _, _, _, _, _, _, _, _, _, _, _, wire_Num.eta h⟩
theorem wire_Num.r0 (x0 x1 x2 x3 x4 x5 x6 x7 x8 x9 x10 x11 x12 x13 x14 x15 x16 x17 x18 : Value) (S : AHeap) : vOps Try.prog false (vlim Try.prog O) (reg Try.f14 0) (reg Try.f14 0).toList ([x0,x1,x2,x3,x4,x5,x6,x7,x8,x9,x10,x11,x12,x13,x14,x15,x16,x17,x18]) S =
    ( some ([x0,x1,Value.slice none 0 0,x3,x4,x5,x6,x7,x8,x9,x10,x11,x12,x13,x14,x15,x16,x17,x18], S)) := by
  refine vOps_pure (v := (Value.slice none 0 0)) (o := opAt Try.f14 0 0) (rest := (reg Try.f14 0).toList.drop 1) (by kernel_rfl) (by kernel_rfl) (fun _ => rfl) (by kernel_rfl) ?_
  kernel_rfl
theorem wire_Num.r1 (x0 x1 x2 x3 x4 x5 x6 x7 x8 x9 x10 x11 x12 x13 x14 x15 x16 x17 x18 : Value) (S : AHeap) : vOps Try.prog false (vlim Try.prog O) (reg Try.f14 1) (reg Try.f14 1).toList ([x0,x1,x2,x3,x4,x5,x6,x7,x8,x9,x10,x11,x12,x13,x14,x15,x16,x17,x18]) S =
    ( some ([x0,x1,x2,Value.slice none 0 0,x4,x5,x6,x7,x8,x9,x10,x11,x12,x13,x14,x15,x16,x17,x18], S)) := by
  refine vOps_pure (v := (Value.slice none 0 0)) (o := opAt Try.f14 1 0) (rest := (reg Try.f14 1).toList.drop 1) (by kernel_rfl) (by kernel_rfl) (fun _ => rfl) (by kernel_rfl) ?_
  kernel_rfl
theorem wire_Num.r2 (x0 x1 x2 x3 x4 x5 x6 x7 x8 x9 x10 x11 x12 x13 x14 x15 x16 x17 x18 : Value) (S : AHeap) : vOps Try.prog false (vlim Try.prog O) (reg Try.f14 2) (reg Try.f14 2).toList ([x0,x1,x2,x3,x4,x5,x6,x7,x8,x9,x10,x11,x12,x13,x14,x15,x16,x17,x18]) S =
    (andK (vBin Try.prog BinOp.geq 22 (dem x0) (Value.int IntKind.u64 128) S) (fun v1 S1 => some ([x0,x1,x2,x3,dem x0,v1,x6,x7,x8,x9,x10,x11,x12,x13,x14,x15,x16,x17,x18], S1)) ()) := by
  refine vOps_pure (v := x0) (o := opAt Try.f14 2 0) (rest := (reg Try.f14 2).toList.drop 1) (by kernel_rfl) (by kernel_rfl) (fun _ => rfl) (by kernel_rfl) ?_
  refine vOps_do (o := opAt Try.f14 2 1) (rest := (reg Try.f14 2).toList.drop 2) (by kernel_rfl) (by kernel_rfl) (fun _ => rfl) (by kernel_rfl) (fun v1 S1 => ?_)
  kernel_rfl
theorem wire_Num.r3 (x0 x1 x2 x3 x4 x5 x6 x7 x8 x9 x10 x11 x12 x13 x14 x15 x16 x17 x18 : Value) (S : AHeap) : vOps Try.prog false (vlim Try.prog O) (reg Try.f14 3) (reg Try.f14 3).toList ([x0,x1,x2,x3,x4,x5,x6,x7,x8,x9,x10,x11,x12,x13,x14,x15,x16,x17,x18]) S =
    (andK (vConv Try.prog 22 5 (dem x0) S) (fun v2 S1 => andK (vBin Try.prog BinOp.or 5 v2 (Value.int IntKind.u8 128) S1) (fun v3 S2 => andK (vBuildSlice Try.prog 23 1 [(0, v3)] S2) (fun v4 S3 => andK (vAppend Try.prog 23 23 x3 v4 S3) (fun v5 S4 => some ([x0,x1,x2,v5,x4,x5,dem x3,dem x0,v2,v3,v4,dem v5,x12,x13,x14,x15,x16,x17,x18], S4)) ()) ()) ()) ()) := by
  refine vOps_pure (v := x3) (o := opAt Try.f14 3 0) (rest := (reg Try.f14 3).toList.drop 1) (by kernel_rfl) (by kernel_rfl) (fun _ => rfl) (by kernel_rfl) ?_
  refine vOps_pure (v := x0) (o := opAt Try.f14 3 1) (rest := (reg Try.f14 3).toList.drop 2) (by kernel_rfl) (by kernel_rfl) (fun _ => rfl) (by kernel_rfl) ?_
  refine vOps_do (o := opAt Try.f14 3 2) (rest := (reg Try.f14 3).toList.drop 3) (by kernel_rfl) (by kernel_rfl) (fun _ => rfl) (by kernel_rfl) (fun v2 S1 => ?_)
  refine vOps_do (o := opAt Try.f14 3 3) (rest := (reg Try.f14 3).toList.drop 4) (by kernel_rfl) (by kernel_rfl) (fun _ => rfl) (by kernel_rfl) (fun v3 S2 => ?_)
  refine vOps_do (o := opAt Try.f14 3 4) (rest := (reg Try.f14 3).toList.drop 5) (by kernel_rfl) (by kernel_rfl) (fun _ => rfl) (by kernel_rfl) (fun v4 S3 => ?_)
  refine vOps_do (o := opAt Try.f14 3 5) (rest := (reg Try.f14 3).toList.drop 6) (by kernel_rfl) (by kernel_rfl) (fun _ => rfl) (by kernel_rfl) (fun v5 S4 => ?_)
  refine vOps_pure (v := v5) (o := opAt Try.f14 3 6) (rest := (reg Try.f14 3).toList.drop 7) (by kernel_rfl) (by kernel_rfl) (fun _ => rfl) (by kernel_rfl) ?_
  kernel_rfl
theorem wire_Num.r4 (x0 x1 x2 x3 x4 x5 x6 x7 x8 x9 x10 x11 x12 x13 x14 x15 x16 x17 x18 : Value) (S : AHeap) : vOps Try.prog false (vlim Try.prog O) (reg Try.f14 4) (reg Try.f14 4).toList ([x0,x1,x2,x3,x4,x5,x6,x7,x8,x9,x10,x11,x12,x13,x14,x15,x16,x17,x18]) S =
    (andK (vBin Try.prog BinOp.shr 22 (dem x0) (Value.int IntKind.u64 7) S) (fun v1 S1 => some ([v1,x1,x2,x3,x4,x5,x6,x7,x8,x9,x10,x11,dem x0,dem v1,x14,x15,x16,x17,x18], S1)) ()) := by
  refine vOps_pure (v := x0) (o := opAt Try.f14 4 0) (rest := (reg Try.f14 4).toList.drop 1) (by kernel_rfl) (by kernel_rfl) (fun _ => rfl) (by kernel_rfl) ?_
  refine vOps_do (o := opAt Try.f14 4 1) (rest := (reg Try.f14 4).toList.drop 2) (by kernel_rfl) (by kernel_rfl) (fun _ => rfl) (by kernel_rfl) (fun v1 S1 => ?_)
  refine vOps_pure (v := v1) (o := opAt Try.f14 4 2) (rest := (reg Try.f14 4).toList.drop 3) (by kernel_rfl) (by kernel_rfl) (fun _ => rfl) (by kernel_rfl) ?_
  kernel_rfl
theorem wire_Num.r5 (x0 x1 x2 x3 x4 x5 x6 x7 x8 x9 x10 x11 x12 x13 x14 x15 x16 x17 x18 : Value) (S : AHeap) : vOps Try.prog false (vlim Try.prog O) (reg Try.f14 5) (reg Try.f14 5).toList ([x0,x1,x2,x3,x4,x5,x6,x7,x8,x9,x10,x11,x12,x13,x14,x15,x16,x17,x18]) S =
    (andK (vConv Try.prog 22 5 (dem x0) S) (fun v2 S1 => andK (vBuildSlice Try.prog 23 1 [(0, v2)] S1) (fun v3 S2 => andK (vAppend Try.prog 23 23 x3 v3 S2) (fun v4 S3 => some ([x0,x1,v4,dem x3,x4,x5,x6,x7,x8,x9,x10,x11,x12,x13,dem x3,dem x0,v2,v3,dem v4], S3)) ()) ()) ()) := by
  refine vOps_pure (v := x3) (o := opAt Try.f14 5 0) (rest := (reg Try.f14 5).toList.drop 1) (by kernel_rfl) (by kernel_rfl) (fun _ => rfl) (by kernel_rfl) ?_
  refine vOps_pure (v := x0) (o := opAt Try.f14 5 1) (rest := (reg Try.f14 5).toList.drop 2) (by kernel_rfl) (by kernel_rfl) (fun _ => rfl) (by kernel_rfl) ?_
  refine vOps_do (o := opAt Try.f14 5 2) (rest := (reg Try.f14 5).toList.drop 3) (by kernel_rfl) (by kernel_rfl) (fun _ => rfl) (by kernel_rfl) (fun v2 S1 => ?_)
  refine vOps_do (o := opAt Try.f14 5 3) (rest := (reg Try.f14 5).toList.drop 4) (by kernel_rfl) (by kernel_rfl) (fun _ => rfl) (by kernel_rfl) (fun v3 S2 => ?_)
  refine vOps_do (o := opAt Try.f14 5 4) (rest := (reg Try.f14 5).toList.drop 5) (by kernel_rfl) (by kernel_rfl) (fun _ => rfl) (by kernel_rfl) (fun v4 S3 => ?_)
  refine vOps_pure (v := v4) (o := opAt Try.f14 5 5) (rest := (reg Try.f14 5).toList.drop 6) (by kernel_rfl) (by kernel_rfl) (fun _ => rfl) (by kernel_rfl) ?_
  kernel_rfl
theorem wire_Num.runs {x0 : Value} {S S1 : AHeap} {e : AEx} {T : List Value} (h : vcodeV Try.prog O wire_Num.code ([x0,undef,undef,undef,undef,undef,undef,undef,undef,undef,undef,undef,undef,undef,undef,undef,undef,undef,undef]) S = some (e, T, S1)) (he : e = .normal ∨ e = .ret) : vlim Try.prog O 14 [x0] S = some (T.getD 2 undef, S1) :=
  vlim_code rfl Try.func14 (by decide) wire_Num.body (by exact h) he rfl
end Go.Proofs.Ytjlhjebmbllkiaa
