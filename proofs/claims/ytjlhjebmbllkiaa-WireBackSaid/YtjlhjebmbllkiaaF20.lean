/-
The seat's functions in a shallow form: each region as a chain of the interpreter's operations. Printed by a program; Lean checks each row.
-/
import Derived.Test.YtjlhjebmbllkiaaChecked
import Derived.Test.YtjlhjebmbllkiaaOra
import Derived.KernelRfl
set_option linter.unusedVariables false
set_option maxRecDepth 100000
namespace Go.Proofs.Ytjlhjebmbllkiaa
open Go.Abs

/-- neaptide.wire.Nums -/
abbrev wire_Nums.id : FuncId := 20
noncomputable def wire_Nums.loop1 : Code := (Code.seq (Code.region 5 (reg Try.f20 5) false) (Code.seq (Code.cond (Operand.tmp 13) Code.skip (Code.exit 0)) (Code.seq (Code.block 1 (Code.seq (Code.region 6 (reg Try.f20 6) false) (Code.seq (Code.seq (Code.region 7 (reg Try.f20 7) false) (Code.cond (Operand.tmp 17) (Code.seq (Code.region 8 (reg Try.f20 8) false) Code.ret) Code.skip)) (Code.region 9 (reg Try.f20 9) false)))) (Code.region 10 (reg Try.f20 10) false))))
noncomputable def wire_Nums.code : Code := (Code.seq (Code.region 0 (reg Try.f20 0) false) (Code.seq (Code.seq (Code.region 1 (reg Try.f20 1) false) (Code.cond (Operand.tmp 9) (Code.seq (Code.region 2 (reg Try.f20 2) false) Code.ret) Code.skip)) (Code.seq (Code.region 3 (reg Try.f20 3) false) (Code.seq (Code.seq (Code.region 4 (reg Try.f20 4) false) (Code.block 0 (Code.loop wire_Nums.loop1))) (Code.seq (Code.region 11 (reg Try.f20 11) false) Code.ret)))))
theorem wire_Nums.body : Try.f20.body = some wire_Nums.code := by kernel_rfl
theorem wire_Nums.eta {T : List Value} (h : T.length = 26) : T = [T.getD 0 undef,T.getD 1 undef,T.getD 2 undef,T.getD 3 undef,T.getD 4 undef,T.getD 5 undef,T.getD 6 undef,T.getD 7 undef,T.getD 8 undef,T.getD 9 undef,T.getD 10 undef,T.getD 11 undef,T.getD 12 undef,T.getD 13 undef,T.getD 14 undef,T.getD 15 undef,T.getD 16 undef,T.getD 17 undef,T.getD 18 undef,T.getD 19 undef,T.getD 20 undef,T.getD 21 undef,T.getD 22 undef,T.getD 23 undef,T.getD 24 undef,T.getD 25 undef] := (list_getD T 26 h).trans (by kernel_rfl)
theorem wire_Nums.list {T : List Value} (h : T.length = 26) : ∃ x0 x1 x2 x3 x4 x5 x6 x7 x8 x9 x10 x11 x12 x13 x14 x15 x16 x17 x18 x19 x20 x21 x22 x23 x24 x25, T = [x0,x1,x2,x3,x4,x5,x6,x7,x8,x9,x10,x11,x12,x13,x14,x15,x16,x17,x18,x19,x20,x21,x22,x23,x24,x25] := ⟨_, _, _, _, _, _, _, _, _, _, _, _, _, _, _, _, _, _, _, _, _, _, _, _, _, _, wire_Nums.eta h⟩
theorem wire_Nums.r0 (x0 x1 x2 x3 x4 x5 x6 x7 x8 x9 x10 x11 x12 x13 x14 x15 x16 x17 x18 x19 x20 x21 x22 x23 x24 x25 : Value) (S : AHeap) : vOps Try.prog false (vlim Try.prog O) (reg Try.f20 0) (reg Try.f20 0).toList ([x0,x1,x2,x3,x4,x5,x6,x7,x8,x9,x10,x11,x12,x13,x14,x15,x16,x17,x18,x19,x20,x21,x22,x23,x24,x25]) S =
    ( some ([x0,x1,Value.slice none 0 0,Value.int IntKind.i64 0,x4,x5,x6,x7,x8,x9,x10,x11,x12,x13,x14,x15,x16,x17,x18,x19,x20,x21,x22,x23,x24,x25], S)) := by
  refine vOps_pure (v := (Value.slice none 0 0)) (o := opAt Try.f20 0 0) (rest := (reg Try.f20 0).toList.drop 1) (by kernel_rfl) (by kernel_rfl) (fun _ => rfl) (by kernel_rfl) ?_
  refine vOps_pure (v := (Value.int IntKind.i64 0)) (o := opAt Try.f20 0 1) (rest := (reg Try.f20 0).toList.drop 2) (by kernel_rfl) (by kernel_rfl) (fun _ => rfl) (by kernel_rfl) ?_
  kernel_rfl
theorem wire_Nums.r1 (x0 x1 x2 x3 x4 x5 x6 x7 x8 x9 x10 x11 x12 x13 x14 x15 x16 x17 x18 x19 x20 x21 x22 x23 x24 x25 : Value) (S : AHeap) : vOps Try.prog false (vlim Try.prog O) (reg Try.f20 1) (reg Try.f20 1).toList ([x0,x1,x2,x3,x4,x5,x6,x7,x8,x9,x10,x11,x12,x13,x14,x15,x16,x17,x18,x19,x20,x21,x22,x23,x24,x25]) S =
    (andK (vLen Try.prog 43 (dem x0) S) (fun v1 S1 => andK (vBin Try.prog BinOp.gtr 3 v1 (Value.int IntKind.i64 64) S1) (fun v2 S2 => some ([x0,x1,x2,x3,x4,x5,x6,dem x0,v1,v2,x10,x11,x12,x13,x14,x15,x16,x17,x18,x19,x20,x21,x22,x23,x24,x25], S2)) ()) ()) := by
  refine vOps_pure (v := x0) (o := opAt Try.f20 1 0) (rest := (reg Try.f20 1).toList.drop 1) (by kernel_rfl) (by kernel_rfl) (fun _ => rfl) (by kernel_rfl) ?_
  refine vOps_do (o := opAt Try.f20 1 1) (rest := (reg Try.f20 1).toList.drop 2) (by kernel_rfl) (by kernel_rfl) (fun _ => rfl) (by kernel_rfl) (fun v1 S1 => ?_)
  refine vOps_do (o := opAt Try.f20 1 2) (rest := (reg Try.f20 1).toList.drop 3) (by kernel_rfl) (by kernel_rfl) (fun _ => rfl) (by kernel_rfl) (fun v2 S2 => ?_)
  kernel_rfl
theorem wire_Nums.r2 (x0 x1 x2 x3 x4 x5 x6 x7 x8 x9 x10 x11 x12 x13 x14 x15 x16 x17 x18 x19 x20 x21 x22 x23 x24 x25 : Value) (S : AHeap) : vOps Try.prog false (vlim Try.prog O) (reg Try.f20 2) (reg Try.f20 2).toList ([x0,x1,x2,x3,x4,x5,x6,x7,x8,x9,x10,x11,x12,x13,x14,x15,x16,x17,x18,x19,x20,x21,x22,x23,x24,x25]) S =
    ( some ([x0,x1,Value.slice none 0 0,Value.int IntKind.i64 11,x4,x5,x6,x7,x8,x9,x10,x11,x12,x13,x14,x15,x16,x17,x18,x19,x20,x21,x22,x23,x24,x25], S)) := by
  refine vOps_pure (v := (Value.slice none 0 0)) (o := opAt Try.f20 2 0) (rest := (reg Try.f20 2).toList.drop 1) (by kernel_rfl) (by kernel_rfl) (fun _ => rfl) (by kernel_rfl) ?_
  refine vOps_pure (v := (Value.int IntKind.i64 11)) (o := opAt Try.f20 2 1) (rest := (reg Try.f20 2).toList.drop 2) (by kernel_rfl) (by kernel_rfl) (fun _ => rfl) (by kernel_rfl) ?_
  kernel_rfl
theorem wire_Nums.r3 (x0 x1 x2 x3 x4 x5 x6 x7 x8 x9 x10 x11 x12 x13 x14 x15 x16 x17 x18 x19 x20 x21 x22 x23 x24 x25 : Value) (S : AHeap) : vOps Try.prog false (vlim Try.prog O) (reg Try.f20 3) (reg Try.f20 3).toList ([x0,x1,x2,x3,x4,x5,x6,x7,x8,x9,x10,x11,x12,x13,x14,x15,x16,x17,x18,x19,x20,x21,x22,x23,x24,x25]) S =
    ( some ([x0,x1,x2,x3,Value.slice none 0 0,x5,x6,x7,x8,x9,x10,x11,x12,x13,x14,x15,x16,x17,x18,x19,x20,x21,x22,x23,x24,x25], S)) := by
  refine vOps_pure (v := (Value.slice none 0 0)) (o := opAt Try.f20 3 0) (rest := (reg Try.f20 3).toList.drop 1) (by kernel_rfl) (by kernel_rfl) (fun _ => rfl) (by kernel_rfl) ?_
  kernel_rfl
theorem wire_Nums.r4 (x0 x1 x2 x3 x4 x5 x6 x7 x8 x9 x10 x11 x12 x13 x14 x15 x16 x17 x18 x19 x20 x21 x22 x23 x24 x25 : Value) (S : AHeap) : vOps Try.prog false (vlim Try.prog O) (reg Try.f20 4) (reg Try.f20 4).toList ([x0,x1,x2,x3,x4,x5,x6,x7,x8,x9,x10,x11,x12,x13,x14,x15,x16,x17,x18,x19,x20,x21,x22,x23,x24,x25]) S =
    (andK (vLen Try.prog 43 (dem x0) S) (fun v1 S1 => some ([x0,x1,x2,x3,x4,x5,x6,x7,x8,x9,dem x0,v1,Value.int IntKind.i64 0,x13,x14,x15,x16,x17,x18,x19,x20,x21,x22,x23,x24,x25], S1)) ()) := by
  refine vOps_pure (v := x0) (o := opAt Try.f20 4 0) (rest := (reg Try.f20 4).toList.drop 1) (by kernel_rfl) (by kernel_rfl) (fun _ => rfl) (by kernel_rfl) ?_
  refine vOps_do (o := opAt Try.f20 4 1) (rest := (reg Try.f20 4).toList.drop 2) (by kernel_rfl) (by kernel_rfl) (fun _ => rfl) (by kernel_rfl) (fun v1 S1 => ?_)
  refine vOps_pure (v := (Value.int IntKind.i64 0)) (o := opAt Try.f20 4 2) (rest := (reg Try.f20 4).toList.drop 3) (by kernel_rfl) (by kernel_rfl) (fun _ => rfl) (by kernel_rfl) ?_
  kernel_rfl
theorem wire_Nums.r5 (x0 x1 x2 x3 x4 x5 x6 x7 x8 x9 x10 x11 x12 x13 x14 x15 x16 x17 x18 x19 x20 x21 x22 x23 x24 x25 : Value) (S : AHeap) : vOps Try.prog false (vlim Try.prog O) (reg Try.f20 5) (reg Try.f20 5).toList ([x0,x1,x2,x3,x4,x5,x6,x7,x8,x9,x10,x11,x12,x13,x14,x15,x16,x17,x18,x19,x20,x21,x22,x23,x24,x25]) S =
    (andK (vBin Try.prog BinOp.lss 3 x12 x11 S) (fun v0 S1 => some ([x0,x1,x2,x3,x4,x5,x6,x7,x8,x9,x10,x11,x12,v0,x14,x15,x16,x17,x18,x19,x20,x21,x22,x23,x24,x25], S1)) ()) := by
  refine vOps_do (o := opAt Try.f20 5 0) (rest := (reg Try.f20 5).toList.drop 1) (by kernel_rfl) (by kernel_rfl) (fun _ => rfl) (by kernel_rfl) (fun v0 S1 => ?_)
  kernel_rfl
theorem wire_Nums.r6 (x0 x1 x2 x3 x4 x5 x6 x7 x8 x9 x10 x11 x12 x13 x14 x15 x16 x17 x18 x19 x20 x21 x22 x23 x24 x25 : Value) (S : AHeap) : vOps Try.prog false (vlim Try.prog O) (reg Try.f20 6) (reg Try.f20 6).toList ([x0,x1,x2,x3,x4,x5,x6,x7,x8,x9,x10,x11,x12,x13,x14,x15,x16,x17,x18,x19,x20,x21,x22,x23,x24,x25]) S =
    (andK (vIndexAddr Try.prog 43 x10 x12 S) (fun v0 S1 => andK (vLoad Try.prog false 3 v0 S1) (fun v1 S2 => some ([x0,x1,x2,x3,x4,x5,v1,x7,x8,x9,x10,x11,x12,x13,v0,dem v1,x16,x17,x18,x19,x20,x21,x22,x23,x24,x25], S2)) ()) ()) := by
  refine vOps_do (o := opAt Try.f20 6 0) (rest := (reg Try.f20 6).toList.drop 1) (by kernel_rfl) (by kernel_rfl) (fun _ => rfl) (by kernel_rfl) (fun v0 S1 => ?_)
  refine vOps_do (o := opAt Try.f20 6 1) (rest := (reg Try.f20 6).toList.drop 2) (by kernel_rfl) (by kernel_rfl) (fun _ => rfl) (by kernel_rfl) (fun v1 S2 => ?_)
  refine vOps_pure (v := v1) (o := opAt Try.f20 6 2) (rest := (reg Try.f20 6).toList.drop 3) (by kernel_rfl) (by kernel_rfl) (fun _ => rfl) (by kernel_rfl) ?_
  kernel_rfl
theorem wire_Nums.r7 (x0 x1 x2 x3 x4 x5 x6 x7 x8 x9 x10 x11 x12 x13 x14 x15 x16 x17 x18 x19 x20 x21 x22 x23 x24 x25 : Value) (S : AHeap) : vOps Try.prog false (vlim Try.prog O) (reg Try.f20 7) (reg Try.f20 7).toList ([x0,x1,x2,x3,x4,x5,x6,x7,x8,x9,x10,x11,x12,x13,x14,x15,x16,x17,x18,x19,x20,x21,x22,x23,x24,x25]) S =
    (andK (vBin Try.prog BinOp.lss 3 (dem x6) (Value.int IntKind.i64 (-1)) S) (fun v1 S1 => some ([x0,x1,x2,x3,x4,x5,x6,x7,x8,x9,x10,x11,x12,x13,x14,x15,dem x6,v1,x18,x19,x20,x21,x22,x23,x24,x25], S1)) ()) := by
  refine vOps_pure (v := x6) (o := opAt Try.f20 7 0) (rest := (reg Try.f20 7).toList.drop 1) (by kernel_rfl) (by kernel_rfl) (fun _ => rfl) (by kernel_rfl) ?_
  refine vOps_do (o := opAt Try.f20 7 1) (rest := (reg Try.f20 7).toList.drop 2) (by kernel_rfl) (by kernel_rfl) (fun _ => rfl) (by kernel_rfl) (fun v1 S1 => ?_)
  kernel_rfl
theorem wire_Nums.r8 (x0 x1 x2 x3 x4 x5 x6 x7 x8 x9 x10 x11 x12 x13 x14 x15 x16 x17 x18 x19 x20 x21 x22 x23 x24 x25 : Value) (S : AHeap) : vOps Try.prog false (vlim Try.prog O) (reg Try.f20 8) (reg Try.f20 8).toList ([x0,x1,x2,x3,x4,x5,x6,x7,x8,x9,x10,x11,x12,x13,x14,x15,x16,x17,x18,x19,x20,x21,x22,x23,x24,x25]) S =
    ( some ([x0,x1,Value.slice none 0 0,Value.int IntKind.i64 11,x4,x5,x6,x7,x8,x9,x10,x11,x12,x13,x14,x15,x16,x17,x18,x19,x20,x21,x22,x23,x24,x25], S)) := by
  refine vOps_pure (v := (Value.slice none 0 0)) (o := opAt Try.f20 8 0) (rest := (reg Try.f20 8).toList.drop 1) (by kernel_rfl) (by kernel_rfl) (fun _ => rfl) (by kernel_rfl) ?_
  refine vOps_pure (v := (Value.int IntKind.i64 11)) (o := opAt Try.f20 8 1) (rest := (reg Try.f20 8).toList.drop 2) (by kernel_rfl) (by kernel_rfl) (fun _ => rfl) (by kernel_rfl) ?_
  kernel_rfl
theorem wire_Nums.r9 (x0 x1 x2 x3 x4 x5 x6 x7 x8 x9 x10 x11 x12 x13 x14 x15 x16 x17 x18 x19 x20 x21 x22 x23 x24 x25 : Value) (S : AHeap) : vOps Try.prog false (vlim Try.prog O) (reg Try.f20 9) (reg Try.f20 9).toList ([x0,x1,x2,x3,x4,x5,x6,x7,x8,x9,x10,x11,x12,x13,x14,x15,x16,x17,x18,x19,x20,x21,x22,x23,x24,x25]) S =
    (andK (vConv Try.prog 3 22 (dem x6) S) (fun v2 S1 => andK (vBin Try.prog BinOp.add 22 v2 (Value.int IntKind.u64 1) S1) (fun v3 S2 => andK ((vlim Try.prog O) 14 [(dem v3)] S2) (fun v4 S3 => andK (vAppend Try.prog 23 23 x4 v4 S3) (fun v5 S4 => some ([x0,x1,x2,x3,v5,x5,x6,x7,x8,x9,x10,x11,x12,x13,x14,x15,x16,x17,dem x4,dem x6,v2,v3,v4,dem v5,x24,x25], S4)) ()) ()) ()) ()) := by
  refine vOps_pure (v := x4) (o := opAt Try.f20 9 0) (rest := (reg Try.f20 9).toList.drop 1) (by kernel_rfl) (by kernel_rfl) (fun _ => rfl) (by kernel_rfl) ?_
  refine vOps_pure (v := x6) (o := opAt Try.f20 9 1) (rest := (reg Try.f20 9).toList.drop 2) (by kernel_rfl) (by kernel_rfl) (fun _ => rfl) (by kernel_rfl) ?_
  refine vOps_do (o := opAt Try.f20 9 2) (rest := (reg Try.f20 9).toList.drop 3) (by kernel_rfl) (by kernel_rfl) (fun _ => rfl) (by kernel_rfl) (fun v2 S1 => ?_)
  refine vOps_do (o := opAt Try.f20 9 3) (rest := (reg Try.f20 9).toList.drop 4) (by kernel_rfl) (by kernel_rfl) (fun _ => rfl) (by kernel_rfl) (fun v3 S2 => ?_)
  refine vOps_do (o := opAt Try.f20 9 4) (rest := (reg Try.f20 9).toList.drop 5) (by kernel_rfl) (by kernel_rfl) (fun _ => rfl) (by kernel_rfl) (fun v4 S3 => ?_)
  refine vOps_do (o := opAt Try.f20 9 5) (rest := (reg Try.f20 9).toList.drop 6) (by kernel_rfl) (by kernel_rfl) (fun _ => rfl) (by kernel_rfl) (fun v5 S4 => ?_)
  refine vOps_pure (v := v5) (o := opAt Try.f20 9 6) (rest := (reg Try.f20 9).toList.drop 7) (by kernel_rfl) (by kernel_rfl) (fun _ => rfl) (by kernel_rfl) ?_
  kernel_rfl
theorem wire_Nums.r10 (x0 x1 x2 x3 x4 x5 x6 x7 x8 x9 x10 x11 x12 x13 x14 x15 x16 x17 x18 x19 x20 x21 x22 x23 x24 x25 : Value) (S : AHeap) : vOps Try.prog false (vlim Try.prog O) (reg Try.f20 10) (reg Try.f20 10).toList ([x0,x1,x2,x3,x4,x5,x6,x7,x8,x9,x10,x11,x12,x13,x14,x15,x16,x17,x18,x19,x20,x21,x22,x23,x24,x25]) S =
    (andK (vBin Try.prog BinOp.add 3 x12 (Value.int IntKind.i64 1) S) (fun v0 S1 => some ([x0,x1,x2,x3,x4,x5,x6,x7,x8,x9,x10,x11,dem v0,x13,x14,x15,x16,x17,x18,x19,x20,x21,x22,x23,v0,x25], S1)) ()) := by
  refine vOps_do (o := opAt Try.f20 10 0) (rest := (reg Try.f20 10).toList.drop 1) (by kernel_rfl) (by kernel_rfl) (fun _ => rfl) (by kernel_rfl) (fun v0 S1 => ?_)
  refine vOps_pure (v := v0) (o := opAt Try.f20 10 1) (rest := (reg Try.f20 10).toList.drop 2) (by kernel_rfl) (by kernel_rfl) (fun _ => rfl) (by kernel_rfl) ?_
  kernel_rfl
theorem wire_Nums.r11 (x0 x1 x2 x3 x4 x5 x6 x7 x8 x9 x10 x11 x12 x13 x14 x15 x16 x17 x18 x19 x20 x21 x22 x23 x24 x25 : Value) (S : AHeap) : vOps Try.prog false (vlim Try.prog O) (reg Try.f20 11) (reg Try.f20 11).toList ([x0,x1,x2,x3,x4,x5,x6,x7,x8,x9,x10,x11,x12,x13,x14,x15,x16,x17,x18,x19,x20,x21,x22,x23,x24,x25]) S =
    ( some ([x0,x1,x4,Value.int IntKind.i64 0,dem x4,x5,x6,x7,x8,x9,x10,x11,x12,x13,x14,x15,x16,x17,x18,x19,x20,x21,x22,x23,x24,dem x4], S)) := by
  refine vOps_pure (v := x4) (o := opAt Try.f20 11 0) (rest := (reg Try.f20 11).toList.drop 1) (by kernel_rfl) (by kernel_rfl) (fun _ => rfl) (by kernel_rfl) ?_
  refine vOps_pure (v := x4) (o := opAt Try.f20 11 1) (rest := (reg Try.f20 11).toList.drop 2) (by kernel_rfl) (by kernel_rfl) (fun _ => rfl) (by kernel_rfl) ?_
  refine vOps_pure (v := (Value.int IntKind.i64 0)) (o := opAt Try.f20 11 2) (rest := (reg Try.f20 11).toList.drop 3) (by kernel_rfl) (by kernel_rfl) (fun _ => rfl) (by kernel_rfl) ?_
  kernel_rfl
theorem wire_Nums.runs {x0 : Value} {S S1 : AHeap} {e : AEx} {T : List Value} (h : vcodeV Try.prog O wire_Nums.code ([x0,undef,undef,undef,undef,undef,undef,undef,undef,undef,undef,undef,undef,undef,undef,undef,undef,undef,undef,undef,undef,undef,undef,undef,undef,undef]) S = some (e, T, S1)) (he : e = .normal ∨ e = .ret) (h0 : notTuple (T.getD 2 undef) = true) (h1 : notTuple (T.getD 3 undef) = true) : vlim Try.prog O 20 [x0] S = some (Value.tuple #[T.getD 2 undef, T.getD 3 undef], S1) :=
  vlim_code rfl Try.func20 (by decide) wire_Nums.body (by exact h) he ((vRes_many (by kernel_rfl : resSlots Try.f20.results.toList = some [2, 3]) (by decide) (by simp only [List.all_cons, List.all_nil, h0, h1, Bool.and_true])).trans rfl)
end Go.Proofs.Ytjlhjebmbllkiaa
