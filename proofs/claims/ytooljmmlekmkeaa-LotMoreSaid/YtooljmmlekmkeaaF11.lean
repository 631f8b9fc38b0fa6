/-
The seat's functions in a shallow form: each region as a chain of the interpreter's operations. Printed by a program; Lean checks each row.
-/
import Derived.Test.YtooljmmlekmkeaaChecked
import Derived.Test.YtooljmmlekmkeaaOra
import Derived.KernelRfl
set_option linter.unusedVariables false
set_option maxRecDepth 100000
namespace Go.Proofs.Ytooljmmlekmkeaa
open Go.Abs

/-- neaptide.neaptideref10.Single -/
abbrev neaptideref10_Single.id : FuncId := 11
noncomputable def neaptideref10_Single.loop1 : Code := (Code.seq (Code.region 12 (reg Try.f11 12) false) (Code.seq (Code.cond (Operand.tmp 33) Code.skip (Code.exit 4)) (Code.seq (Code.block 5 (Code.seq (Code.region 13 (reg Try.f11 13) false) (Code.region 14 (reg Try.f11 14) false))) (Code.region 15 (reg Try.f11 15) false))))
noncomputable def neaptideref10_Single.loop2 : Code := (Code.seq (Code.region 8 (reg Try.f11 8) false) (Code.seq (Code.cond (Operand.tmp 27) Code.skip (Code.exit 2)) (Code.seq (Code.block 3 (Code.seq (Code.region 9 (reg Try.f11 9) false) (Code.seq (Code.region 10 (reg Try.f11 10) false) (Code.seq (Code.seq (Code.region 11 (reg Try.f11 11) false) (Code.block 4 (Code.loop neaptideref10_Single.loop1))) (Code.seq (Code.region 16 (reg Try.f11 16) false) (Code.cond (Operand.tmp 44) (Code.seq (Code.region 17 (reg Try.f11 17) false) Code.ret) Code.skip)))))) (Code.region 18 (reg Try.f11 18) false))))
noncomputable def neaptideref10_Single.loop3 : Code := (Code.seq (Code.seq (Code.region 2 (reg Try.f11 2) false) (Code.cond (Operand.tmp 15) Code.skip (Code.exit 0))) (Code.seq (Code.block 1 (Code.seq (Code.region 4 (reg Try.f11 4) false) (Code.seq (Code.seq (Code.region 5 (reg Try.f11 5) false) (Code.cond (Operand.tmp 23) (Code.seq (Code.region 6 (reg Try.f11 6) false) Code.ret) Code.skip)) (Code.seq (Code.region 7 (reg Try.f11 7) false) (Code.block 2 (Code.loop neaptideref10_Single.loop2)))))) (Code.region 3 (reg Try.f11 3) false)))
noncomputable def neaptideref10_Single.code : Code := (Code.seq (Code.region 0 (reg Try.f11 0) false) (Code.seq (Code.seq (Code.region 1 (reg Try.f11 1) false) (Code.block 0 (Code.loop neaptideref10_Single.loop3))) (Code.seq (Code.region 19 (reg Try.f11 19) false) Code.ret)))
theorem neaptideref10_Single.body : Try.f11.body = some neaptideref10_Single.code := by kernel_rfl
theorem neaptideref10_Single.eta {T : List Value} (h : T.length = 46) : T = [T.getD 0 undef,T.getD 1 undef,T.getD 2 undef,T.getD 3 undef,T.getD 4 undef,T.getD 5 undef,T.getD 6 undef,T.getD 7 undef,T.getD 8 undef,T.getD 9 undef,T.getD 10 undef,T.getD 11 undef,T.getD 12 undef,T.getD 13 undef,T.getD 14 undef,T.getD 15 undef,T.getD 16 undef,T.getD 17 undef,T.getD 18 undef,T.getD 19 undef,T.getD 20 undef,T.getD 21 undef,T.getD 22 undef,T.getD 23 undef,T.getD 24 undef,T.getD 25 undef,T.getD 26 undef,T.getD 27 undef,T.getD 28 undef,T.getD 29 undef,T.getD 30 undef,T.getD 31 undef,T.getD 32 undef,T.getD 33 undef,T.getD 34 undef,T.getD 35 undef,T.getD 36 undef,T.getD 37 undef,T.getD 38 undef,T.getD 39 undef,T.getD 40 undef,T.getD 41 undef,T.getD 42 undef,T.getD 43 undef,T.getD 44 undef,T.getD 45 undef] := (list_getD T 46 h).trans (by kernel_rfl)
theorem neaptideref10_Single.list {T : List Value} (h : T.length = 46) : ∃ x0 x1 x2 x3 x4 x5 x6 x7 x8 x9 x10 x11 x12 x13 x14 x15 x16 x17 x18 x19 x20 x21 x22 x23 x24 x25 x26 x27 x28 x29 x30 x31 x32 x33 x34 x35 x36 x37 x38 x39 x40 x41 x42 x43 x44 x45, T = [x0,x1,x2,x3,x4,x5,x6,x7,x8,x9,x10,x11,x12,x13,x14,x15,x16,x17,x18,x19,x20,x21,x22,x23,x24,x25,x26,x27,x28,x29,x30,x31,x32,x33,x34,x35,x36,x37,x38,x39,x40,x41,x42,x43,x44,x45] := ⟨_, _, _, _, _, _, _, _, _, _, _, _, _, _, _, _, _, _, _, _, _, _, _, _, _, _, _, _, _, _, _, _, _, _, _, _, _, _, _, _, _, _, _, _, _, _, neaptideref10_Single.eta h⟩
variable (x0 x1 x2 x3 x4 x5 x6 x7 x8 x9 x10 x11 x12 x13 x14 x15 x16 x17 x18 x19 x20 x21 x22 x23 x24 x25 x26 x27 x28 x29 x30 x31 x32 x33 x34 x35 x36 x37 x38 x39 x40 x41 x42 x43 x44 x45 : Value) (S : AHeap)
theorem neaptideref10_Single.r0  : vOps Try.prog ⟨false, false, false⟩ (vlim Try.prog O) (reg Try.f11 0) (reg Try.f11 0).toList ([x0,x1,x2,x3,x4,x5,x6,x7,x8,x9,x10,x11,x12,x13,x14,x15,x16,x17,x18,x19,x20,x21,x22,x23,x24,x25,x26,x27,x28,x29,x30,x31,x32,x33,x34,x35,x36,x37,x38,x39,x40,x41,x42,x43,x44,x45]) S =
    ( some ([x0,x1,x2,x3,Value.bool false,x5,x6,x7,x8,x9,x10,x11,x12,x13,x14,x15,x16,x17,x18,x19,x20,x21,x22,x23,x24,x25,x26,x27,x28,x29,x30,x31,x32,x33,x34,x35,x36,x37,x38,x39,x40,x41,x42,x43,x44,x45], S)) := by
  refine sP Try.f11 0 0 (v := (Value.bool false)) ?_
  kernel_rfl
theorem neaptideref10_Single.r1  : vOps Try.prog ⟨false, false, false⟩ (vlim Try.prog O) (reg Try.f11 1) (reg Try.f11 1).toList ([x0,x1,x2,x3,x4,x5,x6,x7,x8,x9,x10,x11,x12,x13,x14,x15,x16,x17,x18,x19,x20,x21,x22,x23,x24,x25,x26,x27,x28,x29,x30,x31,x32,x33,x34,x35,x36,x37,x38,x39,x40,x41,x42,x43,x44,x45]) S =
    ( some ([x0,x1,x2,x3,x4,Value.int IntKind.i64 1,x6,x7,x8,x9,x10,x11,x12,x13,x14,x15,x16,x17,x18,x19,x20,x21,x22,x23,x24,x25,x26,x27,x28,x29,x30,x31,x32,x33,x34,x35,x36,x37,x38,x39,x40,x41,x42,x43,x44,x45], S)) := by
  refine sP Try.f11 1 0 (v := (Value.int IntKind.i64 1)) ?_
  kernel_rfl
theorem neaptideref10_Single.r2  : vOps Try.prog ⟨false, false, false⟩ (vlim Try.prog O) (reg Try.f11 2) (reg Try.f11 2).toList ([x0,x1,x2,x3,x4,x5,x6,x7,x8,x9,x10,x11,x12,x13,x14,x15,x16,x17,x18,x19,x20,x21,x22,x23,x24,x25,x26,x27,x28,x29,x30,x31,x32,x33,x34,x35,x36,x37,x38,x39,x40,x41,x42,x43,x44,x45]) S =
    (andK (vLen Try.prog 22 (dem x0) S) (fun v2 S1 => andK (vBin Try.prog BinOp.leq 3 (dem x5) v2 S1) (fun v3 S2 => some ([x0,x1,x2,x3,x4,x5,x6,x7,x8,x9,x10,x11,dem x5,dem x0,v2,v3,x16,x17,x18,x19,x20,x21,x22,x23,x24,x25,x26,x27,x28,x29,x30,x31,x32,x33,x34,x35,x36,x37,x38,x39,x40,x41,x42,x43,x44,x45], S2)) ()) ()) := by
  refine sP Try.f11 2 0 (v := x5) ?_
  refine sP Try.f11 2 1 (v := x0) ?_
  refine sD Try.f11 2 2 (fun v2 S1 => ?_)
  refine sD Try.f11 2 3 (fun v3 S2 => ?_)
  kernel_rfl
theorem neaptideref10_Single.r4  : vOps Try.prog ⟨false, false, false⟩ (vlim Try.prog O) (reg Try.f11 4) (reg Try.f11 4).toList ([x0,x1,x2,x3,x4,x5,x6,x7,x8,x9,x10,x11,x12,x13,x14,x15,x16,x17,x18,x19,x20,x21,x22,x23,x24,x25,x26,x27,x28,x29,x30,x31,x32,x33,x34,x35,x36,x37,x38,x39,x40,x41,x42,x43,x44,x45]) S =
    (andK ((vlim Try.prog O) 17 [(dem (dem x0)), (dem (dem x5))] S) (fun v2 S1 => some ([x0,x1,x2,x3,x4,x5,v2,x7,x8,x9,x10,x11,x12,x13,x14,x15,x16,x17,dem x0,dem x5,dem v2,x21,x22,x23,x24,x25,x26,x27,x28,x29,x30,x31,x32,x33,x34,x35,x36,x37,x38,x39,x40,x41,x42,x43,x44,x45], S1)) ()) := by
  refine sP Try.f11 4 0 (v := x0) ?_
  refine sP Try.f11 4 1 (v := x5) ?_
  refine sD Try.f11 4 2 (fun v2 S1 => ?_)
  refine sP Try.f11 4 3 (v := v2) ?_
  kernel_rfl
theorem neaptideref10_Single.r5  : vOps Try.prog ⟨false, false, false⟩ (vlim Try.prog O) (reg Try.f11 5) (reg Try.f11 5).toList ([x0,x1,x2,x3,x4,x5,x6,x7,x8,x9,x10,x11,x12,x13,x14,x15,x16,x17,x18,x19,x20,x21,x22,x23,x24,x25,x26,x27,x28,x29,x30,x31,x32,x33,x34,x35,x36,x37,x38,x39,x40,x41,x42,x43,x44,x45]) S =
    (andK (vLen Try.prog 22 (dem x6) S) (fun v1 S1 => andK (vBin Try.prog BinOp.gtr 3 v1 (Value.int IntKind.i64 1) S1) (fun v2 S2 => some ([x0,x1,x2,x3,x4,x5,x6,x7,x8,x9,x10,x11,x12,x13,x14,x15,x16,x17,x18,x19,x20,dem x6,v1,v2,x24,x25,x26,x27,x28,x29,x30,x31,x32,x33,x34,x35,x36,x37,x38,x39,x40,x41,x42,x43,x44,x45], S2)) ()) ()) := by
  refine sP Try.f11 5 0 (v := x6) ?_
  refine sD Try.f11 5 1 (fun v1 S1 => ?_)
  refine sD Try.f11 5 2 (fun v2 S2 => ?_)
  kernel_rfl
theorem neaptideref10_Single.r6  : vOps Try.prog ⟨false, false, false⟩ (vlim Try.prog O) (reg Try.f11 6) (reg Try.f11 6).toList ([x0,x1,x2,x3,x4,x5,x6,x7,x8,x9,x10,x11,x12,x13,x14,x15,x16,x17,x18,x19,x20,x21,x22,x23,x24,x25,x26,x27,x28,x29,x30,x31,x32,x33,x34,x35,x36,x37,x38,x39,x40,x41,x42,x43,x44,x45]) S =
    ( some ([x0,x1,x2,x3,Value.bool false,x5,x6,x7,x8,x9,x10,x11,x12,x13,x14,x15,x16,x17,x18,x19,x20,x21,x22,x23,x24,x25,x26,x27,x28,x29,x30,x31,x32,x33,x34,x35,x36,x37,x38,x39,x40,x41,x42,x43,x44,x45], S)) := by
  refine sP Try.f11 6 0 (v := (Value.bool false)) ?_
  kernel_rfl
theorem neaptideref10_Single.r7  : vOps Try.prog ⟨false, false, false⟩ (vlim Try.prog O) (reg Try.f11 7) (reg Try.f11 7).toList ([x0,x1,x2,x3,x4,x5,x6,x7,x8,x9,x10,x11,x12,x13,x14,x15,x16,x17,x18,x19,x20,x21,x22,x23,x24,x25,x26,x27,x28,x29,x30,x31,x32,x33,x34,x35,x36,x37,x38,x39,x40,x41,x42,x43,x44,x45]) S =
    (andK (vLen Try.prog 22 (dem x6) S) (fun v1 S1 => some ([x0,x1,x2,x3,x4,x5,x6,x7,x8,x9,x10,x11,x12,x13,x14,x15,x16,x17,x18,x19,x20,x21,x22,x23,dem x6,v1,Value.int IntKind.i64 0,x27,x28,x29,x30,x31,x32,x33,x34,x35,x36,x37,x38,x39,x40,x41,x42,x43,x44,x45], S1)) ()) := by
  refine sP Try.f11 7 0 (v := x6) ?_
  refine sD Try.f11 7 1 (fun v1 S1 => ?_)
  refine sP Try.f11 7 2 (v := (Value.int IntKind.i64 0)) ?_
  kernel_rfl
theorem neaptideref10_Single.r8  : vOps Try.prog ⟨false, false, false⟩ (vlim Try.prog O) (reg Try.f11 8) (reg Try.f11 8).toList ([x0,x1,x2,x3,x4,x5,x6,x7,x8,x9,x10,x11,x12,x13,x14,x15,x16,x17,x18,x19,x20,x21,x22,x23,x24,x25,x26,x27,x28,x29,x30,x31,x32,x33,x34,x35,x36,x37,x38,x39,x40,x41,x42,x43,x44,x45]) S =
    (andK (vBin Try.prog BinOp.lss 3 x26 x25 S) (fun v0 S1 => some ([x0,x1,x2,x3,x4,x5,x6,x7,x8,x9,x10,x11,x12,x13,x14,x15,x16,x17,x18,x19,x20,x21,x22,x23,x24,x25,x26,v0,x28,x29,x30,x31,x32,x33,x34,x35,x36,x37,x38,x39,x40,x41,x42,x43,x44,x45], S1)) ()) := by
  refine sD Try.f11 8 0 (fun v0 S1 => ?_)
  kernel_rfl
theorem neaptideref10_Single.r9  : vOps Try.prog ⟨false, false, false⟩ (vlim Try.prog O) (reg Try.f11 9) (reg Try.f11 9).toList ([x0,x1,x2,x3,x4,x5,x6,x7,x8,x9,x10,x11,x12,x13,x14,x15,x16,x17,x18,x19,x20,x21,x22,x23,x24,x25,x26,x27,x28,x29,x30,x31,x32,x33,x34,x35,x36,x37,x38,x39,x40,x41,x42,x43,x44,x45]) S =
    (andK (vIndexAddr Try.prog 22 x24 x26 S) (fun v0 S1 => andK (vLoad Try.prog false 3 v0 S1) (fun v1 S2 => some ([x0,x1,x2,x3,x4,x5,x6,x7,v1,x9,x10,x11,x12,x13,x14,x15,x16,x17,x18,x19,x20,x21,x22,x23,x24,x25,x26,x27,v0,dem v1,x30,x31,x32,x33,x34,x35,x36,x37,x38,x39,x40,x41,x42,x43,x44,x45], S2)) ()) ()) := by
  refine sD Try.f11 9 0 (fun v0 S1 => ?_)
  refine sD Try.f11 9 1 (fun v1 S2 => ?_)
  refine sP Try.f11 9 2 (v := v1) ?_
  kernel_rfl
theorem neaptideref10_Single.r10  : vOps Try.prog ⟨false, false, false⟩ (vlim Try.prog O) (reg Try.f11 10) (reg Try.f11 10).toList ([x0,x1,x2,x3,x4,x5,x6,x7,x8,x9,x10,x11,x12,x13,x14,x15,x16,x17,x18,x19,x20,x21,x22,x23,x24,x25,x26,x27,x28,x29,x30,x31,x32,x33,x34,x35,x36,x37,x38,x39,x40,x41,x42,x43,x44,x45]) S =
    ( some ([x0,x1,x2,x3,x4,x5,x6,x7,x8,Value.bool false,x10,x11,x12,x13,x14,x15,x16,x17,x18,x19,x20,x21,x22,x23,x24,x25,x26,x27,x28,x29,x30,x31,x32,x33,x34,x35,x36,x37,x38,x39,x40,x41,x42,x43,x44,x45], S)) := by
  refine sP Try.f11 10 0 (v := (Value.bool false)) ?_
  kernel_rfl
theorem neaptideref10_Single.r11  : vOps Try.prog ⟨false, false, false⟩ (vlim Try.prog O) (reg Try.f11 11) (reg Try.f11 11).toList ([x0,x1,x2,x3,x4,x5,x6,x7,x8,x9,x10,x11,x12,x13,x14,x15,x16,x17,x18,x19,x20,x21,x22,x23,x24,x25,x26,x27,x28,x29,x30,x31,x32,x33,x34,x35,x36,x37,x38,x39,x40,x41,x42,x43,x44,x45]) S =
    (andK (vLen Try.prog 22 (dem x1) S) (fun v1 S1 => some ([x0,x1,x2,x3,x4,x5,x6,x7,x8,x9,x10,x11,x12,x13,x14,x15,x16,x17,x18,x19,x20,x21,x22,x23,x24,x25,x26,x27,x28,x29,dem x1,v1,Value.int IntKind.i64 0,x33,x34,x35,x36,x37,x38,x39,x40,x41,x42,x43,x44,x45], S1)) ()) := by
  refine sP Try.f11 11 0 (v := x1) ?_
  refine sD Try.f11 11 1 (fun v1 S1 => ?_)
  refine sP Try.f11 11 2 (v := (Value.int IntKind.i64 0)) ?_
  kernel_rfl
theorem neaptideref10_Single.r12  : vOps Try.prog ⟨false, false, false⟩ (vlim Try.prog O) (reg Try.f11 12) (reg Try.f11 12).toList ([x0,x1,x2,x3,x4,x5,x6,x7,x8,x9,x10,x11,x12,x13,x14,x15,x16,x17,x18,x19,x20,x21,x22,x23,x24,x25,x26,x27,x28,x29,x30,x31,x32,x33,x34,x35,x36,x37,x38,x39,x40,x41,x42,x43,x44,x45]) S =
    (andK (vBin Try.prog BinOp.lss 3 x32 x31 S) (fun v0 S1 => some ([x0,x1,x2,x3,x4,x5,x6,x7,x8,x9,x10,x11,x12,x13,x14,x15,x16,x17,x18,x19,x20,x21,x22,x23,x24,x25,x26,x27,x28,x29,x30,x31,x32,v0,x34,x35,x36,x37,x38,x39,x40,x41,x42,x43,x44,x45], S1)) ()) := by
  refine sD Try.f11 12 0 (fun v0 S1 => ?_)
  kernel_rfl
theorem neaptideref10_Single.r13  : vOps Try.prog ⟨false, false, false⟩ (vlim Try.prog O) (reg Try.f11 13) (reg Try.f11 13).toList ([x0,x1,x2,x3,x4,x5,x6,x7,x8,x9,x10,x11,x12,x13,x14,x15,x16,x17,x18,x19,x20,x21,x22,x23,x24,x25,x26,x27,x28,x29,x30,x31,x32,x33,x34,x35,x36,x37,x38,x39,x40,x41,x42,x43,x44,x45]) S =
    (andK (vIndexAddr Try.prog 22 x30 x32 S) (fun v0 S1 => andK (vLoad Try.prog false 3 v0 S1) (fun v1 S2 => some ([x0,x1,x2,x3,x4,x5,x6,x7,x8,x9,x10,v1,x12,x13,x14,x15,x16,x17,x18,x19,x20,x21,x22,x23,x24,x25,x26,x27,x28,x29,x30,x31,x32,x33,v0,dem v1,x36,x37,x38,x39,x40,x41,x42,x43,x44,x45], S2)) ()) ()) := by
  refine sD Try.f11 13 0 (fun v0 S1 => ?_)
  refine sD Try.f11 13 1 (fun v1 S2 => ?_)
  refine sP Try.f11 13 2 (v := v1) ?_
  kernel_rfl
theorem neaptideref10_Single.r14  : vOps Try.prog ⟨false, false, false⟩ (vlim Try.prog O) (reg Try.f11 14) (reg Try.f11 14).toList ([x0,x1,x2,x3,x4,x5,x6,x7,x8,x9,x10,x11,x12,x13,x14,x15,x16,x17,x18,x19,x20,x21,x22,x23,x24,x25,x26,x27,x28,x29,x30,x31,x32,x33,x34,x35,x36,x37,x38,x39,x40,x41,x42,x43,x44,x45]) S =
    (gdK (dem x9) false (ret x11) S (fun v2 S1 => gdK (dem x9) false (ret x8) S1 (fun v3 S2 => gdK (dem x9) false (vBin Try.prog BinOp.eql 3 (dem v2) (dem v3)) S2 (fun v4 S3 => andK (vPick (dem x9) (Value.bool true) v4 S3) (fun v5 S4 => some ([x0,x1,x2,x3,x4,x5,x6,x7,x8,v5,x10,x11,x12,x13,x14,x15,x16,x17,x18,x19,x20,x21,x22,x23,x24,x25,x26,x27,x28,x29,x30,x31,x32,x33,x34,x35,x9,dem x9,dem v2,dem v3,v4,dem v5,x42,x43,x44,x45], S4)) ()) ()) ()) ()) := by
  refine sP Try.f11 14 0 (v := x9) ?_
  refine sP Try.f11 14 1 (v := x9) ?_
  refine sG Try.f11 14 2 (j := 1) (fun v2 S1 => ?_)
  refine sG Try.f11 14 3 (j := 1) (fun v3 S2 => ?_)
  refine sG Try.f11 14 4 (j := 1) (fun v4 S3 => ?_)
  refine sD Try.f11 14 5 (fun v5 S4 => ?_)
  refine sP Try.f11 14 6 (v := v5) ?_
  kernel_rfl
theorem neaptideref10_Single.r15  : vOps Try.prog ⟨false, false, false⟩ (vlim Try.prog O) (reg Try.f11 15) (reg Try.f11 15).toList ([x0,x1,x2,x3,x4,x5,x6,x7,x8,x9,x10,x11,x12,x13,x14,x15,x16,x17,x18,x19,x20,x21,x22,x23,x24,x25,x26,x27,x28,x29,x30,x31,x32,x33,x34,x35,x36,x37,x38,x39,x40,x41,x42,x43,x44,x45]) S =
    (andK (vBin Try.prog BinOp.add 3 x32 (Value.int IntKind.i64 1) S) (fun v0 S1 => some ([x0,x1,x2,x3,x4,x5,x6,x7,x8,x9,x10,x11,x12,x13,x14,x15,x16,x17,x18,x19,x20,x21,x22,x23,x24,x25,x26,x27,x28,x29,x30,x31,dem v0,x33,x34,x35,x36,x37,x38,x39,x40,x41,v0,x43,x44,x45], S1)) ()) := by
  refine sD Try.f11 15 0 (fun v0 S1 => ?_)
  refine sP Try.f11 15 1 (v := v0) ?_
  kernel_rfl
theorem neaptideref10_Single.r16  : vOps Try.prog ⟨false, false, false⟩ (vlim Try.prog O) (reg Try.f11 16) (reg Try.f11 16).toList ([x0,x1,x2,x3,x4,x5,x6,x7,x8,x9,x10,x11,x12,x13,x14,x15,x16,x17,x18,x19,x20,x21,x22,x23,x24,x25,x26,x27,x28,x29,x30,x31,x32,x33,x34,x35,x36,x37,x38,x39,x40,x41,x42,x43,x44,x45]) S =
    (andK (aUn Try.prog UnOp.not (dem x9) S) (fun v1 S1 => some ([x0,x1,x2,x3,x4,x5,x6,x7,x8,x9,x10,x11,x12,x13,x14,x15,x16,x17,x18,x19,x20,x21,x22,x23,x24,x25,x26,x27,x28,x29,x30,x31,x32,x33,x34,x35,x36,x37,x38,x39,x40,x41,x42,dem x9,v1,x45], S1)) ()) := by
  refine sP Try.f11 16 0 (v := x9) ?_
  refine sD Try.f11 16 1 (fun v1 S1 => ?_)
  kernel_rfl
theorem neaptideref10_Single.r17  : vOps Try.prog ⟨false, false, false⟩ (vlim Try.prog O) (reg Try.f11 17) (reg Try.f11 17).toList ([x0,x1,x2,x3,x4,x5,x6,x7,x8,x9,x10,x11,x12,x13,x14,x15,x16,x17,x18,x19,x20,x21,x22,x23,x24,x25,x26,x27,x28,x29,x30,x31,x32,x33,x34,x35,x36,x37,x38,x39,x40,x41,x42,x43,x44,x45]) S =
    ( some ([x0,x1,x2,x3,Value.bool false,x5,x6,x7,x8,x9,x10,x11,x12,x13,x14,x15,x16,x17,x18,x19,x20,x21,x22,x23,x24,x25,x26,x27,x28,x29,x30,x31,x32,x33,x34,x35,x36,x37,x38,x39,x40,x41,x42,x43,x44,x45], S)) := by
  refine sP Try.f11 17 0 (v := (Value.bool false)) ?_
  kernel_rfl
theorem neaptideref10_Single.r18  : vOps Try.prog ⟨false, false, false⟩ (vlim Try.prog O) (reg Try.f11 18) (reg Try.f11 18).toList ([x0,x1,x2,x3,x4,x5,x6,x7,x8,x9,x10,x11,x12,x13,x14,x15,x16,x17,x18,x19,x20,x21,x22,x23,x24,x25,x26,x27,x28,x29,x30,x31,x32,x33,x34,x35,x36,x37,x38,x39,x40,x41,x42,x43,x44,x45]) S =
    (andK (vBin Try.prog BinOp.add 3 x26 (Value.int IntKind.i64 1) S) (fun v0 S1 => some ([x0,x1,x2,x3,x4,x5,x6,x7,x8,x9,x10,x11,x12,x13,x14,x15,x16,x17,x18,x19,x20,x21,x22,x23,x24,x25,dem v0,x27,x28,x29,x30,x31,x32,x33,x34,x35,x36,x37,x38,x39,x40,x41,x42,x43,x44,v0], S1)) ()) := by
  refine sD Try.f11 18 0 (fun v0 S1 => ?_)
  refine sP Try.f11 18 1 (v := v0) ?_
  kernel_rfl
theorem neaptideref10_Single.r3  : vOps Try.prog ⟨false, false, false⟩ (vlim Try.prog O) (reg Try.f11 3) (reg Try.f11 3).toList ([x0,x1,x2,x3,x4,x5,x6,x7,x8,x9,x10,x11,x12,x13,x14,x15,x16,x17,x18,x19,x20,x21,x22,x23,x24,x25,x26,x27,x28,x29,x30,x31,x32,x33,x34,x35,x36,x37,x38,x39,x40,x41,x42,x43,x44,x45]) S =
    (andK (vBin Try.prog BinOp.add 3 (dem x5) (Value.int IntKind.i64 1) S) (fun v1 S1 => some ([x0,x1,x2,x3,x4,v1,x6,x7,x8,x9,x10,x11,x12,x13,x14,x15,dem x5,dem v1,x18,x19,x20,x21,x22,x23,x24,x25,x26,x27,x28,x29,x30,x31,x32,x33,x34,x35,x36,x37,x38,x39,x40,x41,x42,x43,x44,x45], S1)) ()) := by
  refine sP Try.f11 3 0 (v := x5) ?_
  refine sD Try.f11 3 1 (fun v1 S1 => ?_)
  refine sP Try.f11 3 2 (v := v1) ?_
  kernel_rfl
theorem neaptideref10_Single.r19  : vOps Try.prog ⟨false, false, false⟩ (vlim Try.prog O) (reg Try.f11 19) (reg Try.f11 19).toList ([x0,x1,x2,x3,x4,x5,x6,x7,x8,x9,x10,x11,x12,x13,x14,x15,x16,x17,x18,x19,x20,x21,x22,x23,x24,x25,x26,x27,x28,x29,x30,x31,x32,x33,x34,x35,x36,x37,x38,x39,x40,x41,x42,x43,x44,x45]) S =
    ( some ([x0,x1,x2,x3,Value.bool true,x5,x6,x7,x8,x9,x10,x11,x12,x13,x14,x15,x16,x17,x18,x19,x20,x21,x22,x23,x24,x25,x26,x27,x28,x29,x30,x31,x32,x33,x34,x35,x36,x37,x38,x39,x40,x41,x42,x43,x44,x45], S)) := by
  refine sP Try.f11 19 0 (v := (Value.bool true)) ?_
  kernel_rfl
theorem neaptideref10_Single.rs : type_of% (And.intro @neaptideref10_Single.r0 (And.intro @neaptideref10_Single.r1 (And.intro @neaptideref10_Single.r2 (And.intro @neaptideref10_Single.r4 (And.intro @neaptideref10_Single.r5 (And.intro @neaptideref10_Single.r6 (And.intro @neaptideref10_Single.r7 (And.intro @neaptideref10_Single.r8 (And.intro @neaptideref10_Single.r9 (And.intro @neaptideref10_Single.r10 (And.intro @neaptideref10_Single.r11 (And.intro @neaptideref10_Single.r12 (And.intro @neaptideref10_Single.r13 (And.intro @neaptideref10_Single.r14 (And.intro @neaptideref10_Single.r15 (And.intro @neaptideref10_Single.r16 (And.intro @neaptideref10_Single.r17 (And.intro @neaptideref10_Single.r18 (And.intro @neaptideref10_Single.r3 (@neaptideref10_Single.r19)))))))))))))))))))) := And.intro @neaptideref10_Single.r0 (And.intro @neaptideref10_Single.r1 (And.intro @neaptideref10_Single.r2 (And.intro @neaptideref10_Single.r4 (And.intro @neaptideref10_Single.r5 (And.intro @neaptideref10_Single.r6 (And.intro @neaptideref10_Single.r7 (And.intro @neaptideref10_Single.r8 (And.intro @neaptideref10_Single.r9 (And.intro @neaptideref10_Single.r10 (And.intro @neaptideref10_Single.r11 (And.intro @neaptideref10_Single.r12 (And.intro @neaptideref10_Single.r13 (And.intro @neaptideref10_Single.r14 (And.intro @neaptideref10_Single.r15 (And.intro @neaptideref10_Single.r16 (And.intro @neaptideref10_Single.r17 (And.intro @neaptideref10_Single.r18 (And.intro @neaptideref10_Single.r3 (@neaptideref10_Single.r19)))))))))))))))))))
theorem neaptideref10_Single.runs {x0 x1 : Value} {S S1 : AHeap} {e : AEx} {T : List Value} (h : vcodeV Try.prog O false neaptideref10_Single.code ([x0,x1,undef,undef,undef,undef,undef,undef,undef,undef,undef,undef,undef,undef,undef,undef,undef,undef,undef,undef,undef,undef,undef,undef,undef,undef,undef,undef,undef,undef,undef,undef,undef,undef,undef,undef,undef,undef,undef,undef,undef,undef,undef,undef,undef,undef]) S = some (e, T, S1)) (he : e = .normal ∨ e = .ret) : vlim Try.prog O 11 [x0, x1] S = some (T.getD 4 undef, S1) :=
  vlim_code rfl rfl Try.func11 (by decide) neaptideref10_Single.body (by exact h) he (vRes_one (a := T.getD 4 undef) ((show vResVals Try.prog T S1 Try.f11.results.toList = vResVals Try.prog T S1 [(ResultVar.tmp 4)] from by kernel_rfl).trans (by simp only [vResVals])) (by kernel_rfl))
end Go.Proofs.Ytooljmmlekmkeaa
