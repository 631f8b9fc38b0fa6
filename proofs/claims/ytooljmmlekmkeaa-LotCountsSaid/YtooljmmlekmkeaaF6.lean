/-
The seat's functions in a shallow form: each region as a chain of the interpreter's operations. Printed by a program; Lean checks each row.
-/
import Derived.Test.YtooljmmlekmkeaaChecked
import Derived.Test.YtooljmmlekmkeaaOra
import Derived.KernelRfl
set_option linter.unusedVariables false
set_option maxRecDepth 100000
namespace Go.Proofs.Ytooljmmlekmkeaa
open Go.Abs

/-- neaptide.neaptidelaw10.LotCounts -/
abbrev neaptidelaw10_LotCounts.id : FuncId := 6
noncomputable def neaptidelaw10_LotCounts.loop1 : Code := (Code.seq (Code.region 11 (reg Try.f6 11) false) (Code.seq (Code.cond (Operand.tmp 26) Code.skip (Code.exit 2)) (Code.seq (Code.block 3 (Code.seq (Code.region 12 (reg Try.f6 12) false) (Code.seq (Code.seq (Code.region 13 (reg Try.f6 13) false) (Code.cond (Operand.tmp 43) (Code.seq (Code.region 14 (reg Try.f6 14) false) Code.ret) Code.skip)) (Code.seq (Code.region 15 (reg Try.f6 15) false) (Code.region 16 (reg Try.f6 16) false))))) (Code.region 17 (reg Try.f6 17) false))))
noncomputable def neaptidelaw10_LotCounts.loop2 : Code := (Code.seq (Code.seq (Code.region 8 (reg Try.f6 8) false) (Code.cond (Operand.tmp 18) Code.skip (Code.exit 0))) (Code.seq (Code.block 1 (Code.seq (Code.region 10 (reg Try.f6 10) false) (Code.block 2 (Code.loop neaptidelaw10_LotCounts.loop1)))) (Code.region 9 (reg Try.f6 9) false)))
noncomputable def neaptidelaw10_LotCounts.loop3 : Code := (Code.seq (Code.seq (Code.region 20 (reg Try.f6 20) false) (Code.cond (Operand.tmp 55) Code.skip (Code.exit 4))) (Code.seq (Code.block 5 (Code.seq (Code.region 22 (reg Try.f6 22) false) (Code.region 23 (reg Try.f6 23) false))) (Code.region 21 (reg Try.f6 21) false)))
noncomputable def neaptidelaw10_LotCounts.code : Code := (Code.seq (Code.region 0 (reg Try.f6 0) false) (Code.seq (Code.seq (Code.region 1 (reg Try.f6 1) false) (Code.cond (Operand.tmp 12) (Code.seq (Code.region 2 (reg Try.f6 2) false) Code.ret) Code.skip)) (Code.seq (Code.seq (Code.region 3 (reg Try.f6 3) false) (Code.cond (Operand.tmp 15) (Code.seq (Code.region 4 (reg Try.f6 4) false) Code.ret) Code.skip)) (Code.seq (Code.region 5 (reg Try.f6 5) false) (Code.seq (Code.region 6 (reg Try.f6 6) false) (Code.seq (Code.seq (Code.region 7 (reg Try.f6 7) false) (Code.block 0 (Code.loop neaptidelaw10_LotCounts.loop2))) (Code.seq (Code.region 18 (reg Try.f6 18) false) (Code.seq (Code.seq (Code.region 19 (reg Try.f6 19) false) (Code.block 4 (Code.loop neaptidelaw10_LotCounts.loop3))) (Code.seq (Code.region 24 (reg Try.f6 24) false) Code.ret)))))))))
theorem neaptidelaw10_LotCounts.body : Try.f6.body = some neaptidelaw10_LotCounts.code := by kernel_rfl
theorem neaptidelaw10_LotCounts.eta {T : List Value} (h : T.length = 80) : T = [T.getD 0 undef,T.getD 1 undef,T.getD 2 undef,T.getD 3 undef,T.getD 4 undef,T.getD 5 undef,T.getD 6 undef,T.getD 7 undef,T.getD 8 undef,T.getD 9 undef,T.getD 10 undef,T.getD 11 undef,T.getD 12 undef,T.getD 13 undef,T.getD 14 undef,T.getD 15 undef,T.getD 16 undef,T.getD 17 undef,T.getD 18 undef,T.getD 19 undef,T.getD 20 undef,T.getD 21 undef,T.getD 22 undef,T.getD 23 undef,T.getD 24 undef,T.getD 25 undef,T.getD 26 undef,T.getD 27 undef,T.getD 28 undef,T.getD 29 undef,T.getD 30 undef,T.getD 31 undef,T.getD 32 undef,T.getD 33 undef,T.getD 34 undef,T.getD 35 undef,T.getD 36 undef,T.getD 37 undef,T.getD 38 undef,T.getD 39 undef,T.getD 40 undef,T.getD 41 undef,T.getD 42 undef,T.getD 43 undef,T.getD 44 undef,T.getD 45 undef,T.getD 46 undef,T.getD 47 undef,T.getD 48 undef,T.getD 49 undef,T.getD 50 undef,T.getD 51 undef,T.getD 52 undef,T.getD 53 undef,T.getD 54 undef,T.getD 55 undef,T.getD 56 undef,T.getD 57 undef,T.getD 58 undef,T.getD 59 undef,T.getD 60 undef,T.getD 61 undef,T.getD 62 undef,T.getD 63 undef,T.getD 64 undef,T.getD 65 undef,T.getD 66 undef,T.getD 67 undef,T.getD 68 undef,T.getD 69 undef,T.getD 70 undef,T.getD 71 undef,T.getD 72 undef,T.getD 73 undef,T.getD 74 undef,T.getD 75 undef,T.getD 76 undef,T.getD 77 undef,T.getD 78 undef,T.getD 79 undef] := (list_getD T 80 h).trans (by kernel_rfl)
theorem neaptidelaw10_LotCounts.list {T : List Value} (h : T.length = 80) : ∃ x0 x1 x2 x3 x4 x5 x6 x7 x8 x9 x10 x11 x12 x13 x14 x15 x16 x17 x18 x19 x20 x21 x22 x23 x24 x25 x26 x27 x28 x29 x30 x31 x32 x33 x34 x35 x36 x37 x38 x39 x40 x41 x42 x43 x44 x45 x46 x47 x48 x49 x50 x51 x52 x53 x54 x55 x56 x57 x58 x59 x60 x61 x62 x63 x64 x65 x66 x67 x68 x69 x70 x71 x72 x73 x74 x75 x76 x77 x78 x79, T = [x0,x1,x2,x3,x4,x5,x6,x7,x8,x9,x10,x11,x12,x13,x14,x15,x16,x17,x18,x19,x20,x21,x22,x23,x24,x25,x26,x27,x28,x29,x30,x31,x32,x33,x34,x35,x36,x37,x38,x39,x40,x41,x42,x43,x44,x45,x46,x47,x48,x49,x50,x51,x52,x53,x54,x55,x56,x57,x58,x59,x60,x61,x62,x63,x64,x65,x66,x67,x68,x69,x70,x71,x72,x73,x74,x75,x76,x77,x78,x79] := ⟨_, _, _, _, _, _, _, _, _, _, _, _, _, _, _, _, _, _, _, _, _, _, _, _, _, _, _, _, _, _, _, _, _, _, _, _, _, _, _, _, _, _, _, _, _, _, _, _, _, _, _, _, _, _, _, _, _, _, _, _, _, _, _, _, _, _, _, _, _, _, _, _, _, _, _, _, _, _, _, _, neaptidelaw10_LotCounts.eta h⟩
variable (x0 x1 x2 x3 x4 x5 x6 x7 x8 x9 x10 x11 x12 x13 x14 x15 x16 x17 x18 x19 x20 x21 x22 x23 x24 x25 x26 x27 x28 x29 x30 x31 x32 x33 x34 x35 x36 x37 x38 x39 x40 x41 x42 x43 x44 x45 x46 x47 x48 x49 x50 x51 x52 x53 x54 x55 x56 x57 x58 x59 x60 x61 x62 x63 x64 x65 x66 x67 x68 x69 x70 x71 x72 x73 x74 x75 x76 x77 x78 x79 : Value) (S : AHeap)
theorem neaptidelaw10_LotCounts.r0  : vOps Try.prog ⟨false, false, false⟩ (vlim Try.prog O) (reg Try.f6 0) (reg Try.f6 0).toList ([x0,x1,x2,x3,x4,x5,x6,x7,x8,x9,x10,x11,x12,x13,x14,x15,x16,x17,x18,x19,x20,x21,x22,x23,x24,x25,x26,x27,x28,x29,x30,x31,x32,x33,x34,x35,x36,x37,x38,x39,x40,x41,x42,x43,x44,x45,x46,x47,x48,x49,x50,x51,x52,x53,x54,x55,x56,x57,x58,x59,x60,x61,x62,x63,x64,x65,x66,x67,x68,x69,x70,x71,x72,x73,x74,x75,x76,x77,x78,x79]) S =
    ( some ([x0,x1,Value.bool false,x3,x4,x5,x6,x7,x8,x9,x10,x11,x12,x13,x14,x15,x16,x17,x18,x19,x20,x21,x22,x23,x24,x25,x26,x27,x28,x29,x30,x31,x32,x33,x34,x35,x36,x37,x38,x39,x40,x41,x42,x43,x44,x45,x46,x47,x48,x49,x50,x51,x52,x53,x54,x55,x56,x57,x58,x59,x60,x61,x62,x63,x64,x65,x66,x67,x68,x69,x70,x71,x72,x73,x74,x75,x76,x77,x78,x79], S)) := by
  refine sP Try.f6 0 0 (v := (Value.bool false)) ?_
  kernel_rfl
theorem neaptidelaw10_LotCounts.r1  : vOps Try.prog ⟨false, false, false⟩ (vlim Try.prog O) (reg Try.f6 1) (reg Try.f6 1).toList ([x0,x1,x2,x3,x4,x5,x6,x7,x8,x9,x10,x11,x12,x13,x14,x15,x16,x17,x18,x19,x20,x21,x22,x23,x24,x25,x26,x27,x28,x29,x30,x31,x32,x33,x34,x35,x36,x37,x38,x39,x40,x41,x42,x43,x44,x45,x46,x47,x48,x49,x50,x51,x52,x53,x54,x55,x56,x57,x58,x59,x60,x61,x62,x63,x64,x65,x66,x67,x68,x69,x70,x71,x72,x73,x74,x75,x76,x77,x78,x79]) S =
    (andK ((vlim Try.prog O) 8 [] S) (fun v0 S1 => andK (aUn Try.prog UnOp.not v0 S1) (fun v1 S2 => some ([x0,x1,x2,x3,x4,x5,x6,x7,x8,x9,x10,v0,v1,x13,x14,x15,x16,x17,x18,x19,x20,x21,x22,x23,x24,x25,x26,x27,x28,x29,x30,x31,x32,x33,x34,x35,x36,x37,x38,x39,x40,x41,x42,x43,x44,x45,x46,x47,x48,x49,x50,x51,x52,x53,x54,x55,x56,x57,x58,x59,x60,x61,x62,x63,x64,x65,x66,x67,x68,x69,x70,x71,x72,x73,x74,x75,x76,x77,x78,x79], S2)) ()) ()) := by
  refine sD Try.f6 1 0 (fun v0 S1 => ?_)
  refine sD Try.f6 1 1 (fun v1 S2 => ?_)
  kernel_rfl
theorem neaptidelaw10_LotCounts.r2  : vOps Try.prog ⟨false, false, false⟩ (vlim Try.prog O) (reg Try.f6 2) (reg Try.f6 2).toList ([x0,x1,x2,x3,x4,x5,x6,x7,x8,x9,x10,x11,x12,x13,x14,x15,x16,x17,x18,x19,x20,x21,x22,x23,x24,x25,x26,x27,x28,x29,x30,x31,x32,x33,x34,x35,x36,x37,x38,x39,x40,x41,x42,x43,x44,x45,x46,x47,x48,x49,x50,x51,x52,x53,x54,x55,x56,x57,x58,x59,x60,x61,x62,x63,x64,x65,x66,x67,x68,x69,x70,x71,x72,x73,x74,x75,x76,x77,x78,x79]) S =
    ( some ([x0,x1,Value.bool false,x3,x4,x5,x6,x7,x8,x9,x10,x11,x12,x13,x14,x15,x16,x17,x18,x19,x20,x21,x22,x23,x24,x25,x26,x27,x28,x29,x30,x31,x32,x33,x34,x35,x36,x37,x38,x39,x40,x41,x42,x43,x44,x45,x46,x47,x48,x49,x50,x51,x52,x53,x54,x55,x56,x57,x58,x59,x60,x61,x62,x63,x64,x65,x66,x67,x68,x69,x70,x71,x72,x73,x74,x75,x76,x77,x78,x79], S)) := by
  refine sP Try.f6 2 0 (v := (Value.bool false)) ?_
  kernel_rfl
theorem neaptidelaw10_LotCounts.r3  : vOps Try.prog ⟨false, false, false⟩ (vlim Try.prog O) (reg Try.f6 3) (reg Try.f6 3).toList ([x0,x1,x2,x3,x4,x5,x6,x7,x8,x9,x10,x11,x12,x13,x14,x15,x16,x17,x18,x19,x20,x21,x22,x23,x24,x25,x26,x27,x28,x29,x30,x31,x32,x33,x34,x35,x36,x37,x38,x39,x40,x41,x42,x43,x44,x45,x46,x47,x48,x49,x50,x51,x52,x53,x54,x55,x56,x57,x58,x59,x60,x61,x62,x63,x64,x65,x66,x67,x68,x69,x70,x71,x72,x73,x74,x75,x76,x77,x78,x79]) S =
    (andK ((vlim Try.prog O) 12 [(dem (dem x0))] S) (fun v1 S1 => andK (vBin Try.prog BinOp.neq 26 v1 (Value.int IntKind.i64 0) S1) (fun v2 S2 => some ([x0,x1,x2,x3,x4,x5,x6,x7,x8,x9,x10,x11,x12,dem x0,v1,v2,x16,x17,x18,x19,x20,x21,x22,x23,x24,x25,x26,x27,x28,x29,x30,x31,x32,x33,x34,x35,x36,x37,x38,x39,x40,x41,x42,x43,x44,x45,x46,x47,x48,x49,x50,x51,x52,x53,x54,x55,x56,x57,x58,x59,x60,x61,x62,x63,x64,x65,x66,x67,x68,x69,x70,x71,x72,x73,x74,x75,x76,x77,x78,x79], S2)) ()) ()) := by
  refine sP Try.f6 3 0 (v := x0) ?_
  refine sD Try.f6 3 1 (fun v1 S1 => ?_)
  refine sD Try.f6 3 2 (fun v2 S2 => ?_)
  kernel_rfl
theorem neaptidelaw10_LotCounts.r4  : vOps Try.prog ⟨false, false, false⟩ (vlim Try.prog O) (reg Try.f6 4) (reg Try.f6 4).toList ([x0,x1,x2,x3,x4,x5,x6,x7,x8,x9,x10,x11,x12,x13,x14,x15,x16,x17,x18,x19,x20,x21,x22,x23,x24,x25,x26,x27,x28,x29,x30,x31,x32,x33,x34,x35,x36,x37,x38,x39,x40,x41,x42,x43,x44,x45,x46,x47,x48,x49,x50,x51,x52,x53,x54,x55,x56,x57,x58,x59,x60,x61,x62,x63,x64,x65,x66,x67,x68,x69,x70,x71,x72,x73,x74,x75,x76,x77,x78,x79]) S =
    ( some ([x0,x1,Value.bool true,x3,x4,x5,x6,x7,x8,x9,x10,x11,x12,x13,x14,x15,x16,x17,x18,x19,x20,x21,x22,x23,x24,x25,x26,x27,x28,x29,x30,x31,x32,x33,x34,x35,x36,x37,x38,x39,x40,x41,x42,x43,x44,x45,x46,x47,x48,x49,x50,x51,x52,x53,x54,x55,x56,x57,x58,x59,x60,x61,x62,x63,x64,x65,x66,x67,x68,x69,x70,x71,x72,x73,x74,x75,x76,x77,x78,x79], S)) := by
  refine sP Try.f6 4 0 (v := (Value.bool true)) ?_
  kernel_rfl
theorem neaptidelaw10_LotCounts.r5  : vOps Try.prog ⟨false, false, false⟩ (vlim Try.prog O) (reg Try.f6 5) (reg Try.f6 5).toList ([x0,x1,x2,x3,x4,x5,x6,x7,x8,x9,x10,x11,x12,x13,x14,x15,x16,x17,x18,x19,x20,x21,x22,x23,x24,x25,x26,x27,x28,x29,x30,x31,x32,x33,x34,x35,x36,x37,x38,x39,x40,x41,x42,x43,x44,x45,x46,x47,x48,x49,x50,x51,x52,x53,x54,x55,x56,x57,x58,x59,x60,x61,x62,x63,x64,x65,x66,x67,x68,x69,x70,x71,x72,x73,x74,x75,x76,x77,x78,x79]) S =
    ( some ([x0,x1,x2,Value.int IntKind.i64 0,Value.int IntKind.i64 0,x5,x6,x7,x8,x9,x10,x11,x12,x13,x14,x15,x16,x17,x18,x19,x20,x21,x22,x23,x24,x25,x26,x27,x28,x29,x30,x31,x32,x33,x34,x35,x36,x37,x38,x39,x40,x41,x42,x43,x44,x45,x46,x47,x48,x49,x50,x51,x52,x53,x54,x55,x56,x57,x58,x59,x60,x61,x62,x63,x64,x65,x66,x67,x68,x69,x70,x71,x72,x73,x74,x75,x76,x77,x78,x79], S)) := by
  refine sP Try.f6 5 0 (v := (Value.int IntKind.i64 0)) ?_
  refine sP Try.f6 5 1 (v := (Value.int IntKind.i64 0)) ?_
  kernel_rfl
theorem neaptidelaw10_LotCounts.r6  : vOps Try.prog ⟨false, false, false⟩ (vlim Try.prog O) (reg Try.f6 6) (reg Try.f6 6).toList ([x0,x1,x2,x3,x4,x5,x6,x7,x8,x9,x10,x11,x12,x13,x14,x15,x16,x17,x18,x19,x20,x21,x22,x23,x24,x25,x26,x27,x28,x29,x30,x31,x32,x33,x34,x35,x36,x37,x38,x39,x40,x41,x42,x43,x44,x45,x46,x47,x48,x49,x50,x51,x52,x53,x54,x55,x56,x57,x58,x59,x60,x61,x62,x63,x64,x65,x66,x67,x68,x69,x70,x71,x72,x73,x74,x75,x76,x77,x78,x79]) S =
    (andK (aBuild Try.prog 30 [] S) (fun v0 S1 => andK (aAlloc Try.prog 30 S1) (fun v1 S2 => andK (vStore Try.prog 30 v1 (dem v0) S2) (fun v2 S3 => some ([x0,x1,x2,x3,x4,v1,x6,x7,x8,x9,x10,x11,x12,x13,x14,x15,v0,x17,x18,x19,x20,x21,x22,x23,x24,x25,x26,x27,x28,x29,x30,x31,x32,x33,x34,x35,x36,x37,x38,x39,x40,x41,x42,x43,x44,x45,x46,x47,x48,x49,x50,x51,x52,x53,x54,x55,x56,x57,x58,x59,x60,x61,x62,x63,x64,x65,x66,x67,x68,x69,x70,x71,x72,x73,x74,x75,x76,x77,x78,x79], S3)) ()) ()) ()) := by
  refine sD Try.f6 6 0 (fun v0 S1 => ?_)
  refine sD Try.f6 6 1 (fun v1 S2 => ?_)
  refine sD Try.f6 6 2 (fun v2 S3 => ?_)
  kernel_rfl
theorem neaptidelaw10_LotCounts.r7  : vOps Try.prog ⟨false, false, false⟩ (vlim Try.prog O) (reg Try.f6 7) (reg Try.f6 7).toList ([x0,x1,x2,x3,x4,x5,x6,x7,x8,x9,x10,x11,x12,x13,x14,x15,x16,x17,x18,x19,x20,x21,x22,x23,x24,x25,x26,x27,x28,x29,x30,x31,x32,x33,x34,x35,x36,x37,x38,x39,x40,x41,x42,x43,x44,x45,x46,x47,x48,x49,x50,x51,x52,x53,x54,x55,x56,x57,x58,x59,x60,x61,x62,x63,x64,x65,x66,x67,x68,x69,x70,x71,x72,x73,x74,x75,x76,x77,x78,x79]) S =
    ( some ([x0,x1,x2,x3,x4,x5,Value.int IntKind.i64 0,x7,x8,x9,x10,x11,x12,x13,x14,x15,x16,x17,x18,x19,x20,x21,x22,x23,x24,x25,x26,x27,x28,x29,x30,x31,x32,x33,x34,x35,x36,x37,x38,x39,x40,x41,x42,x43,x44,x45,x46,x47,x48,x49,x50,x51,x52,x53,x54,x55,x56,x57,x58,x59,x60,x61,x62,x63,x64,x65,x66,x67,x68,x69,x70,x71,x72,x73,x74,x75,x76,x77,x78,x79], S)) := by
  refine sP Try.f6 7 0 (v := (Value.int IntKind.i64 0)) ?_
  kernel_rfl
theorem neaptidelaw10_LotCounts.r8  : vOps Try.prog ⟨false, false, false⟩ (vlim Try.prog O) (reg Try.f6 8) (reg Try.f6 8).toList ([x0,x1,x2,x3,x4,x5,x6,x7,x8,x9,x10,x11,x12,x13,x14,x15,x16,x17,x18,x19,x20,x21,x22,x23,x24,x25,x26,x27,x28,x29,x30,x31,x32,x33,x34,x35,x36,x37,x38,x39,x40,x41,x42,x43,x44,x45,x46,x47,x48,x49,x50,x51,x52,x53,x54,x55,x56,x57,x58,x59,x60,x61,x62,x63,x64,x65,x66,x67,x68,x69,x70,x71,x72,x73,x74,x75,x76,x77,x78,x79]) S =
    (andK (vBin Try.prog BinOp.lss 3 (dem x6) (Value.int IntKind.i64 7) S) (fun v1 S1 => some ([x0,x1,x2,x3,x4,x5,x6,x7,x8,x9,x10,x11,x12,x13,x14,x15,x16,dem x6,v1,x19,x20,x21,x22,x23,x24,x25,x26,x27,x28,x29,x30,x31,x32,x33,x34,x35,x36,x37,x38,x39,x40,x41,x42,x43,x44,x45,x46,x47,x48,x49,x50,x51,x52,x53,x54,x55,x56,x57,x58,x59,x60,x61,x62,x63,x64,x65,x66,x67,x68,x69,x70,x71,x72,x73,x74,x75,x76,x77,x78,x79], S1)) ()) := by
  refine sP Try.f6 8 0 (v := x6) ?_
  refine sD Try.f6 8 1 (fun v1 S1 => ?_)
  kernel_rfl
theorem neaptidelaw10_LotCounts.r10  : vOps Try.prog ⟨false, false, false⟩ (vlim Try.prog O) (reg Try.f6 10) (reg Try.f6 10).toList ([x0,x1,x2,x3,x4,x5,x6,x7,x8,x9,x10,x11,x12,x13,x14,x15,x16,x17,x18,x19,x20,x21,x22,x23,x24,x25,x26,x27,x28,x29,x30,x31,x32,x33,x34,x35,x36,x37,x38,x39,x40,x41,x42,x43,x44,x45,x46,x47,x48,x49,x50,x51,x52,x53,x54,x55,x56,x57,x58,x59,x60,x61,x62,x63,x64,x65,x66,x67,x68,x69,x70,x71,x72,x73,x74,x75,x76,x77,x78,x79]) S =
    (andK ((vlim Try.prog O) 18 [(dem (dem x0)), (dem (dem x6))] S) (fun v2 S1 => andK (vLen Try.prog 22 v2 S1) (fun v3 S2 => some ([x0,x1,x2,x3,x4,x5,x6,x7,x8,x9,x10,x11,x12,x13,x14,x15,x16,x17,x18,x19,x20,dem x0,dem x6,v2,v3,Value.int IntKind.i64 0,x26,x27,x28,x29,x30,x31,x32,x33,x34,x35,x36,x37,x38,x39,x40,x41,x42,x43,x44,x45,x46,x47,x48,x49,x50,x51,x52,x53,x54,x55,x56,x57,x58,x59,x60,x61,x62,x63,x64,x65,x66,x67,x68,x69,x70,x71,x72,x73,x74,x75,x76,x77,x78,x79], S2)) ()) ()) := by
  refine sP Try.f6 10 0 (v := x0) ?_
  refine sP Try.f6 10 1 (v := x6) ?_
  refine sD Try.f6 10 2 (fun v2 S1 => ?_)
  refine sD Try.f6 10 3 (fun v3 S2 => ?_)
  refine sP Try.f6 10 4 (v := (Value.int IntKind.i64 0)) ?_
  kernel_rfl
theorem neaptidelaw10_LotCounts.r11  : vOps Try.prog ⟨false, false, false⟩ (vlim Try.prog O) (reg Try.f6 11) (reg Try.f6 11).toList ([x0,x1,x2,x3,x4,x5,x6,x7,x8,x9,x10,x11,x12,x13,x14,x15,x16,x17,x18,x19,x20,x21,x22,x23,x24,x25,x26,x27,x28,x29,x30,x31,x32,x33,x34,x35,x36,x37,x38,x39,x40,x41,x42,x43,x44,x45,x46,x47,x48,x49,x50,x51,x52,x53,x54,x55,x56,x57,x58,x59,x60,x61,x62,x63,x64,x65,x66,x67,x68,x69,x70,x71,x72,x73,x74,x75,x76,x77,x78,x79]) S =
    (andK (vBin Try.prog BinOp.lss 3 x25 x24 S) (fun v0 S1 => some ([x0,x1,x2,x3,x4,x5,x6,x7,x8,x9,x10,x11,x12,x13,x14,x15,x16,x17,x18,x19,x20,x21,x22,x23,x24,x25,v0,x27,x28,x29,x30,x31,x32,x33,x34,x35,x36,x37,x38,x39,x40,x41,x42,x43,x44,x45,x46,x47,x48,x49,x50,x51,x52,x53,x54,x55,x56,x57,x58,x59,x60,x61,x62,x63,x64,x65,x66,x67,x68,x69,x70,x71,x72,x73,x74,x75,x76,x77,x78,x79], S1)) ()) := by
  refine sD Try.f6 11 0 (fun v0 S1 => ?_)
  kernel_rfl
theorem neaptidelaw10_LotCounts.r12  : vOps Try.prog ⟨false, false, false⟩ (vlim Try.prog O) (reg Try.f6 12) (reg Try.f6 12).toList ([x0,x1,x2,x3,x4,x5,x6,x7,x8,x9,x10,x11,x12,x13,x14,x15,x16,x17,x18,x19,x20,x21,x22,x23,x24,x25,x26,x27,x28,x29,x30,x31,x32,x33,x34,x35,x36,x37,x38,x39,x40,x41,x42,x43,x44,x45,x46,x47,x48,x49,x50,x51,x52,x53,x54,x55,x56,x57,x58,x59,x60,x61,x62,x63,x64,x65,x66,x67,x68,x69,x70,x71,x72,x73,x74,x75,x76,x77,x78,x79]) S =
    (andK (vIndexAddr Try.prog 22 x23 x25 S) (fun v0 S1 => andK (vLoad Try.prog false 3 v0 S1) (fun v1 S2 => some ([x0,x1,x2,x3,x4,x5,x6,x7,v1,x9,x10,x11,x12,x13,x14,x15,x16,x17,x18,x19,x20,x21,x22,x23,x24,x25,x26,v0,dem v1,x29,x30,x31,x32,x33,x34,x35,x36,x37,x38,x39,x40,x41,x42,x43,x44,x45,x46,x47,x48,x49,x50,x51,x52,x53,x54,x55,x56,x57,x58,x59,x60,x61,x62,x63,x64,x65,x66,x67,x68,x69,x70,x71,x72,x73,x74,x75,x76,x77,x78,x79], S2)) ()) ()) := by
  refine sD Try.f6 12 0 (fun v0 S1 => ?_)
  refine sD Try.f6 12 1 (fun v1 S2 => ?_)
  refine sP Try.f6 12 2 (v := v1) ?_
  kernel_rfl
theorem neaptidelaw10_LotCounts.r13  : vOps Try.prog ⟨false, false, false⟩ (vlim Try.prog O) (reg Try.f6 13) (reg Try.f6 13).toList ([x0,x1,x2,x3,x4,x5,x6,x7,x8,x9,x10,x11,x12,x13,x14,x15,x16,x17,x18,x19,x20,x21,x22,x23,x24,x25,x26,x27,x28,x29,x30,x31,x32,x33,x34,x35,x36,x37,x38,x39,x40,x41,x42,x43,x44,x45,x46,x47,x48,x49,x50,x51,x52,x53,x54,x55,x56,x57,x58,x59,x60,x61,x62,x63,x64,x65,x66,x67,x68,x69,x70,x71,x72,x73,x74,x75,x76,x77,x78,x79]) S =
    (andK ((vlim Try.prog O) 13 [(dem (dem x0)), (dem (dem x8)), (dem (dem x6))] S) (fun v3 S1 => andK (aUn Try.prog UnOp.not v3 S1) (fun v4 S2 => gdK (dem v4) false (ret x8) S2 (fun v6 S3 => gdK (dem v4) false (vBin Try.prog BinOp.lss 3 (dem v6) (Value.int IntKind.i64 1)) S3 (fun v7 S4 => andK (vPick (dem v4) (Value.bool true) v7 S4) (fun v8 S5 => gdK (dem v8) false (ret x8) S5 (fun v10 S6 => gdK (dem v8) false (ret x0) S6 (fun v11 S7 => gdK (dem v8) false (vLen Try.prog 22 (dem v11)) S7 (fun v12 S8 => gdK (dem v8) false (vBin Try.prog BinOp.gtr 3 (dem v10) v12) S8 (fun v13 S9 => andK (vPick (dem v8) (Value.bool true) v13 S9) (fun v14 S10 => some ([x0,x1,x2,x3,x4,x5,x6,x7,x8,x9,x10,x11,x12,x13,x14,x15,x16,x17,x18,x19,x20,x21,x22,x23,x24,x25,x26,x27,x28,dem x0,dem x8,dem x6,v3,v4,dem v4,dem v6,v7,v8,dem v8,dem v10,dem v11,v12,v13,v14,x44,x45,x46,x47,x48,x49,x50,x51,x52,x53,x54,x55,x56,x57,x58,x59,x60,x61,x62,x63,x64,x65,x66,x67,x68,x69,x70,x71,x72,x73,x74,x75,x76,x77,x78,x79], S10)) ()) ()) ()) ()) ()) ()) ()) ()) ()) ()) := by
  refine sP Try.f6 13 0 (v := x0) ?_
  refine sP Try.f6 13 1 (v := x8) ?_
  refine sP Try.f6 13 2 (v := x6) ?_
  refine sD Try.f6 13 3 (fun v3 S1 => ?_)
  refine sD Try.f6 13 4 (fun v4 S2 => ?_)
  refine sP Try.f6 13 5 (v := v4) ?_
  refine sG Try.f6 13 6 (j := 5) (fun v6 S3 => ?_)
  refine sG Try.f6 13 7 (j := 5) (fun v7 S4 => ?_)
  refine sD Try.f6 13 8 (fun v8 S5 => ?_)
  refine sP Try.f6 13 9 (v := v8) ?_
  refine sG Try.f6 13 10 (j := 9) (fun v10 S6 => ?_)
  refine sG Try.f6 13 11 (j := 9) (fun v11 S7 => ?_)
  refine sG Try.f6 13 12 (j := 9) (fun v12 S8 => ?_)
  refine sG Try.f6 13 13 (j := 9) (fun v13 S9 => ?_)
  refine sD Try.f6 13 14 (fun v14 S10 => ?_)
  kernel_rfl
theorem neaptidelaw10_LotCounts.r14  : vOps Try.prog ⟨false, false, false⟩ (vlim Try.prog O) (reg Try.f6 14) (reg Try.f6 14).toList ([x0,x1,x2,x3,x4,x5,x6,x7,x8,x9,x10,x11,x12,x13,x14,x15,x16,x17,x18,x19,x20,x21,x22,x23,x24,x25,x26,x27,x28,x29,x30,x31,x32,x33,x34,x35,x36,x37,x38,x39,x40,x41,x42,x43,x44,x45,x46,x47,x48,x49,x50,x51,x52,x53,x54,x55,x56,x57,x58,x59,x60,x61,x62,x63,x64,x65,x66,x67,x68,x69,x70,x71,x72,x73,x74,x75,x76,x77,x78,x79]) S =
    ( some ([x0,x1,Value.bool false,x3,x4,x5,x6,x7,x8,x9,x10,x11,x12,x13,x14,x15,x16,x17,x18,x19,x20,x21,x22,x23,x24,x25,x26,x27,x28,x29,x30,x31,x32,x33,x34,x35,x36,x37,x38,x39,x40,x41,x42,x43,x44,x45,x46,x47,x48,x49,x50,x51,x52,x53,x54,x55,x56,x57,x58,x59,x60,x61,x62,x63,x64,x65,x66,x67,x68,x69,x70,x71,x72,x73,x74,x75,x76,x77,x78,x79], S)) := by
  refine sP Try.f6 14 0 (v := (Value.bool false)) ?_
  kernel_rfl
theorem neaptidelaw10_LotCounts.r15  : vOps Try.prog ⟨false, false, false⟩ (vlim Try.prog O) (reg Try.f6 15) (reg Try.f6 15).toList ([x0,x1,x2,x3,x4,x5,x6,x7,x8,x9,x10,x11,x12,x13,x14,x15,x16,x17,x18,x19,x20,x21,x22,x23,x24,x25,x26,x27,x28,x29,x30,x31,x32,x33,x34,x35,x36,x37,x38,x39,x40,x41,x42,x43,x44,x45,x46,x47,x48,x49,x50,x51,x52,x53,x54,x55,x56,x57,x58,x59,x60,x61,x62,x63,x64,x65,x66,x67,x68,x69,x70,x71,x72,x73,x74,x75,x76,x77,x78,x79]) S =
    (andK (vIndexAddr Try.prog 30 x5 (dem x8) S) (fun v1 S1 => andK (vLoad Try.prog false 3 v1 S1) (fun v2 S2 => andK (vBin Try.prog BinOp.add 3 v2 (Value.int IntKind.i64 1) S2) (fun v3 S3 => andK (vIndexAddr Try.prog 30 x5 (dem x8) S3) (fun v4 S4 => andK (vStore Try.prog 3 v4 (dem v3) S4) (fun v5 S5 => some ([x0,x1,x2,x3,x4,x5,x6,x7,x8,x9,x10,x11,x12,x13,x14,x15,x16,x17,x18,x19,x20,x21,x22,x23,x24,x25,x26,x27,x28,x29,x30,x31,x32,x33,x34,x35,x36,x37,x38,x39,x40,x41,x42,x43,dem x8,v1,v2,v3,v4,x49,x50,x51,x52,x53,x54,x55,x56,x57,x58,x59,x60,x61,x62,x63,x64,x65,x66,x67,x68,x69,x70,x71,x72,x73,x74,x75,x76,x77,x78,x79], S5)) ()) ()) ()) ()) ()) := by
  refine sP Try.f6 15 0 (v := x8) ?_
  refine sD Try.f6 15 1 (fun v1 S1 => ?_)
  refine sD Try.f6 15 2 (fun v2 S2 => ?_)
  refine sD Try.f6 15 3 (fun v3 S3 => ?_)
  refine sD Try.f6 15 4 (fun v4 S4 => ?_)
  refine sD Try.f6 15 5 (fun v5 S5 => ?_)
  kernel_rfl
theorem neaptidelaw10_LotCounts.r16  : vOps Try.prog ⟨false, false, false⟩ (vlim Try.prog O) (reg Try.f6 16) (reg Try.f6 16).toList ([x0,x1,x2,x3,x4,x5,x6,x7,x8,x9,x10,x11,x12,x13,x14,x15,x16,x17,x18,x19,x20,x21,x22,x23,x24,x25,x26,x27,x28,x29,x30,x31,x32,x33,x34,x35,x36,x37,x38,x39,x40,x41,x42,x43,x44,x45,x46,x47,x48,x49,x50,x51,x52,x53,x54,x55,x56,x57,x58,x59,x60,x61,x62,x63,x64,x65,x66,x67,x68,x69,x70,x71,x72,x73,x74,x75,x76,x77,x78,x79]) S =
    (andK (vBin Try.prog BinOp.add 3 (dem x3) (Value.int IntKind.i64 1) S) (fun v1 S1 => some ([x0,x1,x2,v1,x4,x5,x6,x7,x8,x9,x10,x11,x12,x13,x14,x15,x16,x17,x18,x19,x20,x21,x22,x23,x24,x25,x26,x27,x28,x29,x30,x31,x32,x33,x34,x35,x36,x37,x38,x39,x40,x41,x42,x43,x44,x45,x46,x47,x48,dem x3,dem v1,x51,x52,x53,x54,x55,x56,x57,x58,x59,x60,x61,x62,x63,x64,x65,x66,x67,x68,x69,x70,x71,x72,x73,x74,x75,x76,x77,x78,x79], S1)) ()) := by
  refine sP Try.f6 16 0 (v := x3) ?_
  refine sD Try.f6 16 1 (fun v1 S1 => ?_)
  refine sP Try.f6 16 2 (v := v1) ?_
  kernel_rfl
theorem neaptidelaw10_LotCounts.r17  : vOps Try.prog ⟨false, false, false⟩ (vlim Try.prog O) (reg Try.f6 17) (reg Try.f6 17).toList ([x0,x1,x2,x3,x4,x5,x6,x7,x8,x9,x10,x11,x12,x13,x14,x15,x16,x17,x18,x19,x20,x21,x22,x23,x24,x25,x26,x27,x28,x29,x30,x31,x32,x33,x34,x35,x36,x37,x38,x39,x40,x41,x42,x43,x44,x45,x46,x47,x48,x49,x50,x51,x52,x53,x54,x55,x56,x57,x58,x59,x60,x61,x62,x63,x64,x65,x66,x67,x68,x69,x70,x71,x72,x73,x74,x75,x76,x77,x78,x79]) S =
    (andK (vBin Try.prog BinOp.add 3 x25 (Value.int IntKind.i64 1) S) (fun v0 S1 => some ([x0,x1,x2,x3,x4,x5,x6,x7,x8,x9,x10,x11,x12,x13,x14,x15,x16,x17,x18,x19,x20,x21,x22,x23,x24,dem v0,x26,x27,x28,x29,x30,x31,x32,x33,x34,x35,x36,x37,x38,x39,x40,x41,x42,x43,x44,x45,x46,x47,x48,x49,x50,v0,x52,x53,x54,x55,x56,x57,x58,x59,x60,x61,x62,x63,x64,x65,x66,x67,x68,x69,x70,x71,x72,x73,x74,x75,x76,x77,x78,x79], S1)) ()) := by
  refine sD Try.f6 17 0 (fun v0 S1 => ?_)
  refine sP Try.f6 17 1 (v := v0) ?_
  kernel_rfl
theorem neaptidelaw10_LotCounts.r9  : vOps Try.prog ⟨false, false, false⟩ (vlim Try.prog O) (reg Try.f6 9) (reg Try.f6 9).toList ([x0,x1,x2,x3,x4,x5,x6,x7,x8,x9,x10,x11,x12,x13,x14,x15,x16,x17,x18,x19,x20,x21,x22,x23,x24,x25,x26,x27,x28,x29,x30,x31,x32,x33,x34,x35,x36,x37,x38,x39,x40,x41,x42,x43,x44,x45,x46,x47,x48,x49,x50,x51,x52,x53,x54,x55,x56,x57,x58,x59,x60,x61,x62,x63,x64,x65,x66,x67,x68,x69,x70,x71,x72,x73,x74,x75,x76,x77,x78,x79]) S =
    (andK (vBin Try.prog BinOp.add 3 (dem x6) (Value.int IntKind.i64 1) S) (fun v1 S1 => some ([x0,x1,x2,x3,x4,x5,v1,x7,x8,x9,x10,x11,x12,x13,x14,x15,x16,x17,x18,dem x6,dem v1,x21,x22,x23,x24,x25,x26,x27,x28,x29,x30,x31,x32,x33,x34,x35,x36,x37,x38,x39,x40,x41,x42,x43,x44,x45,x46,x47,x48,x49,x50,x51,x52,x53,x54,x55,x56,x57,x58,x59,x60,x61,x62,x63,x64,x65,x66,x67,x68,x69,x70,x71,x72,x73,x74,x75,x76,x77,x78,x79], S1)) ()) := by
  refine sP Try.f6 9 0 (v := x6) ?_
  refine sD Try.f6 9 1 (fun v1 S1 => ?_)
  refine sP Try.f6 9 2 (v := v1) ?_
  kernel_rfl
theorem neaptidelaw10_LotCounts.r18  : vOps Try.prog ⟨false, false, false⟩ (vlim Try.prog O) (reg Try.f6 18) (reg Try.f6 18).toList ([x0,x1,x2,x3,x4,x5,x6,x7,x8,x9,x10,x11,x12,x13,x14,x15,x16,x17,x18,x19,x20,x21,x22,x23,x24,x25,x26,x27,x28,x29,x30,x31,x32,x33,x34,x35,x36,x37,x38,x39,x40,x41,x42,x43,x44,x45,x46,x47,x48,x49,x50,x51,x52,x53,x54,x55,x56,x57,x58,x59,x60,x61,x62,x63,x64,x65,x66,x67,x68,x69,x70,x71,x72,x73,x74,x75,x76,x77,x78,x79]) S =
    ( some ([x0,x1,x2,x3,x4,x5,x6,x7,x8,Value.int IntKind.i64 0,x10,x11,x12,x13,x14,x15,x16,x17,x18,x19,x20,x21,x22,x23,x24,x25,x26,x27,x28,x29,x30,x31,x32,x33,x34,x35,x36,x37,x38,x39,x40,x41,x42,x43,x44,x45,x46,x47,x48,x49,x50,x51,x52,x53,x54,x55,x56,x57,x58,x59,x60,x61,x62,x63,x64,x65,x66,x67,x68,x69,x70,x71,x72,x73,x74,x75,x76,x77,x78,x79], S)) := by
  refine sP Try.f6 18 0 (v := (Value.int IntKind.i64 0)) ?_
  kernel_rfl
theorem neaptidelaw10_LotCounts.r19  : vOps Try.prog ⟨false, false, false⟩ (vlim Try.prog O) (reg Try.f6 19) (reg Try.f6 19).toList ([x0,x1,x2,x3,x4,x5,x6,x7,x8,x9,x10,x11,x12,x13,x14,x15,x16,x17,x18,x19,x20,x21,x22,x23,x24,x25,x26,x27,x28,x29,x30,x31,x32,x33,x34,x35,x36,x37,x38,x39,x40,x41,x42,x43,x44,x45,x46,x47,x48,x49,x50,x51,x52,x53,x54,x55,x56,x57,x58,x59,x60,x61,x62,x63,x64,x65,x66,x67,x68,x69,x70,x71,x72,x73,x74,x75,x76,x77,x78,x79]) S =
    ( some ([x0,x1,x2,x3,x4,x5,x6,x7,x8,x9,Value.int IntKind.i64 1,x11,x12,x13,x14,x15,x16,x17,x18,x19,x20,x21,x22,x23,x24,x25,x26,x27,x28,x29,x30,x31,x32,x33,x34,x35,x36,x37,x38,x39,x40,x41,x42,x43,x44,x45,x46,x47,x48,x49,x50,x51,x52,x53,x54,x55,x56,x57,x58,x59,x60,x61,x62,x63,x64,x65,x66,x67,x68,x69,x70,x71,x72,x73,x74,x75,x76,x77,x78,x79], S)) := by
  refine sP Try.f6 19 0 (v := (Value.int IntKind.i64 1)) ?_
  kernel_rfl
theorem neaptidelaw10_LotCounts.r20  : vOps Try.prog ⟨false, false, false⟩ (vlim Try.prog O) (reg Try.f6 20) (reg Try.f6 20).toList ([x0,x1,x2,x3,x4,x5,x6,x7,x8,x9,x10,x11,x12,x13,x14,x15,x16,x17,x18,x19,x20,x21,x22,x23,x24,x25,x26,x27,x28,x29,x30,x31,x32,x33,x34,x35,x36,x37,x38,x39,x40,x41,x42,x43,x44,x45,x46,x47,x48,x49,x50,x51,x52,x53,x54,x55,x56,x57,x58,x59,x60,x61,x62,x63,x64,x65,x66,x67,x68,x69,x70,x71,x72,x73,x74,x75,x76,x77,x78,x79]) S =
    (andK (vLen Try.prog 22 (dem x0) S) (fun v2 S1 => andK (vBin Try.prog BinOp.leq 3 (dem x10) v2 S1) (fun v3 S2 => some ([x0,x1,x2,x3,x4,x5,x6,x7,x8,x9,x10,x11,x12,x13,x14,x15,x16,x17,x18,x19,x20,x21,x22,x23,x24,x25,x26,x27,x28,x29,x30,x31,x32,x33,x34,x35,x36,x37,x38,x39,x40,x41,x42,x43,x44,x45,x46,x47,x48,x49,x50,x51,dem x10,dem x0,v2,v3,x56,x57,x58,x59,x60,x61,x62,x63,x64,x65,x66,x67,x68,x69,x70,x71,x72,x73,x74,x75,x76,x77,x78,x79], S2)) ()) ()) := by
  refine sP Try.f6 20 0 (v := x10) ?_
  refine sP Try.f6 20 1 (v := x0) ?_
  refine sD Try.f6 20 2 (fun v2 S1 => ?_)
  refine sD Try.f6 20 3 (fun v3 S2 => ?_)
  kernel_rfl
theorem neaptidelaw10_LotCounts.r22  : vOps Try.prog ⟨false, false, false⟩ (vlim Try.prog O) (reg Try.f6 22) (reg Try.f6 22).toList ([x0,x1,x2,x3,x4,x5,x6,x7,x8,x9,x10,x11,x12,x13,x14,x15,x16,x17,x18,x19,x20,x21,x22,x23,x24,x25,x26,x27,x28,x29,x30,x31,x32,x33,x34,x35,x36,x37,x38,x39,x40,x41,x42,x43,x44,x45,x46,x47,x48,x49,x50,x51,x52,x53,x54,x55,x56,x57,x58,x59,x60,x61,x62,x63,x64,x65,x66,x67,x68,x69,x70,x71,x72,x73,x74,x75,x76,x77,x78,x79]) S =
    (andK ((vlim Try.prog O) 16 [(dem (dem x0)), (dem (dem x10))] S) (fun v3 S1 => andK (vLen Try.prog 22 v3 S1) (fun v4 S2 => andK (vBin Try.prog BinOp.add 3 (dem x4) v4 S2) (fun v5 S3 => some ([x0,x1,x2,x3,v5,x5,x6,x7,x8,x9,x10,x11,x12,x13,x14,x15,x16,x17,x18,x19,x20,x21,x22,x23,x24,x25,x26,x27,x28,x29,x30,x31,x32,x33,x34,x35,x36,x37,x38,x39,x40,x41,x42,x43,x44,x45,x46,x47,x48,x49,x50,x51,x52,x53,x54,x55,x56,x57,dem x4,dem x0,dem x10,v3,v4,dem v5,x64,x65,x66,x67,x68,x69,x70,x71,x72,x73,x74,x75,x76,x77,x78,x79], S3)) ()) ()) ()) := by
  refine sP Try.f6 22 0 (v := x4) ?_
  refine sP Try.f6 22 1 (v := x0) ?_
  refine sP Try.f6 22 2 (v := x10) ?_
  refine sD Try.f6 22 3 (fun v3 S1 => ?_)
  refine sD Try.f6 22 4 (fun v4 S2 => ?_)
  refine sD Try.f6 22 5 (fun v5 S3 => ?_)
  refine sP Try.f6 22 6 (v := v5) ?_
  kernel_rfl
theorem neaptidelaw10_LotCounts.r23  : vOps Try.prog ⟨false, false, false⟩ (vlim Try.prog O) (reg Try.f6 23) (reg Try.f6 23).toList ([x0,x1,x2,x3,x4,x5,x6,x7,x8,x9,x10,x11,x12,x13,x14,x15,x16,x17,x18,x19,x20,x21,x22,x23,x24,x25,x26,x27,x28,x29,x30,x31,x32,x33,x34,x35,x36,x37,x38,x39,x40,x41,x42,x43,x44,x45,x46,x47,x48,x49,x50,x51,x52,x53,x54,x55,x56,x57,x58,x59,x60,x61,x62,x63,x64,x65,x66,x67,x68,x69,x70,x71,x72,x73,x74,x75,x76,x77,x78,x79]) S =
    (andK (vIndexAddr Try.prog 30 x5 (dem x10) S) (fun v2 S1 => andK (vLoad Try.prog false 3 v2 S1) (fun v3 S2 => andK (vBuiltin Try.prog false Builtin.max #[3, 3] 3 [(dem x9), v3] S2) (fun v4 S3 => some ([x0,x1,x2,x3,x4,x5,x6,x7,x8,v4,x10,x11,x12,x13,x14,x15,x16,x17,x18,x19,x20,x21,x22,x23,x24,x25,x26,x27,x28,x29,x30,x31,x32,x33,x34,x35,x36,x37,x38,x39,x40,x41,x42,x43,x44,x45,x46,x47,x48,x49,x50,x51,x52,x53,x54,x55,x56,x57,x58,x59,x60,x61,x62,x63,dem x9,dem x10,v2,v3,dem v4,x69,x70,x71,x72,x73,x74,x75,x76,x77,x78,x79], S3)) ()) ()) ()) := by
  refine sP Try.f6 23 0 (v := x9) ?_
  refine sP Try.f6 23 1 (v := x10) ?_
  refine sD Try.f6 23 2 (fun v2 S1 => ?_)
  refine sD Try.f6 23 3 (fun v3 S2 => ?_)
  refine sD Try.f6 23 4 (fun v4 S3 => ?_)
  refine sP Try.f6 23 5 (v := v4) ?_
  kernel_rfl
theorem neaptidelaw10_LotCounts.r21  : vOps Try.prog ⟨false, false, false⟩ (vlim Try.prog O) (reg Try.f6 21) (reg Try.f6 21).toList ([x0,x1,x2,x3,x4,x5,x6,x7,x8,x9,x10,x11,x12,x13,x14,x15,x16,x17,x18,x19,x20,x21,x22,x23,x24,x25,x26,x27,x28,x29,x30,x31,x32,x33,x34,x35,x36,x37,x38,x39,x40,x41,x42,x43,x44,x45,x46,x47,x48,x49,x50,x51,x52,x53,x54,x55,x56,x57,x58,x59,x60,x61,x62,x63,x64,x65,x66,x67,x68,x69,x70,x71,x72,x73,x74,x75,x76,x77,x78,x79]) S =
    (andK (vBin Try.prog BinOp.add 3 (dem x10) (Value.int IntKind.i64 1) S) (fun v1 S1 => some ([x0,x1,x2,x3,x4,x5,x6,x7,x8,x9,v1,x11,x12,x13,x14,x15,x16,x17,x18,x19,x20,x21,x22,x23,x24,x25,x26,x27,x28,x29,x30,x31,x32,x33,x34,x35,x36,x37,x38,x39,x40,x41,x42,x43,x44,x45,x46,x47,x48,x49,x50,x51,x52,x53,x54,x55,dem x10,dem v1,x58,x59,x60,x61,x62,x63,x64,x65,x66,x67,x68,x69,x70,x71,x72,x73,x74,x75,x76,x77,x78,x79], S1)) ()) := by
  refine sP Try.f6 21 0 (v := x10) ?_
  refine sD Try.f6 21 1 (fun v1 S1 => ?_)
  refine sP Try.f6 21 2 (v := v1) ?_
  kernel_rfl
theorem neaptidelaw10_LotCounts.r24  : vOps Try.prog ⟨false, false, false⟩ (vlim Try.prog O) (reg Try.f6 24) (reg Try.f6 24).toList ([x0,x1,x2,x3,x4,x5,x6,x7,x8,x9,x10,x11,x12,x13,x14,x15,x16,x17,x18,x19,x20,x21,x22,x23,x24,x25,x26,x27,x28,x29,x30,x31,x32,x33,x34,x35,x36,x37,x38,x39,x40,x41,x42,x43,x44,x45,x46,x47,x48,x49,x50,x51,x52,x53,x54,x55,x56,x57,x58,x59,x60,x61,x62,x63,x64,x65,x66,x67,x68,x69,x70,x71,x72,x73,x74,x75,x76,x77,x78,x79]) S =
    (andK (vBin Try.prog BinOp.eql 3 (dem x3) (dem x4) S) (fun v2 S1 => gdK (dem v2) true (ret x0) S1 (fun v4 S2 => gdK (dem v2) true (vBuildSlice Try.prog 22 7 [(0, (Value.int IntKind.i64 0)), (1, (Value.int IntKind.i64 1)), (2, (Value.int IntKind.i64 2)), (3, (Value.int IntKind.i64 3)), (4, (Value.int IntKind.i64 4)), (5, (Value.int IntKind.i64 5)), (6, (Value.int IntKind.i64 6))]) S2 (fun v5 S3 => gdK (dem v2) true ((vlim Try.prog O) 10 [(dem (dem v4)), (dem v5)]) S3 (fun v6 S4 => gdK (dem v2) true (ret x9) S4 (fun v7 S5 => gdK (dem v2) true (vBin Try.prog BinOp.leq 3 (dem v7) (Value.int IntKind.i64 1)) S5 (fun v8 S6 => gdK (dem v2) true (vBin Try.prog BinOp.eql 4 v6 v8) S6 (fun v9 S7 => andK (vPick (dem v2) v9 (Value.bool false) S7) (fun v10 S8 => some ([x0,x1,v10,x3,x4,x5,x6,x7,x8,x9,x10,x11,x12,x13,x14,x15,x16,x17,x18,x19,x20,x21,x22,x23,x24,x25,x26,x27,x28,x29,x30,x31,x32,x33,x34,x35,x36,x37,x38,x39,x40,x41,x42,x43,x44,x45,x46,x47,x48,x49,x50,x51,x52,x53,x54,x55,x56,x57,x58,x59,x60,x61,x62,x63,x64,x65,x66,x67,x68,dem x3,dem x4,v2,dem v2,dem v4,v5,v6,dem v7,v8,v9,dem v10], S8)) ()) ()) ()) ()) ()) ()) ()) ()) := by
  refine sP Try.f6 24 0 (v := x3) ?_
  refine sP Try.f6 24 1 (v := x4) ?_
  refine sD Try.f6 24 2 (fun v2 S1 => ?_)
  refine sP Try.f6 24 3 (v := v2) ?_
  refine sG Try.f6 24 4 (j := 3) (fun v4 S2 => ?_)
  refine sG Try.f6 24 5 (j := 3) (fun v5 S3 => ?_)
  refine sG Try.f6 24 6 (j := 3) (fun v6 S4 => ?_)
  refine sG Try.f6 24 7 (j := 3) (fun v7 S5 => ?_)
  refine sG Try.f6 24 8 (j := 3) (fun v8 S6 => ?_)
  refine sG Try.f6 24 9 (j := 3) (fun v9 S7 => ?_)
  refine sD Try.f6 24 10 (fun v10 S8 => ?_)
  refine sP Try.f6 24 11 (v := v10) ?_
  kernel_rfl
theorem neaptidelaw10_LotCounts.rs : type_of% (And.intro @neaptidelaw10_LotCounts.r0 (And.intro @neaptidelaw10_LotCounts.r1 (And.intro @neaptidelaw10_LotCounts.r2 (And.intro @neaptidelaw10_LotCounts.r3 (And.intro @neaptidelaw10_LotCounts.r4 (And.intro @neaptidelaw10_LotCounts.r5 (And.intro @neaptidelaw10_LotCounts.r6 (And.intro @neaptidelaw10_LotCounts.r7 (And.intro @neaptidelaw10_LotCounts.r8 (And.intro @neaptidelaw10_LotCounts.r10 (And.intro @neaptidelaw10_LotCounts.r11 (And.intro @neaptidelaw10_LotCounts.r12 (And.intro @neaptidelaw10_LotCounts.r13 (And.intro @neaptidelaw10_LotCounts.r14 (And.intro @neaptidelaw10_LotCounts.r15 (And.intro @neaptidelaw10_LotCounts.r16 (And.intro @neaptidelaw10_LotCounts.r17 (And.intro @neaptidelaw10_LotCounts.r9 (And.intro @neaptidelaw10_LotCounts.r18 (And.intro @neaptidelaw10_LotCounts.r19 (And.intro @neaptidelaw10_LotCounts.r20 (And.intro @neaptidelaw10_LotCounts.r22 (And.intro @neaptidelaw10_LotCounts.r23 (And.intro @neaptidelaw10_LotCounts.r21 (@neaptidelaw10_LotCounts.r24))))))))))))))))))))))))) := And.intro @neaptidelaw10_LotCounts.r0 (And.intro @neaptidelaw10_LotCounts.r1 (And.intro @neaptidelaw10_LotCounts.r2 (And.intro @neaptidelaw10_LotCounts.r3 (And.intro @neaptidelaw10_LotCounts.r4 (And.intro @neaptidelaw10_LotCounts.r5 (And.intro @neaptidelaw10_LotCounts.r6 (And.intro @neaptidelaw10_LotCounts.r7 (And.intro @neaptidelaw10_LotCounts.r8 (And.intro @neaptidelaw10_LotCounts.r10 (And.intro @neaptidelaw10_LotCounts.r11 (And.intro @neaptidelaw10_LotCounts.r12 (And.intro @neaptidelaw10_LotCounts.r13 (And.intro @neaptidelaw10_LotCounts.r14 (And.intro @neaptidelaw10_LotCounts.r15 (And.intro @neaptidelaw10_LotCounts.r16 (And.intro @neaptidelaw10_LotCounts.r17 (And.intro @neaptidelaw10_LotCounts.r9 (And.intro @neaptidelaw10_LotCounts.r18 (And.intro @neaptidelaw10_LotCounts.r19 (And.intro @neaptidelaw10_LotCounts.r20 (And.intro @neaptidelaw10_LotCounts.r22 (And.intro @neaptidelaw10_LotCounts.r23 (And.intro @neaptidelaw10_LotCounts.r21 (@neaptidelaw10_LotCounts.r24))))))))))))))))))))))))
theorem neaptidelaw10_LotCounts.runs {x0 : Value} {S S1 : AHeap} {e : AEx} {T : List Value} (h : vcodeV Try.prog O false neaptidelaw10_LotCounts.code ([x0,undef,undef,undef,undef,undef,undef,undef,undef,undef,undef,undef,undef,undef,undef,undef,undef,undef,undef,undef,undef,undef,undef,undef,undef,undef,undef,undef,undef,undef,undef,undef,undef,undef,undef,undef,undef,undef,undef,undef,undef,undef,undef,undef,undef,undef,undef,undef,undef,undef,undef,undef,undef,undef,undef,undef,undef,undef,undef,undef,undef,undef,undef,undef,undef,undef,undef,undef,undef,undef,undef,undef,undef,undef,undef,undef,undef,undef,undef,undef]) S = some (e, T, S1)) (he : e = .normal ∨ e = .ret) : vlim Try.prog O 6 [x0] S = some (T.getD 2 undef, S1) :=
  vlim_code rfl rfl Try.func6 (by decide) neaptidelaw10_LotCounts.body (by exact h) he (vRes_one (a := T.getD 2 undef) ((show vResVals Try.prog T S1 Try.f6.results.toList = vResVals Try.prog T S1 [(ResultVar.tmp 2)] from by kernel_rfl).trans (by simp only [vResVals])) (by kernel_rfl))
end Go.Proofs.Ytooljmmlekmkeaa
