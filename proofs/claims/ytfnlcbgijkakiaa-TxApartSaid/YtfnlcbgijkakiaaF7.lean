/-
The seat's functions in a shallow form: each region as a chain of the interpreter's operations. Printed by a program; Lean checks each row.
-/
import Derived.Test.YtfnlcbgijkakiaaChecked
import Derived.Test.YtfnlcbgijkakiaaOra
import Derived.KernelRfl
set_option linter.unusedVariables false
set_option maxRecDepth 100000
namespace Go.Proofs.Ytfnlcbgijkakiaa
open Go.Abs

/-- neaptide.neaptidelaw06.TxApart -/
abbrev neaptidelaw06_TxApart.id : FuncId := 7
noncomputable def neaptidelaw06_TxApart.loop1 : Code := (Code.seq (Code.region 10 (reg Try.f7 10) false) (Code.seq (Code.cond (Operand.tmp 61) Code.skip (Code.exit 0)) (Code.seq (Code.block 1 (Code.seq (Code.region 11 (reg Try.f7 11) false) (Code.seq (Code.region 12 (reg Try.f7 12) false) (Code.seq (Code.region 13 (reg Try.f7 13) false) (Code.seq (Code.region 14 (reg Try.f7 14) false) (Code.cond (Operand.tmp 84) (Code.seq (Code.region 15 (reg Try.f7 15) false) Code.ret) Code.skip)))))) (Code.region 16 (reg Try.f7 16) false))))
noncomputable def neaptidelaw06_TxApart.code : Code := (Code.seq (Code.region 0 (reg Try.f7 0) false) (Code.seq (Code.seq (Code.region 1 (reg Try.f7 1) false) (Code.cond (Operand.tmp 16) (Code.seq (Code.region 2 (reg Try.f7 2) false) Code.ret) Code.skip)) (Code.seq (Code.region 3 (reg Try.f7 3) false) (Code.seq (Code.region 4 (reg Try.f7 4) false) (Code.seq (Code.seq (Code.region 5 (reg Try.f7 5) false) (Code.cond (Operand.tmp 32) (Code.seq (Code.region 6 (reg Try.f7 6) false) Code.ret) Code.skip)) (Code.seq (Code.seq (Code.region 7 (reg Try.f7 7) true) (Code.cond (Operand.tmp 57) (Code.seq (Code.region 8 (reg Try.f7 8) false) Code.ret) Code.skip)) (Code.seq (Code.seq (Code.region 9 (reg Try.f7 9) false) (Code.block 0 (Code.loop neaptidelaw06_TxApart.loop1))) (Code.seq (Code.region 17 (reg Try.f7 17) false) Code.ret))))))))
theorem neaptidelaw06_TxApart.body : Try.f7.body = some neaptidelaw06_TxApart.code := by kernel_rfl
theorem neaptidelaw06_TxApart.eta {T : List Value} (h : T.length = 86) : T = [T.getD 0 undef,T.getD 1 undef,T.getD 2 undef,T.getD 3 undef,T.getD 4 undef,T.getD 5 undef,T.getD 6 undef,T.getD 7 undef,T.getD 8 undef,T.getD 9 undef,T.getD 10 undef,T.getD 11 undef,T.getD 12 undef,T.getD 13 undef,T.getD 14 undef,T.getD 15 undef,T.getD 16 undef,T.getD 17 undef,T.getD 18 undef,T.getD 19 undef,T.getD 20 undef,T.getD 21 undef,T.getD 22 undef,T.getD 23 undef,T.getD 24 undef,T.getD 25 undef,T.getD 26 undef,T.getD 27 undef,T.getD 28 undef,T.getD 29 undef,T.getD 30 undef,T.getD 31 undef,T.getD 32 undef,T.getD 33 undef,T.getD 34 undef,T.getD 35 undef,T.getD 36 undef,T.getD 37 undef,T.getD 38 undef,T.getD 39 undef,T.getD 40 undef,T.getD 41 undef,T.getD 42 undef,T.getD 43 undef,T.getD 44 undef,T.getD 45 undef,T.getD 46 undef,T.getD 47 undef,T.getD 48 undef,T.getD 49 undef,T.getD 50 undef,T.getD 51 undef,T.getD 52 undef,T.getD 53 undef,T.getD 54 undef,T.getD 55 undef,T.getD 56 undef,T.getD 57 undef,T.getD 58 undef,T.getD 59 undef,T.getD 60 undef,T.getD 61 undef,T.getD 62 undef,T.getD 63 undef,T.getD 64 undef,T.getD 65 undef,T.getD 66 undef,T.getD 67 undef,T.getD 68 undef,T.getD 69 undef,T.getD 70 undef,T.getD 71 undef,T.getD 72 undef,T.getD 73 undef,T.getD 74 undef,T.getD 75 undef,T.getD 76 undef,T.getD 77 undef,T.getD 78 undef,T.getD 79 undef,T.getD 80 undef,T.getD 81 undef,T.getD 82 undef,T.getD 83 undef,T.getD 84 undef,T.getD 85 undef] := (list_getD T 86 h).trans (by kernel_rfl)
theorem neaptidelaw06_TxApart.list {T : List Value} (h : T.length = 86) : ∃ x0 x1 x2 x3 x4 x5 x6 x7 x8 x9 x10 x11 x12 x13 x14 x15 x16 x17 x18 x19 x20 x21 x22 x23 x24 x25 x26 x27 x28 x29 x30 x31 x32 x33 x34 x35 x36 x37 x38 x39 x40 x41 x42 x43 x44 x45 x46 x47 x48 x49 x50 x51 x52 x53 x54 x55 x56 x57 x58 x59 x60 x61 x62 x63 x64 x65 x66 x67 x68 x69 x70 x71 x72 x73 x74 x75 x76 x77 x78 x79 x80 x81 x82 x83 x84 x85, T = [x0,x1,x2,x3,x4,x5,x6,x7,x8,x9,x10,x11,x12,x13,x14,x15,x16,x17,x18,x19,x20,x21,x22,x23,x24,x25,x26,x27,x28,x29,x30,x31,x32,x33,x34,x35,x36,x37,x38,x39,x40,x41,x42,x43,x44,x45,x46,x47,x48,x49,x50,x51,x52,x53,x54,x55,x56,x57,x58,x59,x60,x61,x62,x63,x64,x65,x66,x67,x68,x69,x70,x71,x72,x73,x74,x75,x76,x77,x78,x79,x80,x81,x82,x83,x84,x85] := ⟨_, _, _, _, _, _, _, _, _, _, _, _, _, _, _, _, _, _, _, _, _, _, _, _, _, _, _, _, _, _, _, _, _, _, _, _, _, _, _, _, _, _, _, _, _, _, _, _, _, _, _, _, _, _, _, _, _, _, _, _, _, _, _, _, _, _, _, _, _, _, _, _, _, _, _, _, _, _, _, _, _, _, _, _, _, _, neaptidelaw06_TxApart.eta h⟩
variable (x0 x1 x2 x3 x4 x5 x6 x7 x8 x9 x10 x11 x12 x13 x14 x15 x16 x17 x18 x19 x20 x21 x22 x23 x24 x25 x26 x27 x28 x29 x30 x31 x32 x33 x34 x35 x36 x37 x38 x39 x40 x41 x42 x43 x44 x45 x46 x47 x48 x49 x50 x51 x52 x53 x54 x55 x56 x57 x58 x59 x60 x61 x62 x63 x64 x65 x66 x67 x68 x69 x70 x71 x72 x73 x74 x75 x76 x77 x78 x79 x80 x81 x82 x83 x84 x85 : Value) (S : AHeap)
theorem neaptidelaw06_TxApart.r0  : vOps Try.prog ⟨false, false, false⟩ (vlim Try.prog O) (reg Try.f7 0) (reg Try.f7 0).toList ([x0,x1,x2,x3,x4,x5,x6,x7,x8,x9,x10,x11,x12,x13,x14,x15,x16,x17,x18,x19,x20,x21,x22,x23,x24,x25,x26,x27,x28,x29,x30,x31,x32,x33,x34,x35,x36,x37,x38,x39,x40,x41,x42,x43,x44,x45,x46,x47,x48,x49,x50,x51,x52,x53,x54,x55,x56,x57,x58,x59,x60,x61,x62,x63,x64,x65,x66,x67,x68,x69,x70,x71,x72,x73,x74,x75,x76,x77,x78,x79,x80,x81,x82,x83,x84,x85]) S =
    ( some ([x0,x1,x2,x3,Value.bool false,x5,x6,x7,x8,x9,x10,x11,x12,x13,x14,x15,x16,x17,x18,x19,x20,x21,x22,x23,x24,x25,x26,x27,x28,x29,x30,x31,x32,x33,x34,x35,x36,x37,x38,x39,x40,x41,x42,x43,x44,x45,x46,x47,x48,x49,x50,x51,x52,x53,x54,x55,x56,x57,x58,x59,x60,x61,x62,x63,x64,x65,x66,x67,x68,x69,x70,x71,x72,x73,x74,x75,x76,x77,x78,x79,x80,x81,x82,x83,x84,x85], S)) := by
  refine sP Try.f7 0 0 (v := (Value.bool false)) ?_
  kernel_rfl
theorem neaptidelaw06_TxApart.r1  : vOps Try.prog ⟨false, false, false⟩ (vlim Try.prog O) (reg Try.f7 1) (reg Try.f7 1).toList ([x0,x1,x2,x3,x4,x5,x6,x7,x8,x9,x10,x11,x12,x13,x14,x15,x16,x17,x18,x19,x20,x21,x22,x23,x24,x25,x26,x27,x28,x29,x30,x31,x32,x33,x34,x35,x36,x37,x38,x39,x40,x41,x42,x43,x44,x45,x46,x47,x48,x49,x50,x51,x52,x53,x54,x55,x56,x57,x58,x59,x60,x61,x62,x63,x64,x65,x66,x67,x68,x69,x70,x71,x72,x73,x74,x75,x76,x77,x78,x79,x80,x81,x82,x83,x84,x85]) S =
    (andK ((vlim Try.prog O) 12 [] S) (fun v0 S1 => andK (aUn Try.prog UnOp.not v0 S1) (fun v1 S2 => some ([x0,x1,x2,x3,x4,x5,x6,x7,x8,x9,x10,x11,x12,x13,x14,v0,v1,x17,x18,x19,x20,x21,x22,x23,x24,x25,x26,x27,x28,x29,x30,x31,x32,x33,x34,x35,x36,x37,x38,x39,x40,x41,x42,x43,x44,x45,x46,x47,x48,x49,x50,x51,x52,x53,x54,x55,x56,x57,x58,x59,x60,x61,x62,x63,x64,x65,x66,x67,x68,x69,x70,x71,x72,x73,x74,x75,x76,x77,x78,x79,x80,x81,x82,x83,x84,x85], S2)) ()) ()) := by
  refine sD Try.f7 1 0 (fun v0 S1 => ?_)
  refine sD Try.f7 1 1 (fun v1 S2 => ?_)
  kernel_rfl
theorem neaptidelaw06_TxApart.r2  : vOps Try.prog ⟨false, false, false⟩ (vlim Try.prog O) (reg Try.f7 2) (reg Try.f7 2).toList ([x0,x1,x2,x3,x4,x5,x6,x7,x8,x9,x10,x11,x12,x13,x14,x15,x16,x17,x18,x19,x20,x21,x22,x23,x24,x25,x26,x27,x28,x29,x30,x31,x32,x33,x34,x35,x36,x37,x38,x39,x40,x41,x42,x43,x44,x45,x46,x47,x48,x49,x50,x51,x52,x53,x54,x55,x56,x57,x58,x59,x60,x61,x62,x63,x64,x65,x66,x67,x68,x69,x70,x71,x72,x73,x74,x75,x76,x77,x78,x79,x80,x81,x82,x83,x84,x85]) S =
    ( some ([x0,x1,x2,x3,Value.bool false,x5,x6,x7,x8,x9,x10,x11,x12,x13,x14,x15,x16,x17,x18,x19,x20,x21,x22,x23,x24,x25,x26,x27,x28,x29,x30,x31,x32,x33,x34,x35,x36,x37,x38,x39,x40,x41,x42,x43,x44,x45,x46,x47,x48,x49,x50,x51,x52,x53,x54,x55,x56,x57,x58,x59,x60,x61,x62,x63,x64,x65,x66,x67,x68,x69,x70,x71,x72,x73,x74,x75,x76,x77,x78,x79,x80,x81,x82,x83,x84,x85], S)) := by
  refine sP Try.f7 2 0 (v := (Value.bool false)) ?_
  kernel_rfl
theorem neaptidelaw06_TxApart.r3  : vOps Try.prog ⟨false, false, false⟩ (vlim Try.prog O) (reg Try.f7 3) (reg Try.f7 3).toList ([x0,x1,x2,x3,x4,x5,x6,x7,x8,x9,x10,x11,x12,x13,x14,x15,x16,x17,x18,x19,x20,x21,x22,x23,x24,x25,x26,x27,x28,x29,x30,x31,x32,x33,x34,x35,x36,x37,x38,x39,x40,x41,x42,x43,x44,x45,x46,x47,x48,x49,x50,x51,x52,x53,x54,x55,x56,x57,x58,x59,x60,x61,x62,x63,x64,x65,x66,x67,x68,x69,x70,x71,x72,x73,x74,x75,x76,x77,x78,x79,x80,x81,x82,x83,x84,x85]) S =
    (andK ((vlim Try.prog O) 17 [(dem (dem x0))] S) (fun v1 S1 => andK (aExtract v1 0 S1) (fun v3 S2 => andK (aExtract (demPart 0 v1) 1 S2) (fun v4 S3 => some ([x0,x1,x2,x3,x4,v3,v4,x7,x8,x9,x10,x11,x12,x13,x14,x15,x16,demPart 1 (demPart 0 v1),dem x0,dem v1,dem v3,dem v4,x22,x23,x24,x25,x26,x27,x28,x29,x30,x31,x32,x33,x34,x35,x36,x37,x38,x39,x40,x41,x42,x43,x44,x45,x46,x47,x48,x49,x50,x51,x52,x53,x54,x55,x56,x57,x58,x59,x60,x61,x62,x63,x64,x65,x66,x67,x68,x69,x70,x71,x72,x73,x74,x75,x76,x77,x78,x79,x80,x81,x82,x83,x84,x85], S3)) ()) ()) ()) := by
  refine sP Try.f7 3 0 (v := x0) ?_
  refine sD Try.f7 3 1 (fun v1 S1 => ?_)
  refine sP Try.f7 3 2 (v := v1) ?_
  refine sD Try.f7 3 3 (fun v3 S2 => ?_)
  refine sD Try.f7 3 4 (fun v4 S3 => ?_)
  refine sP Try.f7 3 5 (v := v3) ?_
  refine sP Try.f7 3 6 (v := v4) ?_
  kernel_rfl
theorem neaptidelaw06_TxApart.r4  : vOps Try.prog ⟨false, false, false⟩ (vlim Try.prog O) (reg Try.f7 4) (reg Try.f7 4).toList ([x0,x1,x2,x3,x4,x5,x6,x7,x8,x9,x10,x11,x12,x13,x14,x15,x16,x17,x18,x19,x20,x21,x22,x23,x24,x25,x26,x27,x28,x29,x30,x31,x32,x33,x34,x35,x36,x37,x38,x39,x40,x41,x42,x43,x44,x45,x46,x47,x48,x49,x50,x51,x52,x53,x54,x55,x56,x57,x58,x59,x60,x61,x62,x63,x64,x65,x66,x67,x68,x69,x70,x71,x72,x73,x74,x75,x76,x77,x78,x79,x80,x81,x82,x83,x84,x85]) S =
    (andK ((vlim Try.prog O) 17 [(dem (dem x1))] S) (fun v1 S1 => andK (aExtract v1 0 S1) (fun v3 S2 => andK (aExtract (demPart 0 v1) 1 S2) (fun v4 S3 => some ([x0,x1,x2,x3,x4,x5,x6,v3,v4,x9,x10,x11,x12,x13,x14,x15,x16,x17,x18,x19,x20,x21,demPart 1 (demPart 0 v1),dem x1,dem v1,dem v3,dem v4,x27,x28,x29,x30,x31,x32,x33,x34,x35,x36,x37,x38,x39,x40,x41,x42,x43,x44,x45,x46,x47,x48,x49,x50,x51,x52,x53,x54,x55,x56,x57,x58,x59,x60,x61,x62,x63,x64,x65,x66,x67,x68,x69,x70,x71,x72,x73,x74,x75,x76,x77,x78,x79,x80,x81,x82,x83,x84,x85], S3)) ()) ()) ()) := by
  refine sP Try.f7 4 0 (v := x1) ?_
  refine sD Try.f7 4 1 (fun v1 S1 => ?_)
  refine sP Try.f7 4 2 (v := v1) ?_
  refine sD Try.f7 4 3 (fun v3 S2 => ?_)
  refine sD Try.f7 4 4 (fun v4 S3 => ?_)
  refine sP Try.f7 4 5 (v := v3) ?_
  refine sP Try.f7 4 6 (v := v4) ?_
  kernel_rfl
theorem neaptidelaw06_TxApart.r5  : vOps Try.prog ⟨false, false, false⟩ (vlim Try.prog O) (reg Try.f7 5) (reg Try.f7 5).toList ([x0,x1,x2,x3,x4,x5,x6,x7,x8,x9,x10,x11,x12,x13,x14,x15,x16,x17,x18,x19,x20,x21,x22,x23,x24,x25,x26,x27,x28,x29,x30,x31,x32,x33,x34,x35,x36,x37,x38,x39,x40,x41,x42,x43,x44,x45,x46,x47,x48,x49,x50,x51,x52,x53,x54,x55,x56,x57,x58,x59,x60,x61,x62,x63,x64,x65,x66,x67,x68,x69,x70,x71,x72,x73,x74,x75,x76,x77,x78,x79,x80,x81,x82,x83,x84,x85]) S =
    (andK (vBin Try.prog BinOp.neq 25 (dem x6) (Value.int IntKind.i64 0) S) (fun v1 S1 => gdK (dem v1) false (ret x8) S1 (fun v3 S2 => gdK (dem v1) false (vBin Try.prog BinOp.neq 25 (dem v3) (Value.int IntKind.i64 0)) S2 (fun v4 S3 => andK (vPick (dem v1) (Value.bool true) v4 S3) (fun v5 S4 => some ([x0,x1,x2,x3,x4,x5,x6,x7,x8,x9,x10,x11,x12,x13,x14,x15,x16,x17,x18,x19,x20,x21,x22,x23,x24,x25,x26,dem x6,v1,dem v1,dem v3,v4,v5,x33,x34,x35,x36,x37,x38,x39,x40,x41,x42,x43,x44,x45,x46,x47,x48,x49,x50,x51,x52,x53,x54,x55,x56,x57,x58,x59,x60,x61,x62,x63,x64,x65,x66,x67,x68,x69,x70,x71,x72,x73,x74,x75,x76,x77,x78,x79,x80,x81,x82,x83,x84,x85], S4)) ()) ()) ()) ()) := by
  refine sP Try.f7 5 0 (v := x6) ?_
  refine sD Try.f7 5 1 (fun v1 S1 => ?_)
  refine sP Try.f7 5 2 (v := v1) ?_
  refine sG Try.f7 5 3 (j := 2) (fun v3 S2 => ?_)
  refine sG Try.f7 5 4 (j := 2) (fun v4 S3 => ?_)
  refine sD Try.f7 5 5 (fun v5 S4 => ?_)
  kernel_rfl
theorem neaptidelaw06_TxApart.r6  : vOps Try.prog ⟨false, false, false⟩ (vlim Try.prog O) (reg Try.f7 6) (reg Try.f7 6).toList ([x0,x1,x2,x3,x4,x5,x6,x7,x8,x9,x10,x11,x12,x13,x14,x15,x16,x17,x18,x19,x20,x21,x22,x23,x24,x25,x26,x27,x28,x29,x30,x31,x32,x33,x34,x35,x36,x37,x38,x39,x40,x41,x42,x43,x44,x45,x46,x47,x48,x49,x50,x51,x52,x53,x54,x55,x56,x57,x58,x59,x60,x61,x62,x63,x64,x65,x66,x67,x68,x69,x70,x71,x72,x73,x74,x75,x76,x77,x78,x79,x80,x81,x82,x83,x84,x85]) S =
    (andK (vBin Try.prog BinOp.eql 25 (dem x6) (Value.int IntKind.i64 0) S) (fun v1 S1 => gdK (dem v1) false (ret x5) S1 (fun v3 S2 => gdK (dem v1) false (vLen Try.prog 24 (dem v3)) S2 (fun v4 S3 => gdK (dem v1) false (vBin Try.prog BinOp.eql 3 v4 (Value.int IntKind.i64 0)) S3 (fun v5 S4 => andK (vPick (dem v1) (Value.bool true) v5 S4) (fun v6 S5 => gdK (dem v6) true (ret x8) S5 (fun v8 S6 => gdK (dem v6) true (vBin Try.prog BinOp.eql 25 (dem v8) (Value.int IntKind.i64 0)) S6 (fun v9 S7 => gdK (dem v6) true (ret v9) S7 (fun v10 S8 => gdK (dem v10) false (ret x7) S8 (fun v11 S9 => gdK (dem v10) false (vLen Try.prog 24 (dem v11)) S9 (fun v12 S10 => gdK (dem v10) false (vBin Try.prog BinOp.eql 3 v12 (Value.int IntKind.i64 0)) S10 (fun v13 S11 => gdK (dem v6) true (vPick (dem v10) (Value.bool true) v13) S11 (fun v14 S12 => andK (vPick (dem v6) v14 (Value.bool false) S12) (fun v15 S13 => some ([x0,x1,x2,x3,v15,x5,x6,x7,x8,x9,x10,x11,x12,x13,x14,x15,x16,x17,x18,x19,x20,x21,x22,x23,x24,x25,x26,x27,x28,x29,x30,x31,x32,dem x6,v1,dem v1,dem v3,v4,v5,v6,dem v6,dem v8,v9,dem v10,dem v11,v12,v13,v14,dem v15,x49,x50,x51,x52,x53,x54,x55,x56,x57,x58,x59,x60,x61,x62,x63,x64,x65,x66,x67,x68,x69,x70,x71,x72,x73,x74,x75,x76,x77,x78,x79,x80,x81,x82,x83,x84,x85], S13)) ()) ()) ()) ()) ()) ()) ()) ()) ()) ()) ()) ()) ()) := by
  refine sP Try.f7 6 0 (v := x6) ?_
  refine sD Try.f7 6 1 (fun v1 S1 => ?_)
  refine sP Try.f7 6 2 (v := v1) ?_
  refine sG Try.f7 6 3 (j := 2) (fun v3 S2 => ?_)
  refine sG Try.f7 6 4 (j := 2) (fun v4 S3 => ?_)
  refine sG Try.f7 6 5 (j := 2) (fun v5 S4 => ?_)
  refine sD Try.f7 6 6 (fun v6 S5 => ?_)
  refine sP Try.f7 6 7 (v := v6) ?_
  refine sG Try.f7 6 8 (j := 7) (fun v8 S6 => ?_)
  refine sG Try.f7 6 9 (j := 7) (fun v9 S7 => ?_)
  refine sG Try.f7 6 10 (j := 7) (fun v10 S8 => ?_)
  refine sG Try.f7 6 11 (j := 10) (fun v11 S9 => ?_)
  refine sG Try.f7 6 12 (j := 10) (fun v12 S10 => ?_)
  refine sG Try.f7 6 13 (j := 10) (fun v13 S11 => ?_)
  refine sG Try.f7 6 14 (j := 7) (fun v14 S12 => ?_)
  refine sD Try.f7 6 15 (fun v15 S13 => ?_)
  refine sP Try.f7 6 16 (v := v15) ?_
  kernel_rfl
theorem neaptidelaw06_TxApart.d7 : drawnOk Try.prog (reg Try.f7 7) = true := by kernel_rfl
theorem neaptidelaw06_TxApart.ff7 : fixed Try.prog (reg Try.f7 7) = false := by kernel_rfl
theorem neaptidelaw06_TxApart.k7 : checked Try.prog (reg Try.f7 7) = [0, 1, 2, 3, 4] := by kernel_rfl
theorem neaptidelaw06_TxApart.g7 : again Try.prog (reg Try.f7 7) = [] := by kernel_rfl
theorem neaptidelaw06_TxApart.r7  : vcodeV Try.prog O false (.region 7 (reg Try.f7 7) true) ([x0,x1,x2,x3,x4,x5,x6,x7,x8,x9,x10,x11,x12,x13,x14,x15,x16,x17,x18,x19,x20,x21,x22,x23,x24,x25,x26,x27,x28,x29,x30,x31,x32,x33,x34,x35,x36,x37,x38,x39,x40,x41,x42,x43,x44,x45,x46,x47,x48,x49,x50,x51,x52,x53,x54,x55,x56,x57,x58,x59,x60,x61,x62,x63,x64,x65,x66,x67,x68,x69,x70,x71,x72,x73,x74,x75,x76,x77,x78,x79,x80,x81,x82,x83,x84,x85]) S =
    regV (okK x5 ( andK (vConvF Try.prog false true 24 9 (dem x5) S) (fun v1 S1 => okK v1 ( okK x7 ( andK (vConvF Try.prog false true 24 9 (dem x7) S1) (fun v3 S2 => okK v3 ( andK (vBin Try.prog BinOp.eql 9 v1 v3 S2) (fun v4 S3 => okK v4 ( andK ((vlim Try.prog O) 20 [(dem (dem x0)), (dem (dem x1))] S3) (fun v7 S4 => andK (vBin Try.prog BinOp.neq 4 v4 v7 S4) (fun v8 S5 => some ([x0,x1,x2,x3,x4,x5,x6,x7,x8,x9,x10,x11,x12,x13,x14,x15,x16,x17,x18,x19,x20,x21,x22,x23,x24,x25,x26,x27,x28,x29,x30,x31,x32,x33,x34,x35,x36,x37,x38,x39,x40,x41,x42,x43,x44,x45,x46,x47,x48,dem x5,v1,dem x7,v3,v4,dem x0,dem x1,v7,v8,x58,x59,x60,x61,x62,x63,x64,x65,x66,x67,x68,x69,x70,x71,x72,x73,x74,x75,x76,x77,x78,x79,x80,x81,x82,x83,x84,x85], S5)) ()) ()) ()) ()) ()) ()) ()) ()) ()) ()) := by
  rw [vcodeV_drawn neaptidelaw06_TxApart.d7 neaptidelaw06_TxApart.ff7 neaptidelaw06_TxApart.k7 neaptidelaw06_TxApart.g7]
  refine congrArg regV ?_
  refine tPC Try.f7 7 0 (v := x5) ?_
  refine tDC Try.f7 7 1 (fun v1 S1 => ?_)
  refine tPC Try.f7 7 2 (v := x7) ?_
  refine tDC Try.f7 7 3 (fun v3 S2 => ?_)
  refine tDC Try.f7 7 4 (fun v4 S3 => ?_)
  refine tP Try.f7 7 5 (v := x0) ?_
  refine tP Try.f7 7 6 (v := x1) ?_
  refine tD Try.f7 7 7 (fun v7 S4 => ?_)
  refine tD Try.f7 7 8 (fun v8 S5 => ?_)
  kernel_rfl
theorem neaptidelaw06_TxApart.r8  : vOps Try.prog ⟨false, false, false⟩ (vlim Try.prog O) (reg Try.f7 8) (reg Try.f7 8).toList ([x0,x1,x2,x3,x4,x5,x6,x7,x8,x9,x10,x11,x12,x13,x14,x15,x16,x17,x18,x19,x20,x21,x22,x23,x24,x25,x26,x27,x28,x29,x30,x31,x32,x33,x34,x35,x36,x37,x38,x39,x40,x41,x42,x43,x44,x45,x46,x47,x48,x49,x50,x51,x52,x53,x54,x55,x56,x57,x58,x59,x60,x61,x62,x63,x64,x65,x66,x67,x68,x69,x70,x71,x72,x73,x74,x75,x76,x77,x78,x79,x80,x81,x82,x83,x84,x85]) S =
    ( some ([x0,x1,x2,x3,Value.bool false,x5,x6,x7,x8,x9,x10,x11,x12,x13,x14,x15,x16,x17,x18,x19,x20,x21,x22,x23,x24,x25,x26,x27,x28,x29,x30,x31,x32,x33,x34,x35,x36,x37,x38,x39,x40,x41,x42,x43,x44,x45,x46,x47,x48,x49,x50,x51,x52,x53,x54,x55,x56,x57,x58,x59,x60,x61,x62,x63,x64,x65,x66,x67,x68,x69,x70,x71,x72,x73,x74,x75,x76,x77,x78,x79,x80,x81,x82,x83,x84,x85], S)) := by
  refine sP Try.f7 8 0 (v := (Value.bool false)) ?_
  kernel_rfl
theorem neaptidelaw06_TxApart.r9  : vOps Try.prog ⟨false, false, false⟩ (vlim Try.prog O) (reg Try.f7 9) (reg Try.f7 9).toList ([x0,x1,x2,x3,x4,x5,x6,x7,x8,x9,x10,x11,x12,x13,x14,x15,x16,x17,x18,x19,x20,x21,x22,x23,x24,x25,x26,x27,x28,x29,x30,x31,x32,x33,x34,x35,x36,x37,x38,x39,x40,x41,x42,x43,x44,x45,x46,x47,x48,x49,x50,x51,x52,x53,x54,x55,x56,x57,x58,x59,x60,x61,x62,x63,x64,x65,x66,x67,x68,x69,x70,x71,x72,x73,x74,x75,x76,x77,x78,x79,x80,x81,x82,x83,x84,x85]) S =
    (andK (vLen Try.prog 34 (dem x0) S) (fun v1 S1 => some ([x0,x1,x2,x3,x4,x5,x6,x7,x8,x9,x10,x11,x12,x13,x14,x15,x16,x17,x18,x19,x20,x21,x22,x23,x24,x25,x26,x27,x28,x29,x30,x31,x32,x33,x34,x35,x36,x37,x38,x39,x40,x41,x42,x43,x44,x45,x46,x47,x48,x49,x50,x51,x52,x53,x54,x55,x56,x57,dem x0,v1,Value.int IntKind.i64 0,x61,x62,x63,x64,x65,x66,x67,x68,x69,x70,x71,x72,x73,x74,x75,x76,x77,x78,x79,x80,x81,x82,x83,x84,x85], S1)) ()) := by
  refine sP Try.f7 9 0 (v := x0) ?_
  refine sD Try.f7 9 1 (fun v1 S1 => ?_)
  refine sP Try.f7 9 2 (v := (Value.int IntKind.i64 0)) ?_
  kernel_rfl
theorem neaptidelaw06_TxApart.r10  : vOps Try.prog ⟨false, false, false⟩ (vlim Try.prog O) (reg Try.f7 10) (reg Try.f7 10).toList ([x0,x1,x2,x3,x4,x5,x6,x7,x8,x9,x10,x11,x12,x13,x14,x15,x16,x17,x18,x19,x20,x21,x22,x23,x24,x25,x26,x27,x28,x29,x30,x31,x32,x33,x34,x35,x36,x37,x38,x39,x40,x41,x42,x43,x44,x45,x46,x47,x48,x49,x50,x51,x52,x53,x54,x55,x56,x57,x58,x59,x60,x61,x62,x63,x64,x65,x66,x67,x68,x69,x70,x71,x72,x73,x74,x75,x76,x77,x78,x79,x80,x81,x82,x83,x84,x85]) S =
    (andK (vBin Try.prog BinOp.lss 3 x60 x59 S) (fun v0 S1 => some ([x0,x1,x2,x3,x4,x5,x6,x7,x8,x9,x10,x11,x12,x13,x14,x15,x16,x17,x18,x19,x20,x21,x22,x23,x24,x25,x26,x27,x28,x29,x30,x31,x32,x33,x34,x35,x36,x37,x38,x39,x40,x41,x42,x43,x44,x45,x46,x47,x48,x49,x50,x51,x52,x53,x54,x55,x56,x57,x58,x59,x60,v0,x62,x63,x64,x65,x66,x67,x68,x69,x70,x71,x72,x73,x74,x75,x76,x77,x78,x79,x80,x81,x82,x83,x84,x85], S1)) ()) := by
  refine sD Try.f7 10 0 (fun v0 S1 => ?_)
  kernel_rfl
theorem neaptidelaw06_TxApart.r11  : vOps Try.prog ⟨false, false, false⟩ (vlim Try.prog O) (reg Try.f7 11) (reg Try.f7 11).toList ([x0,x1,x2,x3,x4,x5,x6,x7,x8,x9,x10,x11,x12,x13,x14,x15,x16,x17,x18,x19,x20,x21,x22,x23,x24,x25,x26,x27,x28,x29,x30,x31,x32,x33,x34,x35,x36,x37,x38,x39,x40,x41,x42,x43,x44,x45,x46,x47,x48,x49,x50,x51,x52,x53,x54,x55,x56,x57,x58,x59,x60,x61,x62,x63,x64,x65,x66,x67,x68,x69,x70,x71,x72,x73,x74,x75,x76,x77,x78,x79,x80,x81,x82,x83,x84,x85]) S =
    (andK (vIndexAddr Try.prog 34 x58 x60 S) (fun v0 S1 => andK (vLoad Try.prog false 23 v0 S1) (fun v1 S2 => andK (aAlloc Try.prog 23 S2) (fun v2 S3 => andK (vStore Try.prog 23 v2 (dem v1) S3) (fun v3 S4 => some ([x0,x1,x2,x3,x4,x5,x6,x7,x8,x9,v2,x11,x12,x13,x14,x15,x16,x17,x18,x19,x20,x21,x22,x23,x24,x25,x26,x27,x28,x29,x30,x31,x32,x33,x34,x35,x36,x37,x38,x39,x40,x41,x42,x43,x44,x45,x46,x47,x48,x49,x50,x51,x52,x53,x54,x55,x56,x57,x58,x59,x60,x61,v0,v1,x64,x65,x66,x67,x68,x69,x70,x71,x72,x73,x74,x75,x76,x77,x78,x79,x80,x81,x82,x83,x84,x85], S4)) ()) ()) ()) ()) := by
  refine sD Try.f7 11 0 (fun v0 S1 => ?_)
  refine sD Try.f7 11 1 (fun v1 S2 => ?_)
  refine sD Try.f7 11 2 (fun v2 S3 => ?_)
  refine sD Try.f7 11 3 (fun v3 S4 => ?_)
  kernel_rfl
theorem neaptidelaw06_TxApart.r12  : vOps Try.prog ⟨false, false, false⟩ (vlim Try.prog O) (reg Try.f7 12) (reg Try.f7 12).toList ([x0,x1,x2,x3,x4,x5,x6,x7,x8,x9,x10,x11,x12,x13,x14,x15,x16,x17,x18,x19,x20,x21,x22,x23,x24,x25,x26,x27,x28,x29,x30,x31,x32,x33,x34,x35,x36,x37,x38,x39,x40,x41,x42,x43,x44,x45,x46,x47,x48,x49,x50,x51,x52,x53,x54,x55,x56,x57,x58,x59,x60,x61,x62,x63,x64,x65,x66,x67,x68,x69,x70,x71,x72,x73,x74,x75,x76,x77,x78,x79,x80,x81,x82,x83,x84,x85]) S =
    (andK (vLoad Try.prog false 23 x10 S) (fun v0 S1 => andK ((vlim Try.prog O) 10 [(dem v0)] S1) (fun v1 S2 => andK (aExtract v1 0 S2) (fun v3 S3 => andK (aExtract (demPart 0 v1) 1 S3) (fun v4 S4 => some ([x0,x1,x2,x3,x4,x5,x6,x7,x8,x9,x10,v3,v4,x13,x14,x15,x16,x17,x18,x19,x20,x21,x22,x23,x24,x25,x26,x27,x28,x29,x30,x31,x32,x33,x34,x35,x36,x37,x38,x39,x40,x41,x42,x43,x44,x45,x46,x47,x48,x49,x50,x51,x52,x53,x54,x55,x56,x57,x58,x59,x60,x61,x62,x63,demPart 1 (demPart 0 v1),v0,dem v1,dem v3,dem v4,x69,x70,x71,x72,x73,x74,x75,x76,x77,x78,x79,x80,x81,x82,x83,x84,x85], S4)) ()) ()) ()) ()) := by
  refine sD Try.f7 12 0 (fun v0 S1 => ?_)
  refine sD Try.f7 12 1 (fun v1 S2 => ?_)
  refine sP Try.f7 12 2 (v := v1) ?_
  refine sD Try.f7 12 3 (fun v3 S3 => ?_)
  refine sD Try.f7 12 4 (fun v4 S4 => ?_)
  refine sP Try.f7 12 5 (v := v3) ?_
  refine sP Try.f7 12 6 (v := v4) ?_
  kernel_rfl
theorem neaptidelaw06_TxApart.r13  : vOps Try.prog ⟨false, false, false⟩ (vlim Try.prog O) (reg Try.f7 13) (reg Try.f7 13).toList ([x0,x1,x2,x3,x4,x5,x6,x7,x8,x9,x10,x11,x12,x13,x14,x15,x16,x17,x18,x19,x20,x21,x22,x23,x24,x25,x26,x27,x28,x29,x30,x31,x32,x33,x34,x35,x36,x37,x38,x39,x40,x41,x42,x43,x44,x45,x46,x47,x48,x49,x50,x51,x52,x53,x54,x55,x56,x57,x58,x59,x60,x61,x62,x63,x64,x65,x66,x67,x68,x69,x70,x71,x72,x73,x74,x75,x76,x77,x78,x79,x80,x81,x82,x83,x84,x85]) S =
    (andK ((vlim Try.prog O) 19 [(dem (dem x11))] S) (fun v1 S1 => andK (aExtract v1 0 S1) (fun v3 S2 => andK (aExtract (demPart 0 v1) 1 S2) (fun v4 S3 => andK (aAlloc Try.prog 23 S3) (fun v5 S4 => andK (vStore Try.prog 23 v5 (dem v3) S4) (fun v6 S5 => some ([x0,x1,x2,x3,x4,x5,x6,x7,x8,x9,x10,x11,x12,v5,v4,x15,x16,x17,x18,x19,x20,x21,x22,x23,x24,x25,x26,x27,x28,x29,x30,x31,x32,x33,x34,x35,x36,x37,x38,x39,x40,x41,x42,x43,x44,x45,x46,x47,x48,x49,x50,x51,x52,x53,x54,x55,x56,x57,x58,x59,x60,x61,x62,x63,x64,x65,x66,x67,x68,demPart 1 (demPart 0 v1),dem x11,dem v1,v3,dem v4,x74,x75,x76,x77,x78,x79,x80,x81,x82,x83,x84,x85], S5)) ()) ()) ()) ()) ()) := by
  refine sP Try.f7 13 0 (v := x11) ?_
  refine sD Try.f7 13 1 (fun v1 S1 => ?_)
  refine sP Try.f7 13 2 (v := v1) ?_
  refine sD Try.f7 13 3 (fun v3 S2 => ?_)
  refine sD Try.f7 13 4 (fun v4 S3 => ?_)
  refine sD Try.f7 13 5 (fun v5 S4 => ?_)
  refine sD Try.f7 13 6 (fun v6 S5 => ?_)
  refine sP Try.f7 13 7 (v := v4) ?_
  kernel_rfl
theorem neaptidelaw06_TxApart.r14  : vOps Try.prog ⟨false, false, false⟩ (vlim Try.prog O) (reg Try.f7 14) (reg Try.f7 14).toList ([x0,x1,x2,x3,x4,x5,x6,x7,x8,x9,x10,x11,x12,x13,x14,x15,x16,x17,x18,x19,x20,x21,x22,x23,x24,x25,x26,x27,x28,x29,x30,x31,x32,x33,x34,x35,x36,x37,x38,x39,x40,x41,x42,x43,x44,x45,x46,x47,x48,x49,x50,x51,x52,x53,x54,x55,x56,x57,x58,x59,x60,x61,x62,x63,x64,x65,x66,x67,x68,x69,x70,x71,x72,x73,x74,x75,x76,x77,x78,x79,x80,x81,x82,x83,x84,x85]) S =
    (andK (vBin Try.prog BinOp.neq 25 (dem x12) (Value.int IntKind.i64 0) S) (fun v1 S1 => gdK (dem v1) false (ret x14) S1 (fun v3 S2 => gdK (dem v1) false (vBin Try.prog BinOp.neq 25 (dem v3) (Value.int IntKind.i64 0)) S2 (fun v4 S3 => andK (vPick (dem v1) (Value.bool true) v4 S3) (fun v5 S4 => gdK (dem v5) false (vLoad Try.prog false 23 x13) S4 (fun v7 S5 => gdK (dem v5) false (vLoad Try.prog false 23 x10) S5 (fun v8 S6 => gdK (dem v5) false (vBin Try.prog BinOp.neq 23 v7 v8) S6 (fun v9 S7 => andK (vPick (dem v5) (Value.bool true) v9 S7) (fun v10 S8 => some ([x0,x1,x2,x3,x4,x5,x6,x7,x8,x9,x10,x11,x12,x13,x14,x15,x16,x17,x18,x19,x20,x21,x22,x23,x24,x25,x26,x27,x28,x29,x30,x31,x32,x33,x34,x35,x36,x37,x38,x39,x40,x41,x42,x43,x44,x45,x46,x47,x48,x49,x50,x51,x52,x53,x54,x55,x56,x57,x58,x59,x60,x61,x62,x63,x64,x65,x66,x67,x68,x69,x70,x71,x72,x73,dem x12,v1,dem v1,dem v3,v4,v5,dem v5,v7,v8,v9,v10,x85], S8)) ()) ()) ()) ()) ()) ()) ()) ()) := by
  refine sP Try.f7 14 0 (v := x12) ?_
  refine sD Try.f7 14 1 (fun v1 S1 => ?_)
  refine sP Try.f7 14 2 (v := v1) ?_
  refine sG Try.f7 14 3 (j := 2) (fun v3 S2 => ?_)
  refine sG Try.f7 14 4 (j := 2) (fun v4 S3 => ?_)
  refine sD Try.f7 14 5 (fun v5 S4 => ?_)
  refine sP Try.f7 14 6 (v := v5) ?_
  refine sG Try.f7 14 7 (j := 6) (fun v7 S5 => ?_)
  refine sG Try.f7 14 8 (j := 6) (fun v8 S6 => ?_)
  refine sG Try.f7 14 9 (j := 6) (fun v9 S7 => ?_)
  refine sD Try.f7 14 10 (fun v10 S8 => ?_)
  kernel_rfl
theorem neaptidelaw06_TxApart.r15  : vOps Try.prog ⟨false, false, false⟩ (vlim Try.prog O) (reg Try.f7 15) (reg Try.f7 15).toList ([x0,x1,x2,x3,x4,x5,x6,x7,x8,x9,x10,x11,x12,x13,x14,x15,x16,x17,x18,x19,x20,x21,x22,x23,x24,x25,x26,x27,x28,x29,x30,x31,x32,x33,x34,x35,x36,x37,x38,x39,x40,x41,x42,x43,x44,x45,x46,x47,x48,x49,x50,x51,x52,x53,x54,x55,x56,x57,x58,x59,x60,x61,x62,x63,x64,x65,x66,x67,x68,x69,x70,x71,x72,x73,x74,x75,x76,x77,x78,x79,x80,x81,x82,x83,x84,x85]) S =
    ( some ([x0,x1,x2,x3,Value.bool false,x5,x6,x7,x8,x9,x10,x11,x12,x13,x14,x15,x16,x17,x18,x19,x20,x21,x22,x23,x24,x25,x26,x27,x28,x29,x30,x31,x32,x33,x34,x35,x36,x37,x38,x39,x40,x41,x42,x43,x44,x45,x46,x47,x48,x49,x50,x51,x52,x53,x54,x55,x56,x57,x58,x59,x60,x61,x62,x63,x64,x65,x66,x67,x68,x69,x70,x71,x72,x73,x74,x75,x76,x77,x78,x79,x80,x81,x82,x83,x84,x85], S)) := by
  refine sP Try.f7 15 0 (v := (Value.bool false)) ?_
  kernel_rfl
theorem neaptidelaw06_TxApart.r16  : vOps Try.prog ⟨false, false, false⟩ (vlim Try.prog O) (reg Try.f7 16) (reg Try.f7 16).toList ([x0,x1,x2,x3,x4,x5,x6,x7,x8,x9,x10,x11,x12,x13,x14,x15,x16,x17,x18,x19,x20,x21,x22,x23,x24,x25,x26,x27,x28,x29,x30,x31,x32,x33,x34,x35,x36,x37,x38,x39,x40,x41,x42,x43,x44,x45,x46,x47,x48,x49,x50,x51,x52,x53,x54,x55,x56,x57,x58,x59,x60,x61,x62,x63,x64,x65,x66,x67,x68,x69,x70,x71,x72,x73,x74,x75,x76,x77,x78,x79,x80,x81,x82,x83,x84,x85]) S =
    (andK (vBin Try.prog BinOp.add 3 x60 (Value.int IntKind.i64 1) S) (fun v0 S1 => some ([x0,x1,x2,x3,x4,x5,x6,x7,x8,x9,x10,x11,x12,x13,x14,x15,x16,x17,x18,x19,x20,x21,x22,x23,x24,x25,x26,x27,x28,x29,x30,x31,x32,x33,x34,x35,x36,x37,x38,x39,x40,x41,x42,x43,x44,x45,x46,x47,x48,x49,x50,x51,x52,x53,x54,x55,x56,x57,x58,x59,dem v0,x61,x62,x63,x64,x65,x66,x67,x68,x69,x70,x71,x72,x73,x74,x75,x76,x77,x78,x79,x80,x81,x82,x83,x84,v0], S1)) ()) := by
  refine sD Try.f7 16 0 (fun v0 S1 => ?_)
  refine sP Try.f7 16 1 (v := v0) ?_
  kernel_rfl
theorem neaptidelaw06_TxApart.r17  : vOps Try.prog ⟨false, false, false⟩ (vlim Try.prog O) (reg Try.f7 17) (reg Try.f7 17).toList ([x0,x1,x2,x3,x4,x5,x6,x7,x8,x9,x10,x11,x12,x13,x14,x15,x16,x17,x18,x19,x20,x21,x22,x23,x24,x25,x26,x27,x28,x29,x30,x31,x32,x33,x34,x35,x36,x37,x38,x39,x40,x41,x42,x43,x44,x45,x46,x47,x48,x49,x50,x51,x52,x53,x54,x55,x56,x57,x58,x59,x60,x61,x62,x63,x64,x65,x66,x67,x68,x69,x70,x71,x72,x73,x74,x75,x76,x77,x78,x79,x80,x81,x82,x83,x84,x85]) S =
    ( some ([x0,x1,x2,x3,Value.bool true,x5,x6,x7,x8,x9,x10,x11,x12,x13,x14,x15,x16,x17,x18,x19,x20,x21,x22,x23,x24,x25,x26,x27,x28,x29,x30,x31,x32,x33,x34,x35,x36,x37,x38,x39,x40,x41,x42,x43,x44,x45,x46,x47,x48,x49,x50,x51,x52,x53,x54,x55,x56,x57,x58,x59,x60,x61,x62,x63,x64,x65,x66,x67,x68,x69,x70,x71,x72,x73,x74,x75,x76,x77,x78,x79,x80,x81,x82,x83,x84,x85], S)) := by
  refine sP Try.f7 17 0 (v := (Value.bool true)) ?_
  kernel_rfl
theorem neaptidelaw06_TxApart.rs : type_of% (And.intro @neaptidelaw06_TxApart.r0 (And.intro @neaptidelaw06_TxApart.r1 (And.intro @neaptidelaw06_TxApart.r2 (And.intro @neaptidelaw06_TxApart.r3 (And.intro @neaptidelaw06_TxApart.r4 (And.intro @neaptidelaw06_TxApart.r5 (And.intro @neaptidelaw06_TxApart.r6 (And.intro @neaptidelaw06_TxApart.r7 (And.intro @neaptidelaw06_TxApart.r8 (And.intro @neaptidelaw06_TxApart.r9 (And.intro @neaptidelaw06_TxApart.r10 (And.intro @neaptidelaw06_TxApart.r11 (And.intro @neaptidelaw06_TxApart.r12 (And.intro @neaptidelaw06_TxApart.r13 (And.intro @neaptidelaw06_TxApart.r14 (And.intro @neaptidelaw06_TxApart.r15 (And.intro @neaptidelaw06_TxApart.r16 (@neaptidelaw06_TxApart.r17)))))))))))))))))) := And.intro @neaptidelaw06_TxApart.r0 (And.intro @neaptidelaw06_TxApart.r1 (And.intro @neaptidelaw06_TxApart.r2 (And.intro @neaptidelaw06_TxApart.r3 (And.intro @neaptidelaw06_TxApart.r4 (And.intro @neaptidelaw06_TxApart.r5 (And.intro @neaptidelaw06_TxApart.r6 (And.intro @neaptidelaw06_TxApart.r7 (And.intro @neaptidelaw06_TxApart.r8 (And.intro @neaptidelaw06_TxApart.r9 (And.intro @neaptidelaw06_TxApart.r10 (And.intro @neaptidelaw06_TxApart.r11 (And.intro @neaptidelaw06_TxApart.r12 (And.intro @neaptidelaw06_TxApart.r13 (And.intro @neaptidelaw06_TxApart.r14 (And.intro @neaptidelaw06_TxApart.r15 (And.intro @neaptidelaw06_TxApart.r16 (@neaptidelaw06_TxApart.r17)))))))))))))))))
theorem neaptidelaw06_TxApart.runs {x0 x1 : Value} {S S1 : AHeap} {e : AEx} {T : List Value} (h : vcodeV Try.prog O false neaptidelaw06_TxApart.code ([x0,x1,undef,undef,undef,undef,undef,undef,undef,undef,undef,undef,undef,undef,undef,undef,undef,undef,undef,undef,undef,undef,undef,undef,undef,undef,undef,undef,undef,undef,undef,undef,undef,undef,undef,undef,undef,undef,undef,undef,undef,undef,undef,undef,undef,undef,undef,undef,undef,undef,undef,undef,undef,undef,undef,undef,undef,undef,undef,undef,undef,undef,undef,undef,undef,undef,undef,undef,undef,undef,undef,undef,undef,undef,undef,undef,undef,undef,undef,undef,undef,undef,undef,undef,undef,undef]) S = some (e, T, S1)) (he : e = .normal ∨ e = .ret) : vlim Try.prog O 7 [x0, x1] S = some (T.getD 4 undef, S1) :=
  vlim_code rfl rfl Try.func7 (by decide) neaptidelaw06_TxApart.body (by exact h) he (vRes_one (a := T.getD 4 undef) ((show vResVals Try.prog T S1 Try.f7.results.toList = vResVals Try.prog T S1 [(ResultVar.tmp 4)] from by kernel_rfl).trans (by simp only [vResVals])) (by kernel_rfl))
end Go.Proofs.Ytfnlcbgijkakiaa
