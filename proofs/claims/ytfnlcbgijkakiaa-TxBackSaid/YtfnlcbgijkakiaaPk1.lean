/-
Texts put together: F22 F23 F20 F28 F17 F18 F10 F11 F29 F19 F21 F13 F14 F15 F16 F27 F26 F34 VBase VWords VMem VT1 F31
-/
import Derived.Test.YtfnlcbgijkakiaaChecked
import Derived.Test.YtfnlcbgijkakiaaOra
import Derived.KernelRfl
import Derived.Test.YtfnlcbgijkakiaaTy
import Derived.Test.YtfnlcbgijkakiaaValB
set_option linter.unusedVariables false
set_option maxRecDepth 100000
set_option linter.unusedSimpArgs false
namespace Go.Proofs.Ytfnlcbgijkakiaa
open Go.Abs

/-- neaptide.tx.ReadList -/
abbrev tx_ReadList.id : FuncId := 22
noncomputable def tx_ReadList.loop1 : Code := (Code.seq (Code.region 6 (reg Try.f22 6) false) (Code.seq (Code.cond (Operand.tmp 35) Code.skip (Code.exit 0)) (Code.seq (Code.block 1 (Code.seq (Code.region 7 (reg Try.f22 7) false) (Code.seq (Code.seq (Code.region 8 (reg Try.f22 8) false) (Code.cond (Operand.tmp 43) (Code.seq (Code.region 9 (reg Try.f22 9) false) Code.ret) Code.skip)) (Code.seq (Code.region 10 (reg Try.f22 10) false) (Code.region 11 (reg Try.f22 11) false))))) (Code.region 12 (reg Try.f22 12) false))))
noncomputable def tx_ReadList.code : Code := (Code.seq (Code.region 0 (reg Try.f22 0) false) (Code.seq (Code.region 1 (reg Try.f22 1) false) (Code.seq (Code.seq (Code.region 2 (reg Try.f22 2) false) (Code.cond (Operand.tmp 30) (Code.seq (Code.region 3 (reg Try.f22 3) false) Code.ret) Code.skip)) (Code.seq (Code.region 4 (reg Try.f22 4) false) (Code.seq (Code.seq (Code.region 5 (reg Try.f22 5) false) (Code.block 0 (Code.loop tx_ReadList.loop1))) (Code.seq (Code.seq (Code.region 13 (reg Try.f22 13) false) (Code.cond (Operand.tmp 57) (Code.seq (Code.region 14 (reg Try.f22 14) false) Code.ret) Code.skip)) (Code.seq (Code.region 15 (reg Try.f22 15) false) Code.ret)))))))
theorem tx_ReadList.body : Try.f22.body = some tx_ReadList.code := by kernel_rfl
theorem tx_ReadList.eta {T : List Value} (h : T.length = 59) : T = [T.getD 0 undef,T.getD 1 undef,T.getD 2 undef,T.getD 3 undef,T.getD 4 undef,T.getD 5 undef,T.getD 6 undef,T.getD 7 undef,T.getD 8 undef,T.getD 9 undef,T.getD 10 undef,T.getD 11 undef,T.getD 12 undef,T.getD 13 undef,T.getD 14 undef,T.getD 15 undef,T.getD 16 undef,T.getD 17 undef,T.getD 18 undef,T.getD 19 undef,T.getD 20 undef,T.getD 21 undef,T.getD 22 undef,T.getD 23 undef,T.getD 24 undef,T.getD 25 undef,T.getD 26 undef,T.getD 27 undef,T.getD 28 undef,T.getD 29 undef,T.getD 30 undef,T.getD 31 undef,T.getD 32 undef,T.getD 33 undef,T.getD 34 undef,T.getD 35 undef,T.getD 36 undef,T.getD 37 undef,T.getD 38 undef,T.getD 39 undef,T.getD 40 undef,T.getD 41 undef,T.getD 42 undef,T.getD 43 undef,T.getD 44 undef,T.getD 45 undef,T.getD 46 undef,T.getD 47 undef,T.getD 48 undef,T.getD 49 undef,T.getD 50 undef,T.getD 51 undef,T.getD 52 undef,T.getD 53 undef,T.getD 54 undef,T.getD 55 undef,T.getD 56 undef,T.getD 57 undef,T.getD 58 undef] := (list_getD T 59 h).trans (by kernel_rfl)
theorem tx_ReadList.list {T : List Value} (h : T.length = 59) : ∃ x0 x1 x2 x3 x4 x5 x6 x7 x8 x9 x10 x11 x12 x13 x14 x15 x16 x17 x18 x19 x20 x21 x22 x23 x24 x25 x26 x27 x28 x29 x30 x31 x32 x33 x34 x35 x36 x37 x38 x39 x40 x41 x42 x43 x44 x45 x46 x47 x48 x49 x50 x51 x52 x53 x54 x55 x56 x57 x58, T = [x0,x1,x2,x3,x4,x5,x6,x7,x8,x9,x10,x11,x12,x13,x14,x15,x16,x17,x18,x19,x20,x21,x22,x23,x24,x25,x26,x27,x28,x29,x30,x31,x32,x33,x34,x35,x36,x37,x38,x39,x40,x41,x42,x43,x44,x45,x46,x47,x48,x49,x50,x51,x52,x53,x54,x55,x56,x57,x58] := ⟨_, _, _, _, _, _, _, _, _, _, _, _, _, _, _, _, _, _, _, _, _, _, _, _, _, _, _, _, _, _, _, _, _, _, _, _, _, _, _, _, _, _, _, _, _, _, _, _, _, _, _, _, _, _, _, _, _, _, _, tx_ReadList.eta h⟩
variable (x0 x1 x2 x3 x4 x5 x6 x7 x8 x9 x10 x11 x12 x13 x14 x15 x16 x17 x18 x19 x20 x21 x22 x23 x24 x25 x26 x27 x28 x29 x30 x31 x32 x33 x34 x35 x36 x37 x38 x39 x40 x41 x42 x43 x44 x45 x46 x47 x48 x49 x50 x51 x52 x53 x54 x55 x56 x57 x58 : Value) (S : AHeap)
theorem tx_ReadList.r0  : vOps Try.prog ⟨false, false, false⟩ (vlim Try.prog O) (reg Try.f22 0) (reg Try.f22 0).toList ([x0,x1,x2,x3,x4,x5,x6,x7,x8,x9,x10,x11,x12,x13,x14,x15,x16,x17,x18,x19,x20,x21,x22,x23,x24,x25,x26,x27,x28,x29,x30,x31,x32,x33,x34,x35,x36,x37,x38,x39,x40,x41,x42,x43,x44,x45,x46,x47,x48,x49,x50,x51,x52,x53,x54,x55,x56,x57,x58]) S =
    ( some ([x0,x1,Value.slice none 0 0,Value.int IntKind.i64 0,x4,x5,x6,x7,x8,x9,x10,x11,x12,x13,x14,x15,x16,x17,x18,x19,x20,x21,x22,x23,x24,x25,x26,x27,x28,x29,x30,x31,x32,x33,x34,x35,x36,x37,x38,x39,x40,x41,x42,x43,x44,x45,x46,x47,x48,x49,x50,x51,x52,x53,x54,x55,x56,x57,x58], S)) := by
  refine sP Try.f22 0 0 (v := (Value.slice none 0 0)) ?_
  refine sP Try.f22 0 1 (v := (Value.int IntKind.i64 0)) ?_
  kernel_rfl
theorem tx_ReadList.r1  : vOps Try.prog ⟨false, false, false⟩ (vlim Try.prog O) (reg Try.f22 1) (reg Try.f22 1).toList ([x0,x1,x2,x3,x4,x5,x6,x7,x8,x9,x10,x11,x12,x13,x14,x15,x16,x17,x18,x19,x20,x21,x22,x23,x24,x25,x26,x27,x28,x29,x30,x31,x32,x33,x34,x35,x36,x37,x38,x39,x40,x41,x42,x43,x44,x45,x46,x47,x48,x49,x50,x51,x52,x53,x54,x55,x56,x57,x58]) S =
    (andK ((vlim Try.prog O) 31 [(dem (dem x0)), (Value.int IntKind.i64 1)] S) (fun v1 S1 => andK (aExtract v1 0 S1) (fun v3 S2 => andK (aExtract (demPart 0 v1) 1 S2) (fun v4 S3 => andK (aExtract (demPart 1 (demPart 0 v1)) 2 S3) (fun v5 S4 => some ([x0,x1,x2,x3,v3,v4,v5,x7,x8,x9,x10,demPart 2 (demPart 1 (demPart 0 v1)),dem x0,dem v1,dem v3,dem v4,dem v5,x17,x18,x19,x20,x21,x22,x23,x24,x25,x26,x27,x28,x29,x30,x31,x32,x33,x34,x35,x36,x37,x38,x39,x40,x41,x42,x43,x44,x45,x46,x47,x48,x49,x50,x51,x52,x53,x54,x55,x56,x57,x58], S4)) ()) ()) ()) ()) := by
  refine sP Try.f22 1 0 (v := x0) ?_
  refine sD Try.f22 1 1 (fun v1 S1 => ?_)
  refine sP Try.f22 1 2 (v := v1) ?_
  refine sD Try.f22 1 3 (fun v3 S2 => ?_)
  refine sD Try.f22 1 4 (fun v4 S3 => ?_)
  refine sD Try.f22 1 5 (fun v5 S4 => ?_)
  refine sP Try.f22 1 6 (v := v3) ?_
  refine sP Try.f22 1 7 (v := v4) ?_
  refine sP Try.f22 1 8 (v := v5) ?_
  kernel_rfl
theorem tx_ReadList.r2  : vOps Try.prog ⟨false, false, false⟩ (vlim Try.prog O) (reg Try.f22 2) (reg Try.f22 2).toList ([x0,x1,x2,x3,x4,x5,x6,x7,x8,x9,x10,x11,x12,x13,x14,x15,x16,x17,x18,x19,x20,x21,x22,x23,x24,x25,x26,x27,x28,x29,x30,x31,x32,x33,x34,x35,x36,x37,x38,x39,x40,x41,x42,x43,x44,x45,x46,x47,x48,x49,x50,x51,x52,x53,x54,x55,x56,x57,x58]) S =
    (andK (vBin Try.prog BinOp.neq 25 (dem x6) (Value.int IntKind.i64 0) S) (fun v1 S1 => gdK (dem v1) false (ret x4) S1 (fun v3 S2 => gdK (dem v1) false (vIndexAddr Try.prog 51 (dem v3) (Value.int IntKind.i64 0)) S2 (fun v4 S3 => gdK (dem v1) false (vLoad Try.prog false 3 v4) S3 (fun v5 S4 => gdK (dem v1) false (vBin Try.prog BinOp.lss 3 v5 (Value.int IntKind.i64 0)) S4 (fun v6 S5 => andK (vPick (dem v1) (Value.bool true) v6 S5) (fun v7 S6 => gdK (dem v7) false (ret x4) S6 (fun v9 S7 => gdK (dem v7) false (vIndexAddr Try.prog 51 (dem v9) (Value.int IntKind.i64 0)) S7 (fun v10 S8 => gdK (dem v7) false (vLoad Try.prog false 3 v10) S8 (fun v11 S9 => gdK (dem v7) false (vBin Try.prog BinOp.gtr 3 v11 (Value.int IntKind.i64 3)) S9 (fun v12 S10 => andK (vPick (dem v7) (Value.bool true) v12 S10) (fun v13 S11 => some ([x0,x1,x2,x3,x4,x5,x6,x7,x8,x9,x10,x11,x12,x13,x14,x15,x16,dem x6,v1,dem v1,dem v3,v4,v5,v6,v7,dem v7,dem v9,v10,v11,v12,v13,x31,x32,x33,x34,x35,x36,x37,x38,x39,x40,x41,x42,x43,x44,x45,x46,x47,x48,x49,x50,x51,x52,x53,x54,x55,x56,x57,x58], S11)) ()) ()) ()) ()) ()) ()) ()) ()) ()) ()) ()) := by
  refine sP Try.f22 2 0 (v := x6) ?_
  refine sD Try.f22 2 1 (fun v1 S1 => ?_)
  refine sP Try.f22 2 2 (v := v1) ?_
  refine sG Try.f22 2 3 (j := 2) (fun v3 S2 => ?_)
  refine sG Try.f22 2 4 (j := 2) (fun v4 S3 => ?_)
  refine sG Try.f22 2 5 (j := 2) (fun v5 S4 => ?_)
  refine sG Try.f22 2 6 (j := 2) (fun v6 S5 => ?_)
  refine sD Try.f22 2 7 (fun v7 S6 => ?_)
  refine sP Try.f22 2 8 (v := v7) ?_
  refine sG Try.f22 2 9 (j := 8) (fun v9 S7 => ?_)
  refine sG Try.f22 2 10 (j := 8) (fun v10 S8 => ?_)
  refine sG Try.f22 2 11 (j := 8) (fun v11 S9 => ?_)
  refine sG Try.f22 2 12 (j := 8) (fun v12 S10 => ?_)
  refine sD Try.f22 2 13 (fun v13 S11 => ?_)
  kernel_rfl
theorem tx_ReadList.r3  : vOps Try.prog ⟨false, false, false⟩ (vlim Try.prog O) (reg Try.f22 3) (reg Try.f22 3).toList ([x0,x1,x2,x3,x4,x5,x6,x7,x8,x9,x10,x11,x12,x13,x14,x15,x16,x17,x18,x19,x20,x21,x22,x23,x24,x25,x26,x27,x28,x29,x30,x31,x32,x33,x34,x35,x36,x37,x38,x39,x40,x41,x42,x43,x44,x45,x46,x47,x48,x49,x50,x51,x52,x53,x54,x55,x56,x57,x58]) S =
    ( some ([x0,x1,Value.slice none 0 0,Value.int IntKind.i64 61,x4,x5,x6,x7,x8,x9,x10,x11,x12,x13,x14,x15,x16,x17,x18,x19,x20,x21,x22,x23,x24,x25,x26,x27,x28,x29,x30,x31,x32,x33,x34,x35,x36,x37,x38,x39,x40,x41,x42,x43,x44,x45,x46,x47,x48,x49,x50,x51,x52,x53,x54,x55,x56,x57,x58], S)) := by
  refine sP Try.f22 3 0 (v := (Value.slice none 0 0)) ?_
  refine sP Try.f22 3 1 (v := (Value.int IntKind.i64 61)) ?_
  kernel_rfl
theorem tx_ReadList.r4  : vOps Try.prog ⟨false, false, false⟩ (vlim Try.prog O) (reg Try.f22 4) (reg Try.f22 4).toList ([x0,x1,x2,x3,x4,x5,x6,x7,x8,x9,x10,x11,x12,x13,x14,x15,x16,x17,x18,x19,x20,x21,x22,x23,x24,x25,x26,x27,x28,x29,x30,x31,x32,x33,x34,x35,x36,x37,x38,x39,x40,x41,x42,x43,x44,x45,x46,x47,x48,x49,x50,x51,x52,x53,x54,x55,x56,x57,x58]) S =
    ( some ([x0,x1,x2,x3,x4,x5,x6,Value.slice none 0 0,x8,x9,x10,x11,x12,x13,x14,x15,x16,x17,x18,x19,x20,x21,x22,x23,x24,x25,x26,x27,x28,x29,x30,x31,x32,x33,x34,x35,x36,x37,x38,x39,x40,x41,x42,x43,x44,x45,x46,x47,x48,x49,x50,x51,x52,x53,x54,x55,x56,x57,x58], S)) := by
  refine sP Try.f22 4 0 (v := (Value.slice none 0 0)) ?_
  kernel_rfl
theorem tx_ReadList.r5  : vOps Try.prog ⟨false, false, false⟩ (vlim Try.prog O) (reg Try.f22 5) (reg Try.f22 5).toList ([x0,x1,x2,x3,x4,x5,x6,x7,x8,x9,x10,x11,x12,x13,x14,x15,x16,x17,x18,x19,x20,x21,x22,x23,x24,x25,x26,x27,x28,x29,x30,x31,x32,x33,x34,x35,x36,x37,x38,x39,x40,x41,x42,x43,x44,x45,x46,x47,x48,x49,x50,x51,x52,x53,x54,x55,x56,x57,x58]) S =
    (andK (vIndexAddr Try.prog 51 (dem x4) (Value.int IntKind.i64 0) S) (fun v1 S1 => andK (vLoad Try.prog false 3 v1 S1) (fun v2 S2 => some ([x0,x1,x2,x3,x4,x5,x6,x7,x8,x9,x10,x11,x12,x13,x14,x15,x16,x17,x18,x19,x20,x21,x22,x23,x24,x25,x26,x27,x28,x29,x30,dem x4,v1,v2,Value.int IntKind.i64 0,x35,x36,x37,x38,x39,x40,x41,x42,x43,x44,x45,x46,x47,x48,x49,x50,x51,x52,x53,x54,x55,x56,x57,x58], S2)) ()) ()) := by
  refine sP Try.f22 5 0 (v := x4) ?_
  refine sD Try.f22 5 1 (fun v1 S1 => ?_)
  refine sD Try.f22 5 2 (fun v2 S2 => ?_)
  refine sP Try.f22 5 3 (v := (Value.int IntKind.i64 0)) ?_
  kernel_rfl
theorem tx_ReadList.r6  : vOps Try.prog ⟨false, false, false⟩ (vlim Try.prog O) (reg Try.f22 6) (reg Try.f22 6).toList ([x0,x1,x2,x3,x4,x5,x6,x7,x8,x9,x10,x11,x12,x13,x14,x15,x16,x17,x18,x19,x20,x21,x22,x23,x24,x25,x26,x27,x28,x29,x30,x31,x32,x33,x34,x35,x36,x37,x38,x39,x40,x41,x42,x43,x44,x45,x46,x47,x48,x49,x50,x51,x52,x53,x54,x55,x56,x57,x58]) S =
    (andK (vBin Try.prog BinOp.lss 3 x34 x33 S) (fun v0 S1 => some ([x0,x1,x2,x3,x4,x5,x6,x7,x8,x9,x10,x11,x12,x13,x14,x15,x16,x17,x18,x19,x20,x21,x22,x23,x24,x25,x26,x27,x28,x29,x30,x31,x32,x33,x34,v0,x36,x37,x38,x39,x40,x41,x42,x43,x44,x45,x46,x47,x48,x49,x50,x51,x52,x53,x54,x55,x56,x57,x58], S1)) ()) := by
  refine sD Try.f22 6 0 (fun v0 S1 => ?_)
  kernel_rfl
theorem tx_ReadList.r7  : vOps Try.prog ⟨false, false, false⟩ (vlim Try.prog O) (reg Try.f22 7) (reg Try.f22 7).toList ([x0,x1,x2,x3,x4,x5,x6,x7,x8,x9,x10,x11,x12,x13,x14,x15,x16,x17,x18,x19,x20,x21,x22,x23,x24,x25,x26,x27,x28,x29,x30,x31,x32,x33,x34,x35,x36,x37,x38,x39,x40,x41,x42,x43,x44,x45,x46,x47,x48,x49,x50,x51,x52,x53,x54,x55,x56,x57,x58]) S =
    (andK ((vlim Try.prog O) 29 [(dem (dem x5))] S) (fun v1 S1 => andK (aExtract v1 0 S1) (fun v3 S2 => andK (aExtract (demPart 0 v1) 1 S2) (fun v4 S3 => andK (aExtract (demPart 1 (demPart 0 v1)) 2 S3) (fun v5 S4 => andK (aAlloc Try.prog 23 S4) (fun v6 S5 => andK (vStore Try.prog 23 v6 (dem v3) S5) (fun v7 S6 => some ([x0,x1,x2,x3,x4,x5,x6,x7,v6,v4,v5,x11,x12,x13,x14,x15,x16,x17,x18,x19,x20,x21,x22,x23,x24,x25,x26,x27,x28,x29,x30,x31,x32,x33,x34,x35,demPart 2 (demPart 1 (demPart 0 v1)),dem x5,dem v1,v3,dem v4,dem v5,x42,x43,x44,x45,x46,x47,x48,x49,x50,x51,x52,x53,x54,x55,x56,x57,x58], S6)) ()) ()) ()) ()) ()) ()) := by
  refine sP Try.f22 7 0 (v := x5) ?_
  refine sD Try.f22 7 1 (fun v1 S1 => ?_)
  refine sP Try.f22 7 2 (v := v1) ?_
  refine sD Try.f22 7 3 (fun v3 S2 => ?_)
  refine sD Try.f22 7 4 (fun v4 S3 => ?_)
  refine sD Try.f22 7 5 (fun v5 S4 => ?_)
  refine sD Try.f22 7 6 (fun v6 S5 => ?_)
  refine sD Try.f22 7 7 (fun v7 S6 => ?_)
  refine sP Try.f22 7 8 (v := v4) ?_
  refine sP Try.f22 7 9 (v := v5) ?_
  kernel_rfl
theorem tx_ReadList.r8  : vOps Try.prog ⟨false, false, false⟩ (vlim Try.prog O) (reg Try.f22 8) (reg Try.f22 8).toList ([x0,x1,x2,x3,x4,x5,x6,x7,x8,x9,x10,x11,x12,x13,x14,x15,x16,x17,x18,x19,x20,x21,x22,x23,x24,x25,x26,x27,x28,x29,x30,x31,x32,x33,x34,x35,x36,x37,x38,x39,x40,x41,x42,x43,x44,x45,x46,x47,x48,x49,x50,x51,x52,x53,x54,x55,x56,x57,x58]) S =
    (andK (aUn Try.prog UnOp.not (dem x10) S) (fun v1 S1 => some ([x0,x1,x2,x3,x4,x5,x6,x7,x8,x9,x10,x11,x12,x13,x14,x15,x16,x17,x18,x19,x20,x21,x22,x23,x24,x25,x26,x27,x28,x29,x30,x31,x32,x33,x34,x35,x36,x37,x38,x39,x40,x41,dem x10,v1,x44,x45,x46,x47,x48,x49,x50,x51,x52,x53,x54,x55,x56,x57,x58], S1)) ()) := by
  refine sP Try.f22 8 0 (v := x10) ?_
  refine sD Try.f22 8 1 (fun v1 S1 => ?_)
  kernel_rfl
theorem tx_ReadList.r9  : vOps Try.prog ⟨false, false, false⟩ (vlim Try.prog O) (reg Try.f22 9) (reg Try.f22 9).toList ([x0,x1,x2,x3,x4,x5,x6,x7,x8,x9,x10,x11,x12,x13,x14,x15,x16,x17,x18,x19,x20,x21,x22,x23,x24,x25,x26,x27,x28,x29,x30,x31,x32,x33,x34,x35,x36,x37,x38,x39,x40,x41,x42,x43,x44,x45,x46,x47,x48,x49,x50,x51,x52,x53,x54,x55,x56,x57,x58]) S =
    ( some ([x0,x1,Value.slice none 0 0,Value.int IntKind.i64 61,x4,x5,x6,x7,x8,x9,x10,x11,x12,x13,x14,x15,x16,x17,x18,x19,x20,x21,x22,x23,x24,x25,x26,x27,x28,x29,x30,x31,x32,x33,x34,x35,x36,x37,x38,x39,x40,x41,x42,x43,x44,x45,x46,x47,x48,x49,x50,x51,x52,x53,x54,x55,x56,x57,x58], S)) := by
  refine sP Try.f22 9 0 (v := (Value.slice none 0 0)) ?_
  refine sP Try.f22 9 1 (v := (Value.int IntKind.i64 61)) ?_
  kernel_rfl
theorem tx_ReadList.r10  : vOps Try.prog ⟨false, false, false⟩ (vlim Try.prog O) (reg Try.f22 10) (reg Try.f22 10).toList ([x0,x1,x2,x3,x4,x5,x6,x7,x8,x9,x10,x11,x12,x13,x14,x15,x16,x17,x18,x19,x20,x21,x22,x23,x24,x25,x26,x27,x28,x29,x30,x31,x32,x33,x34,x35,x36,x37,x38,x39,x40,x41,x42,x43,x44,x45,x46,x47,x48,x49,x50,x51,x52,x53,x54,x55,x56,x57,x58]) S =
    (andK (vLoad Try.prog false 23 x8 S) (fun v1 S1 => andK (vBuildSlice Try.prog 34 1 [(0, v1)] S1) (fun v2 S2 => andK (vAppend Try.prog 34 34 x7 v2 S2) (fun v3 S3 => some ([x0,x1,x2,x3,x4,x5,x6,v3,x8,x9,x10,x11,x12,x13,x14,x15,x16,x17,x18,x19,x20,x21,x22,x23,x24,x25,x26,x27,x28,x29,x30,x31,x32,x33,x34,x35,x36,x37,x38,x39,x40,x41,x42,x43,dem x7,v1,v2,dem v3,x48,x49,x50,x51,x52,x53,x54,x55,x56,x57,x58], S3)) ()) ()) ()) := by
  refine sP Try.f22 10 0 (v := x7) ?_
  refine sD Try.f22 10 1 (fun v1 S1 => ?_)
  refine sD Try.f22 10 2 (fun v2 S2 => ?_)
  refine sD Try.f22 10 3 (fun v3 S3 => ?_)
  refine sP Try.f22 10 4 (v := v3) ?_
  kernel_rfl
theorem tx_ReadList.r11  : vOps Try.prog ⟨false, false, false⟩ (vlim Try.prog O) (reg Try.f22 11) (reg Try.f22 11).toList ([x0,x1,x2,x3,x4,x5,x6,x7,x8,x9,x10,x11,x12,x13,x14,x15,x16,x17,x18,x19,x20,x21,x22,x23,x24,x25,x26,x27,x28,x29,x30,x31,x32,x33,x34,x35,x36,x37,x38,x39,x40,x41,x42,x43,x44,x45,x46,x47,x48,x49,x50,x51,x52,x53,x54,x55,x56,x57,x58]) S =
    ( some ([x0,x1,x2,x3,x4,x9,x6,x7,x8,dem x9,x10,x11,x12,x13,x14,x15,x16,x17,x18,x19,x20,x21,x22,x23,x24,x25,x26,x27,x28,x29,x30,x31,x32,x33,x34,x35,x36,x37,x38,x39,x40,x41,x42,x43,x44,x45,x46,x47,dem x9,x49,x50,x51,x52,x53,x54,x55,x56,x57,x58], S)) := by
  refine sP Try.f22 11 0 (v := x9) ?_
  refine sP Try.f22 11 1 (v := x9) ?_
  kernel_rfl
theorem tx_ReadList.r12  : vOps Try.prog ⟨false, false, false⟩ (vlim Try.prog O) (reg Try.f22 12) (reg Try.f22 12).toList ([x0,x1,x2,x3,x4,x5,x6,x7,x8,x9,x10,x11,x12,x13,x14,x15,x16,x17,x18,x19,x20,x21,x22,x23,x24,x25,x26,x27,x28,x29,x30,x31,x32,x33,x34,x35,x36,x37,x38,x39,x40,x41,x42,x43,x44,x45,x46,x47,x48,x49,x50,x51,x52,x53,x54,x55,x56,x57,x58]) S =
    (andK (vBin Try.prog BinOp.add 3 x34 (Value.int IntKind.i64 1) S) (fun v0 S1 => some ([x0,x1,x2,x3,x4,x5,x6,x7,x8,x9,x10,x11,x12,x13,x14,x15,x16,x17,x18,x19,x20,x21,x22,x23,x24,x25,x26,x27,x28,x29,x30,x31,x32,x33,dem v0,x35,x36,x37,x38,x39,x40,x41,x42,x43,x44,x45,x46,x47,x48,v0,x50,x51,x52,x53,x54,x55,x56,x57,x58], S1)) ()) := by
  refine sD Try.f22 12 0 (fun v0 S1 => ?_)
  refine sP Try.f22 12 1 (v := v0) ?_
  kernel_rfl
theorem tx_ReadList.r13  : vOps Try.prog ⟨false, false, false⟩ (vlim Try.prog O) (reg Try.f22 13) (reg Try.f22 13).toList ([x0,x1,x2,x3,x4,x5,x6,x7,x8,x9,x10,x11,x12,x13,x14,x15,x16,x17,x18,x19,x20,x21,x22,x23,x24,x25,x26,x27,x28,x29,x30,x31,x32,x33,x34,x35,x36,x37,x38,x39,x40,x41,x42,x43,x44,x45,x46,x47,x48,x49,x50,x51,x52,x53,x54,x55,x56,x57,x58]) S =
    (andK (vLen Try.prog 24 (dem x5) S) (fun v1 S1 => andK (vBin Try.prog BinOp.gtr 3 v1 (Value.int IntKind.i64 0) S1) (fun v2 S2 => gdK (dem v2) false (ret x7) S2 (fun v4 S3 => gdK (dem v2) false ((vlim Try.prog O) 28 [(dem (dem v4))]) S3 (fun v5 S4 => gdK (dem v2) false (aUn Try.prog UnOp.not v5) S4 (fun v6 S5 => andK (vPick (dem v2) (Value.bool true) v6 S5) (fun v7 S6 => some ([x0,x1,x2,x3,x4,x5,x6,x7,x8,x9,x10,x11,x12,x13,x14,x15,x16,x17,x18,x19,x20,x21,x22,x23,x24,x25,x26,x27,x28,x29,x30,x31,x32,x33,x34,x35,x36,x37,x38,x39,x40,x41,x42,x43,x44,x45,x46,x47,x48,x49,dem x5,v1,v2,dem v2,dem v4,v5,v6,v7,x58], S6)) ()) ()) ()) ()) ()) ()) := by
  refine sP Try.f22 13 0 (v := x5) ?_
  refine sD Try.f22 13 1 (fun v1 S1 => ?_)
  refine sD Try.f22 13 2 (fun v2 S2 => ?_)
  refine sP Try.f22 13 3 (v := v2) ?_
  refine sG Try.f22 13 4 (j := 3) (fun v4 S3 => ?_)
  refine sG Try.f22 13 5 (j := 3) (fun v5 S4 => ?_)
  refine sG Try.f22 13 6 (j := 3) (fun v6 S5 => ?_)
  refine sD Try.f22 13 7 (fun v7 S6 => ?_)
  kernel_rfl
theorem tx_ReadList.r14  : vOps Try.prog ⟨false, false, false⟩ (vlim Try.prog O) (reg Try.f22 14) (reg Try.f22 14).toList ([x0,x1,x2,x3,x4,x5,x6,x7,x8,x9,x10,x11,x12,x13,x14,x15,x16,x17,x18,x19,x20,x21,x22,x23,x24,x25,x26,x27,x28,x29,x30,x31,x32,x33,x34,x35,x36,x37,x38,x39,x40,x41,x42,x43,x44,x45,x46,x47,x48,x49,x50,x51,x52,x53,x54,x55,x56,x57,x58]) S =
    ( some ([x0,x1,Value.slice none 0 0,Value.int IntKind.i64 61,x4,x5,x6,x7,x8,x9,x10,x11,x12,x13,x14,x15,x16,x17,x18,x19,x20,x21,x22,x23,x24,x25,x26,x27,x28,x29,x30,x31,x32,x33,x34,x35,x36,x37,x38,x39,x40,x41,x42,x43,x44,x45,x46,x47,x48,x49,x50,x51,x52,x53,x54,x55,x56,x57,x58], S)) := by
  refine sP Try.f22 14 0 (v := (Value.slice none 0 0)) ?_
  refine sP Try.f22 14 1 (v := (Value.int IntKind.i64 61)) ?_
  kernel_rfl
theorem tx_ReadList.r15  : vOps Try.prog ⟨false, false, false⟩ (vlim Try.prog O) (reg Try.f22 15) (reg Try.f22 15).toList ([x0,x1,x2,x3,x4,x5,x6,x7,x8,x9,x10,x11,x12,x13,x14,x15,x16,x17,x18,x19,x20,x21,x22,x23,x24,x25,x26,x27,x28,x29,x30,x31,x32,x33,x34,x35,x36,x37,x38,x39,x40,x41,x42,x43,x44,x45,x46,x47,x48,x49,x50,x51,x52,x53,x54,x55,x56,x57,x58]) S =
    ( some ([x0,x1,x7,Value.int IntKind.i64 0,x4,x5,x6,dem x7,x8,x9,x10,x11,x12,x13,x14,x15,x16,x17,x18,x19,x20,x21,x22,x23,x24,x25,x26,x27,x28,x29,x30,x31,x32,x33,x34,x35,x36,x37,x38,x39,x40,x41,x42,x43,x44,x45,x46,x47,x48,x49,x50,x51,x52,x53,x54,x55,x56,x57,dem x7], S)) := by
  refine sP Try.f22 15 0 (v := x7) ?_
  refine sP Try.f22 15 1 (v := x7) ?_
  refine sP Try.f22 15 2 (v := (Value.int IntKind.i64 0)) ?_
  kernel_rfl
theorem tx_ReadList.rs : type_of% (And.intro @tx_ReadList.r0 (And.intro @tx_ReadList.r1 (And.intro @tx_ReadList.r2 (And.intro @tx_ReadList.r3 (And.intro @tx_ReadList.r4 (And.intro @tx_ReadList.r5 (And.intro @tx_ReadList.r6 (And.intro @tx_ReadList.r7 (And.intro @tx_ReadList.r8 (And.intro @tx_ReadList.r9 (And.intro @tx_ReadList.r10 (And.intro @tx_ReadList.r11 (And.intro @tx_ReadList.r12 (And.intro @tx_ReadList.r13 (And.intro @tx_ReadList.r14 (@tx_ReadList.r15)))))))))))))))) := And.intro @tx_ReadList.r0 (And.intro @tx_ReadList.r1 (And.intro @tx_ReadList.r2 (And.intro @tx_ReadList.r3 (And.intro @tx_ReadList.r4 (And.intro @tx_ReadList.r5 (And.intro @tx_ReadList.r6 (And.intro @tx_ReadList.r7 (And.intro @tx_ReadList.r8 (And.intro @tx_ReadList.r9 (And.intro @tx_ReadList.r10 (And.intro @tx_ReadList.r11 (And.intro @tx_ReadList.r12 (And.intro @tx_ReadList.r13 (And.intro @tx_ReadList.r14 (@tx_ReadList.r15)))))))))))))))
theorem tx_ReadList.runs {x0 : Value} {S S1 : AHeap} {e : AEx} {T : List Value} (h : vcodeV Try.prog O false tx_ReadList.code ([x0,undef,undef,undef,undef,undef,undef,undef,undef,undef,undef,undef,undef,undef,undef,undef,undef,undef,undef,undef,undef,undef,undef,undef,undef,undef,undef,undef,undef,undef,undef,undef,undef,undef,undef,undef,undef,undef,undef,undef,undef,undef,undef,undef,undef,undef,undef,undef,undef,undef,undef,undef,undef,undef,undef,undef,undef,undef,undef]) AHeap.empty = some (e, T, S1)) (he : e = .normal ∨ e = .ret)  (h0 : notTuple (T.getD 2 undef) = true) (h1 : notTuple (T.getD 3 undef) = true) (hca : [x0].all (cleanN 16) = true) (hcv : cleanN 16 (Value.tuple #[T.getD 2 undef, T.getD 3 undef]) = true) : vlim Try.prog O 22 [x0] S = some (Value.tuple #[T.getD 2 undef, T.getD 3 undef], S) :=
  vlim_pure rfl rfl Try.func22 (by decide) tx_ReadList.body (by exact h) he ((vRes_many ((show vResVals Try.prog T S1 Try.f22.results.toList = vResVals Try.prog T S1 [(ResultVar.tmp 2), (ResultVar.tmp 3)] from by kernel_rfl).trans (by simp only [vResVals])) (by kernel_rfl) (by simp only [List.all_cons, List.all_nil, h0, h1, Bool.and_true])).trans rfl) hca hcv
end Go.Proofs.Ytfnlcbgijkakiaa

namespace Go.Proofs.Ytfnlcbgijkakiaa
open Go.Abs

/-- neaptide.neaptideref06.ReadList -/
abbrev neaptideref06_ReadList.id : FuncId := 23
noncomputable def neaptideref06_ReadList.loop1 : Code := (Code.seq (Code.seq (Code.region 8 (reg Try.f23 8) false) (Code.cond (Operand.tmp 35) Code.skip (Code.exit 2))) (Code.seq (Code.block 3 (Code.region 10 (reg Try.f23 10) true)) (Code.region 9 (reg Try.f23 9) false)))
noncomputable def neaptideref06_ReadList.loop2 : Code := (Code.seq (Code.seq (Code.region 2 (reg Try.f23 2) false) (Code.cond (Operand.tmp 13) Code.skip (Code.exit 0))) (Code.seq (Code.block 1 (Code.seq (Code.region 4 (reg Try.f23 4) false) (Code.seq (Code.seq (Code.region 5 (reg Try.f23 5) false) (Code.cond (Operand.tmp 31) (Code.exit 1) Code.skip)) (Code.seq (Code.region 6 (reg Try.f23 6) false) (Code.seq (Code.seq (Code.region 7 (reg Try.f23 7) false) (Code.block 2 (Code.loop neaptideref06_ReadList.loop1))) (Code.seq (Code.region 11 (reg Try.f23 11) false) (Code.seq (Code.region 12 (reg Try.f23 12) false) (Code.cond (Operand.tmp 67) (Code.seq (Code.region 13 (reg Try.f23 13) false) Code.ret) Code.skip)))))))) (Code.region 3 (reg Try.f23 3) false)))
noncomputable def neaptideref06_ReadList.code : Code := (Code.seq (Code.region 0 (reg Try.f23 0) false) (Code.seq (Code.seq (Code.region 1 (reg Try.f23 1) false) (Code.block 0 (Code.loop neaptideref06_ReadList.loop2))) (Code.seq (Code.region 14 (reg Try.f23 14) false) Code.ret)))
theorem neaptideref06_ReadList.body : Try.f23.body = some neaptideref06_ReadList.code := by kernel_rfl
theorem neaptideref06_ReadList.eta {T : List Value} (h : T.length = 69) : T = [T.getD 0 undef,T.getD 1 undef,T.getD 2 undef,T.getD 3 undef,T.getD 4 undef,T.getD 5 undef,T.getD 6 undef,T.getD 7 undef,T.getD 8 undef,T.getD 9 undef,T.getD 10 undef,T.getD 11 undef,T.getD 12 undef,T.getD 13 undef,T.getD 14 undef,T.getD 15 undef,T.getD 16 undef,T.getD 17 undef,T.getD 18 undef,T.getD 19 undef,T.getD 20 undef,T.getD 21 undef,T.getD 22 undef,T.getD 23 undef,T.getD 24 undef,T.getD 25 undef,T.getD 26 undef,T.getD 27 undef,T.getD 28 undef,T.getD 29 undef,T.getD 30 undef,T.getD 31 undef,T.getD 32 undef,T.getD 33 undef,T.getD 34 undef,T.getD 35 undef,T.getD 36 undef,T.getD 37 undef,T.getD 38 undef,T.getD 39 undef,T.getD 40 undef,T.getD 41 undef,T.getD 42 undef,T.getD 43 undef,T.getD 44 undef,T.getD 45 undef,T.getD 46 undef,T.getD 47 undef,T.getD 48 undef,T.getD 49 undef,T.getD 50 undef,T.getD 51 undef,T.getD 52 undef,T.getD 53 undef,T.getD 54 undef,T.getD 55 undef,T.getD 56 undef,T.getD 57 undef,T.getD 58 undef,T.getD 59 undef,T.getD 60 undef,T.getD 61 undef,T.getD 62 undef,T.getD 63 undef,T.getD 64 undef,T.getD 65 undef,T.getD 66 undef,T.getD 67 undef,T.getD 68 undef] := (list_getD T 69 h).trans (by kernel_rfl)
theorem neaptideref06_ReadList.list {T : List Value} (h : T.length = 69) : ∃ x0 x1 x2 x3 x4 x5 x6 x7 x8 x9 x10 x11 x12 x13 x14 x15 x16 x17 x18 x19 x20 x21 x22 x23 x24 x25 x26 x27 x28 x29 x30 x31 x32 x33 x34 x35 x36 x37 x38 x39 x40 x41 x42 x43 x44 x45 x46 x47 x48 x49 x50 x51 x52 x53 x54 x55 x56 x57 x58 x59 x60 x61 x62 x63 x64 x65 x66 x67 x68, T = [x0,x1,x2,x3,x4,x5,x6,x7,x8,x9,x10,x11,x12,x13,x14,x15,x16,x17,x18,x19,x20,x21,x22,x23,x24,x25,x26,x27,x28,x29,x30,x31,x32,x33,x34,x35,x36,x37,x38,x39,x40,x41,x42,x43,x44,x45,x46,x47,x48,x49,x50,x51,x52,x53,x54,x55,x56,x57,x58,x59,x60,x61,x62,x63,x64,x65,x66,x67,x68] := ⟨_, _, _, _, _, _, _, _, _, _, _, _, _, _, _, _, _, _, _, _, _, _, _, _, _, _, _, _, _, _, _, _, _, _, _, _, _, _, _, _, _, _, _, _, _, _, _, _, _, _, _, _, _, _, _, _, _, _, _, _, _, _, _, _, _, _, _, _, _, neaptideref06_ReadList.eta h⟩
variable (x0 x1 x2 x3 x4 x5 x6 x7 x8 x9 x10 x11 x12 x13 x14 x15 x16 x17 x18 x19 x20 x21 x22 x23 x24 x25 x26 x27 x28 x29 x30 x31 x32 x33 x34 x35 x36 x37 x38 x39 x40 x41 x42 x43 x44 x45 x46 x47 x48 x49 x50 x51 x52 x53 x54 x55 x56 x57 x58 x59 x60 x61 x62 x63 x64 x65 x66 x67 x68 : Value) (S : AHeap)
theorem neaptideref06_ReadList.r0  : vOps Try.prog ⟨false, false, false⟩ (vlim Try.prog O) (reg Try.f23 0) (reg Try.f23 0).toList ([x0,x1,x2,x3,x4,x5,x6,x7,x8,x9,x10,x11,x12,x13,x14,x15,x16,x17,x18,x19,x20,x21,x22,x23,x24,x25,x26,x27,x28,x29,x30,x31,x32,x33,x34,x35,x36,x37,x38,x39,x40,x41,x42,x43,x44,x45,x46,x47,x48,x49,x50,x51,x52,x53,x54,x55,x56,x57,x58,x59,x60,x61,x62,x63,x64,x65,x66,x67,x68]) S =
    ( some ([x0,x1,Value.slice none 0 0,Value.int IntKind.i64 0,x4,x5,x6,x7,x8,x9,x10,x11,x12,x13,x14,x15,x16,x17,x18,x19,x20,x21,x22,x23,x24,x25,x26,x27,x28,x29,x30,x31,x32,x33,x34,x35,x36,x37,x38,x39,x40,x41,x42,x43,x44,x45,x46,x47,x48,x49,x50,x51,x52,x53,x54,x55,x56,x57,x58,x59,x60,x61,x62,x63,x64,x65,x66,x67,x68], S)) := by
  refine sP Try.f23 0 0 (v := (Value.slice none 0 0)) ?_
  refine sP Try.f23 0 1 (v := (Value.int IntKind.i64 0)) ?_
  kernel_rfl
theorem neaptideref06_ReadList.r1  : vOps Try.prog ⟨false, false, false⟩ (vlim Try.prog O) (reg Try.f23 1) (reg Try.f23 1).toList ([x0,x1,x2,x3,x4,x5,x6,x7,x8,x9,x10,x11,x12,x13,x14,x15,x16,x17,x18,x19,x20,x21,x22,x23,x24,x25,x26,x27,x28,x29,x30,x31,x32,x33,x34,x35,x36,x37,x38,x39,x40,x41,x42,x43,x44,x45,x46,x47,x48,x49,x50,x51,x52,x53,x54,x55,x56,x57,x58,x59,x60,x61,x62,x63,x64,x65,x66,x67,x68]) S =
    ( some ([x0,x1,x2,x3,Value.int IntKind.i64 0,x5,x6,x7,x8,x9,x10,x11,x12,x13,x14,x15,x16,x17,x18,x19,x20,x21,x22,x23,x24,x25,x26,x27,x28,x29,x30,x31,x32,x33,x34,x35,x36,x37,x38,x39,x40,x41,x42,x43,x44,x45,x46,x47,x48,x49,x50,x51,x52,x53,x54,x55,x56,x57,x58,x59,x60,x61,x62,x63,x64,x65,x66,x67,x68], S)) := by
  refine sP Try.f23 1 0 (v := (Value.int IntKind.i64 0)) ?_
  kernel_rfl
theorem neaptideref06_ReadList.r2  : vOps Try.prog ⟨false, false, false⟩ (vlim Try.prog O) (reg Try.f23 2) (reg Try.f23 2).toList ([x0,x1,x2,x3,x4,x5,x6,x7,x8,x9,x10,x11,x12,x13,x14,x15,x16,x17,x18,x19,x20,x21,x22,x23,x24,x25,x26,x27,x28,x29,x30,x31,x32,x33,x34,x35,x36,x37,x38,x39,x40,x41,x42,x43,x44,x45,x46,x47,x48,x49,x50,x51,x52,x53,x54,x55,x56,x57,x58,x59,x60,x61,x62,x63,x64,x65,x66,x67,x68]) S =
    (andK (vBin Try.prog BinOp.leq 3 (dem x4) (Value.int IntKind.i64 3) S) (fun v1 S1 => some ([x0,x1,x2,x3,x4,x5,x6,x7,x8,x9,x10,x11,dem x4,v1,x14,x15,x16,x17,x18,x19,x20,x21,x22,x23,x24,x25,x26,x27,x28,x29,x30,x31,x32,x33,x34,x35,x36,x37,x38,x39,x40,x41,x42,x43,x44,x45,x46,x47,x48,x49,x50,x51,x52,x53,x54,x55,x56,x57,x58,x59,x60,x61,x62,x63,x64,x65,x66,x67,x68], S1)) ()) := by
  refine sP Try.f23 2 0 (v := x4) ?_
  refine sD Try.f23 2 1 (fun v1 S1 => ?_)
  kernel_rfl
theorem neaptideref06_ReadList.r4  : vOps Try.prog ⟨false, false, false⟩ (vlim Try.prog O) (reg Try.f23 4) (reg Try.f23 4).toList ([x0,x1,x2,x3,x4,x5,x6,x7,x8,x9,x10,x11,x12,x13,x14,x15,x16,x17,x18,x19,x20,x21,x22,x23,x24,x25,x26,x27,x28,x29,x30,x31,x32,x33,x34,x35,x36,x37,x38,x39,x40,x41,x42,x43,x44,x45,x46,x47,x48,x49,x50,x51,x52,x53,x54,x55,x56,x57,x58,x59,x60,x61,x62,x63,x64,x65,x66,x67,x68]) S =
    (andK (vBin Try.prog BinOp.mul 3 (Value.int IntKind.i64 2) (dem x4) S) (fun v2 S1 => andK (vBin Try.prog BinOp.add 3 (Value.int IntKind.i64 1) v2 S1) (fun v3 S2 => andK ((vlim Try.prog O) 30 [(dem (dem x0)), (dem v3)] S2) (fun v4 S3 => andK (aExtract v4 0 S3) (fun v6 S4 => andK (aExtract (demPart 0 v4) 1 S4) (fun v7 S5 => andK (aExtract (demPart 1 (demPart 0 v4)) 2 S5) (fun v8 S6 => some ([x0,x1,x2,x3,x4,v6,v7,v8,x8,x9,x10,x11,x12,x13,x14,x15,demPart 2 (demPart 1 (demPart 0 v4)),dem x0,dem x4,v2,v3,dem v4,dem v6,dem v7,dem v8,x25,x26,x27,x28,x29,x30,x31,x32,x33,x34,x35,x36,x37,x38,x39,x40,x41,x42,x43,x44,x45,x46,x47,x48,x49,x50,x51,x52,x53,x54,x55,x56,x57,x58,x59,x60,x61,x62,x63,x64,x65,x66,x67,x68], S6)) ()) ()) ()) ()) ()) ()) := by
  refine sP Try.f23 4 0 (v := x0) ?_
  refine sP Try.f23 4 1 (v := x4) ?_
  refine sD Try.f23 4 2 (fun v2 S1 => ?_)
  refine sD Try.f23 4 3 (fun v3 S2 => ?_)
  refine sD Try.f23 4 4 (fun v4 S3 => ?_)
  refine sP Try.f23 4 5 (v := v4) ?_
  refine sD Try.f23 4 6 (fun v6 S4 => ?_)
  refine sD Try.f23 4 7 (fun v7 S5 => ?_)
  refine sD Try.f23 4 8 (fun v8 S6 => ?_)
  refine sP Try.f23 4 9 (v := v6) ?_
  refine sP Try.f23 4 10 (v := v7) ?_
  refine sP Try.f23 4 11 (v := v8) ?_
  kernel_rfl
theorem neaptideref06_ReadList.r5  : vOps Try.prog ⟨false, false, false⟩ (vlim Try.prog O) (reg Try.f23 5) (reg Try.f23 5).toList ([x0,x1,x2,x3,x4,x5,x6,x7,x8,x9,x10,x11,x12,x13,x14,x15,x16,x17,x18,x19,x20,x21,x22,x23,x24,x25,x26,x27,x28,x29,x30,x31,x32,x33,x34,x35,x36,x37,x38,x39,x40,x41,x42,x43,x44,x45,x46,x47,x48,x49,x50,x51,x52,x53,x54,x55,x56,x57,x58,x59,x60,x61,x62,x63,x64,x65,x66,x67,x68]) S =
    (andK (vBin Try.prog BinOp.neq 3 (dem x7) (Value.int IntKind.i64 0) S) (fun v1 S1 => gdK (dem v1) false (ret x6) S1 (fun v3 S2 => gdK (dem v1) false (vLen Try.prog 24 (dem v3)) S2 (fun v4 S3 => gdK (dem v1) false (vBin Try.prog BinOp.gtr 3 v4 (Value.int IntKind.i64 0)) S3 (fun v5 S4 => andK (vPick (dem v1) (Value.bool true) v5 S4) (fun v6 S5 => some ([x0,x1,x2,x3,x4,x5,x6,x7,x8,x9,x10,x11,x12,x13,x14,x15,x16,x17,x18,x19,x20,x21,x22,x23,x24,dem x7,v1,dem v1,dem v3,v4,v5,v6,x32,x33,x34,x35,x36,x37,x38,x39,x40,x41,x42,x43,x44,x45,x46,x47,x48,x49,x50,x51,x52,x53,x54,x55,x56,x57,x58,x59,x60,x61,x62,x63,x64,x65,x66,x67,x68], S5)) ()) ()) ()) ()) ()) := by
  refine sP Try.f23 5 0 (v := x7) ?_
  refine sD Try.f23 5 1 (fun v1 S1 => ?_)
  refine sP Try.f23 5 2 (v := v1) ?_
  refine sG Try.f23 5 3 (j := 2) (fun v3 S2 => ?_)
  refine sG Try.f23 5 4 (j := 2) (fun v4 S3 => ?_)
  refine sG Try.f23 5 5 (j := 2) (fun v5 S4 => ?_)
  refine sD Try.f23 5 6 (fun v6 S5 => ?_)
  kernel_rfl
theorem neaptideref06_ReadList.r6  : vOps Try.prog ⟨false, false, false⟩ (vlim Try.prog O) (reg Try.f23 6) (reg Try.f23 6).toList ([x0,x1,x2,x3,x4,x5,x6,x7,x8,x9,x10,x11,x12,x13,x14,x15,x16,x17,x18,x19,x20,x21,x22,x23,x24,x25,x26,x27,x28,x29,x30,x31,x32,x33,x34,x35,x36,x37,x38,x39,x40,x41,x42,x43,x44,x45,x46,x47,x48,x49,x50,x51,x52,x53,x54,x55,x56,x57,x58,x59,x60,x61,x62,x63,x64,x65,x66,x67,x68]) S =
    (andK (vBuildSlice Try.prog 34 0 [] S) (fun v0 S1 => some ([x0,x1,x2,x3,x4,x5,x6,x7,v0,x9,x10,x11,x12,x13,x14,x15,x16,x17,x18,x19,x20,x21,x22,x23,x24,x25,x26,x27,x28,x29,x30,x31,dem v0,x33,x34,x35,x36,x37,x38,x39,x40,x41,x42,x43,x44,x45,x46,x47,x48,x49,x50,x51,x52,x53,x54,x55,x56,x57,x58,x59,x60,x61,x62,x63,x64,x65,x66,x67,x68], S1)) ()) := by
  refine sD Try.f23 6 0 (fun v0 S1 => ?_)
  refine sP Try.f23 6 1 (v := v0) ?_
  kernel_rfl
theorem neaptideref06_ReadList.r7  : vOps Try.prog ⟨false, false, false⟩ (vlim Try.prog O) (reg Try.f23 7) (reg Try.f23 7).toList ([x0,x1,x2,x3,x4,x5,x6,x7,x8,x9,x10,x11,x12,x13,x14,x15,x16,x17,x18,x19,x20,x21,x22,x23,x24,x25,x26,x27,x28,x29,x30,x31,x32,x33,x34,x35,x36,x37,x38,x39,x40,x41,x42,x43,x44,x45,x46,x47,x48,x49,x50,x51,x52,x53,x54,x55,x56,x57,x58,x59,x60,x61,x62,x63,x64,x65,x66,x67,x68]) S =
    ( some ([x0,x1,x2,x3,x4,x5,x6,x7,x8,Value.int IntKind.i64 0,x10,x11,x12,x13,x14,x15,x16,x17,x18,x19,x20,x21,x22,x23,x24,x25,x26,x27,x28,x29,x30,x31,x32,x33,x34,x35,x36,x37,x38,x39,x40,x41,x42,x43,x44,x45,x46,x47,x48,x49,x50,x51,x52,x53,x54,x55,x56,x57,x58,x59,x60,x61,x62,x63,x64,x65,x66,x67,x68], S)) := by
  refine sP Try.f23 7 0 (v := (Value.int IntKind.i64 0)) ?_
  kernel_rfl
theorem neaptideref06_ReadList.r8  : vOps Try.prog ⟨false, false, false⟩ (vlim Try.prog O) (reg Try.f23 8) (reg Try.f23 8).toList ([x0,x1,x2,x3,x4,x5,x6,x7,x8,x9,x10,x11,x12,x13,x14,x15,x16,x17,x18,x19,x20,x21,x22,x23,x24,x25,x26,x27,x28,x29,x30,x31,x32,x33,x34,x35,x36,x37,x38,x39,x40,x41,x42,x43,x44,x45,x46,x47,x48,x49,x50,x51,x52,x53,x54,x55,x56,x57,x58,x59,x60,x61,x62,x63,x64,x65,x66,x67,x68]) S =
    (andK (vBin Try.prog BinOp.lss 3 (dem x9) (dem x4) S) (fun v2 S1 => some ([x0,x1,x2,x3,x4,x5,x6,x7,x8,x9,x10,x11,x12,x13,x14,x15,x16,x17,x18,x19,x20,x21,x22,x23,x24,x25,x26,x27,x28,x29,x30,x31,x32,dem x9,dem x4,v2,x36,x37,x38,x39,x40,x41,x42,x43,x44,x45,x46,x47,x48,x49,x50,x51,x52,x53,x54,x55,x56,x57,x58,x59,x60,x61,x62,x63,x64,x65,x66,x67,x68], S1)) ()) := by
  refine sP Try.f23 8 0 (v := x9) ?_
  refine sP Try.f23 8 1 (v := x4) ?_
  refine sD Try.f23 8 2 (fun v2 S1 => ?_)
  kernel_rfl
theorem neaptideref06_ReadList.d10 : drawnOk Try.prog (reg Try.f23 10) = true := by kernel_rfl
theorem neaptideref06_ReadList.ff10 : fixed Try.prog (reg Try.f23 10) = false := by kernel_rfl
theorem neaptideref06_ReadList.k10 : checked Try.prog (reg Try.f23 10) = [0] := by kernel_rfl
theorem neaptideref06_ReadList.g10 : again Try.prog (reg Try.f23 10) = [] := by kernel_rfl
theorem neaptideref06_ReadList.r10  : vcodeV Try.prog O false (.region 10 (reg Try.f23 10) true) ([x0,x1,x2,x3,x4,x5,x6,x7,x8,x9,x10,x11,x12,x13,x14,x15,x16,x17,x18,x19,x20,x21,x22,x23,x24,x25,x26,x27,x28,x29,x30,x31,x32,x33,x34,x35,x36,x37,x38,x39,x40,x41,x42,x43,x44,x45,x46,x47,x48,x49,x50,x51,x52,x53,x54,x55,x56,x57,x58,x59,x60,x61,x62,x63,x64,x65,x66,x67,x68]) S =
    regV (okK x8 ( andK (vBin Try.prog BinOp.mul 3 (Value.int IntKind.i64 2) (dem x9) S) (fun v3 S1 => andK (vBin Try.prog BinOp.add 3 (Value.int IntKind.i64 1) v3 S1) (fun v4 S2 => andK (vIndexAddr Try.prog 51 (dem x5) v4 S2) (fun v5 S3 => andK (vLoad Try.prog false 3 v5 S3) (fun v6 S4 => andK (vBin Try.prog BinOp.mul 3 (Value.int IntKind.i64 2) (dem x9) S4) (fun v9 S5 => andK (vBin Try.prog BinOp.add 3 (Value.int IntKind.i64 2) v9 S5) (fun v10 S6 => andK (vIndexAddr Try.prog 51 (dem x5) v10 S6) (fun v11 S7 => andK (vLoad Try.prog false 3 v11 S7) (fun v12 S8 => andK (aBuild Try.prog 23 [(0, (dem v6)), (1, (dem v12))] S8) (fun v13 S9 => andK (vBuildSlice Try.prog 34 1 [(0, v13)] S9) (fun v14 S10 => andK (vAppend Try.prog 34 34 x8 v14 S10) (fun v15 S11 => some ([x0,x1,x2,x3,x4,x5,x6,x7,v15,x9,x10,x11,x12,x13,x14,x15,x16,x17,x18,x19,x20,x21,x22,x23,x24,x25,x26,x27,x28,x29,x30,x31,x32,x33,x34,x35,x36,x37,dem x8,dem x5,dem x9,v3,v4,v5,v6,dem x5,dem x9,v9,v10,v11,v12,v13,v14,dem v15,x54,x55,x56,x57,x58,x59,x60,x61,x62,x63,x64,x65,x66,x67,x68], S11)) ()) ()) ()) ()) ()) ()) ()) ()) ()) ()) ()) ()) := by
  rw [vcodeV_drawn neaptideref06_ReadList.d10 neaptideref06_ReadList.ff10 neaptideref06_ReadList.k10 neaptideref06_ReadList.g10]
  refine congrArg regV ?_
  refine tPC Try.f23 10 0 (v := x8) ?_
  refine tP Try.f23 10 1 (v := x5) ?_
  refine tP Try.f23 10 2 (v := x9) ?_
  refine tD Try.f23 10 3 (fun v3 S1 => ?_)
  refine tD Try.f23 10 4 (fun v4 S2 => ?_)
  refine tD Try.f23 10 5 (fun v5 S3 => ?_)
  refine tD Try.f23 10 6 (fun v6 S4 => ?_)
  refine tP Try.f23 10 7 (v := x5) ?_
  refine tP Try.f23 10 8 (v := x9) ?_
  refine tD Try.f23 10 9 (fun v9 S5 => ?_)
  refine tD Try.f23 10 10 (fun v10 S6 => ?_)
  refine tD Try.f23 10 11 (fun v11 S7 => ?_)
  refine tD Try.f23 10 12 (fun v12 S8 => ?_)
  refine tD Try.f23 10 13 (fun v13 S9 => ?_)
  refine tD Try.f23 10 14 (fun v14 S10 => ?_)
  refine tD Try.f23 10 15 (fun v15 S11 => ?_)
  refine tP Try.f23 10 16 (v := v15) ?_
  kernel_rfl
theorem neaptideref06_ReadList.r9  : vOps Try.prog ⟨false, false, false⟩ (vlim Try.prog O) (reg Try.f23 9) (reg Try.f23 9).toList ([x0,x1,x2,x3,x4,x5,x6,x7,x8,x9,x10,x11,x12,x13,x14,x15,x16,x17,x18,x19,x20,x21,x22,x23,x24,x25,x26,x27,x28,x29,x30,x31,x32,x33,x34,x35,x36,x37,x38,x39,x40,x41,x42,x43,x44,x45,x46,x47,x48,x49,x50,x51,x52,x53,x54,x55,x56,x57,x58,x59,x60,x61,x62,x63,x64,x65,x66,x67,x68]) S =
    (andK (vBin Try.prog BinOp.add 3 (dem x9) (Value.int IntKind.i64 1) S) (fun v1 S1 => some ([x0,x1,x2,x3,x4,x5,x6,x7,x8,v1,x10,x11,x12,x13,x14,x15,x16,x17,x18,x19,x20,x21,x22,x23,x24,x25,x26,x27,x28,x29,x30,x31,x32,x33,x34,x35,dem x9,dem v1,x38,x39,x40,x41,x42,x43,x44,x45,x46,x47,x48,x49,x50,x51,x52,x53,x54,x55,x56,x57,x58,x59,x60,x61,x62,x63,x64,x65,x66,x67,x68], S1)) ()) := by
  refine sP Try.f23 9 0 (v := x9) ?_
  refine sD Try.f23 9 1 (fun v1 S1 => ?_)
  refine sP Try.f23 9 2 (v := v1) ?_
  kernel_rfl
theorem neaptideref06_ReadList.r11  : vOps Try.prog ⟨false, false, false⟩ (vlim Try.prog O) (reg Try.f23 11) (reg Try.f23 11).toList ([x0,x1,x2,x3,x4,x5,x6,x7,x8,x9,x10,x11,x12,x13,x14,x15,x16,x17,x18,x19,x20,x21,x22,x23,x24,x25,x26,x27,x28,x29,x30,x31,x32,x33,x34,x35,x36,x37,x38,x39,x40,x41,x42,x43,x44,x45,x46,x47,x48,x49,x50,x51,x52,x53,x54,x55,x56,x57,x58,x59,x60,x61,x62,x63,x64,x65,x66,x67,x68]) S =
    (andK ((vlim Try.prog O) 18 [(dem (dem x8))] S) (fun v1 S1 => andK (aExtract v1 0 S1) (fun v3 S2 => andK (aExtract (demPart 0 v1) 1 S2) (fun v4 S3 => some ([x0,x1,x2,x3,x4,x5,x6,x7,x8,x9,v3,v4,x12,x13,x14,x15,x16,x17,x18,x19,x20,x21,x22,x23,x24,x25,x26,x27,x28,x29,x30,x31,x32,x33,x34,x35,x36,x37,x38,x39,x40,x41,x42,x43,x44,x45,x46,x47,x48,x49,x50,x51,x52,x53,demPart 1 (demPart 0 v1),dem x8,dem v1,dem v3,dem v4,x59,x60,x61,x62,x63,x64,x65,x66,x67,x68], S3)) ()) ()) ()) := by
  refine sP Try.f23 11 0 (v := x8) ?_
  refine sD Try.f23 11 1 (fun v1 S1 => ?_)
  refine sP Try.f23 11 2 (v := v1) ?_
  refine sD Try.f23 11 3 (fun v3 S2 => ?_)
  refine sD Try.f23 11 4 (fun v4 S3 => ?_)
  refine sP Try.f23 11 5 (v := v3) ?_
  refine sP Try.f23 11 6 (v := v4) ?_
  kernel_rfl
theorem neaptideref06_ReadList.r12  : vOps Try.prog ⟨false, false, false⟩ (vlim Try.prog O) (reg Try.f23 12) (reg Try.f23 12).toList ([x0,x1,x2,x3,x4,x5,x6,x7,x8,x9,x10,x11,x12,x13,x14,x15,x16,x17,x18,x19,x20,x21,x22,x23,x24,x25,x26,x27,x28,x29,x30,x31,x32,x33,x34,x35,x36,x37,x38,x39,x40,x41,x42,x43,x44,x45,x46,x47,x48,x49,x50,x51,x52,x53,x54,x55,x56,x57,x58,x59,x60,x61,x62,x63,x64,x65,x66,x67,x68]) S =
    (andK (vBin Try.prog BinOp.eql 3 (dem x11) (Value.int IntKind.i64 0) S) (fun v1 S1 => gdK (dem v1) true (ret x10) S1 (fun v3 S2 => gdK (dem v1) true (vConvF Try.prog false false 24 9 (dem v3)) S2 (fun v4 S3 => gdK (dem v1) true (ret x0) S3 (fun v5 S4 => gdK (dem v1) true (vConvF Try.prog false false 24 9 (dem v5)) S4 (fun v6 S5 => gdK (dem v1) true (vBin Try.prog BinOp.eql 9 v4 v6) S5 (fun v7 S6 => andK (vPick (dem v1) v7 (Value.bool false) S6) (fun v8 S7 => some ([x0,x1,x2,x3,x4,x5,x6,x7,x8,x9,x10,x11,x12,x13,x14,x15,x16,x17,x18,x19,x20,x21,x22,x23,x24,x25,x26,x27,x28,x29,x30,x31,x32,x33,x34,x35,x36,x37,x38,x39,x40,x41,x42,x43,x44,x45,x46,x47,x48,x49,x50,x51,x52,x53,x54,x55,x56,x57,x58,dem x11,v1,dem v1,dem v3,v4,dem v5,v6,v7,v8,x68], S7)) ()) ()) ()) ()) ()) ()) ()) := by
  refine sP Try.f23 12 0 (v := x11) ?_
  refine sD Try.f23 12 1 (fun v1 S1 => ?_)
  refine sP Try.f23 12 2 (v := v1) ?_
  refine sG Try.f23 12 3 (j := 2) (fun v3 S2 => ?_)
  refine sG Try.f23 12 4 (j := 2) (fun v4 S3 => ?_)
  refine sG Try.f23 12 5 (j := 2) (fun v5 S4 => ?_)
  refine sG Try.f23 12 6 (j := 2) (fun v6 S5 => ?_)
  refine sG Try.f23 12 7 (j := 2) (fun v7 S6 => ?_)
  refine sD Try.f23 12 8 (fun v8 S7 => ?_)
  kernel_rfl
theorem neaptideref06_ReadList.r13  : vOps Try.prog ⟨false, false, false⟩ (vlim Try.prog O) (reg Try.f23 13) (reg Try.f23 13).toList ([x0,x1,x2,x3,x4,x5,x6,x7,x8,x9,x10,x11,x12,x13,x14,x15,x16,x17,x18,x19,x20,x21,x22,x23,x24,x25,x26,x27,x28,x29,x30,x31,x32,x33,x34,x35,x36,x37,x38,x39,x40,x41,x42,x43,x44,x45,x46,x47,x48,x49,x50,x51,x52,x53,x54,x55,x56,x57,x58,x59,x60,x61,x62,x63,x64,x65,x66,x67,x68]) S =
    ( some ([x0,x1,x8,Value.int IntKind.i64 0,x4,x5,x6,x7,dem x8,x9,x10,x11,x12,x13,x14,x15,x16,x17,x18,x19,x20,x21,x22,x23,x24,x25,x26,x27,x28,x29,x30,x31,x32,x33,x34,x35,x36,x37,x38,x39,x40,x41,x42,x43,x44,x45,x46,x47,x48,x49,x50,x51,x52,x53,x54,x55,x56,x57,x58,x59,x60,x61,x62,x63,x64,x65,x66,x67,dem x8], S)) := by
  refine sP Try.f23 13 0 (v := x8) ?_
  refine sP Try.f23 13 1 (v := x8) ?_
  refine sP Try.f23 13 2 (v := (Value.int IntKind.i64 0)) ?_
  kernel_rfl
theorem neaptideref06_ReadList.r3  : vOps Try.prog ⟨false, false, false⟩ (vlim Try.prog O) (reg Try.f23 3) (reg Try.f23 3).toList ([x0,x1,x2,x3,x4,x5,x6,x7,x8,x9,x10,x11,x12,x13,x14,x15,x16,x17,x18,x19,x20,x21,x22,x23,x24,x25,x26,x27,x28,x29,x30,x31,x32,x33,x34,x35,x36,x37,x38,x39,x40,x41,x42,x43,x44,x45,x46,x47,x48,x49,x50,x51,x52,x53,x54,x55,x56,x57,x58,x59,x60,x61,x62,x63,x64,x65,x66,x67,x68]) S =
    (andK (vBin Try.prog BinOp.add 3 (dem x4) (Value.int IntKind.i64 1) S) (fun v1 S1 => some ([x0,x1,x2,x3,v1,x5,x6,x7,x8,x9,x10,x11,x12,x13,dem x4,dem v1,x16,x17,x18,x19,x20,x21,x22,x23,x24,x25,x26,x27,x28,x29,x30,x31,x32,x33,x34,x35,x36,x37,x38,x39,x40,x41,x42,x43,x44,x45,x46,x47,x48,x49,x50,x51,x52,x53,x54,x55,x56,x57,x58,x59,x60,x61,x62,x63,x64,x65,x66,x67,x68], S1)) ()) := by
  refine sP Try.f23 3 0 (v := x4) ?_
  refine sD Try.f23 3 1 (fun v1 S1 => ?_)
  refine sP Try.f23 3 2 (v := v1) ?_
  kernel_rfl
theorem neaptideref06_ReadList.r14  : vOps Try.prog ⟨false, false, false⟩ (vlim Try.prog O) (reg Try.f23 14) (reg Try.f23 14).toList ([x0,x1,x2,x3,x4,x5,x6,x7,x8,x9,x10,x11,x12,x13,x14,x15,x16,x17,x18,x19,x20,x21,x22,x23,x24,x25,x26,x27,x28,x29,x30,x31,x32,x33,x34,x35,x36,x37,x38,x39,x40,x41,x42,x43,x44,x45,x46,x47,x48,x49,x50,x51,x52,x53,x54,x55,x56,x57,x58,x59,x60,x61,x62,x63,x64,x65,x66,x67,x68]) S =
    ( some ([x0,x1,Value.slice none 0 0,Value.int IntKind.i64 61,x4,x5,x6,x7,x8,x9,x10,x11,x12,x13,x14,x15,x16,x17,x18,x19,x20,x21,x22,x23,x24,x25,x26,x27,x28,x29,x30,x31,x32,x33,x34,x35,x36,x37,x38,x39,x40,x41,x42,x43,x44,x45,x46,x47,x48,x49,x50,x51,x52,x53,x54,x55,x56,x57,x58,x59,x60,x61,x62,x63,x64,x65,x66,x67,x68], S)) := by
  refine sP Try.f23 14 0 (v := (Value.slice none 0 0)) ?_
  refine sP Try.f23 14 1 (v := (Value.int IntKind.i64 61)) ?_
  kernel_rfl
theorem neaptideref06_ReadList.rs : type_of% (And.intro @neaptideref06_ReadList.r0 (And.intro @neaptideref06_ReadList.r1 (And.intro @neaptideref06_ReadList.r2 (And.intro @neaptideref06_ReadList.r4 (And.intro @neaptideref06_ReadList.r5 (And.intro @neaptideref06_ReadList.r6 (And.intro @neaptideref06_ReadList.r7 (And.intro @neaptideref06_ReadList.r8 (And.intro @neaptideref06_ReadList.r10 (And.intro @neaptideref06_ReadList.r9 (And.intro @neaptideref06_ReadList.r11 (And.intro @neaptideref06_ReadList.r12 (And.intro @neaptideref06_ReadList.r13 (And.intro @neaptideref06_ReadList.r3 (@neaptideref06_ReadList.r14))))))))))))))) := And.intro @neaptideref06_ReadList.r0 (And.intro @neaptideref06_ReadList.r1 (And.intro @neaptideref06_ReadList.r2 (And.intro @neaptideref06_ReadList.r4 (And.intro @neaptideref06_ReadList.r5 (And.intro @neaptideref06_ReadList.r6 (And.intro @neaptideref06_ReadList.r7 (And.intro @neaptideref06_ReadList.r8 (And.intro @neaptideref06_ReadList.r10 (And.intro @neaptideref06_ReadList.r9 (And.intro @neaptideref06_ReadList.r11 (And.intro @neaptideref06_ReadList.r12 (And.intro @neaptideref06_ReadList.r13 (And.intro @neaptideref06_ReadList.r3 (@neaptideref06_ReadList.r14))))))))))))))
theorem neaptideref06_ReadList.runs {x0 : Value} {S S1 : AHeap} {e : AEx} {T : List Value} (h : vcodeV Try.prog O false neaptideref06_ReadList.code ([x0,undef,undef,undef,undef,undef,undef,undef,undef,undef,undef,undef,undef,undef,undef,undef,undef,undef,undef,undef,undef,undef,undef,undef,undef,undef,undef,undef,undef,undef,undef,undef,undef,undef,undef,undef,undef,undef,undef,undef,undef,undef,undef,undef,undef,undef,undef,undef,undef,undef,undef,undef,undef,undef,undef,undef,undef,undef,undef,undef,undef,undef,undef,undef,undef,undef,undef,undef,undef]) S = some (e, T, S1)) (he : e = .normal ∨ e = .ret)  (h0 : notTuple (T.getD 2 undef) = true) (h1 : notTuple (T.getD 3 undef) = true) : vlim Try.prog O 23 [x0] S = some (Value.tuple #[T.getD 2 undef, T.getD 3 undef], S1) :=
  vlim_code rfl rfl Try.func23 (by decide) neaptideref06_ReadList.body (by exact h) he ((vRes_many ((show vResVals Try.prog T S1 Try.f23.results.toList = vResVals Try.prog T S1 [(ResultVar.tmp 2), (ResultVar.tmp 3)] from by kernel_rfl).trans (by simp only [vResVals])) (by kernel_rfl) (by simp only [List.all_cons, List.all_nil, h0, h1, Bool.and_true])).trans rfl)
end Go.Proofs.Ytfnlcbgijkakiaa

namespace Go.Proofs.Ytfnlcbgijkakiaa
open Go.Abs

/-- neaptide.neaptideref06.Same -/
abbrev neaptideref06_Same.id : FuncId := 20
noncomputable def neaptideref06_Same.loop1 : Code := (Code.seq (Code.region 4 (reg Try.f20 4) false) (Code.seq (Code.cond (Operand.tmp 14) Code.skip (Code.exit 0)) (Code.seq (Code.block 1 (Code.seq (Code.region 5 (reg Try.f20 5) false) (Code.seq (Code.region 6 (reg Try.f20 6) true) (Code.cond (Operand.tmp 24) (Code.seq (Code.region 7 (reg Try.f20 7) false) Code.ret) Code.skip)))) (Code.region 8 (reg Try.f20 8) false))))
noncomputable def neaptideref06_Same.code : Code := (Code.seq (Code.region 0 (reg Try.f20 0) false) (Code.seq (Code.seq (Code.region 1 (reg Try.f20 1) false) (Code.cond (Operand.tmp 10) (Code.seq (Code.region 2 (reg Try.f20 2) false) Code.ret) Code.skip)) (Code.seq (Code.seq (Code.region 3 (reg Try.f20 3) false) (Code.block 0 (Code.loop neaptideref06_Same.loop1))) (Code.seq (Code.region 9 (reg Try.f20 9) false) Code.ret))))
theorem neaptideref06_Same.body : Try.f20.body = some neaptideref06_Same.code := by kernel_rfl
theorem neaptideref06_Same.eta {T : List Value} (h : T.length = 26) : T = [T.getD 0 undef,T.getD 1 undef,T.getD 2 undef,T.getD 3 undef,T.getD 4 undef,T.getD 5 undef,T.getD 6 undef,T.getD 7 undef,T.getD 8 undef,T.getD 9 undef,T.getD 10 undef,T.getD 11 undef,T.getD 12 undef,T.getD 13 undef,T.getD 14 undef,T.getD 15 undef,T.getD 16 undef,T.getD 17 undef,T.getD 18 undef,T.getD 19 undef,T.getD 20 undef,T.getD 21 undef,T.getD 22 undef,T.getD 23 undef,T.getD 24 undef,T.getD 25 undef] := (list_getD T 26 h).trans (by kernel_rfl)
theorem neaptideref06_Same.list {T : List Value} (h : T.length = 26) : ∃ x0 x1 x2 x3 x4 x5 x6 x7 x8 x9 x10 x11 x12 x13 x14 x15 x16 x17 x18 x19 x20 x21 x22 x23 x24 x25, T = [x0,x1,x2,x3,x4,x5,x6,x7,x8,x9,x10,x11,x12,x13,x14,x15,x16,x17,x18,x19,x20,x21,x22,x23,x24,x25] := ⟨_, _, _, _, _, _, _, _, _, _, _, _, _, _, _, _, _, _, _, _, _, _, _, _, _, _, neaptideref06_Same.eta h⟩
variable (x0 x1 x2 x3 x4 x5 x6 x7 x8 x9 x10 x11 x12 x13 x14 x15 x16 x17 x18 x19 x20 x21 x22 x23 x24 x25 : Value) (S : AHeap)
theorem neaptideref06_Same.r0  : vOps Try.prog ⟨false, false, false⟩ (vlim Try.prog O) (reg Try.f20 0) (reg Try.f20 0).toList ([x0,x1,x2,x3,x4,x5,x6,x7,x8,x9,x10,x11,x12,x13,x14,x15,x16,x17,x18,x19,x20,x21,x22,x23,x24,x25]) S =
    ( some ([x0,x1,x2,x3,Value.bool false,x5,x6,x7,x8,x9,x10,x11,x12,x13,x14,x15,x16,x17,x18,x19,x20,x21,x22,x23,x24,x25], S)) := by
  refine sP Try.f20 0 0 (v := (Value.bool false)) ?_
  kernel_rfl
theorem neaptideref06_Same.r1  : vOps Try.prog ⟨false, false, false⟩ (vlim Try.prog O) (reg Try.f20 1) (reg Try.f20 1).toList ([x0,x1,x2,x3,x4,x5,x6,x7,x8,x9,x10,x11,x12,x13,x14,x15,x16,x17,x18,x19,x20,x21,x22,x23,x24,x25]) S =
    (andK (vLen Try.prog 34 (dem x0) S) (fun v1 S1 => andK (vLen Try.prog 34 (dem x1) S1) (fun v3 S2 => andK (vBin Try.prog BinOp.neq 3 v1 v3 S2) (fun v4 S3 => some ([x0,x1,x2,x3,x4,x5,dem x0,v1,dem x1,v3,v4,x11,x12,x13,x14,x15,x16,x17,x18,x19,x20,x21,x22,x23,x24,x25], S3)) ()) ()) ()) := by
  refine sP Try.f20 1 0 (v := x0) ?_
  refine sD Try.f20 1 1 (fun v1 S1 => ?_)
  refine sP Try.f20 1 2 (v := x1) ?_
  refine sD Try.f20 1 3 (fun v3 S2 => ?_)
  refine sD Try.f20 1 4 (fun v4 S3 => ?_)
  kernel_rfl
theorem neaptideref06_Same.r2  : vOps Try.prog ⟨false, false, false⟩ (vlim Try.prog O) (reg Try.f20 2) (reg Try.f20 2).toList ([x0,x1,x2,x3,x4,x5,x6,x7,x8,x9,x10,x11,x12,x13,x14,x15,x16,x17,x18,x19,x20,x21,x22,x23,x24,x25]) S =
    ( some ([x0,x1,x2,x3,Value.bool false,x5,x6,x7,x8,x9,x10,x11,x12,x13,x14,x15,x16,x17,x18,x19,x20,x21,x22,x23,x24,x25], S)) := by
  refine sP Try.f20 2 0 (v := (Value.bool false)) ?_
  kernel_rfl
theorem neaptideref06_Same.r3  : vOps Try.prog ⟨false, false, false⟩ (vlim Try.prog O) (reg Try.f20 3) (reg Try.f20 3).toList ([x0,x1,x2,x3,x4,x5,x6,x7,x8,x9,x10,x11,x12,x13,x14,x15,x16,x17,x18,x19,x20,x21,x22,x23,x24,x25]) S =
    (andK (vLen Try.prog 34 (dem x0) S) (fun v1 S1 => some ([x0,x1,x2,x3,x4,x5,x6,x7,x8,x9,x10,dem x0,v1,Value.int IntKind.i64 0,x14,x15,x16,x17,x18,x19,x20,x21,x22,x23,x24,x25], S1)) ()) := by
  refine sP Try.f20 3 0 (v := x0) ?_
  refine sD Try.f20 3 1 (fun v1 S1 => ?_)
  refine sP Try.f20 3 2 (v := (Value.int IntKind.i64 0)) ?_
  kernel_rfl
theorem neaptideref06_Same.r4  : vOps Try.prog ⟨false, false, false⟩ (vlim Try.prog O) (reg Try.f20 4) (reg Try.f20 4).toList ([x0,x1,x2,x3,x4,x5,x6,x7,x8,x9,x10,x11,x12,x13,x14,x15,x16,x17,x18,x19,x20,x21,x22,x23,x24,x25]) S =
    (andK (vBin Try.prog BinOp.lss 3 x13 x12 S) (fun v0 S1 => some ([x0,x1,x2,x3,x4,x5,x6,x7,x8,x9,x10,x11,x12,x13,v0,x15,x16,x17,x18,x19,x20,x21,x22,x23,x24,x25], S1)) ()) := by
  refine sD Try.f20 4 0 (fun v0 S1 => ?_)
  kernel_rfl
theorem neaptideref06_Same.r5  : vOps Try.prog ⟨false, false, false⟩ (vlim Try.prog O) (reg Try.f20 5) (reg Try.f20 5).toList ([x0,x1,x2,x3,x4,x5,x6,x7,x8,x9,x10,x11,x12,x13,x14,x15,x16,x17,x18,x19,x20,x21,x22,x23,x24,x25]) S =
    ( some ([x0,x1,x2,x3,x4,x13,x6,x7,x8,x9,x10,x11,x12,dem x13,x14,dem x13,x16,x17,x18,x19,x20,x21,x22,x23,x24,x25], S)) := by
  refine sP Try.f20 5 0 (v := x13) ?_
  refine sP Try.f20 5 1 (v := x13) ?_
  kernel_rfl
theorem neaptideref06_Same.d6 : drawnOk Try.prog (reg Try.f20 6) = true := by kernel_rfl
theorem neaptideref06_Same.ff6 : fixed Try.prog (reg Try.f20 6) = false := by kernel_rfl
theorem neaptideref06_Same.k6 : checked Try.prog (reg Try.f20 6) = [] := by kernel_rfl
theorem neaptideref06_Same.g6 : again Try.prog (reg Try.f20 6) = [] := by kernel_rfl
theorem neaptideref06_Same.r6  : vcodeV Try.prog O false (.region 6 (reg Try.f20 6) true) ([x0,x1,x2,x3,x4,x5,x6,x7,x8,x9,x10,x11,x12,x13,x14,x15,x16,x17,x18,x19,x20,x21,x22,x23,x24,x25]) S =
    regV (andK (vIndexAddr Try.prog 34 (dem x0) (dem x5) S) (fun v2 S1 => andK (vLoad Try.prog false 23 v2 S1) (fun v3 S2 => andK (vIndexAddr Try.prog 34 (dem x1) (dem x5) S2) (fun v6 S3 => andK (vLoad Try.prog false 23 v6 S3) (fun v7 S4 => andK (vBin Try.prog BinOp.neq 23 v3 v7 S4) (fun v8 S5 => some ([x0,x1,x2,x3,x4,x5,x6,x7,x8,x9,x10,x11,x12,x13,x14,x15,dem x0,dem x5,v2,v3,dem x1,dem x5,v6,v7,v8,x25], S5)) ()) ()) ()) ()) ()) := by
  rw [vcodeV_drawn neaptideref06_Same.d6 neaptideref06_Same.ff6 neaptideref06_Same.k6 neaptideref06_Same.g6]
  refine congrArg regV ?_
  refine tP Try.f20 6 0 (v := x0) ?_
  refine tP Try.f20 6 1 (v := x5) ?_
  refine tD Try.f20 6 2 (fun v2 S1 => ?_)
  refine tD Try.f20 6 3 (fun v3 S2 => ?_)
  refine tP Try.f20 6 4 (v := x1) ?_
  refine tP Try.f20 6 5 (v := x5) ?_
  refine tD Try.f20 6 6 (fun v6 S3 => ?_)
  refine tD Try.f20 6 7 (fun v7 S4 => ?_)
  refine tD Try.f20 6 8 (fun v8 S5 => ?_)
  kernel_rfl
theorem neaptideref06_Same.r7  : vOps Try.prog ⟨false, false, false⟩ (vlim Try.prog O) (reg Try.f20 7) (reg Try.f20 7).toList ([x0,x1,x2,x3,x4,x5,x6,x7,x8,x9,x10,x11,x12,x13,x14,x15,x16,x17,x18,x19,x20,x21,x22,x23,x24,x25]) S =
    ( some ([x0,x1,x2,x3,Value.bool false,x5,x6,x7,x8,x9,x10,x11,x12,x13,x14,x15,x16,x17,x18,x19,x20,x21,x22,x23,x24,x25], S)) := by
  refine sP Try.f20 7 0 (v := (Value.bool false)) ?_
  kernel_rfl
theorem neaptideref06_Same.r8  : vOps Try.prog ⟨false, false, false⟩ (vlim Try.prog O) (reg Try.f20 8) (reg Try.f20 8).toList ([x0,x1,x2,x3,x4,x5,x6,x7,x8,x9,x10,x11,x12,x13,x14,x15,x16,x17,x18,x19,x20,x21,x22,x23,x24,x25]) S =
    (andK (vBin Try.prog BinOp.add 3 x13 (Value.int IntKind.i64 1) S) (fun v0 S1 => some ([x0,x1,x2,x3,x4,x5,x6,x7,x8,x9,x10,x11,x12,dem v0,x14,x15,x16,x17,x18,x19,x20,x21,x22,x23,x24,v0], S1)) ()) := by
  refine sD Try.f20 8 0 (fun v0 S1 => ?_)
  refine sP Try.f20 8 1 (v := v0) ?_
  kernel_rfl
theorem neaptideref06_Same.r9  : vOps Try.prog ⟨false, false, false⟩ (vlim Try.prog O) (reg Try.f20 9) (reg Try.f20 9).toList ([x0,x1,x2,x3,x4,x5,x6,x7,x8,x9,x10,x11,x12,x13,x14,x15,x16,x17,x18,x19,x20,x21,x22,x23,x24,x25]) S =
    ( some ([x0,x1,x2,x3,Value.bool true,x5,x6,x7,x8,x9,x10,x11,x12,x13,x14,x15,x16,x17,x18,x19,x20,x21,x22,x23,x24,x25], S)) := by
  refine sP Try.f20 9 0 (v := (Value.bool true)) ?_
  kernel_rfl
theorem neaptideref06_Same.rs : type_of% (And.intro @neaptideref06_Same.r0 (And.intro @neaptideref06_Same.r1 (And.intro @neaptideref06_Same.r2 (And.intro @neaptideref06_Same.r3 (And.intro @neaptideref06_Same.r4 (And.intro @neaptideref06_Same.r5 (And.intro @neaptideref06_Same.r6 (And.intro @neaptideref06_Same.r7 (And.intro @neaptideref06_Same.r8 (@neaptideref06_Same.r9)))))))))) := And.intro @neaptideref06_Same.r0 (And.intro @neaptideref06_Same.r1 (And.intro @neaptideref06_Same.r2 (And.intro @neaptideref06_Same.r3 (And.intro @neaptideref06_Same.r4 (And.intro @neaptideref06_Same.r5 (And.intro @neaptideref06_Same.r6 (And.intro @neaptideref06_Same.r7 (And.intro @neaptideref06_Same.r8 (@neaptideref06_Same.r9)))))))))
theorem neaptideref06_Same.runs {x0 x1 : Value} {S S1 : AHeap} {e : AEx} {T : List Value} (h : vcodeV Try.prog O false neaptideref06_Same.code ([x0,x1,undef,undef,undef,undef,undef,undef,undef,undef,undef,undef,undef,undef,undef,undef,undef,undef,undef,undef,undef,undef,undef,undef,undef,undef]) S = some (e, T, S1)) (he : e = .normal ∨ e = .ret) : vlim Try.prog O 20 [x0, x1] S = some (T.getD 4 undef, S1) :=
  vlim_code rfl rfl Try.func20 (by decide) neaptideref06_Same.body (by exact h) he (vRes_one (a := T.getD 4 undef) ((show vResVals Try.prog T S1 Try.f20.results.toList = vResVals Try.prog T S1 [(ResultVar.tmp 4)] from by kernel_rfl).trans (by simp only [vResVals])) (by kernel_rfl))
end Go.Proofs.Ytfnlcbgijkakiaa

namespace Go.Proofs.Ytfnlcbgijkakiaa
open Go.Abs

/-- neaptide.tx.unlike -/
abbrev tx_unlike.id : FuncId := 28
noncomputable def tx_unlike.loop1 : Code := (Code.seq (Code.region 3 (reg Try.f28 3) false) (Code.seq (Code.cond (Operand.tmp 10) Code.skip (Code.exit 0)) (Code.seq (Code.block 1 (Code.seq (Code.region 4 (reg Try.f28 4) false) (Code.seq (Code.seq (Code.region 5 (reg Try.f28 5) false) (Code.cond (Operand.tmp 16) (Code.seq (Code.region 6 (reg Try.f28 6) false) Code.ret) Code.skip)) (Code.region 7 (reg Try.f28 7) false)))) (Code.region 8 (reg Try.f28 8) false))))
noncomputable def tx_unlike.code : Code := (Code.seq (Code.region 0 (reg Try.f28 0) false) (Code.seq (Code.region 1 (reg Try.f28 1) false) (Code.seq (Code.seq (Code.region 2 (reg Try.f28 2) false) (Code.block 0 (Code.loop tx_unlike.loop1))) (Code.seq (Code.region 9 (reg Try.f28 9) false) Code.ret))))
theorem tx_unlike.body : Try.f28.body = some tx_unlike.code := by kernel_rfl
theorem tx_unlike.eta {T : List Value} (h : T.length = 24) : T = [T.getD 0 undef,T.getD 1 undef,T.getD 2 undef,T.getD 3 undef,T.getD 4 undef,T.getD 5 undef,T.getD 6 undef,T.getD 7 undef,T.getD 8 undef,T.getD 9 undef,T.getD 10 undef,T.getD 11 undef,T.getD 12 undef,T.getD 13 undef,T.getD 14 undef,T.getD 15 undef,T.getD 16 undef,T.getD 17 undef,T.getD 18 undef,T.getD 19 undef,T.getD 20 undef,T.getD 21 undef,T.getD 22 undef,T.getD 23 undef] := (list_getD T 24 h).trans (by kernel_rfl)
theorem tx_unlike.list {T : List Value} (h : T.length = 24) : ∃ x0 x1 x2 x3 x4 x5 x6 x7 x8 x9 x10 x11 x12 x13 x14 x15 x16 x17 x18 x19 x20 x21 x22 x23, T = [x0,x1,x2,x3,x4,x5,x6,x7,x8,x9,x10,x11,x12,x13,x14,x15,x16,x17,x18,x19,x20,x21,x22,x23] := ⟨_, _, _, _, _, _, _, _, _, _, _, _, _, _, _, _, _, _, _, _, _, _, _, _, tx_unlike.eta h⟩
variable (x0 x1 x2 x3 x4 x5 x6 x7 x8 x9 x10 x11 x12 x13 x14 x15 x16 x17 x18 x19 x20 x21 x22 x23 : Value) (S : AHeap)
theorem tx_unlike.r0  : vOps Try.prog ⟨false, false, false⟩ (vlim Try.prog O) (reg Try.f28 0) (reg Try.f28 0).toList ([x0,x1,x2,x3,x4,x5,x6,x7,x8,x9,x10,x11,x12,x13,x14,x15,x16,x17,x18,x19,x20,x21,x22,x23]) S =
    ( some ([x0,x1,Value.bool false,x3,x4,x5,x6,x7,x8,x9,x10,x11,x12,x13,x14,x15,x16,x17,x18,x19,x20,x21,x22,x23], S)) := by
  refine sP Try.f28 0 0 (v := (Value.bool false)) ?_
  kernel_rfl
theorem tx_unlike.r1  : vOps Try.prog ⟨false, false, false⟩ (vlim Try.prog O) (reg Try.f28 1) (reg Try.f28 1).toList ([x0,x1,x2,x3,x4,x5,x6,x7,x8,x9,x10,x11,x12,x13,x14,x15,x16,x17,x18,x19,x20,x21,x22,x23]) S =
    (andK (aMakeMap Try.prog 63 none S) (fun v0 S1 => some ([x0,x1,x2,v0,x4,x5,dem v0,x7,x8,x9,x10,x11,x12,x13,x14,x15,x16,x17,x18,x19,x20,x21,x22,x23], S1)) ()) := by
  refine sD Try.f28 1 0 (fun v0 S1 => ?_)
  refine sP Try.f28 1 1 (v := v0) ?_
  kernel_rfl
theorem tx_unlike.r2  : vOps Try.prog ⟨false, false, false⟩ (vlim Try.prog O) (reg Try.f28 2) (reg Try.f28 2).toList ([x0,x1,x2,x3,x4,x5,x6,x7,x8,x9,x10,x11,x12,x13,x14,x15,x16,x17,x18,x19,x20,x21,x22,x23]) S =
    (andK (vLen Try.prog 34 (dem x0) S) (fun v1 S1 => some ([x0,x1,x2,x3,x4,x5,x6,dem x0,v1,Value.int IntKind.i64 0,x10,x11,x12,x13,x14,x15,x16,x17,x18,x19,x20,x21,x22,x23], S1)) ()) := by
  refine sP Try.f28 2 0 (v := x0) ?_
  refine sD Try.f28 2 1 (fun v1 S1 => ?_)
  refine sP Try.f28 2 2 (v := (Value.int IntKind.i64 0)) ?_
  kernel_rfl
theorem tx_unlike.r3  : vOps Try.prog ⟨false, false, false⟩ (vlim Try.prog O) (reg Try.f28 3) (reg Try.f28 3).toList ([x0,x1,x2,x3,x4,x5,x6,x7,x8,x9,x10,x11,x12,x13,x14,x15,x16,x17,x18,x19,x20,x21,x22,x23]) S =
    (andK (vBin Try.prog BinOp.lss 3 x9 x8 S) (fun v0 S1 => some ([x0,x1,x2,x3,x4,x5,x6,x7,x8,x9,v0,x11,x12,x13,x14,x15,x16,x17,x18,x19,x20,x21,x22,x23], S1)) ()) := by
  refine sD Try.f28 3 0 (fun v0 S1 => ?_)
  kernel_rfl
theorem tx_unlike.r4  : vOps Try.prog ⟨false, false, false⟩ (vlim Try.prog O) (reg Try.f28 4) (reg Try.f28 4).toList ([x0,x1,x2,x3,x4,x5,x6,x7,x8,x9,x10,x11,x12,x13,x14,x15,x16,x17,x18,x19,x20,x21,x22,x23]) S =
    (andK (vIndexAddr Try.prog 34 x7 x9 S) (fun v0 S1 => andK (vLoad Try.prog false 23 v0 S1) (fun v1 S2 => andK (aAlloc Try.prog 23 S2) (fun v2 S3 => andK (vStore Try.prog 23 v2 (dem v1) S3) (fun v3 S4 => some ([x0,x1,x2,x3,x4,v2,x6,x7,x8,x9,x10,v0,v1,x13,x14,x15,x16,x17,x18,x19,x20,x21,x22,x23], S4)) ()) ()) ()) ()) := by
  refine sD Try.f28 4 0 (fun v0 S1 => ?_)
  refine sD Try.f28 4 1 (fun v1 S2 => ?_)
  refine sD Try.f28 4 2 (fun v2 S3 => ?_)
  refine sD Try.f28 4 3 (fun v3 S4 => ?_)
  kernel_rfl
theorem tx_unlike.r5  : vOps Try.prog ⟨false, false, false⟩ (vlim Try.prog O) (reg Try.f28 5) (reg Try.f28 5).toList ([x0,x1,x2,x3,x4,x5,x6,x7,x8,x9,x10,x11,x12,x13,x14,x15,x16,x17,x18,x19,x20,x21,x22,x23]) S =
    (andK (vFieldAddr Try.prog 23 x5 0 S) (fun v1 S1 => andK (vLoad Try.prog false 3 v1 S1) (fun v2 S2 => andK (vLookup Try.prog false 63 (dem x3) v2 false S2) (fun v3 S3 => some ([x0,x1,x2,x3,x4,x5,x6,x7,x8,x9,x10,x11,x12,dem x3,v1,v2,v3,x17,x18,x19,x20,x21,x22,x23], S3)) ()) ()) ()) := by
  refine sP Try.f28 5 0 (v := x3) ?_
  refine sD Try.f28 5 1 (fun v1 S1 => ?_)
  refine sD Try.f28 5 2 (fun v2 S2 => ?_)
  refine sD Try.f28 5 3 (fun v3 S3 => ?_)
  kernel_rfl
theorem tx_unlike.r6  : vOps Try.prog ⟨false, false, false⟩ (vlim Try.prog O) (reg Try.f28 6) (reg Try.f28 6).toList ([x0,x1,x2,x3,x4,x5,x6,x7,x8,x9,x10,x11,x12,x13,x14,x15,x16,x17,x18,x19,x20,x21,x22,x23]) S =
    ( some ([x0,x1,Value.bool false,x3,x4,x5,x6,x7,x8,x9,x10,x11,x12,x13,x14,x15,x16,x17,x18,x19,x20,x21,x22,x23], S)) := by
  refine sP Try.f28 6 0 (v := (Value.bool false)) ?_
  kernel_rfl
theorem tx_unlike.r7  : vOps Try.prog ⟨false, false, false⟩ (vlim Try.prog O) (reg Try.f28 7) (reg Try.f28 7).toList ([x0,x1,x2,x3,x4,x5,x6,x7,x8,x9,x10,x11,x12,x13,x14,x15,x16,x17,x18,x19,x20,x21,x22,x23]) S =
    (andK (vFieldAddr Try.prog 23 x5 0 S) (fun v1 S1 => andK (vLoad Try.prog false 3 v1 S1) (fun v2 S2 => andK (aMapUpdate Try.prog 63 (dem x3) v2 (Value.bool true) S2) (fun v3 S3 => some ([x0,x1,x2,x3,x4,x5,x6,x7,x8,x9,x10,x11,x12,x13,x14,x15,x16,dem x3,v1,v2,x20,x21,x22,x23], S3)) ()) ()) ()) := by
  refine sP Try.f28 7 0 (v := x3) ?_
  refine sD Try.f28 7 1 (fun v1 S1 => ?_)
  refine sD Try.f28 7 2 (fun v2 S2 => ?_)
  refine sD Try.f28 7 3 (fun v3 S3 => ?_)
  kernel_rfl
theorem tx_unlike.r8  : vOps Try.prog ⟨false, false, false⟩ (vlim Try.prog O) (reg Try.f28 8) (reg Try.f28 8).toList ([x0,x1,x2,x3,x4,x5,x6,x7,x8,x9,x10,x11,x12,x13,x14,x15,x16,x17,x18,x19,x20,x21,x22,x23]) S =
    (andK (vBin Try.prog BinOp.add 3 x9 (Value.int IntKind.i64 1) S) (fun v0 S1 => some ([x0,x1,x2,x3,x4,x5,x6,x7,x8,dem v0,x10,x11,x12,x13,x14,x15,x16,x17,x18,x19,v0,x21,x22,x23], S1)) ()) := by
  refine sD Try.f28 8 0 (fun v0 S1 => ?_)
  refine sP Try.f28 8 1 (v := v0) ?_
  kernel_rfl
theorem tx_unlike.r9  : vOps Try.prog ⟨false, false, false⟩ (vlim Try.prog O) (reg Try.f28 9) (reg Try.f28 9).toList ([x0,x1,x2,x3,x4,x5,x6,x7,x8,x9,x10,x11,x12,x13,x14,x15,x16,x17,x18,x19,x20,x21,x22,x23]) S =
    (andK (vLen Try.prog 34 (dem x0) S) (fun v1 S1 => andK (vBin Try.prog BinOp.leq 3 v1 (Value.int IntKind.i64 3) S1) (fun v2 S2 => some ([x0,x1,v2,x3,x4,x5,x6,x7,x8,x9,x10,x11,x12,x13,x14,x15,x16,x17,x18,x19,x20,dem x0,v1,dem v2], S2)) ()) ()) := by
  refine sP Try.f28 9 0 (v := x0) ?_
  refine sD Try.f28 9 1 (fun v1 S1 => ?_)
  refine sD Try.f28 9 2 (fun v2 S2 => ?_)
  refine sP Try.f28 9 3 (v := v2) ?_
  kernel_rfl
theorem tx_unlike.rs : type_of% (And.intro @tx_unlike.r0 (And.intro @tx_unlike.r1 (And.intro @tx_unlike.r2 (And.intro @tx_unlike.r3 (And.intro @tx_unlike.r4 (And.intro @tx_unlike.r5 (And.intro @tx_unlike.r6 (And.intro @tx_unlike.r7 (And.intro @tx_unlike.r8 (@tx_unlike.r9)))))))))) := And.intro @tx_unlike.r0 (And.intro @tx_unlike.r1 (And.intro @tx_unlike.r2 (And.intro @tx_unlike.r3 (And.intro @tx_unlike.r4 (And.intro @tx_unlike.r5 (And.intro @tx_unlike.r6 (And.intro @tx_unlike.r7 (And.intro @tx_unlike.r8 (@tx_unlike.r9)))))))))
theorem tx_unlike.runs {x0 : Value} {S S1 : AHeap} {e : AEx} {T : List Value} (h : vcodeV Try.prog O false tx_unlike.code ([x0,undef,undef,undef,undef,undef,undef,undef,undef,undef,undef,undef,undef,undef,undef,undef,undef,undef,undef,undef,undef,undef,undef,undef]) AHeap.empty = some (e, T, S1)) (he : e = .normal ∨ e = .ret) (hca : [x0].all (cleanN 16) = true) (hcv : cleanN 16 (T.getD 2 undef) = true) : vlim Try.prog O 28 [x0] S = some (T.getD 2 undef, S) :=
  vlim_pure rfl rfl Try.func28 (by decide) tx_unlike.body (by exact h) he (vRes_one (a := T.getD 2 undef) ((show vResVals Try.prog T S1 Try.f28.results.toList = vResVals Try.prog T S1 [(ResultVar.tmp 2)] from by kernel_rfl).trans (by simp only [vResVals])) (by kernel_rfl)) hca hcv
end Go.Proofs.Ytfnlcbgijkakiaa

namespace Go.Proofs.Ytfnlcbgijkakiaa
open Go.Abs

/-- neaptide.tx.List -/
abbrev tx_List.id : FuncId := 17
noncomputable def tx_List.loop1 : Code := (Code.seq (Code.region 5 (reg Try.f17 5) false) (Code.seq (Code.cond (Operand.tmp 23) Code.skip (Code.exit 0)) (Code.seq (Code.block 1 (Code.seq (Code.region 6 (reg Try.f17 6) false) (Code.seq (Code.region 7 (reg Try.f17 7) false) (Code.seq (Code.seq (Code.region 8 (reg Try.f17 8) false) (Code.cond (Operand.tmp 32) (Code.seq (Code.region 9 (reg Try.f17 9) false) Code.ret) Code.skip)) (Code.region 10 (reg Try.f17 10) false))))) (Code.region 11 (reg Try.f17 11) false))))
noncomputable def tx_List.code : Code := (Code.seq (Code.region 0 (reg Try.f17 0) false) (Code.seq (Code.seq (Code.region 1 (reg Try.f17 1) false) (Code.cond (Operand.tmp 12) (Code.seq (Code.region 2 (reg Try.f17 2) false) Code.ret) Code.skip)) (Code.seq (Code.region 3 (reg Try.f17 3) false) (Code.seq (Code.seq (Code.region 4 (reg Try.f17 4) false) (Code.block 0 (Code.loop tx_List.loop1))) (Code.seq (Code.region 12 (reg Try.f17 12) false) Code.ret)))))
theorem tx_List.body : Try.f17.body = some tx_List.code := by kernel_rfl
theorem tx_List.eta {T : List Value} (h : T.length = 39) : T = [T.getD 0 undef,T.getD 1 undef,T.getD 2 undef,T.getD 3 undef,T.getD 4 undef,T.getD 5 undef,T.getD 6 undef,T.getD 7 undef,T.getD 8 undef,T.getD 9 undef,T.getD 10 undef,T.getD 11 undef,T.getD 12 undef,T.getD 13 undef,T.getD 14 undef,T.getD 15 undef,T.getD 16 undef,T.getD 17 undef,T.getD 18 undef,T.getD 19 undef,T.getD 20 undef,T.getD 21 undef,T.getD 22 undef,T.getD 23 undef,T.getD 24 undef,T.getD 25 undef,T.getD 26 undef,T.getD 27 undef,T.getD 28 undef,T.getD 29 undef,T.getD 30 undef,T.getD 31 undef,T.getD 32 undef,T.getD 33 undef,T.getD 34 undef,T.getD 35 undef,T.getD 36 undef,T.getD 37 undef,T.getD 38 undef] := (list_getD T 39 h).trans (by kernel_rfl)
theorem tx_List.list {T : List Value} (h : T.length = 39) : ∃ x0 x1 x2 x3 x4 x5 x6 x7 x8 x9 x10 x11 x12 x13 x14 x15 x16 x17 x18 x19 x20 x21 x22 x23 x24 x25 x26 x27 x28 x29 x30 x31 x32 x33 x34 x35 x36 x37 x38, T = [x0,x1,x2,x3,x4,x5,x6,x7,x8,x9,x10,x11,x12,x13,x14,x15,x16,x17,x18,x19,x20,x21,x22,x23,x24,x25,x26,x27,x28,x29,x30,x31,x32,x33,x34,x35,x36,x37,x38] := ⟨_, _, _, _, _, _, _, _, _, _, _, _, _, _, _, _, _, _, _, _, _, _, _, _, _, _, _, _, _, _, _, _, _, _, _, _, _, _, _, tx_List.eta h⟩
variable (x0 x1 x2 x3 x4 x5 x6 x7 x8 x9 x10 x11 x12 x13 x14 x15 x16 x17 x18 x19 x20 x21 x22 x23 x24 x25 x26 x27 x28 x29 x30 x31 x32 x33 x34 x35 x36 x37 x38 : Value) (S : AHeap)
theorem tx_List.r0  : vOps Try.prog ⟨false, false, false⟩ (vlim Try.prog O) (reg Try.f17 0) (reg Try.f17 0).toList ([x0,x1,x2,x3,x4,x5,x6,x7,x8,x9,x10,x11,x12,x13,x14,x15,x16,x17,x18,x19,x20,x21,x22,x23,x24,x25,x26,x27,x28,x29,x30,x31,x32,x33,x34,x35,x36,x37,x38]) S =
    ( some ([x0,x1,Value.slice none 0 0,Value.int IntKind.i64 0,x4,x5,x6,x7,x8,x9,x10,x11,x12,x13,x14,x15,x16,x17,x18,x19,x20,x21,x22,x23,x24,x25,x26,x27,x28,x29,x30,x31,x32,x33,x34,x35,x36,x37,x38], S)) := by
  refine sP Try.f17 0 0 (v := (Value.slice none 0 0)) ?_
  refine sP Try.f17 0 1 (v := (Value.int IntKind.i64 0)) ?_
  kernel_rfl
theorem tx_List.r1  : vOps Try.prog ⟨false, false, false⟩ (vlim Try.prog O) (reg Try.f17 1) (reg Try.f17 1).toList ([x0,x1,x2,x3,x4,x5,x6,x7,x8,x9,x10,x11,x12,x13,x14,x15,x16,x17,x18,x19,x20,x21,x22,x23,x24,x25,x26,x27,x28,x29,x30,x31,x32,x33,x34,x35,x36,x37,x38]) S =
    (andK ((vlim Try.prog O) 28 [(dem (dem x0))] S) (fun v1 S1 => andK (aUn Try.prog UnOp.not v1 S1) (fun v2 S2 => some ([x0,x1,x2,x3,x4,x5,x6,x7,x8,x9,dem x0,v1,v2,x13,x14,x15,x16,x17,x18,x19,x20,x21,x22,x23,x24,x25,x26,x27,x28,x29,x30,x31,x32,x33,x34,x35,x36,x37,x38], S2)) ()) ()) := by
  refine sP Try.f17 1 0 (v := x0) ?_
  refine sD Try.f17 1 1 (fun v1 S1 => ?_)
  refine sD Try.f17 1 2 (fun v2 S2 => ?_)
  kernel_rfl
theorem tx_List.r2  : vOps Try.prog ⟨false, false, false⟩ (vlim Try.prog O) (reg Try.f17 2) (reg Try.f17 2).toList ([x0,x1,x2,x3,x4,x5,x6,x7,x8,x9,x10,x11,x12,x13,x14,x15,x16,x17,x18,x19,x20,x21,x22,x23,x24,x25,x26,x27,x28,x29,x30,x31,x32,x33,x34,x35,x36,x37,x38]) S =
    ( some ([x0,x1,Value.slice none 0 0,Value.int IntKind.i64 61,x4,x5,x6,x7,x8,x9,x10,x11,x12,x13,x14,x15,x16,x17,x18,x19,x20,x21,x22,x23,x24,x25,x26,x27,x28,x29,x30,x31,x32,x33,x34,x35,x36,x37,x38], S)) := by
  refine sP Try.f17 2 0 (v := (Value.slice none 0 0)) ?_
  refine sP Try.f17 2 1 (v := (Value.int IntKind.i64 61)) ?_
  kernel_rfl
theorem tx_List.r3  : vOps Try.prog ⟨false, false, false⟩ (vlim Try.prog O) (reg Try.f17 3) (reg Try.f17 3).toList ([x0,x1,x2,x3,x4,x5,x6,x7,x8,x9,x10,x11,x12,x13,x14,x15,x16,x17,x18,x19,x20,x21,x22,x23,x24,x25,x26,x27,x28,x29,x30,x31,x32,x33,x34,x35,x36,x37,x38]) S =
    (andK (vLen Try.prog 34 (dem x0) S) (fun v1 S1 => andK (vBuildSlice Try.prog 51 1 [(0, v1)] S1) (fun v2 S2 => andK ((vlim Try.prog O) 24 [(dem v2)] S2) (fun v3 S3 => andK (aExtract v3 0 S3) (fun v5 S4 => andK (aExtract (demPart 0 v3) 1 S4) (fun v6 S5 => some ([x0,x1,x2,x3,v5,v6,x6,x7,x8,x9,x10,x11,x12,demPart 1 (demPart 0 v3),dem x0,v1,v2,dem v3,dem v5,dem v6,x20,x21,x22,x23,x24,x25,x26,x27,x28,x29,x30,x31,x32,x33,x34,x35,x36,x37,x38], S5)) ()) ()) ()) ()) ()) := by
  refine sP Try.f17 3 0 (v := x0) ?_
  refine sD Try.f17 3 1 (fun v1 S1 => ?_)
  refine sD Try.f17 3 2 (fun v2 S2 => ?_)
  refine sD Try.f17 3 3 (fun v3 S3 => ?_)
  refine sP Try.f17 3 4 (v := v3) ?_
  refine sD Try.f17 3 5 (fun v5 S4 => ?_)
  refine sD Try.f17 3 6 (fun v6 S5 => ?_)
  refine sP Try.f17 3 7 (v := v5) ?_
  refine sP Try.f17 3 8 (v := v6) ?_
  kernel_rfl
theorem tx_List.r4  : vOps Try.prog ⟨false, false, false⟩ (vlim Try.prog O) (reg Try.f17 4) (reg Try.f17 4).toList ([x0,x1,x2,x3,x4,x5,x6,x7,x8,x9,x10,x11,x12,x13,x14,x15,x16,x17,x18,x19,x20,x21,x22,x23,x24,x25,x26,x27,x28,x29,x30,x31,x32,x33,x34,x35,x36,x37,x38]) S =
    (andK (vLen Try.prog 34 (dem x0) S) (fun v1 S1 => some ([x0,x1,x2,x3,x4,x5,x6,x7,x8,x9,x10,x11,x12,x13,x14,x15,x16,x17,x18,x19,dem x0,v1,Value.int IntKind.i64 0,x23,x24,x25,x26,x27,x28,x29,x30,x31,x32,x33,x34,x35,x36,x37,x38], S1)) ()) := by
  refine sP Try.f17 4 0 (v := x0) ?_
  refine sD Try.f17 4 1 (fun v1 S1 => ?_)
  refine sP Try.f17 4 2 (v := (Value.int IntKind.i64 0)) ?_
  kernel_rfl
theorem tx_List.r5  : vOps Try.prog ⟨false, false, false⟩ (vlim Try.prog O) (reg Try.f17 5) (reg Try.f17 5).toList ([x0,x1,x2,x3,x4,x5,x6,x7,x8,x9,x10,x11,x12,x13,x14,x15,x16,x17,x18,x19,x20,x21,x22,x23,x24,x25,x26,x27,x28,x29,x30,x31,x32,x33,x34,x35,x36,x37,x38]) S =
    (andK (vBin Try.prog BinOp.lss 3 x22 x21 S) (fun v0 S1 => some ([x0,x1,x2,x3,x4,x5,x6,x7,x8,x9,x10,x11,x12,x13,x14,x15,x16,x17,x18,x19,x20,x21,x22,v0,x24,x25,x26,x27,x28,x29,x30,x31,x32,x33,x34,x35,x36,x37,x38], S1)) ()) := by
  refine sD Try.f17 5 0 (fun v0 S1 => ?_)
  kernel_rfl
theorem tx_List.r6  : vOps Try.prog ⟨false, false, false⟩ (vlim Try.prog O) (reg Try.f17 6) (reg Try.f17 6).toList ([x0,x1,x2,x3,x4,x5,x6,x7,x8,x9,x10,x11,x12,x13,x14,x15,x16,x17,x18,x19,x20,x21,x22,x23,x24,x25,x26,x27,x28,x29,x30,x31,x32,x33,x34,x35,x36,x37,x38]) S =
    (andK (vIndexAddr Try.prog 34 x20 x22 S) (fun v0 S1 => andK (vLoad Try.prog false 23 v0 S1) (fun v1 S2 => andK (aAlloc Try.prog 23 S2) (fun v2 S3 => andK (vStore Try.prog 23 v2 (dem v1) S3) (fun v3 S4 => some ([x0,x1,x2,x3,x4,x5,x6,v2,x8,x9,x10,x11,x12,x13,x14,x15,x16,x17,x18,x19,x20,x21,x22,x23,v0,v1,x26,x27,x28,x29,x30,x31,x32,x33,x34,x35,x36,x37,x38], S4)) ()) ()) ()) ()) := by
  refine sD Try.f17 6 0 (fun v0 S1 => ?_)
  refine sD Try.f17 6 1 (fun v1 S2 => ?_)
  refine sD Try.f17 6 2 (fun v2 S3 => ?_)
  refine sD Try.f17 6 3 (fun v3 S4 => ?_)
  kernel_rfl
theorem tx_List.r7  : vOps Try.prog ⟨false, false, false⟩ (vlim Try.prog O) (reg Try.f17 7) (reg Try.f17 7).toList ([x0,x1,x2,x3,x4,x5,x6,x7,x8,x9,x10,x11,x12,x13,x14,x15,x16,x17,x18,x19,x20,x21,x22,x23,x24,x25,x26,x27,x28,x29,x30,x31,x32,x33,x34,x35,x36,x37,x38]) S =
    (andK (vLoad Try.prog false 23 x7 S) (fun v0 S1 => andK ((vlim Try.prog O) 10 [(dem v0)] S1) (fun v1 S2 => andK (aExtract v1 0 S2) (fun v3 S3 => andK (aExtract (demPart 0 v1) 1 S3) (fun v4 S4 => some ([x0,x1,x2,x3,x4,x5,x6,x7,v3,v4,x10,x11,x12,x13,x14,x15,x16,x17,x18,x19,x20,x21,x22,x23,x24,x25,demPart 1 (demPart 0 v1),v0,dem v1,dem v3,dem v4,x31,x32,x33,x34,x35,x36,x37,x38], S4)) ()) ()) ()) ()) := by
  refine sD Try.f17 7 0 (fun v0 S1 => ?_)
  refine sD Try.f17 7 1 (fun v1 S2 => ?_)
  refine sP Try.f17 7 2 (v := v1) ?_
  refine sD Try.f17 7 3 (fun v3 S3 => ?_)
  refine sD Try.f17 7 4 (fun v4 S4 => ?_)
  refine sP Try.f17 7 5 (v := v3) ?_
  refine sP Try.f17 7 6 (v := v4) ?_
  kernel_rfl
theorem tx_List.r8  : vOps Try.prog ⟨false, false, false⟩ (vlim Try.prog O) (reg Try.f17 8) (reg Try.f17 8).toList ([x0,x1,x2,x3,x4,x5,x6,x7,x8,x9,x10,x11,x12,x13,x14,x15,x16,x17,x18,x19,x20,x21,x22,x23,x24,x25,x26,x27,x28,x29,x30,x31,x32,x33,x34,x35,x36,x37,x38]) S =
    (andK (vBin Try.prog BinOp.neq 25 (dem x9) (Value.int IntKind.i64 0) S) (fun v1 S1 => some ([x0,x1,x2,x3,x4,x5,x6,x7,x8,x9,x10,x11,x12,x13,x14,x15,x16,x17,x18,x19,x20,x21,x22,x23,x24,x25,x26,x27,x28,x29,x30,dem x9,v1,x33,x34,x35,x36,x37,x38], S1)) ()) := by
  refine sP Try.f17 8 0 (v := x9) ?_
  refine sD Try.f17 8 1 (fun v1 S1 => ?_)
  kernel_rfl
theorem tx_List.r9  : vOps Try.prog ⟨false, false, false⟩ (vlim Try.prog O) (reg Try.f17 9) (reg Try.f17 9).toList ([x0,x1,x2,x3,x4,x5,x6,x7,x8,x9,x10,x11,x12,x13,x14,x15,x16,x17,x18,x19,x20,x21,x22,x23,x24,x25,x26,x27,x28,x29,x30,x31,x32,x33,x34,x35,x36,x37,x38]) S =
    ( some ([x0,x1,Value.slice none 0 0,x9,x4,x5,x6,x7,x8,dem x9,x10,x11,x12,x13,x14,x15,x16,x17,x18,x19,x20,x21,x22,x23,x24,x25,x26,x27,x28,x29,x30,x31,x32,dem x9,x34,x35,x36,x37,x38], S)) := by
  refine sP Try.f17 9 0 (v := x9) ?_
  refine sP Try.f17 9 1 (v := (Value.slice none 0 0)) ?_
  refine sP Try.f17 9 2 (v := x9) ?_
  kernel_rfl
theorem tx_List.r10  : vOps Try.prog ⟨false, false, false⟩ (vlim Try.prog O) (reg Try.f17 10) (reg Try.f17 10).toList ([x0,x1,x2,x3,x4,x5,x6,x7,x8,x9,x10,x11,x12,x13,x14,x15,x16,x17,x18,x19,x20,x21,x22,x23,x24,x25,x26,x27,x28,x29,x30,x31,x32,x33,x34,x35,x36,x37,x38]) S =
    (andK (vAppend Try.prog 24 24 x4 (dem x8) S) (fun v2 S1 => some ([x0,x1,x2,x3,v2,x5,x6,x7,x8,x9,x10,x11,x12,x13,x14,x15,x16,x17,x18,x19,x20,x21,x22,x23,x24,x25,x26,x27,x28,x29,x30,x31,x32,x33,dem x4,dem x8,dem v2,x37,x38], S1)) ()) := by
  refine sP Try.f17 10 0 (v := x4) ?_
  refine sP Try.f17 10 1 (v := x8) ?_
  refine sD Try.f17 10 2 (fun v2 S1 => ?_)
  refine sP Try.f17 10 3 (v := v2) ?_
  kernel_rfl
theorem tx_List.r11  : vOps Try.prog ⟨false, false, false⟩ (vlim Try.prog O) (reg Try.f17 11) (reg Try.f17 11).toList ([x0,x1,x2,x3,x4,x5,x6,x7,x8,x9,x10,x11,x12,x13,x14,x15,x16,x17,x18,x19,x20,x21,x22,x23,x24,x25,x26,x27,x28,x29,x30,x31,x32,x33,x34,x35,x36,x37,x38]) S =
    (andK (vBin Try.prog BinOp.add 3 x22 (Value.int IntKind.i64 1) S) (fun v0 S1 => some ([x0,x1,x2,x3,x4,x5,x6,x7,x8,x9,x10,x11,x12,x13,x14,x15,x16,x17,x18,x19,x20,x21,dem v0,x23,x24,x25,x26,x27,x28,x29,x30,x31,x32,x33,x34,x35,x36,v0,x38], S1)) ()) := by
  refine sD Try.f17 11 0 (fun v0 S1 => ?_)
  refine sP Try.f17 11 1 (v := v0) ?_
  kernel_rfl
theorem tx_List.r12  : vOps Try.prog ⟨false, false, false⟩ (vlim Try.prog O) (reg Try.f17 12) (reg Try.f17 12).toList ([x0,x1,x2,x3,x4,x5,x6,x7,x8,x9,x10,x11,x12,x13,x14,x15,x16,x17,x18,x19,x20,x21,x22,x23,x24,x25,x26,x27,x28,x29,x30,x31,x32,x33,x34,x35,x36,x37,x38]) S =
    ( some ([x0,x1,x4,Value.int IntKind.i64 0,dem x4,x5,x6,x7,x8,x9,x10,x11,x12,x13,x14,x15,x16,x17,x18,x19,x20,x21,x22,x23,x24,x25,x26,x27,x28,x29,x30,x31,x32,x33,x34,x35,x36,x37,dem x4], S)) := by
  refine sP Try.f17 12 0 (v := x4) ?_
  refine sP Try.f17 12 1 (v := x4) ?_
  refine sP Try.f17 12 2 (v := (Value.int IntKind.i64 0)) ?_
  kernel_rfl
theorem tx_List.rs : type_of% (And.intro @tx_List.r0 (And.intro @tx_List.r1 (And.intro @tx_List.r2 (And.intro @tx_List.r3 (And.intro @tx_List.r4 (And.intro @tx_List.r5 (And.intro @tx_List.r6 (And.intro @tx_List.r7 (And.intro @tx_List.r8 (And.intro @tx_List.r9 (And.intro @tx_List.r10 (And.intro @tx_List.r11 (@tx_List.r12))))))))))))) := And.intro @tx_List.r0 (And.intro @tx_List.r1 (And.intro @tx_List.r2 (And.intro @tx_List.r3 (And.intro @tx_List.r4 (And.intro @tx_List.r5 (And.intro @tx_List.r6 (And.intro @tx_List.r7 (And.intro @tx_List.r8 (And.intro @tx_List.r9 (And.intro @tx_List.r10 (And.intro @tx_List.r11 (@tx_List.r12))))))))))))
theorem tx_List.runs {x0 : Value} {S S1 : AHeap} {e : AEx} {T : List Value} (h : vcodeV Try.prog O false tx_List.code ([x0,undef,undef,undef,undef,undef,undef,undef,undef,undef,undef,undef,undef,undef,undef,undef,undef,undef,undef,undef,undef,undef,undef,undef,undef,undef,undef,undef,undef,undef,undef,undef,undef,undef,undef,undef,undef,undef,undef]) AHeap.empty = some (e, T, S1)) (he : e = .normal ∨ e = .ret)  (h0 : notTuple (T.getD 2 undef) = true) (h1 : notTuple (T.getD 3 undef) = true) (hca : [x0].all (cleanN 16) = true) (hcv : cleanN 16 (Value.tuple #[T.getD 2 undef, T.getD 3 undef]) = true) : vlim Try.prog O 17 [x0] S = some (Value.tuple #[T.getD 2 undef, T.getD 3 undef], S) :=
  vlim_pure rfl rfl Try.func17 (by decide) tx_List.body (by exact h) he ((vRes_many ((show vResVals Try.prog T S1 Try.f17.results.toList = vResVals Try.prog T S1 [(ResultVar.tmp 2), (ResultVar.tmp 3)] from by kernel_rfl).trans (by simp only [vResVals])) (by kernel_rfl) (by simp only [List.all_cons, List.all_nil, h0, h1, Bool.and_true])).trans rfl) hca hcv
end Go.Proofs.Ytfnlcbgijkakiaa

namespace Go.Proofs.Ytfnlcbgijkakiaa
open Go.Abs

/-- neaptide.neaptideref06.List -/
abbrev neaptideref06_List.id : FuncId := 18
noncomputable def neaptideref06_List.loop1 : Code := (Code.seq (Code.region 10 (reg Try.f18 10) false) (Code.seq (Code.cond (Operand.tmp 30) Code.skip (Code.exit 2)) (Code.seq (Code.block 3 (Code.seq (Code.region 11 (reg Try.f18 11) false) (Code.seq (Code.region 12 (reg Try.f18 12) false) (Code.cond (Operand.tmp 37) (Code.seq (Code.region 13 (reg Try.f18 13) false) Code.ret) Code.skip)))) (Code.region 14 (reg Try.f18 14) false))))
noncomputable def neaptideref06_List.loop2 : Code := (Code.seq (Code.region 5 (reg Try.f18 5) false) (Code.seq (Code.cond (Operand.tmp 18) Code.skip (Code.exit 0)) (Code.seq (Code.block 1 (Code.seq (Code.region 6 (reg Try.f18 6) false) (Code.seq (Code.seq (Code.region 7 (reg Try.f18 7) false) (Code.cond (Operand.tmp 24) (Code.seq (Code.region 8 (reg Try.f18 8) false) Code.ret) Code.skip)) (Code.seq (Code.seq (Code.region 9 (reg Try.f18 9) false) (Code.block 2 (Code.loop neaptideref06_List.loop1))) (Code.region 15 (reg Try.f18 15) false))))) (Code.region 16 (reg Try.f18 16) false))))
noncomputable def neaptideref06_List.code : Code := (Code.seq (Code.region 0 (reg Try.f18 0) false) (Code.seq (Code.seq (Code.region 1 (reg Try.f18 1) false) (Code.cond (Operand.tmp 11) (Code.seq (Code.region 2 (reg Try.f18 2) false) Code.ret) Code.skip)) (Code.seq (Code.region 3 (reg Try.f18 3) false) (Code.seq (Code.seq (Code.region 4 (reg Try.f18 4) false) (Code.block 0 (Code.loop neaptideref06_List.loop2))) (Code.seq (Code.region 17 (reg Try.f18 17) false) Code.ret)))))
theorem neaptideref06_List.body : Try.f18.body = some neaptideref06_List.code := by kernel_rfl
theorem neaptideref06_List.eta {T : List Value} (h : T.length = 51) : T = [T.getD 0 undef,T.getD 1 undef,T.getD 2 undef,T.getD 3 undef,T.getD 4 undef,T.getD 5 undef,T.getD 6 undef,T.getD 7 undef,T.getD 8 undef,T.getD 9 undef,T.getD 10 undef,T.getD 11 undef,T.getD 12 undef,T.getD 13 undef,T.getD 14 undef,T.getD 15 undef,T.getD 16 undef,T.getD 17 undef,T.getD 18 undef,T.getD 19 undef,T.getD 20 undef,T.getD 21 undef,T.getD 22 undef,T.getD 23 undef,T.getD 24 undef,T.getD 25 undef,T.getD 26 undef,T.getD 27 undef,T.getD 28 undef,T.getD 29 undef,T.getD 30 undef,T.getD 31 undef,T.getD 32 undef,T.getD 33 undef,T.getD 34 undef,T.getD 35 undef,T.getD 36 undef,T.getD 37 undef,T.getD 38 undef,T.getD 39 undef,T.getD 40 undef,T.getD 41 undef,T.getD 42 undef,T.getD 43 undef,T.getD 44 undef,T.getD 45 undef,T.getD 46 undef,T.getD 47 undef,T.getD 48 undef,T.getD 49 undef,T.getD 50 undef] := (list_getD T 51 h).trans (by kernel_rfl)
theorem neaptideref06_List.list {T : List Value} (h : T.length = 51) : ∃ x0 x1 x2 x3 x4 x5 x6 x7 x8 x9 x10 x11 x12 x13 x14 x15 x16 x17 x18 x19 x20 x21 x22 x23 x24 x25 x26 x27 x28 x29 x30 x31 x32 x33 x34 x35 x36 x37 x38 x39 x40 x41 x42 x43 x44 x45 x46 x47 x48 x49 x50, T = [x0,x1,x2,x3,x4,x5,x6,x7,x8,x9,x10,x11,x12,x13,x14,x15,x16,x17,x18,x19,x20,x21,x22,x23,x24,x25,x26,x27,x28,x29,x30,x31,x32,x33,x34,x35,x36,x37,x38,x39,x40,x41,x42,x43,x44,x45,x46,x47,x48,x49,x50] := ⟨_, _, _, _, _, _, _, _, _, _, _, _, _, _, _, _, _, _, _, _, _, _, _, _, _, _, _, _, _, _, _, _, _, _, _, _, _, _, _, _, _, _, _, _, _, _, _, _, _, _, _, neaptideref06_List.eta h⟩
variable (x0 x1 x2 x3 x4 x5 x6 x7 x8 x9 x10 x11 x12 x13 x14 x15 x16 x17 x18 x19 x20 x21 x22 x23 x24 x25 x26 x27 x28 x29 x30 x31 x32 x33 x34 x35 x36 x37 x38 x39 x40 x41 x42 x43 x44 x45 x46 x47 x48 x49 x50 : Value) (S : AHeap)
theorem neaptideref06_List.r0  : vOps Try.prog ⟨false, false, false⟩ (vlim Try.prog O) (reg Try.f18 0) (reg Try.f18 0).toList ([x0,x1,x2,x3,x4,x5,x6,x7,x8,x9,x10,x11,x12,x13,x14,x15,x16,x17,x18,x19,x20,x21,x22,x23,x24,x25,x26,x27,x28,x29,x30,x31,x32,x33,x34,x35,x36,x37,x38,x39,x40,x41,x42,x43,x44,x45,x46,x47,x48,x49,x50]) S =
    ( some ([x0,x1,Value.slice none 0 0,Value.int IntKind.i64 0,x4,x5,x6,x7,x8,x9,x10,x11,x12,x13,x14,x15,x16,x17,x18,x19,x20,x21,x22,x23,x24,x25,x26,x27,x28,x29,x30,x31,x32,x33,x34,x35,x36,x37,x38,x39,x40,x41,x42,x43,x44,x45,x46,x47,x48,x49,x50], S)) := by
  refine sP Try.f18 0 0 (v := (Value.slice none 0 0)) ?_
  refine sP Try.f18 0 1 (v := (Value.int IntKind.i64 0)) ?_
  kernel_rfl
theorem neaptideref06_List.r1  : vOps Try.prog ⟨false, false, false⟩ (vlim Try.prog O) (reg Try.f18 1) (reg Try.f18 1).toList ([x0,x1,x2,x3,x4,x5,x6,x7,x8,x9,x10,x11,x12,x13,x14,x15,x16,x17,x18,x19,x20,x21,x22,x23,x24,x25,x26,x27,x28,x29,x30,x31,x32,x33,x34,x35,x36,x37,x38,x39,x40,x41,x42,x43,x44,x45,x46,x47,x48,x49,x50]) S =
    (andK (vLen Try.prog 34 (dem x0) S) (fun v1 S1 => andK (vBin Try.prog BinOp.gtr 3 v1 (Value.int IntKind.i64 3) S1) (fun v2 S2 => some ([x0,x1,x2,x3,x4,x5,x6,x7,x8,dem x0,v1,v2,x12,x13,x14,x15,x16,x17,x18,x19,x20,x21,x22,x23,x24,x25,x26,x27,x28,x29,x30,x31,x32,x33,x34,x35,x36,x37,x38,x39,x40,x41,x42,x43,x44,x45,x46,x47,x48,x49,x50], S2)) ()) ()) := by
  refine sP Try.f18 1 0 (v := x0) ?_
  refine sD Try.f18 1 1 (fun v1 S1 => ?_)
  refine sD Try.f18 1 2 (fun v2 S2 => ?_)
  kernel_rfl
theorem neaptideref06_List.r2  : vOps Try.prog ⟨false, false, false⟩ (vlim Try.prog O) (reg Try.f18 2) (reg Try.f18 2).toList ([x0,x1,x2,x3,x4,x5,x6,x7,x8,x9,x10,x11,x12,x13,x14,x15,x16,x17,x18,x19,x20,x21,x22,x23,x24,x25,x26,x27,x28,x29,x30,x31,x32,x33,x34,x35,x36,x37,x38,x39,x40,x41,x42,x43,x44,x45,x46,x47,x48,x49,x50]) S =
    ( some ([x0,x1,Value.slice none 0 0,Value.int IntKind.i64 61,x4,x5,x6,x7,x8,x9,x10,x11,x12,x13,x14,x15,x16,x17,x18,x19,x20,x21,x22,x23,x24,x25,x26,x27,x28,x29,x30,x31,x32,x33,x34,x35,x36,x37,x38,x39,x40,x41,x42,x43,x44,x45,x46,x47,x48,x49,x50], S)) := by
  refine sP Try.f18 2 0 (v := (Value.slice none 0 0)) ?_
  refine sP Try.f18 2 1 (v := (Value.int IntKind.i64 61)) ?_
  kernel_rfl
theorem neaptideref06_List.r3  : vOps Try.prog ⟨false, false, false⟩ (vlim Try.prog O) (reg Try.f18 3) (reg Try.f18 3).toList ([x0,x1,x2,x3,x4,x5,x6,x7,x8,x9,x10,x11,x12,x13,x14,x15,x16,x17,x18,x19,x20,x21,x22,x23,x24,x25,x26,x27,x28,x29,x30,x31,x32,x33,x34,x35,x36,x37,x38,x39,x40,x41,x42,x43,x44,x45,x46,x47,x48,x49,x50]) S =
    (andK (vLen Try.prog 34 (dem x0) S) (fun v1 S1 => andK (vBuildSlice Try.prog 51 1 [(0, v1)] S1) (fun v2 S2 => some ([x0,x1,x2,x3,v2,x5,x6,x7,x8,x9,x10,x11,dem x0,v1,dem v2,x15,x16,x17,x18,x19,x20,x21,x22,x23,x24,x25,x26,x27,x28,x29,x30,x31,x32,x33,x34,x35,x36,x37,x38,x39,x40,x41,x42,x43,x44,x45,x46,x47,x48,x49,x50], S2)) ()) ()) := by
  refine sP Try.f18 3 0 (v := x0) ?_
  refine sD Try.f18 3 1 (fun v1 S1 => ?_)
  refine sD Try.f18 3 2 (fun v2 S2 => ?_)
  refine sP Try.f18 3 3 (v := v2) ?_
  kernel_rfl
theorem neaptideref06_List.r4  : vOps Try.prog ⟨false, false, false⟩ (vlim Try.prog O) (reg Try.f18 4) (reg Try.f18 4).toList ([x0,x1,x2,x3,x4,x5,x6,x7,x8,x9,x10,x11,x12,x13,x14,x15,x16,x17,x18,x19,x20,x21,x22,x23,x24,x25,x26,x27,x28,x29,x30,x31,x32,x33,x34,x35,x36,x37,x38,x39,x40,x41,x42,x43,x44,x45,x46,x47,x48,x49,x50]) S =
    (andK (vLen Try.prog 34 (dem x0) S) (fun v1 S1 => some ([x0,x1,x2,x3,x4,x5,x6,x7,x8,x9,x10,x11,x12,x13,x14,dem x0,v1,Value.int IntKind.i64 0,x18,x19,x20,x21,x22,x23,x24,x25,x26,x27,x28,x29,x30,x31,x32,x33,x34,x35,x36,x37,x38,x39,x40,x41,x42,x43,x44,x45,x46,x47,x48,x49,x50], S1)) ()) := by
  refine sP Try.f18 4 0 (v := x0) ?_
  refine sD Try.f18 4 1 (fun v1 S1 => ?_)
  refine sP Try.f18 4 2 (v := (Value.int IntKind.i64 0)) ?_
  kernel_rfl
theorem neaptideref06_List.r5  : vOps Try.prog ⟨false, false, false⟩ (vlim Try.prog O) (reg Try.f18 5) (reg Try.f18 5).toList ([x0,x1,x2,x3,x4,x5,x6,x7,x8,x9,x10,x11,x12,x13,x14,x15,x16,x17,x18,x19,x20,x21,x22,x23,x24,x25,x26,x27,x28,x29,x30,x31,x32,x33,x34,x35,x36,x37,x38,x39,x40,x41,x42,x43,x44,x45,x46,x47,x48,x49,x50]) S =
    (andK (vBin Try.prog BinOp.lss 3 x17 x16 S) (fun v0 S1 => some ([x0,x1,x2,x3,x4,x5,x6,x7,x8,x9,x10,x11,x12,x13,x14,x15,x16,x17,v0,x19,x20,x21,x22,x23,x24,x25,x26,x27,x28,x29,x30,x31,x32,x33,x34,x35,x36,x37,x38,x39,x40,x41,x42,x43,x44,x45,x46,x47,x48,x49,x50], S1)) ()) := by
  refine sD Try.f18 5 0 (fun v0 S1 => ?_)
  kernel_rfl
theorem neaptideref06_List.r6  : vOps Try.prog ⟨false, false, false⟩ (vlim Try.prog O) (reg Try.f18 6) (reg Try.f18 6).toList ([x0,x1,x2,x3,x4,x5,x6,x7,x8,x9,x10,x11,x12,x13,x14,x15,x16,x17,x18,x19,x20,x21,x22,x23,x24,x25,x26,x27,x28,x29,x30,x31,x32,x33,x34,x35,x36,x37,x38,x39,x40,x41,x42,x43,x44,x45,x46,x47,x48,x49,x50]) S =
    (andK (vIndexAddr Try.prog 34 x15 (dem x17) S) (fun v1 S1 => andK (vLoad Try.prog false 23 v1 S1) (fun v2 S2 => andK (aAlloc Try.prog 23 S2) (fun v3 S3 => andK (vStore Try.prog 23 v3 (dem v2) S3) (fun v5 S4 => some ([x0,x1,x2,x3,x4,x17,v3,x7,x8,x9,x10,x11,x12,x13,x14,x15,x16,dem x17,x18,dem x17,v1,v2,x22,x23,x24,x25,x26,x27,x28,x29,x30,x31,x32,x33,x34,x35,x36,x37,x38,x39,x40,x41,x42,x43,x44,x45,x46,x47,x48,x49,x50], S4)) ()) ()) ()) ()) := by
  refine sP Try.f18 6 0 (v := x17) ?_
  refine sD Try.f18 6 1 (fun v1 S1 => ?_)
  refine sD Try.f18 6 2 (fun v2 S2 => ?_)
  refine sD Try.f18 6 3 (fun v3 S3 => ?_)
  refine sP Try.f18 6 4 (v := x17) ?_
  refine sD Try.f18 6 5 (fun v5 S4 => ?_)
  kernel_rfl
theorem neaptideref06_List.r7  : vOps Try.prog ⟨false, false, false⟩ (vlim Try.prog O) (reg Try.f18 7) (reg Try.f18 7).toList ([x0,x1,x2,x3,x4,x5,x6,x7,x8,x9,x10,x11,x12,x13,x14,x15,x16,x17,x18,x19,x20,x21,x22,x23,x24,x25,x26,x27,x28,x29,x30,x31,x32,x33,x34,x35,x36,x37,x38,x39,x40,x41,x42,x43,x44,x45,x46,x47,x48,x49,x50]) S =
    (andK (vLoad Try.prog false 23 x6 S) (fun v0 S1 => andK ((vlim Try.prog O) 14 [(dem v0)] S1) (fun v1 S2 => andK (aUn Try.prog UnOp.not v1 S2) (fun v2 S3 => some ([x0,x1,x2,x3,x4,x5,x6,x7,x8,x9,x10,x11,x12,x13,x14,x15,x16,x17,x18,x19,x20,x21,v0,v1,v2,x25,x26,x27,x28,x29,x30,x31,x32,x33,x34,x35,x36,x37,x38,x39,x40,x41,x42,x43,x44,x45,x46,x47,x48,x49,x50], S3)) ()) ()) ()) := by
  refine sD Try.f18 7 0 (fun v0 S1 => ?_)
  refine sD Try.f18 7 1 (fun v1 S2 => ?_)
  refine sD Try.f18 7 2 (fun v2 S3 => ?_)
  kernel_rfl
theorem neaptideref06_List.r8  : vOps Try.prog ⟨false, false, false⟩ (vlim Try.prog O) (reg Try.f18 8) (reg Try.f18 8).toList ([x0,x1,x2,x3,x4,x5,x6,x7,x8,x9,x10,x11,x12,x13,x14,x15,x16,x17,x18,x19,x20,x21,x22,x23,x24,x25,x26,x27,x28,x29,x30,x31,x32,x33,x34,x35,x36,x37,x38,x39,x40,x41,x42,x43,x44,x45,x46,x47,x48,x49,x50]) S =
    ( some ([x0,x1,Value.slice none 0 0,Value.int IntKind.i64 61,x4,x5,x6,x7,x8,x9,x10,x11,x12,x13,x14,x15,x16,x17,x18,x19,x20,x21,x22,x23,x24,x25,x26,x27,x28,x29,x30,x31,x32,x33,x34,x35,x36,x37,x38,x39,x40,x41,x42,x43,x44,x45,x46,x47,x48,x49,x50], S)) := by
  refine sP Try.f18 8 0 (v := (Value.slice none 0 0)) ?_
  refine sP Try.f18 8 1 (v := (Value.int IntKind.i64 61)) ?_
  kernel_rfl
theorem neaptideref06_List.r9  : vOps Try.prog ⟨false, false, false⟩ (vlim Try.prog O) (reg Try.f18 9) (reg Try.f18 9).toList ([x0,x1,x2,x3,x4,x5,x6,x7,x8,x9,x10,x11,x12,x13,x14,x15,x16,x17,x18,x19,x20,x21,x22,x23,x24,x25,x26,x27,x28,x29,x30,x31,x32,x33,x34,x35,x36,x37,x38,x39,x40,x41,x42,x43,x44,x45,x46,x47,x48,x49,x50]) S =
    (andK (vSliceF Try.prog false 34 (dem x0) none (some (dem x5)) S) (fun v2 S1 => andK (vLen Try.prog 34 v2 S1) (fun v3 S2 => some ([x0,x1,x2,x3,x4,x5,x6,x7,x8,x9,x10,x11,x12,x13,x14,x15,x16,x17,x18,x19,x20,x21,x22,x23,x24,dem x0,dem x5,v2,v3,Value.int IntKind.i64 0,x30,x31,x32,x33,x34,x35,x36,x37,x38,x39,x40,x41,x42,x43,x44,x45,x46,x47,x48,x49,x50], S2)) ()) ()) := by
  refine sP Try.f18 9 0 (v := x0) ?_
  refine sP Try.f18 9 1 (v := x5) ?_
  refine sD Try.f18 9 2 (fun v2 S1 => ?_)
  refine sD Try.f18 9 3 (fun v3 S2 => ?_)
  refine sP Try.f18 9 4 (v := (Value.int IntKind.i64 0)) ?_
  kernel_rfl
theorem neaptideref06_List.r10  : vOps Try.prog ⟨false, false, false⟩ (vlim Try.prog O) (reg Try.f18 10) (reg Try.f18 10).toList ([x0,x1,x2,x3,x4,x5,x6,x7,x8,x9,x10,x11,x12,x13,x14,x15,x16,x17,x18,x19,x20,x21,x22,x23,x24,x25,x26,x27,x28,x29,x30,x31,x32,x33,x34,x35,x36,x37,x38,x39,x40,x41,x42,x43,x44,x45,x46,x47,x48,x49,x50]) S =
    (andK (vBin Try.prog BinOp.lss 3 x29 x28 S) (fun v0 S1 => some ([x0,x1,x2,x3,x4,x5,x6,x7,x8,x9,x10,x11,x12,x13,x14,x15,x16,x17,x18,x19,x20,x21,x22,x23,x24,x25,x26,x27,x28,x29,v0,x31,x32,x33,x34,x35,x36,x37,x38,x39,x40,x41,x42,x43,x44,x45,x46,x47,x48,x49,x50], S1)) ()) := by
  refine sD Try.f18 10 0 (fun v0 S1 => ?_)
  kernel_rfl
theorem neaptideref06_List.r11  : vOps Try.prog ⟨false, false, false⟩ (vlim Try.prog O) (reg Try.f18 11) (reg Try.f18 11).toList ([x0,x1,x2,x3,x4,x5,x6,x7,x8,x9,x10,x11,x12,x13,x14,x15,x16,x17,x18,x19,x20,x21,x22,x23,x24,x25,x26,x27,x28,x29,x30,x31,x32,x33,x34,x35,x36,x37,x38,x39,x40,x41,x42,x43,x44,x45,x46,x47,x48,x49,x50]) S =
    (andK (vIndexAddr Try.prog 34 x27 x29 S) (fun v0 S1 => andK (vLoad Try.prog false 23 v0 S1) (fun v1 S2 => andK (aAlloc Try.prog 23 S2) (fun v2 S3 => andK (vStore Try.prog 23 v2 (dem v1) S3) (fun v3 S4 => some ([x0,x1,x2,x3,x4,x5,x6,x7,v2,x9,x10,x11,x12,x13,x14,x15,x16,x17,x18,x19,x20,x21,x22,x23,x24,x25,x26,x27,x28,x29,x30,v0,v1,x33,x34,x35,x36,x37,x38,x39,x40,x41,x42,x43,x44,x45,x46,x47,x48,x49,x50], S4)) ()) ()) ()) ()) := by
  refine sD Try.f18 11 0 (fun v0 S1 => ?_)
  refine sD Try.f18 11 1 (fun v1 S2 => ?_)
  refine sD Try.f18 11 2 (fun v2 S3 => ?_)
  refine sD Try.f18 11 3 (fun v3 S4 => ?_)
  kernel_rfl
theorem neaptideref06_List.r12  : vOps Try.prog ⟨false, false, false⟩ (vlim Try.prog O) (reg Try.f18 12) (reg Try.f18 12).toList ([x0,x1,x2,x3,x4,x5,x6,x7,x8,x9,x10,x11,x12,x13,x14,x15,x16,x17,x18,x19,x20,x21,x22,x23,x24,x25,x26,x27,x28,x29,x30,x31,x32,x33,x34,x35,x36,x37,x38,x39,x40,x41,x42,x43,x44,x45,x46,x47,x48,x49,x50]) S =
    (andK (vFieldAddr Try.prog 23 x8 0 S) (fun v0 S1 => andK (vLoad Try.prog false 3 v0 S1) (fun v1 S2 => andK (vFieldAddr Try.prog 23 x6 0 S2) (fun v2 S3 => andK (vLoad Try.prog false 3 v2 S3) (fun v3 S4 => andK (vBin Try.prog BinOp.eql 3 v1 v3 S4) (fun v4 S5 => some ([x0,x1,x2,x3,x4,x5,x6,x7,x8,x9,x10,x11,x12,x13,x14,x15,x16,x17,x18,x19,x20,x21,x22,x23,x24,x25,x26,x27,x28,x29,x30,x31,x32,v0,v1,v2,v3,v4,x38,x39,x40,x41,x42,x43,x44,x45,x46,x47,x48,x49,x50], S5)) ()) ()) ()) ()) ()) := by
  refine sD Try.f18 12 0 (fun v0 S1 => ?_)
  refine sD Try.f18 12 1 (fun v1 S2 => ?_)
  refine sD Try.f18 12 2 (fun v2 S3 => ?_)
  refine sD Try.f18 12 3 (fun v3 S4 => ?_)
  refine sD Try.f18 12 4 (fun v4 S5 => ?_)
  kernel_rfl
theorem neaptideref06_List.r13  : vOps Try.prog ⟨false, false, false⟩ (vlim Try.prog O) (reg Try.f18 13) (reg Try.f18 13).toList ([x0,x1,x2,x3,x4,x5,x6,x7,x8,x9,x10,x11,x12,x13,x14,x15,x16,x17,x18,x19,x20,x21,x22,x23,x24,x25,x26,x27,x28,x29,x30,x31,x32,x33,x34,x35,x36,x37,x38,x39,x40,x41,x42,x43,x44,x45,x46,x47,x48,x49,x50]) S =
    ( some ([x0,x1,Value.slice none 0 0,Value.int IntKind.i64 61,x4,x5,x6,x7,x8,x9,x10,x11,x12,x13,x14,x15,x16,x17,x18,x19,x20,x21,x22,x23,x24,x25,x26,x27,x28,x29,x30,x31,x32,x33,x34,x35,x36,x37,x38,x39,x40,x41,x42,x43,x44,x45,x46,x47,x48,x49,x50], S)) := by
  refine sP Try.f18 13 0 (v := (Value.slice none 0 0)) ?_
  refine sP Try.f18 13 1 (v := (Value.int IntKind.i64 61)) ?_
  kernel_rfl
theorem neaptideref06_List.r14  : vOps Try.prog ⟨false, false, false⟩ (vlim Try.prog O) (reg Try.f18 14) (reg Try.f18 14).toList ([x0,x1,x2,x3,x4,x5,x6,x7,x8,x9,x10,x11,x12,x13,x14,x15,x16,x17,x18,x19,x20,x21,x22,x23,x24,x25,x26,x27,x28,x29,x30,x31,x32,x33,x34,x35,x36,x37,x38,x39,x40,x41,x42,x43,x44,x45,x46,x47,x48,x49,x50]) S =
    (andK (vBin Try.prog BinOp.add 3 x29 (Value.int IntKind.i64 1) S) (fun v0 S1 => some ([x0,x1,x2,x3,x4,x5,x6,x7,x8,x9,x10,x11,x12,x13,x14,x15,x16,x17,x18,x19,x20,x21,x22,x23,x24,x25,x26,x27,x28,dem v0,x30,x31,x32,x33,x34,x35,x36,x37,v0,x39,x40,x41,x42,x43,x44,x45,x46,x47,x48,x49,x50], S1)) ()) := by
  refine sD Try.f18 14 0 (fun v0 S1 => ?_)
  refine sP Try.f18 14 1 (v := v0) ?_
  kernel_rfl
theorem neaptideref06_List.r15  : vOps Try.prog ⟨false, false, false⟩ (vlim Try.prog O) (reg Try.f18 15) (reg Try.f18 15).toList ([x0,x1,x2,x3,x4,x5,x6,x7,x8,x9,x10,x11,x12,x13,x14,x15,x16,x17,x18,x19,x20,x21,x22,x23,x24,x25,x26,x27,x28,x29,x30,x31,x32,x33,x34,x35,x36,x37,x38,x39,x40,x41,x42,x43,x44,x45,x46,x47,x48,x49,x50]) S =
    (andK (vFieldAddr Try.prog 23 x6 0 S) (fun v1 S1 => andK (vLoad Try.prog false 3 v1 S1) (fun v2 S2 => andK (vFieldAddr Try.prog 23 x6 1 S2) (fun v3 S3 => andK (vLoad Try.prog false 3 v3 S3) (fun v4 S4 => andK (vBuildSlice Try.prog 51 2 [(0, v2), (1, v4)] S4) (fun v5 S5 => andK (vAppend Try.prog 51 51 x4 v5 S5) (fun v6 S6 => some ([x0,x1,x2,x3,v6,x5,x6,x7,x8,x9,x10,x11,x12,x13,x14,x15,x16,x17,x18,x19,x20,x21,x22,x23,x24,x25,x26,x27,x28,x29,x30,x31,x32,x33,x34,x35,x36,x37,x38,dem x4,v1,v2,v3,v4,v5,dem v6,x46,x47,x48,x49,x50], S6)) ()) ()) ()) ()) ()) ()) := by
  refine sP Try.f18 15 0 (v := x4) ?_
  refine sD Try.f18 15 1 (fun v1 S1 => ?_)
  refine sD Try.f18 15 2 (fun v2 S2 => ?_)
  refine sD Try.f18 15 3 (fun v3 S3 => ?_)
  refine sD Try.f18 15 4 (fun v4 S4 => ?_)
  refine sD Try.f18 15 5 (fun v5 S5 => ?_)
  refine sD Try.f18 15 6 (fun v6 S6 => ?_)
  refine sP Try.f18 15 7 (v := v6) ?_
  kernel_rfl
theorem neaptideref06_List.r16  : vOps Try.prog ⟨false, false, false⟩ (vlim Try.prog O) (reg Try.f18 16) (reg Try.f18 16).toList ([x0,x1,x2,x3,x4,x5,x6,x7,x8,x9,x10,x11,x12,x13,x14,x15,x16,x17,x18,x19,x20,x21,x22,x23,x24,x25,x26,x27,x28,x29,x30,x31,x32,x33,x34,x35,x36,x37,x38,x39,x40,x41,x42,x43,x44,x45,x46,x47,x48,x49,x50]) S =
    (andK (vBin Try.prog BinOp.add 3 x17 (Value.int IntKind.i64 1) S) (fun v0 S1 => some ([x0,x1,x2,x3,x4,x5,x6,x7,x8,x9,x10,x11,x12,x13,x14,x15,x16,dem v0,x18,x19,x20,x21,x22,x23,x24,x25,x26,x27,x28,x29,x30,x31,x32,x33,x34,x35,x36,x37,x38,x39,x40,x41,x42,x43,x44,x45,v0,x47,x48,x49,x50], S1)) ()) := by
  refine sD Try.f18 16 0 (fun v0 S1 => ?_)
  refine sP Try.f18 16 1 (v := v0) ?_
  kernel_rfl
theorem neaptideref06_List.r17  : vOps Try.prog ⟨false, false, false⟩ (vlim Try.prog O) (reg Try.f18 17) (reg Try.f18 17).toList ([x0,x1,x2,x3,x4,x5,x6,x7,x8,x9,x10,x11,x12,x13,x14,x15,x16,x17,x18,x19,x20,x21,x22,x23,x24,x25,x26,x27,x28,x29,x30,x31,x32,x33,x34,x35,x36,x37,x38,x39,x40,x41,x42,x43,x44,x45,x46,x47,x48,x49,x50]) S =
    (andK ((vlim Try.prog O) 25 [(dem (dem x4))] S) (fun v1 S1 => andK (aExtract v1 0 S1) (fun v2 S2 => andK (aExtract (demPart 0 v1) 1 S2) (fun v3 S3 => some ([x0,x1,v2,v3,x4,x5,x6,x7,x8,x9,x10,x11,x12,x13,x14,x15,x16,x17,x18,x19,x20,x21,x22,x23,x24,x25,x26,x27,x28,x29,x30,x31,x32,x33,x34,x35,x36,x37,x38,x39,x40,x41,x42,x43,x44,x45,x46,dem x4,demPart 1 (demPart 0 v1),dem v2,dem v3], S3)) ()) ()) ()) := by
  refine sP Try.f18 17 0 (v := x4) ?_
  refine sD Try.f18 17 1 (fun v1 S1 => ?_)
  refine sD Try.f18 17 2 (fun v2 S2 => ?_)
  refine sD Try.f18 17 3 (fun v3 S3 => ?_)
  refine sP Try.f18 17 4 (v := v2) ?_
  refine sP Try.f18 17 5 (v := v3) ?_
  kernel_rfl
theorem neaptideref06_List.rs : type_of% (And.intro @neaptideref06_List.r0 (And.intro @neaptideref06_List.r1 (And.intro @neaptideref06_List.r2 (And.intro @neaptideref06_List.r3 (And.intro @neaptideref06_List.r4 (And.intro @neaptideref06_List.r5 (And.intro @neaptideref06_List.r6 (And.intro @neaptideref06_List.r7 (And.intro @neaptideref06_List.r8 (And.intro @neaptideref06_List.r9 (And.intro @neaptideref06_List.r10 (And.intro @neaptideref06_List.r11 (And.intro @neaptideref06_List.r12 (And.intro @neaptideref06_List.r13 (And.intro @neaptideref06_List.r14 (And.intro @neaptideref06_List.r15 (And.intro @neaptideref06_List.r16 (@neaptideref06_List.r17)))))))))))))))))) := And.intro @neaptideref06_List.r0 (And.intro @neaptideref06_List.r1 (And.intro @neaptideref06_List.r2 (And.intro @neaptideref06_List.r3 (And.intro @neaptideref06_List.r4 (And.intro @neaptideref06_List.r5 (And.intro @neaptideref06_List.r6 (And.intro @neaptideref06_List.r7 (And.intro @neaptideref06_List.r8 (And.intro @neaptideref06_List.r9 (And.intro @neaptideref06_List.r10 (And.intro @neaptideref06_List.r11 (And.intro @neaptideref06_List.r12 (And.intro @neaptideref06_List.r13 (And.intro @neaptideref06_List.r14 (And.intro @neaptideref06_List.r15 (And.intro @neaptideref06_List.r16 (@neaptideref06_List.r17)))))))))))))))))
theorem neaptideref06_List.runs {x0 : Value} {S S1 : AHeap} {e : AEx} {T : List Value} (h : vcodeV Try.prog O false neaptideref06_List.code ([x0,undef,undef,undef,undef,undef,undef,undef,undef,undef,undef,undef,undef,undef,undef,undef,undef,undef,undef,undef,undef,undef,undef,undef,undef,undef,undef,undef,undef,undef,undef,undef,undef,undef,undef,undef,undef,undef,undef,undef,undef,undef,undef,undef,undef,undef,undef,undef,undef,undef,undef]) AHeap.empty = some (e, T, S1)) (he : e = .normal ∨ e = .ret)  (h0 : notTuple (T.getD 2 undef) = true) (h1 : notTuple (T.getD 3 undef) = true) (hca : [x0].all (cleanN 16) = true) (hcv : cleanN 16 (Value.tuple #[T.getD 2 undef, T.getD 3 undef]) = true) : vlim Try.prog O 18 [x0] S = some (Value.tuple #[T.getD 2 undef, T.getD 3 undef], S) :=
  vlim_pure rfl rfl Try.func18 (by decide) neaptideref06_List.body (by exact h) he ((vRes_many ((show vResVals Try.prog T S1 Try.f18.results.toList = vResVals Try.prog T S1 [(ResultVar.tmp 2), (ResultVar.tmp 3)] from by kernel_rfl).trans (by simp only [vResVals])) (by kernel_rfl) (by simp only [List.all_cons, List.all_nil, h0, h1, Bool.and_true])).trans rfl) hca hcv
end Go.Proofs.Ytfnlcbgijkakiaa

namespace Go.Proofs.Ytfnlcbgijkakiaa
open Go.Abs

/-- neaptide.tx.Bytes -/
abbrev tx_Bytes.id : FuncId := 10
noncomputable def tx_Bytes.code : Code := (Code.seq (Code.region 0 (reg Try.f10 0) false) (Code.seq (Code.seq (Code.region 1 (reg Try.f10 1) false) (Code.cond (Operand.tmp 8) (Code.seq (Code.region 2 (reg Try.f10 2) false) Code.ret) Code.skip)) (Code.seq (Code.region 3 (reg Try.f10 3) false) (Code.seq (Code.region 4 (reg Try.f10 4) false) Code.ret))))
theorem tx_Bytes.body : Try.f10.body = some tx_Bytes.code := by kernel_rfl
theorem tx_Bytes.eta {T : List Value} (h : T.length = 19) : T = [T.getD 0 undef,T.getD 1 undef,T.getD 2 undef,T.getD 3 undef,T.getD 4 undef,T.getD 5 undef,T.getD 6 undef,T.getD 7 undef,T.getD 8 undef,T.getD 9 undef,T.getD 10 undef,T.getD 11 undef,T.getD 12 undef,T.getD 13 undef,T.getD 14 undef,T.getD 15 undef,T.getD 16 undef,T.getD 17 undef,T.getD 18 undef] := (list_getD T 19 h).trans (by kernel_rfl)
variable (x0 x1 x2 x3 x4 x5 x6 x7 x8 x9 x10 x11 x12 x13 x14 x15 x16 x17 x18 : Value) (S : AHeap)
theorem tx_Bytes.r0  : vOps Try.prog ⟨false, false, false⟩ (vlim Try.prog O) (reg Try.f10 0) (reg Try.f10 0).toList ([x0,x1,x2,x3,x4,x5,x6,x7,x8,x9,x10,x11,x12,x13,x14,x15,x16,x17,x18]) S =
    (andK (aBox (dem x0) S) (fun v0 S1 => some ([x0,v0,Value.slice none 0 0,Value.int IntKind.i64 0,x4,x5,x6,x7,x8,x9,x10,x11,x12,x13,x14,x15,x16,x17,x18], S1)) ()) := by
  refine sD Try.f10 0 0 (fun v0 S1 => ?_)
  refine sP Try.f10 0 1 (v := (Value.slice none 0 0)) ?_
  refine sP Try.f10 0 2 (v := (Value.int IntKind.i64 0)) ?_
  kernel_rfl
theorem tx_Bytes.r1  : vOps Try.prog ⟨false, false, false⟩ (vlim Try.prog O) (reg Try.f10 1) (reg Try.f10 1).toList ([x0,x1,x2,x3,x4,x5,x6,x7,x8,x9,x10,x11,x12,x13,x14,x15,x16,x17,x18]) S =
    (andK (vLoad Try.prog false 23 x1 S) (fun v0 S1 => andK ((vlim Try.prog O) 13 [(dem v0)] S1) (fun v1 S2 => andK (aUn Try.prog UnOp.not v1 S2) (fun v2 S3 => some ([x0,x1,x2,x3,x4,x5,v0,v1,v2,x9,x10,x11,x12,x13,x14,x15,x16,x17,x18], S3)) ()) ()) ()) := by
  refine sD Try.f10 1 0 (fun v0 S1 => ?_)
  refine sD Try.f10 1 1 (fun v1 S2 => ?_)
  refine sD Try.f10 1 2 (fun v2 S3 => ?_)
  kernel_rfl
theorem tx_Bytes.r2  : vOps Try.prog ⟨false, false, false⟩ (vlim Try.prog O) (reg Try.f10 2) (reg Try.f10 2).toList ([x0,x1,x2,x3,x4,x5,x6,x7,x8,x9,x10,x11,x12,x13,x14,x15,x16,x17,x18]) S =
    ( some ([x0,x1,Value.slice none 0 0,Value.int IntKind.i64 61,x4,x5,x6,x7,x8,x9,x10,x11,x12,x13,x14,x15,x16,x17,x18], S)) := by
  refine sP Try.f10 2 0 (v := (Value.slice none 0 0)) ?_
  refine sP Try.f10 2 1 (v := (Value.int IntKind.i64 61)) ?_
  kernel_rfl
theorem tx_Bytes.r3  : vOps Try.prog ⟨false, false, false⟩ (vlim Try.prog O) (reg Try.f10 3) (reg Try.f10 3).toList ([x0,x1,x2,x3,x4,x5,x6,x7,x8,x9,x10,x11,x12,x13,x14,x15,x16,x17,x18]) S =
    (andK (vFieldAddr Try.prog 23 x1 0 S) (fun v0 S1 => andK (vLoad Try.prog false 3 v0 S1) (fun v1 S2 => andK (vFieldAddr Try.prog 23 x1 1 S2) (fun v2 S3 => andK (vLoad Try.prog false 3 v2 S3) (fun v3 S4 => andK (vBuildSlice Try.prog 51 2 [(0, v1), (1, v3)] S4) (fun v4 S5 => andK ((vlim Try.prog O) 24 [(dem v4)] S5) (fun v5 S6 => andK (aExtract v5 0 S6) (fun v7 S7 => andK (aExtract (demPart 0 v5) 1 S7) (fun v8 S8 => some ([x0,x1,x2,x3,v7,v8,x6,x7,x8,demPart 1 (demPart 0 v5),v0,v1,v2,v3,v4,dem v5,dem v7,dem v8,x18], S8)) ()) ()) ()) ()) ()) ()) ()) ()) := by
  refine sD Try.f10 3 0 (fun v0 S1 => ?_)
  refine sD Try.f10 3 1 (fun v1 S2 => ?_)
  refine sD Try.f10 3 2 (fun v2 S3 => ?_)
  refine sD Try.f10 3 3 (fun v3 S4 => ?_)
  refine sD Try.f10 3 4 (fun v4 S5 => ?_)
  refine sD Try.f10 3 5 (fun v5 S6 => ?_)
  refine sP Try.f10 3 6 (v := v5) ?_
  refine sD Try.f10 3 7 (fun v7 S7 => ?_)
  refine sD Try.f10 3 8 (fun v8 S8 => ?_)
  refine sP Try.f10 3 9 (v := v7) ?_
  refine sP Try.f10 3 10 (v := v8) ?_
  kernel_rfl
theorem tx_Bytes.r4  : vOps Try.prog ⟨false, false, false⟩ (vlim Try.prog O) (reg Try.f10 4) (reg Try.f10 4).toList ([x0,x1,x2,x3,x4,x5,x6,x7,x8,x9,x10,x11,x12,x13,x14,x15,x16,x17,x18]) S =
    ( some ([x0,x1,x4,Value.int IntKind.i64 0,dem x4,x5,x6,x7,x8,x9,x10,x11,x12,x13,x14,x15,x16,x17,dem x4], S)) := by
  refine sP Try.f10 4 0 (v := x4) ?_
  refine sP Try.f10 4 1 (v := x4) ?_
  refine sP Try.f10 4 2 (v := (Value.int IntKind.i64 0)) ?_
  kernel_rfl
theorem tx_Bytes.rs : type_of% (And.intro @tx_Bytes.r0 (And.intro @tx_Bytes.r1 (And.intro @tx_Bytes.r2 (And.intro @tx_Bytes.r3 (@tx_Bytes.r4))))) := And.intro @tx_Bytes.r0 (And.intro @tx_Bytes.r1 (And.intro @tx_Bytes.r2 (And.intro @tx_Bytes.r3 (@tx_Bytes.r4))))
theorem tx_Bytes.runs {x0 : Value} {S S1 : AHeap} {e : AEx} {T : List Value} (h : vcodeV Try.prog O false tx_Bytes.code ([x0,undef,undef,undef,undef,undef,undef,undef,undef,undef,undef,undef,undef,undef,undef,undef,undef,undef,undef]) AHeap.empty = some (e, T, S1)) (he : e = .normal ∨ e = .ret)  (h0 : notTuple (T.getD 2 undef) = true) (h1 : notTuple (T.getD 3 undef) = true) (hca : [x0].all (cleanN 16) = true) (hcv : cleanN 16 (Value.tuple #[T.getD 2 undef, T.getD 3 undef]) = true) : vlim Try.prog O 10 [x0] S = some (Value.tuple #[T.getD 2 undef, T.getD 3 undef], S) :=
  vlim_pure rfl rfl Try.func10 (by decide) tx_Bytes.body (by exact h) he ((vRes_many ((show vResVals Try.prog T S1 Try.f10.results.toList = vResVals Try.prog T S1 [(ResultVar.tmp 2), (ResultVar.tmp 3)] from by kernel_rfl).trans (by simp only [vResVals])) (by kernel_rfl) (by simp only [List.all_cons, List.all_nil, h0, h1, Bool.and_true])).trans rfl) hca hcv
end Go.Proofs.Ytfnlcbgijkakiaa

namespace Go.Proofs.Ytfnlcbgijkakiaa
open Go.Abs

/-- neaptide.neaptideref06.Bytes -/
abbrev neaptideref06_Bytes.id : FuncId := 11
noncomputable def neaptideref06_Bytes.code : Code := (Code.seq (Code.region 0 (reg Try.f11 0) false) (Code.seq (Code.seq (Code.region 1 (reg Try.f11 1) false) (Code.cond (Operand.tmp 6) (Code.seq (Code.region 2 (reg Try.f11 2) false) Code.ret) Code.skip)) (Code.seq (Code.region 3 (reg Try.f11 3) false) Code.ret)))
theorem neaptideref06_Bytes.body : Try.f11.body = some neaptideref06_Bytes.code := by kernel_rfl
theorem neaptideref06_Bytes.eta {T : List Value} (h : T.length = 15) : T = [T.getD 0 undef,T.getD 1 undef,T.getD 2 undef,T.getD 3 undef,T.getD 4 undef,T.getD 5 undef,T.getD 6 undef,T.getD 7 undef,T.getD 8 undef,T.getD 9 undef,T.getD 10 undef,T.getD 11 undef,T.getD 12 undef,T.getD 13 undef,T.getD 14 undef] := (list_getD T 15 h).trans (by kernel_rfl)
variable (x0 x1 x2 x3 x4 x5 x6 x7 x8 x9 x10 x11 x12 x13 x14 : Value) (S : AHeap)
theorem neaptideref06_Bytes.r0  : vOps Try.prog ⟨false, false, false⟩ (vlim Try.prog O) (reg Try.f11 0) (reg Try.f11 0).toList ([x0,x1,x2,x3,x4,x5,x6,x7,x8,x9,x10,x11,x12,x13,x14]) S =
    (andK (aBox (dem x0) S) (fun v0 S1 => some ([x0,v0,Value.slice none 0 0,Value.int IntKind.i64 0,x4,x5,x6,x7,x8,x9,x10,x11,x12,x13,x14], S1)) ()) := by
  refine sD Try.f11 0 0 (fun v0 S1 => ?_)
  refine sP Try.f11 0 1 (v := (Value.slice none 0 0)) ?_
  refine sP Try.f11 0 2 (v := (Value.int IntKind.i64 0)) ?_
  kernel_rfl
theorem neaptideref06_Bytes.r1  : vOps Try.prog ⟨false, false, false⟩ (vlim Try.prog O) (reg Try.f11 1) (reg Try.f11 1).toList ([x0,x1,x2,x3,x4,x5,x6,x7,x8,x9,x10,x11,x12,x13,x14]) S =
    (andK (vLoad Try.prog false 23 x1 S) (fun v0 S1 => andK ((vlim Try.prog O) 14 [(dem v0)] S1) (fun v1 S2 => andK (aUn Try.prog UnOp.not v1 S2) (fun v2 S3 => some ([x0,x1,x2,x3,v0,v1,v2,x7,x8,x9,x10,x11,x12,x13,x14], S3)) ()) ()) ()) := by
  refine sD Try.f11 1 0 (fun v0 S1 => ?_)
  refine sD Try.f11 1 1 (fun v1 S2 => ?_)
  refine sD Try.f11 1 2 (fun v2 S3 => ?_)
  kernel_rfl
theorem neaptideref06_Bytes.r2  : vOps Try.prog ⟨false, false, false⟩ (vlim Try.prog O) (reg Try.f11 2) (reg Try.f11 2).toList ([x0,x1,x2,x3,x4,x5,x6,x7,x8,x9,x10,x11,x12,x13,x14]) S =
    ( some ([x0,x1,Value.slice none 0 0,Value.int IntKind.i64 61,x4,x5,x6,x7,x8,x9,x10,x11,x12,x13,x14], S)) := by
  refine sP Try.f11 2 0 (v := (Value.slice none 0 0)) ?_
  refine sP Try.f11 2 1 (v := (Value.int IntKind.i64 61)) ?_
  kernel_rfl
theorem neaptideref06_Bytes.r3  : vOps Try.prog ⟨false, false, false⟩ (vlim Try.prog O) (reg Try.f11 3) (reg Try.f11 3).toList ([x0,x1,x2,x3,x4,x5,x6,x7,x8,x9,x10,x11,x12,x13,x14]) S =
    (andK (vFieldAddr Try.prog 23 x1 0 S) (fun v0 S1 => andK (vLoad Try.prog false 3 v0 S1) (fun v1 S2 => andK (vFieldAddr Try.prog 23 x1 1 S2) (fun v2 S3 => andK (vLoad Try.prog false 3 v2 S3) (fun v3 S4 => andK (vBuildSlice Try.prog 51 2 [(0, v1), (1, v3)] S4) (fun v4 S5 => andK ((vlim Try.prog O) 25 [(dem v4)] S5) (fun v5 S6 => andK (aExtract v5 0 S6) (fun v6 S7 => andK (aExtract (demPart 0 v5) 1 S7) (fun v7 S8 => some ([x0,x1,v6,v7,x4,x5,x6,v0,v1,v2,v3,v4,demPart 1 (demPart 0 v5),dem v6,dem v7], S8)) ()) ()) ()) ()) ()) ()) ()) ()) := by
  refine sD Try.f11 3 0 (fun v0 S1 => ?_)
  refine sD Try.f11 3 1 (fun v1 S2 => ?_)
  refine sD Try.f11 3 2 (fun v2 S3 => ?_)
  refine sD Try.f11 3 3 (fun v3 S4 => ?_)
  refine sD Try.f11 3 4 (fun v4 S5 => ?_)
  refine sD Try.f11 3 5 (fun v5 S6 => ?_)
  refine sD Try.f11 3 6 (fun v6 S7 => ?_)
  refine sD Try.f11 3 7 (fun v7 S8 => ?_)
  refine sP Try.f11 3 8 (v := v6) ?_
  refine sP Try.f11 3 9 (v := v7) ?_
  kernel_rfl
theorem neaptideref06_Bytes.rs : type_of% (And.intro @neaptideref06_Bytes.r0 (And.intro @neaptideref06_Bytes.r1 (And.intro @neaptideref06_Bytes.r2 (@neaptideref06_Bytes.r3)))) := And.intro @neaptideref06_Bytes.r0 (And.intro @neaptideref06_Bytes.r1 (And.intro @neaptideref06_Bytes.r2 (@neaptideref06_Bytes.r3)))
theorem neaptideref06_Bytes.runs {x0 : Value} {S S1 : AHeap} {e : AEx} {T : List Value} (h : vcodeV Try.prog O false neaptideref06_Bytes.code ([x0,undef,undef,undef,undef,undef,undef,undef,undef,undef,undef,undef,undef,undef,undef]) AHeap.empty = some (e, T, S1)) (he : e = .normal ∨ e = .ret)  (h0 : notTuple (T.getD 2 undef) = true) (h1 : notTuple (T.getD 3 undef) = true) (hca : [x0].all (cleanN 16) = true) (hcv : cleanN 16 (Value.tuple #[T.getD 2 undef, T.getD 3 undef]) = true) : vlim Try.prog O 11 [x0] S = some (Value.tuple #[T.getD 2 undef, T.getD 3 undef], S) :=
  vlim_pure rfl rfl Try.func11 (by decide) neaptideref06_Bytes.body (by exact h) he ((vRes_many ((show vResVals Try.prog T S1 Try.f11.results.toList = vResVals Try.prog T S1 [(ResultVar.tmp 2), (ResultVar.tmp 3)] from by kernel_rfl).trans (by simp only [vResVals])) (by kernel_rfl) (by simp only [List.all_cons, List.all_nil, h0, h1, Bool.and_true])).trans rfl) hca hcv
end Go.Proofs.Ytfnlcbgijkakiaa

namespace Go.Proofs.Ytfnlcbgijkakiaa
open Go.Abs

/-- neaptide.tx.part -/
abbrev tx_part.id : FuncId := 29
noncomputable def tx_part.code : Code := (Code.seq (Code.region 0 (reg Try.f29 0) false) (Code.seq (Code.region 1 (reg Try.f29 1) false) (Code.seq (Code.seq (Code.region 2 (reg Try.f29 2) false) (Code.cond (Operand.tmp 16) (Code.seq (Code.region 3 (reg Try.f29 3) false) Code.ret) Code.skip)) (Code.seq (Code.region 4 (reg Try.f29 4) true) (Code.seq (Code.region 5 (reg Try.f29 5) true) Code.ret)))))
theorem tx_part.body : Try.f29.body = some tx_part.code := by kernel_rfl
theorem tx_part.eta {T : List Value} (h : T.length = 29) : T = [T.getD 0 undef,T.getD 1 undef,T.getD 2 undef,T.getD 3 undef,T.getD 4 undef,T.getD 5 undef,T.getD 6 undef,T.getD 7 undef,T.getD 8 undef,T.getD 9 undef,T.getD 10 undef,T.getD 11 undef,T.getD 12 undef,T.getD 13 undef,T.getD 14 undef,T.getD 15 undef,T.getD 16 undef,T.getD 17 undef,T.getD 18 undef,T.getD 19 undef,T.getD 20 undef,T.getD 21 undef,T.getD 22 undef,T.getD 23 undef,T.getD 24 undef,T.getD 25 undef,T.getD 26 undef,T.getD 27 undef,T.getD 28 undef] := (list_getD T 29 h).trans (by kernel_rfl)
variable (x0 x1 x2 x3 x4 x5 x6 x7 x8 x9 x10 x11 x12 x13 x14 x15 x16 x17 x18 x19 x20 x21 x22 x23 x24 x25 x26 x27 x28 : Value) (S : AHeap)
theorem tx_part.r0  : vOps Try.prog ⟨false, false, false⟩ (vlim Try.prog O) (reg Try.f29 0) (reg Try.f29 0).toList ([x0,x1,x2,x3,x4,x5,x6,x7,x8,x9,x10,x11,x12,x13,x14,x15,x16,x17,x18,x19,x20,x21,x22,x23,x24,x25,x26,x27,x28]) S =
    (andK (aAlloc Try.prog 23 S) (fun v0 S1 => some ([x0,x1,v0,Value.slice none 0 0,Value.bool false,x5,x6,x7,x8,x9,x10,x11,x12,x13,x14,x15,x16,x17,x18,x19,x20,x21,x22,x23,x24,x25,x26,x27,x28], S1)) ()) := by
  refine sD Try.f29 0 0 (fun v0 S1 => ?_)
  refine sP Try.f29 0 1 (v := (Value.slice none 0 0)) ?_
  refine sP Try.f29 0 2 (v := (Value.bool false)) ?_
  kernel_rfl
theorem tx_part.r1  : vOps Try.prog ⟨false, false, false⟩ (vlim Try.prog O) (reg Try.f29 1) (reg Try.f29 1).toList ([x0,x1,x2,x3,x4,x5,x6,x7,x8,x9,x10,x11,x12,x13,x14,x15,x16,x17,x18,x19,x20,x21,x22,x23,x24,x25,x26,x27,x28]) S =
    (andK ((vlim Try.prog O) 31 [(dem (dem x0)), (Value.int IntKind.i64 2)] S) (fun v1 S1 => andK (aExtract v1 0 S1) (fun v3 S2 => andK (aExtract (demPart 0 v1) 1 S2) (fun v4 S3 => andK (aExtract (demPart 1 (demPart 0 v1)) 2 S3) (fun v5 S4 => some ([x0,x1,x2,x3,x4,v3,v4,v5,x8,demPart 2 (demPart 1 (demPart 0 v1)),dem x0,dem v1,dem v3,dem v4,dem v5,x15,x16,x17,x18,x19,x20,x21,x22,x23,x24,x25,x26,x27,x28], S4)) ()) ()) ()) ()) := by
  refine sP Try.f29 1 0 (v := x0) ?_
  refine sD Try.f29 1 1 (fun v1 S1 => ?_)
  refine sP Try.f29 1 2 (v := v1) ?_
  refine sD Try.f29 1 3 (fun v3 S2 => ?_)
  refine sD Try.f29 1 4 (fun v4 S3 => ?_)
  refine sD Try.f29 1 5 (fun v5 S4 => ?_)
  refine sP Try.f29 1 6 (v := v3) ?_
  refine sP Try.f29 1 7 (v := v4) ?_
  refine sP Try.f29 1 8 (v := v5) ?_
  kernel_rfl
theorem tx_part.r2  : vOps Try.prog ⟨false, false, false⟩ (vlim Try.prog O) (reg Try.f29 2) (reg Try.f29 2).toList ([x0,x1,x2,x3,x4,x5,x6,x7,x8,x9,x10,x11,x12,x13,x14,x15,x16,x17,x18,x19,x20,x21,x22,x23,x24,x25,x26,x27,x28]) S =
    (andK (vBin Try.prog BinOp.neq 25 (dem x7) (Value.int IntKind.i64 0) S) (fun v1 S1 => some ([x0,x1,x2,x3,x4,x5,x6,x7,x8,x9,x10,x11,x12,x13,x14,dem x7,v1,x17,x18,x19,x20,x21,x22,x23,x24,x25,x26,x27,x28], S1)) ()) := by
  refine sP Try.f29 2 0 (v := x7) ?_
  refine sD Try.f29 2 1 (fun v1 S1 => ?_)
  kernel_rfl
theorem tx_part.r3  : vOps Try.prog ⟨false, false, false⟩ (vlim Try.prog O) (reg Try.f29 3) (reg Try.f29 3).toList ([x0,x1,x2,x3,x4,x5,x6,x7,x8,x9,x10,x11,x12,x13,x14,x15,x16,x17,x18,x19,x20,x21,x22,x23,x24,x25,x26,x27,x28]) S =
    (andK (aBuild Try.prog 23 [] S) (fun v0 S1 => andK (vStore Try.prog 23 x2 (dem v0) S1) (fun v1 S2 => some ([x0,x1,x2,Value.slice none 0 0,Value.bool false,x5,x6,x7,x8,x9,x10,x11,x12,x13,x14,x15,x16,v0,x18,x19,x20,x21,x22,x23,x24,x25,x26,x27,x28], S2)) ()) ()) := by
  refine sD Try.f29 3 0 (fun v0 S1 => ?_)
  refine sD Try.f29 3 1 (fun v1 S2 => ?_)
  refine sP Try.f29 3 2 (v := (Value.slice none 0 0)) ?_
  refine sP Try.f29 3 3 (v := (Value.bool false)) ?_
  kernel_rfl
theorem tx_part.d4 : drawnOk Try.prog (reg Try.f29 4) = true := by kernel_rfl
theorem tx_part.ff4 : fixed Try.prog (reg Try.f29 4) = false := by kernel_rfl
theorem tx_part.k4 : checked Try.prog (reg Try.f29 4) = [0, 1, 2, 3, 4, 5, 6] := by kernel_rfl
theorem tx_part.g4 : again Try.prog (reg Try.f29 4) = [(2, 7), (5, 7)] := by kernel_rfl
theorem tx_part.r4  : vcodeV Try.prog O false (.region 4 (reg Try.f29 4) true) ([x0,x1,x2,x3,x4,x5,x6,x7,x8,x9,x10,x11,x12,x13,x14,x15,x16,x17,x18,x19,x20,x21,x22,x23,x24,x25,x26,x27,x28]) S =
    regV (okK x5 ( andK (vIndexAddr Try.prog 51 (dem x5) (Value.int IntKind.i64 0) S) (fun v1 S1 => okK v1 ( andK (vLoad Try.prog false 3 v1 S1) (fun v2 S2 => okK v2 ( okK x5 ( andK (vIndexAddr Try.prog 51 (dem x5) (Value.int IntKind.i64 1) S2) (fun v4 S3 => okK v4 ( andK (vLoad Try.prog false 3 v4 S3) (fun v5 S4 => okK v5 ( andK (aBuild Try.prog 23 [(0, (dem v2)), (1, (dem v5))] S4) (fun v6 S5 => okK v6 ( andK (aAlloc Try.prog 23 S5) (fun v7 S6 => andK (vStore Try.prog 23 v7 (dem v6) S6) (fun v8 S7 => ckK (stillQ v1 S1 S6 && (stillQ v4 S3 S6 && (true))) (some ([x0,x1,x2,x3,x4,x5,x6,x7,v7,x9,x10,x11,x12,x13,x14,x15,x16,x17,dem x5,v1,v2,dem x5,v4,v5,v6,x25,x26,x27,x28], S7)) ()) ()) ()) ()) ()) ()) ()) ()) ()) ()) ()) ()) ()) ()) ()) := by
  rw [vcodeV_drawn tx_part.d4 tx_part.ff4 tx_part.k4 tx_part.g4]
  refine congrArg regV ?_
  refine uPC Try.f29 4 0 (v := x5) (pe := undef) ?_
  refine uDC Try.f29 4 1 (pe := undef) (fun v1 S1 => ?_)
  refine uDC Try.f29 4 2 (pe := v1) (fun v2 S2 => ?_)
  refine uPC Try.f29 4 3 (v := x5) (pe := undef) ?_
  refine uDC Try.f29 4 4 (pe := undef) (fun v4 S3 => ?_)
  refine uDC Try.f29 4 5 (pe := v4) (fun v5 S4 => ?_)
  refine uDC Try.f29 4 6 (pe := undef) (fun v6 S5 => ?_)
  refine uD Try.f29 4 7 (pe := undef) (fun v7 S6 => ?_)
  refine uD Try.f29 4 8 (pe := undef) (fun v8 S7 => ?_)
  kernel_rfl
theorem tx_part.d5 : drawnOk Try.prog (reg Try.f29 5) = true := by kernel_rfl
theorem tx_part.ff5 : fixed Try.prog (reg Try.f29 5) = false := by kernel_rfl
theorem tx_part.k5 : checked Try.prog (reg Try.f29 5) = [0, 1, 1] := by kernel_rfl
theorem tx_part.g5 : again Try.prog (reg Try.f29 5) = [(0, 3)] := by kernel_rfl
theorem tx_part.r5  : vcodeV Try.prog O false (.region 5 (reg Try.f29 5) true) ([x0,x1,x2,x3,x4,x5,x6,x7,x8,x9,x10,x11,x12,x13,x14,x15,x16,x17,x18,x19,x20,x21,x22,x23,x24,x25,x26,x27,x28]) S =
    regV (andK (vLoad Try.prog false 23 x8 S) (fun v0 S1 => okK v0 ( okK x6 ( andK (vLoad Try.prog false 23 x8 S1) (fun v2 S2 => andK ((vlim Try.prog O) 13 [(dem v2)] S2) (fun v3 S3 => andK (vStore Try.prog 23 x2 (dem v0) S3) (fun v4 S4 => ckK (stillQ x8 S S3 && (true)) (some ([x0,x1,x2,x6,v3,x5,dem x6,x7,x8,x9,x10,x11,x12,x13,x14,x15,x16,x17,x18,x19,x20,x21,x22,x23,x24,v0,dem x6,v2,dem v3], S4)) ()) ()) ()) ()) ()) ()) ()) := by
  rw [vcodeV_drawn tx_part.d5 tx_part.ff5 tx_part.k5 tx_part.g5]
  refine congrArg regV ?_
  refine uDC Try.f29 5 0 (pe := x8) (fun v0 S1 => ?_)
  refine uPC Try.f29 5 1 (v := x6) (pe := undef) ?_
  refine uD Try.f29 5 2 (pe := x8) (fun v2 S2 => ?_)
  refine uD Try.f29 5 3 (pe := undef) (fun v3 S3 => ?_)
  refine uD Try.f29 5 4 (pe := undef) (fun v4 S4 => ?_)
  refine uP Try.f29 5 5 (v := x6) (pe := undef) ?_
  refine uP Try.f29 5 6 (v := v3) (pe := undef) ?_
  kernel_rfl
theorem tx_part.rs : type_of% (And.intro @tx_part.r0 (And.intro @tx_part.r1 (And.intro @tx_part.r2 (And.intro @tx_part.r3 (And.intro @tx_part.r4 (@tx_part.r5)))))) := And.intro @tx_part.r0 (And.intro @tx_part.r1 (And.intro @tx_part.r2 (And.intro @tx_part.r3 (And.intro @tx_part.r4 (@tx_part.r5)))))
theorem tx_part.runs {x0 : Value} {S S1 : AHeap} {e : AEx} {T : List Value} (h : vcodeV Try.prog O false tx_part.code ([x0,undef,undef,undef,undef,undef,undef,undef,undef,undef,undef,undef,undef,undef,undef,undef,undef,undef,undef,undef,undef,undef,undef,undef,undef,undef,undef,undef,undef]) AHeap.empty = some (e, T, S1)) (he : e = .normal ∨ e = .ret) {w0 : Value} (c0 : vLoad Try.prog false 23 (T.getD 2 undef) S1 = some (w0, S1)) (h0 : notTuple (w0) = true) (h1 : notTuple (T.getD 3 undef) = true) (h2 : notTuple (T.getD 4 undef) = true) (hca : [x0].all (cleanN 16) = true) (hcv : cleanN 16 (Value.tuple #[w0, T.getD 3 undef, T.getD 4 undef]) = true) : vlim Try.prog O 29 [x0] S = some (Value.tuple #[w0, T.getD 3 undef, T.getD 4 undef], S) :=
  vlim_pure rfl rfl Try.func29 (by decide) tx_part.body (by exact h) he ((vRes_many ((show vResVals Try.prog T S1 Try.f29.results.toList = vResVals Try.prog T S1 [(ResultVar.cell 2 23), (ResultVar.tmp 3), (ResultVar.tmp 4)] from by kernel_rfl).trans (by simp only [vResVals, c0])) (by kernel_rfl) (by simp only [List.all_cons, List.all_nil, h0, h1, h2, Bool.and_true])).trans rfl) hca hcv
end Go.Proofs.Ytfnlcbgijkakiaa

namespace Go.Proofs.Ytfnlcbgijkakiaa
open Go.Abs

/-- neaptide.tx.Read -/
abbrev tx_Read.id : FuncId := 19
noncomputable def tx_Read.code : Code := (Code.seq (Code.region 0 (reg Try.f19 0) false) (Code.seq (Code.region 1 (reg Try.f19 1) false) (Code.seq (Code.seq (Code.region 2 (reg Try.f19 2) false) (Code.cond (Operand.tmp 19) (Code.seq (Code.region 3 (reg Try.f19 3) false) Code.ret) Code.skip)) (Code.seq (Code.region 4 (reg Try.f19 4) false) Code.ret))))
theorem tx_Read.body : Try.f19.body = some tx_Read.code := by kernel_rfl
theorem tx_Read.eta {T : List Value} (h : T.length = 22) : T = [T.getD 0 undef,T.getD 1 undef,T.getD 2 undef,T.getD 3 undef,T.getD 4 undef,T.getD 5 undef,T.getD 6 undef,T.getD 7 undef,T.getD 8 undef,T.getD 9 undef,T.getD 10 undef,T.getD 11 undef,T.getD 12 undef,T.getD 13 undef,T.getD 14 undef,T.getD 15 undef,T.getD 16 undef,T.getD 17 undef,T.getD 18 undef,T.getD 19 undef,T.getD 20 undef,T.getD 21 undef] := (list_getD T 22 h).trans (by kernel_rfl)
variable (x0 x1 x2 x3 x4 x5 x6 x7 x8 x9 x10 x11 x12 x13 x14 x15 x16 x17 x18 x19 x20 x21 : Value) (S : AHeap)
theorem tx_Read.r0  : vOps Try.prog ⟨false, false, false⟩ (vlim Try.prog O) (reg Try.f19 0) (reg Try.f19 0).toList ([x0,x1,x2,x3,x4,x5,x6,x7,x8,x9,x10,x11,x12,x13,x14,x15,x16,x17,x18,x19,x20,x21]) S =
    (andK (aAlloc Try.prog 23 S) (fun v0 S1 => some ([x0,x1,v0,Value.int IntKind.i64 0,x4,x5,x6,x7,x8,x9,x10,x11,x12,x13,x14,x15,x16,x17,x18,x19,x20,x21], S1)) ()) := by
  refine sD Try.f19 0 0 (fun v0 S1 => ?_)
  refine sP Try.f19 0 1 (v := (Value.int IntKind.i64 0)) ?_
  kernel_rfl
theorem tx_Read.r1  : vOps Try.prog ⟨false, false, false⟩ (vlim Try.prog O) (reg Try.f19 1) (reg Try.f19 1).toList ([x0,x1,x2,x3,x4,x5,x6,x7,x8,x9,x10,x11,x12,x13,x14,x15,x16,x17,x18,x19,x20,x21]) S =
    (andK ((vlim Try.prog O) 29 [(dem (dem x0))] S) (fun v1 S1 => andK (aExtract v1 0 S1) (fun v3 S2 => andK (aExtract (demPart 0 v1) 1 S2) (fun v4 S3 => andK (aExtract (demPart 1 (demPart 0 v1)) 2 S3) (fun v5 S4 => andK (aAlloc Try.prog 23 S4) (fun v6 S5 => andK (vStore Try.prog 23 v6 (dem v3) S5) (fun v7 S6 => some ([x0,x1,x2,x3,v6,v4,v5,demPart 2 (demPart 1 (demPart 0 v1)),dem x0,dem v1,v3,dem v4,dem v5,x13,x14,x15,x16,x17,x18,x19,x20,x21], S6)) ()) ()) ()) ()) ()) ()) := by
  refine sP Try.f19 1 0 (v := x0) ?_
  refine sD Try.f19 1 1 (fun v1 S1 => ?_)
  refine sP Try.f19 1 2 (v := v1) ?_
  refine sD Try.f19 1 3 (fun v3 S2 => ?_)
  refine sD Try.f19 1 4 (fun v4 S3 => ?_)
  refine sD Try.f19 1 5 (fun v5 S4 => ?_)
  refine sD Try.f19 1 6 (fun v6 S5 => ?_)
  refine sD Try.f19 1 7 (fun v7 S6 => ?_)
  refine sP Try.f19 1 8 (v := v4) ?_
  refine sP Try.f19 1 9 (v := v5) ?_
  kernel_rfl
theorem tx_Read.r2  : vOps Try.prog ⟨false, false, false⟩ (vlim Try.prog O) (reg Try.f19 2) (reg Try.f19 2).toList ([x0,x1,x2,x3,x4,x5,x6,x7,x8,x9,x10,x11,x12,x13,x14,x15,x16,x17,x18,x19,x20,x21]) S =
    (andK (aUn Try.prog UnOp.not (dem x6) S) (fun v1 S1 => gdK (dem v1) false (ret x5) S1 (fun v3 S2 => gdK (dem v1) false (vLen Try.prog 24 (dem v3)) S2 (fun v4 S3 => gdK (dem v1) false (vBin Try.prog BinOp.gtr 3 v4 (Value.int IntKind.i64 0)) S3 (fun v5 S4 => andK (vPick (dem v1) (Value.bool true) v5 S4) (fun v6 S5 => some ([x0,x1,x2,x3,x4,x5,x6,x7,x8,x9,x10,x11,x12,dem x6,v1,dem v1,dem v3,v4,v5,v6,x20,x21], S5)) ()) ()) ()) ()) ()) := by
  refine sP Try.f19 2 0 (v := x6) ?_
  refine sD Try.f19 2 1 (fun v1 S1 => ?_)
  refine sP Try.f19 2 2 (v := v1) ?_
  refine sG Try.f19 2 3 (j := 2) (fun v3 S2 => ?_)
  refine sG Try.f19 2 4 (j := 2) (fun v4 S3 => ?_)
  refine sG Try.f19 2 5 (j := 2) (fun v5 S4 => ?_)
  refine sD Try.f19 2 6 (fun v6 S5 => ?_)
  kernel_rfl
theorem tx_Read.r3  : vOps Try.prog ⟨false, false, false⟩ (vlim Try.prog O) (reg Try.f19 3) (reg Try.f19 3).toList ([x0,x1,x2,x3,x4,x5,x6,x7,x8,x9,x10,x11,x12,x13,x14,x15,x16,x17,x18,x19,x20,x21]) S =
    (andK (aBuild Try.prog 23 [] S) (fun v0 S1 => andK (vStore Try.prog 23 x2 (dem v0) S1) (fun v1 S2 => some ([x0,x1,x2,Value.int IntKind.i64 61,x4,x5,x6,x7,x8,x9,x10,x11,x12,x13,x14,x15,x16,x17,x18,x19,v0,x21], S2)) ()) ()) := by
  refine sD Try.f19 3 0 (fun v0 S1 => ?_)
  refine sD Try.f19 3 1 (fun v1 S2 => ?_)
  refine sP Try.f19 3 2 (v := (Value.int IntKind.i64 61)) ?_
  kernel_rfl
theorem tx_Read.r4  : vOps Try.prog ⟨false, false, false⟩ (vlim Try.prog O) (reg Try.f19 4) (reg Try.f19 4).toList ([x0,x1,x2,x3,x4,x5,x6,x7,x8,x9,x10,x11,x12,x13,x14,x15,x16,x17,x18,x19,x20,x21]) S =
    (andK (vLoad Try.prog false 23 x4 S) (fun v0 S1 => andK (vStore Try.prog 23 x2 (dem v0) S1) (fun v1 S2 => some ([x0,x1,x2,Value.int IntKind.i64 0,x4,x5,x6,x7,x8,x9,x10,x11,x12,x13,x14,x15,x16,x17,x18,x19,x20,v0], S2)) ()) ()) := by
  refine sD Try.f19 4 0 (fun v0 S1 => ?_)
  refine sD Try.f19 4 1 (fun v1 S2 => ?_)
  refine sP Try.f19 4 2 (v := (Value.int IntKind.i64 0)) ?_
  kernel_rfl
theorem tx_Read.rs : type_of% (And.intro @tx_Read.r0 (And.intro @tx_Read.r1 (And.intro @tx_Read.r2 (And.intro @tx_Read.r3 (@tx_Read.r4))))) := And.intro @tx_Read.r0 (And.intro @tx_Read.r1 (And.intro @tx_Read.r2 (And.intro @tx_Read.r3 (@tx_Read.r4))))
theorem tx_Read.runs {x0 : Value} {S S1 : AHeap} {e : AEx} {T : List Value} (h : vcodeV Try.prog O false tx_Read.code ([x0,undef,undef,undef,undef,undef,undef,undef,undef,undef,undef,undef,undef,undef,undef,undef,undef,undef,undef,undef,undef,undef]) AHeap.empty = some (e, T, S1)) (he : e = .normal ∨ e = .ret) {w0 : Value} (c0 : vLoad Try.prog false 23 (T.getD 2 undef) S1 = some (w0, S1)) (h0 : notTuple (w0) = true) (h1 : notTuple (T.getD 3 undef) = true) (hca : [x0].all (cleanN 16) = true) (hcv : cleanN 16 (Value.tuple #[w0, T.getD 3 undef]) = true) : vlim Try.prog O 19 [x0] S = some (Value.tuple #[w0, T.getD 3 undef], S) :=
  vlim_pure rfl rfl Try.func19 (by decide) tx_Read.body (by exact h) he ((vRes_many ((show vResVals Try.prog T S1 Try.f19.results.toList = vResVals Try.prog T S1 [(ResultVar.cell 2 23), (ResultVar.tmp 3)] from by kernel_rfl).trans (by simp only [vResVals, c0])) (by kernel_rfl) (by simp only [List.all_cons, List.all_nil, h0, h1, Bool.and_true])).trans rfl) hca hcv
end Go.Proofs.Ytfnlcbgijkakiaa

namespace Go.Proofs.Ytfnlcbgijkakiaa
open Go.Abs

/-- neaptide.neaptideref06.Read -/
abbrev neaptideref06_Read.id : FuncId := 21
noncomputable def neaptideref06_Read.code : Code := (Code.seq (Code.region 0 (reg Try.f21 0) false) (Code.seq (Code.region 1 (reg Try.f21 1) false) (Code.seq (Code.seq (Code.region 2 (reg Try.f21 2) true) (Code.cond (Operand.tmp 30) (Code.seq (Code.region 3 (reg Try.f21 3) false) Code.ret) Code.skip)) (Code.seq (Code.region 4 (reg Try.f21 4) true) Code.ret))))
theorem neaptideref06_Read.body : Try.f21.body = some neaptideref06_Read.code := by kernel_rfl
theorem neaptideref06_Read.eta {T : List Value} (h : T.length = 39) : T = [T.getD 0 undef,T.getD 1 undef,T.getD 2 undef,T.getD 3 undef,T.getD 4 undef,T.getD 5 undef,T.getD 6 undef,T.getD 7 undef,T.getD 8 undef,T.getD 9 undef,T.getD 10 undef,T.getD 11 undef,T.getD 12 undef,T.getD 13 undef,T.getD 14 undef,T.getD 15 undef,T.getD 16 undef,T.getD 17 undef,T.getD 18 undef,T.getD 19 undef,T.getD 20 undef,T.getD 21 undef,T.getD 22 undef,T.getD 23 undef,T.getD 24 undef,T.getD 25 undef,T.getD 26 undef,T.getD 27 undef,T.getD 28 undef,T.getD 29 undef,T.getD 30 undef,T.getD 31 undef,T.getD 32 undef,T.getD 33 undef,T.getD 34 undef,T.getD 35 undef,T.getD 36 undef,T.getD 37 undef,T.getD 38 undef] := (list_getD T 39 h).trans (by kernel_rfl)
variable (x0 x1 x2 x3 x4 x5 x6 x7 x8 x9 x10 x11 x12 x13 x14 x15 x16 x17 x18 x19 x20 x21 x22 x23 x24 x25 x26 x27 x28 x29 x30 x31 x32 x33 x34 x35 x36 x37 x38 : Value) (S : AHeap)
theorem neaptideref06_Read.r0  : vOps Try.prog ⟨false, false, false⟩ (vlim Try.prog O) (reg Try.f21 0) (reg Try.f21 0).toList ([x0,x1,x2,x3,x4,x5,x6,x7,x8,x9,x10,x11,x12,x13,x14,x15,x16,x17,x18,x19,x20,x21,x22,x23,x24,x25,x26,x27,x28,x29,x30,x31,x32,x33,x34,x35,x36,x37,x38]) S =
    (andK (aAlloc Try.prog 23 S) (fun v0 S1 => some ([x0,x1,v0,Value.int IntKind.i64 0,x4,x5,x6,x7,x8,x9,x10,x11,x12,x13,x14,x15,x16,x17,x18,x19,x20,x21,x22,x23,x24,x25,x26,x27,x28,x29,x30,x31,x32,x33,x34,x35,x36,x37,x38], S1)) ()) := by
  refine sD Try.f21 0 0 (fun v0 S1 => ?_)
  refine sP Try.f21 0 1 (v := (Value.int IntKind.i64 0)) ?_
  kernel_rfl
theorem neaptideref06_Read.r1  : vOps Try.prog ⟨false, false, false⟩ (vlim Try.prog O) (reg Try.f21 1) (reg Try.f21 1).toList ([x0,x1,x2,x3,x4,x5,x6,x7,x8,x9,x10,x11,x12,x13,x14,x15,x16,x17,x18,x19,x20,x21,x22,x23,x24,x25,x26,x27,x28,x29,x30,x31,x32,x33,x34,x35,x36,x37,x38]) S =
    (andK ((vlim Try.prog O) 30 [(dem (dem x0)), (Value.int IntKind.i64 2)] S) (fun v1 S1 => andK (aExtract v1 0 S1) (fun v3 S2 => andK (aExtract (demPart 0 v1) 1 S2) (fun v4 S3 => andK (aExtract (demPart 1 (demPart 0 v1)) 2 S3) (fun v5 S4 => some ([x0,x1,x2,x3,v3,v4,v5,demPart 2 (demPart 1 (demPart 0 v1)),dem x0,dem v1,dem v3,dem v4,dem v5,x13,x14,x15,x16,x17,x18,x19,x20,x21,x22,x23,x24,x25,x26,x27,x28,x29,x30,x31,x32,x33,x34,x35,x36,x37,x38], S4)) ()) ()) ()) ()) := by
  refine sP Try.f21 1 0 (v := x0) ?_
  refine sD Try.f21 1 1 (fun v1 S1 => ?_)
  refine sP Try.f21 1 2 (v := v1) ?_
  refine sD Try.f21 1 3 (fun v3 S2 => ?_)
  refine sD Try.f21 1 4 (fun v4 S3 => ?_)
  refine sD Try.f21 1 5 (fun v5 S4 => ?_)
  refine sP Try.f21 1 6 (v := v3) ?_
  refine sP Try.f21 1 7 (v := v4) ?_
  refine sP Try.f21 1 8 (v := v5) ?_
  kernel_rfl
theorem neaptideref06_Read.d2 : drawnOk Try.prog (reg Try.f21 2) = true := by kernel_rfl
theorem neaptideref06_Read.ff2 : fixed Try.prog (reg Try.f21 2) = false := by kernel_rfl
theorem neaptideref06_Read.k2 : checked Try.prog (reg Try.f21 2) = [] := by kernel_rfl
theorem neaptideref06_Read.g2 : again Try.prog (reg Try.f21 2) = [] := by kernel_rfl
theorem neaptideref06_Read.r2  : vcodeV Try.prog O false (.region 2 (reg Try.f21 2) true) ([x0,x1,x2,x3,x4,x5,x6,x7,x8,x9,x10,x11,x12,x13,x14,x15,x16,x17,x18,x19,x20,x21,x22,x23,x24,x25,x26,x27,x28,x29,x30,x31,x32,x33,x34,x35,x36,x37,x38]) S =
    regV (andK (vBin Try.prog BinOp.neq 3 (dem x6) (Value.int IntKind.i64 0) S) (fun v1 S1 => gdK (dem v1) false (ret x5) S1 (fun v3 S2 => gdK (dem v1) false (vLen Try.prog 24 (dem v3)) S2 (fun v4 S3 => gdK (dem v1) false (vBin Try.prog BinOp.gtr 3 v4 (Value.int IntKind.i64 0)) S3 (fun v5 S4 => andK (vPick (dem v1) (Value.bool true) v5 S4) (fun v6 S5 => gdK (dem v6) false (ret x4) S5 (fun v8 S6 => gdK (dem v6) false (vIndexAddr Try.prog 51 (dem v8) (Value.int IntKind.i64 0)) S6 (fun v9 S7 => gdK (dem v6) false (vLoad Try.prog false 3 v9) S7 (fun v10 S8 => gdK (dem v6) false (ret x4) S8 (fun v11 S9 => gdK (dem v6) false (vIndexAddr Try.prog 51 (dem v11) (Value.int IntKind.i64 1)) S9 (fun v12 S10 => gdK (dem v6) false (vLoad Try.prog false 3 v12) S10 (fun v13 S11 => gdK (dem v6) false (aBuild Try.prog 23 [(0, (dem v10)), (1, (dem v13))]) S11 (fun v14 S12 => gdK (dem v6) false ((vlim Try.prog O) 14 [(dem v14)]) S12 (fun v15 S13 => gdK (dem v6) false (aUn Try.prog UnOp.not v15) S13 (fun v16 S14 => andK (vPick (dem v6) (Value.bool true) v16 S14) (fun v17 S15 => some ([x0,x1,x2,x3,x4,x5,x6,x7,x8,x9,x10,x11,x12,dem x6,v1,dem v1,dem v3,v4,v5,v6,dem v6,dem v8,v9,v10,dem v11,v12,v13,v14,v15,v16,v17,x31,x32,x33,x34,x35,x36,x37,x38], S15)) ()) ()) ()) ()) ()) ()) ()) ()) ()) ()) ()) ()) ()) ()) ()) := by
  rw [vcodeV_drawn neaptideref06_Read.d2 neaptideref06_Read.ff2 neaptideref06_Read.k2 neaptideref06_Read.g2]
  refine congrArg regV ?_
  refine tP Try.f21 2 0 (v := x6) ?_
  refine tD Try.f21 2 1 (fun v1 S1 => ?_)
  refine tP Try.f21 2 2 (v := v1) ?_
  refine tG Try.f21 2 3 (j := 2) (fun v3 S2 => ?_)
  refine tG Try.f21 2 4 (j := 2) (fun v4 S3 => ?_)
  refine tG Try.f21 2 5 (j := 2) (fun v5 S4 => ?_)
  refine tD Try.f21 2 6 (fun v6 S5 => ?_)
  refine tP Try.f21 2 7 (v := v6) ?_
  refine tG Try.f21 2 8 (j := 7) (fun v8 S6 => ?_)
  refine tG Try.f21 2 9 (j := 7) (fun v9 S7 => ?_)
  refine tG Try.f21 2 10 (j := 7) (fun v10 S8 => ?_)
  refine tG Try.f21 2 11 (j := 7) (fun v11 S9 => ?_)
  refine tG Try.f21 2 12 (j := 7) (fun v12 S10 => ?_)
  refine tG Try.f21 2 13 (j := 7) (fun v13 S11 => ?_)
  refine tG Try.f21 2 14 (j := 7) (fun v14 S12 => ?_)
  refine tG Try.f21 2 15 (j := 7) (fun v15 S13 => ?_)
  refine tG Try.f21 2 16 (j := 7) (fun v16 S14 => ?_)
  refine tD Try.f21 2 17 (fun v17 S15 => ?_)
  kernel_rfl
theorem neaptideref06_Read.r3  : vOps Try.prog ⟨false, false, false⟩ (vlim Try.prog O) (reg Try.f21 3) (reg Try.f21 3).toList ([x0,x1,x2,x3,x4,x5,x6,x7,x8,x9,x10,x11,x12,x13,x14,x15,x16,x17,x18,x19,x20,x21,x22,x23,x24,x25,x26,x27,x28,x29,x30,x31,x32,x33,x34,x35,x36,x37,x38]) S =
    (andK (aBuild Try.prog 23 [] S) (fun v0 S1 => andK (vStore Try.prog 23 x2 (dem v0) S1) (fun v1 S2 => some ([x0,x1,x2,Value.int IntKind.i64 61,x4,x5,x6,x7,x8,x9,x10,x11,x12,x13,x14,x15,x16,x17,x18,x19,x20,x21,x22,x23,x24,x25,x26,x27,x28,x29,x30,v0,x32,x33,x34,x35,x36,x37,x38], S2)) ()) ()) := by
  refine sD Try.f21 3 0 (fun v0 S1 => ?_)
  refine sD Try.f21 3 1 (fun v1 S2 => ?_)
  refine sP Try.f21 3 2 (v := (Value.int IntKind.i64 61)) ?_
  kernel_rfl
theorem neaptideref06_Read.d4 : drawnOk Try.prog (reg Try.f21 4) = true := by kernel_rfl
theorem neaptideref06_Read.ff4 : fixed Try.prog (reg Try.f21 4) = false := by kernel_rfl
theorem neaptideref06_Read.k4 : checked Try.prog (reg Try.f21 4) = [] := by kernel_rfl
theorem neaptideref06_Read.g4 : again Try.prog (reg Try.f21 4) = [] := by kernel_rfl
theorem neaptideref06_Read.r4  : vcodeV Try.prog O false (.region 4 (reg Try.f21 4) true) ([x0,x1,x2,x3,x4,x5,x6,x7,x8,x9,x10,x11,x12,x13,x14,x15,x16,x17,x18,x19,x20,x21,x22,x23,x24,x25,x26,x27,x28,x29,x30,x31,x32,x33,x34,x35,x36,x37,x38]) S =
    regV (andK (vIndexAddr Try.prog 51 (dem x4) (Value.int IntKind.i64 0) S) (fun v1 S1 => andK (vLoad Try.prog false 3 v1 S1) (fun v2 S2 => andK (vIndexAddr Try.prog 51 (dem x4) (Value.int IntKind.i64 1) S2) (fun v4 S3 => andK (vLoad Try.prog false 3 v4 S3) (fun v5 S4 => andK (aBuild Try.prog 23 [(0, (dem v2)), (1, (dem v5))] S4) (fun v6 S5 => andK (vStore Try.prog 23 x2 (dem v6) S5) (fun v7 S6 => some ([x0,x1,x2,Value.int IntKind.i64 0,x4,x5,x6,x7,x8,x9,x10,x11,x12,x13,x14,x15,x16,x17,x18,x19,x20,x21,x22,x23,x24,x25,x26,x27,x28,x29,x30,x31,dem x4,v1,v2,dem x4,v4,v5,v6], S6)) ()) ()) ()) ()) ()) ()) := by
  rw [vcodeV_drawn neaptideref06_Read.d4 neaptideref06_Read.ff4 neaptideref06_Read.k4 neaptideref06_Read.g4]
  refine congrArg regV ?_
  refine tP Try.f21 4 0 (v := x4) ?_
  refine tD Try.f21 4 1 (fun v1 S1 => ?_)
  refine tD Try.f21 4 2 (fun v2 S2 => ?_)
  refine tP Try.f21 4 3 (v := x4) ?_
  refine tD Try.f21 4 4 (fun v4 S3 => ?_)
  refine tD Try.f21 4 5 (fun v5 S4 => ?_)
  refine tD Try.f21 4 6 (fun v6 S5 => ?_)
  refine tD Try.f21 4 7 (fun v7 S6 => ?_)
  refine tP Try.f21 4 8 (v := (Value.int IntKind.i64 0)) ?_
  kernel_rfl
theorem neaptideref06_Read.rs : type_of% (And.intro @neaptideref06_Read.r0 (And.intro @neaptideref06_Read.r1 (And.intro @neaptideref06_Read.r2 (And.intro @neaptideref06_Read.r3 (@neaptideref06_Read.r4))))) := And.intro @neaptideref06_Read.r0 (And.intro @neaptideref06_Read.r1 (And.intro @neaptideref06_Read.r2 (And.intro @neaptideref06_Read.r3 (@neaptideref06_Read.r4))))
theorem neaptideref06_Read.runs {x0 : Value} {S S1 : AHeap} {e : AEx} {T : List Value} (h : vcodeV Try.prog O false neaptideref06_Read.code ([x0,undef,undef,undef,undef,undef,undef,undef,undef,undef,undef,undef,undef,undef,undef,undef,undef,undef,undef,undef,undef,undef,undef,undef,undef,undef,undef,undef,undef,undef,undef,undef,undef,undef,undef,undef,undef,undef,undef]) AHeap.empty = some (e, T, S1)) (he : e = .normal ∨ e = .ret) {w0 : Value} (c0 : vLoad Try.prog false 23 (T.getD 2 undef) S1 = some (w0, S1)) (h0 : notTuple (w0) = true) (h1 : notTuple (T.getD 3 undef) = true) (hca : [x0].all (cleanN 16) = true) (hcv : cleanN 16 (Value.tuple #[w0, T.getD 3 undef]) = true) : vlim Try.prog O 21 [x0] S = some (Value.tuple #[w0, T.getD 3 undef], S) :=
  vlim_pure rfl rfl Try.func21 (by decide) neaptideref06_Read.body (by exact h) he ((vRes_many ((show vResVals Try.prog T S1 Try.f21.results.toList = vResVals Try.prog T S1 [(ResultVar.cell 2 23), (ResultVar.tmp 3)] from by kernel_rfl).trans (by simp only [vResVals, c0])) (by kernel_rfl) (by simp only [List.all_cons, List.all_nil, h0, h1, Bool.and_true])).trans rfl) hca hcv
end Go.Proofs.Ytfnlcbgijkakiaa

namespace Go.Proofs.Ytfnlcbgijkakiaa
open Go.Abs

/-- neaptide.tx.Right -/
abbrev tx_Right.id : FuncId := 13
noncomputable def tx_Right.code : Code := (Code.seq (Code.region 0 (reg Try.f13 0) false) (Code.seq (Code.region 1 (reg Try.f13 1) false) Code.ret))
theorem tx_Right.body : Try.f13.body = some tx_Right.code := by kernel_rfl
theorem tx_Right.eta {T : List Value} (h : T.length = 21) : T = [T.getD 0 undef,T.getD 1 undef,T.getD 2 undef,T.getD 3 undef,T.getD 4 undef,T.getD 5 undef,T.getD 6 undef,T.getD 7 undef,T.getD 8 undef,T.getD 9 undef,T.getD 10 undef,T.getD 11 undef,T.getD 12 undef,T.getD 13 undef,T.getD 14 undef,T.getD 15 undef,T.getD 16 undef,T.getD 17 undef,T.getD 18 undef,T.getD 19 undef,T.getD 20 undef] := (list_getD T 21 h).trans (by kernel_rfl)
variable (x0 x1 x2 x3 x4 x5 x6 x7 x8 x9 x10 x11 x12 x13 x14 x15 x16 x17 x18 x19 x20 : Value) (S : AHeap)
theorem tx_Right.r0  : vOps Try.prog ⟨false, false, false⟩ (vlim Try.prog O) (reg Try.f13 0) (reg Try.f13 0).toList ([x0,x1,x2,x3,x4,x5,x6,x7,x8,x9,x10,x11,x12,x13,x14,x15,x16,x17,x18,x19,x20]) S =
    (andK (aBox (dem x0) S) (fun v0 S1 => some ([x0,v0,Value.bool false,x3,x4,x5,x6,x7,x8,x9,x10,x11,x12,x13,x14,x15,x16,x17,x18,x19,x20], S1)) ()) := by
  refine sD Try.f13 0 0 (fun v0 S1 => ?_)
  refine sP Try.f13 0 1 (v := (Value.bool false)) ?_
  kernel_rfl
theorem tx_Right.r1  : vOps Try.prog ⟨false, false, false⟩ (vlim Try.prog O) (reg Try.f13 1) (reg Try.f13 1).toList ([x0,x1,x2,x3,x4,x5,x6,x7,x8,x9,x10,x11,x12,x13,x14,x15,x16,x17,x18,x19,x20]) S =
    (andK (vFieldAddr Try.prog 23 x1 0 S) (fun v0 S1 => andK (vLoad Try.prog false 3 v0 S1) (fun v1 S2 => andK (vBin Try.prog BinOp.geq 3 v1 (Value.int IntKind.i64 1) S2) (fun v2 S3 => gdK (dem v2) true (vFieldAddr Try.prog 23 x1 0) S3 (fun v4 S4 => gdK (dem v2) true (vLoad Try.prog false 3 v4) S4 (fun v5 S5 => gdK (dem v2) true (vBin Try.prog BinOp.leq 3 v5 (Value.int IntKind.i64 1000000)) S5 (fun v6 S6 => andK (vPick (dem v2) v6 (Value.bool false) S6) (fun v7 S7 => gdK (dem v7) true (vFieldAddr Try.prog 23 x1 1) S7 (fun v9 S8 => gdK (dem v7) true (vLoad Try.prog false 3 v9) S8 (fun v10 S9 => gdK (dem v7) true (vBin Try.prog BinOp.geq 3 v10 (Value.int IntKind.i64 0)) S9 (fun v11 S10 => andK (vPick (dem v7) v11 (Value.bool false) S10) (fun v12 S11 => gdK (dem v12) true (vFieldAddr Try.prog 23 x1 1) S11 (fun v14 S12 => gdK (dem v12) true (vLoad Try.prog false 3 v14) S12 (fun v15 S13 => gdK (dem v12) true (vBin Try.prog BinOp.leq 3 v15 (Value.int IntKind.i64 1000)) S13 (fun v16 S14 => andK (vPick (dem v12) v16 (Value.bool false) S14) (fun v17 S15 => some ([x0,x1,v17,v0,v1,v2,dem v2,v4,v5,v6,v7,dem v7,v9,v10,v11,v12,dem v12,v14,v15,v16,dem v17], S15)) ()) ()) ()) ()) ()) ()) ()) ()) ()) ()) ()) ()) ()) ()) ()) := by
  refine sD Try.f13 1 0 (fun v0 S1 => ?_)
  refine sD Try.f13 1 1 (fun v1 S2 => ?_)
  refine sD Try.f13 1 2 (fun v2 S3 => ?_)
  refine sP Try.f13 1 3 (v := v2) ?_
  refine sG Try.f13 1 4 (j := 3) (fun v4 S4 => ?_)
  refine sG Try.f13 1 5 (j := 3) (fun v5 S5 => ?_)
  refine sG Try.f13 1 6 (j := 3) (fun v6 S6 => ?_)
  refine sD Try.f13 1 7 (fun v7 S7 => ?_)
  refine sP Try.f13 1 8 (v := v7) ?_
  refine sG Try.f13 1 9 (j := 8) (fun v9 S8 => ?_)
  refine sG Try.f13 1 10 (j := 8) (fun v10 S9 => ?_)
  refine sG Try.f13 1 11 (j := 8) (fun v11 S10 => ?_)
  refine sD Try.f13 1 12 (fun v12 S11 => ?_)
  refine sP Try.f13 1 13 (v := v12) ?_
  refine sG Try.f13 1 14 (j := 13) (fun v14 S12 => ?_)
  refine sG Try.f13 1 15 (j := 13) (fun v15 S13 => ?_)
  refine sG Try.f13 1 16 (j := 13) (fun v16 S14 => ?_)
  refine sD Try.f13 1 17 (fun v17 S15 => ?_)
  refine sP Try.f13 1 18 (v := v17) ?_
  kernel_rfl
theorem tx_Right.rs : type_of% (And.intro @tx_Right.r0 (@tx_Right.r1)) := And.intro @tx_Right.r0 (@tx_Right.r1)
theorem tx_Right.runs {x0 : Value} {S S1 : AHeap} {e : AEx} {T : List Value} (h : vcodeV Try.prog O false tx_Right.code ([x0,undef,undef,undef,undef,undef,undef,undef,undef,undef,undef,undef,undef,undef,undef,undef,undef,undef,undef,undef,undef]) AHeap.empty = some (e, T, S1)) (he : e = .normal ∨ e = .ret) (hca : [x0].all (cleanN 16) = true) (hcv : cleanN 16 (T.getD 2 undef) = true) : vlim Try.prog O 13 [x0] S = some (T.getD 2 undef, S) :=
  vlim_pure rfl rfl Try.func13 (by decide) tx_Right.body (by exact h) he (vRes_one (a := T.getD 2 undef) ((show vResVals Try.prog T S1 Try.f13.results.toList = vResVals Try.prog T S1 [(ResultVar.tmp 2)] from by kernel_rfl).trans (by simp only [vResVals])) (by kernel_rfl)) hca hcv
end Go.Proofs.Ytfnlcbgijkakiaa

namespace Go.Proofs.Ytfnlcbgijkakiaa
open Go.Abs

/-- neaptide.neaptideref06.Right -/
abbrev neaptideref06_Right.id : FuncId := 14
noncomputable def neaptideref06_Right.code : Code := (Code.seq (Code.region 0 (reg Try.f14 0) false) (Code.seq (Code.region 1 (reg Try.f14 1) false) Code.ret))
theorem neaptideref06_Right.body : Try.f14.body = some neaptideref06_Right.code := by kernel_rfl
theorem neaptideref06_Right.eta {T : List Value} (h : T.length = 21) : T = [T.getD 0 undef,T.getD 1 undef,T.getD 2 undef,T.getD 3 undef,T.getD 4 undef,T.getD 5 undef,T.getD 6 undef,T.getD 7 undef,T.getD 8 undef,T.getD 9 undef,T.getD 10 undef,T.getD 11 undef,T.getD 12 undef,T.getD 13 undef,T.getD 14 undef,T.getD 15 undef,T.getD 16 undef,T.getD 17 undef,T.getD 18 undef,T.getD 19 undef,T.getD 20 undef] := (list_getD T 21 h).trans (by kernel_rfl)
variable (x0 x1 x2 x3 x4 x5 x6 x7 x8 x9 x10 x11 x12 x13 x14 x15 x16 x17 x18 x19 x20 : Value) (S : AHeap)
theorem neaptideref06_Right.r0  : vOps Try.prog ⟨false, false, false⟩ (vlim Try.prog O) (reg Try.f14 0) (reg Try.f14 0).toList ([x0,x1,x2,x3,x4,x5,x6,x7,x8,x9,x10,x11,x12,x13,x14,x15,x16,x17,x18,x19,x20]) S =
    (andK (aBox (dem x0) S) (fun v0 S1 => some ([x0,v0,Value.bool false,x3,x4,x5,x6,x7,x8,x9,x10,x11,x12,x13,x14,x15,x16,x17,x18,x19,x20], S1)) ()) := by
  refine sD Try.f14 0 0 (fun v0 S1 => ?_)
  refine sP Try.f14 0 1 (v := (Value.bool false)) ?_
  kernel_rfl
theorem neaptideref06_Right.r1  : vOps Try.prog ⟨false, false, false⟩ (vlim Try.prog O) (reg Try.f14 1) (reg Try.f14 1).toList ([x0,x1,x2,x3,x4,x5,x6,x7,x8,x9,x10,x11,x12,x13,x14,x15,x16,x17,x18,x19,x20]) S =
    (andK (vFieldAddr Try.prog 23 x1 0 S) (fun v0 S1 => andK (vLoad Try.prog false 3 v0 S1) (fun v1 S2 => andK (vBin Try.prog BinOp.gtr 3 v1 (Value.int IntKind.i64 0) S2) (fun v2 S3 => gdK (dem v2) true (vFieldAddr Try.prog 23 x1 0) S3 (fun v4 S4 => gdK (dem v2) true (vLoad Try.prog false 3 v4) S4 (fun v5 S5 => gdK (dem v2) true (vBin Try.prog BinOp.leq 3 v5 (Value.int IntKind.i64 1000000)) S5 (fun v6 S6 => andK (vPick (dem v2) v6 (Value.bool false) S6) (fun v7 S7 => gdK (dem v7) true (vFieldAddr Try.prog 23 x1 1) S7 (fun v9 S8 => gdK (dem v7) true (vLoad Try.prog false 3 v9) S8 (fun v10 S9 => gdK (dem v7) true (vBin Try.prog BinOp.geq 3 v10 (Value.int IntKind.i64 0)) S9 (fun v11 S10 => andK (vPick (dem v7) v11 (Value.bool false) S10) (fun v12 S11 => gdK (dem v12) true (vFieldAddr Try.prog 23 x1 1) S11 (fun v14 S12 => gdK (dem v12) true (vLoad Try.prog false 3 v14) S12 (fun v15 S13 => gdK (dem v12) true (vBin Try.prog BinOp.leq 3 v15 (Value.int IntKind.i64 1000)) S13 (fun v16 S14 => andK (vPick (dem v12) v16 (Value.bool false) S14) (fun v17 S15 => some ([x0,x1,v17,v0,v1,v2,dem v2,v4,v5,v6,v7,dem v7,v9,v10,v11,v12,dem v12,v14,v15,v16,dem v17], S15)) ()) ()) ()) ()) ()) ()) ()) ()) ()) ()) ()) ()) ()) ()) ()) := by
  refine sD Try.f14 1 0 (fun v0 S1 => ?_)
  refine sD Try.f14 1 1 (fun v1 S2 => ?_)
  refine sD Try.f14 1 2 (fun v2 S3 => ?_)
  refine sP Try.f14 1 3 (v := v2) ?_
  refine sG Try.f14 1 4 (j := 3) (fun v4 S4 => ?_)
  refine sG Try.f14 1 5 (j := 3) (fun v5 S5 => ?_)
  refine sG Try.f14 1 6 (j := 3) (fun v6 S6 => ?_)
  refine sD Try.f14 1 7 (fun v7 S7 => ?_)
  refine sP Try.f14 1 8 (v := v7) ?_
  refine sG Try.f14 1 9 (j := 8) (fun v9 S8 => ?_)
  refine sG Try.f14 1 10 (j := 8) (fun v10 S9 => ?_)
  refine sG Try.f14 1 11 (j := 8) (fun v11 S10 => ?_)
  refine sD Try.f14 1 12 (fun v12 S11 => ?_)
  refine sP Try.f14 1 13 (v := v12) ?_
  refine sG Try.f14 1 14 (j := 13) (fun v14 S12 => ?_)
  refine sG Try.f14 1 15 (j := 13) (fun v15 S13 => ?_)
  refine sG Try.f14 1 16 (j := 13) (fun v16 S14 => ?_)
  refine sD Try.f14 1 17 (fun v17 S15 => ?_)
  refine sP Try.f14 1 18 (v := v17) ?_
  kernel_rfl
theorem neaptideref06_Right.rs : type_of% (And.intro @neaptideref06_Right.r0 (@neaptideref06_Right.r1)) := And.intro @neaptideref06_Right.r0 (@neaptideref06_Right.r1)
theorem neaptideref06_Right.runs {x0 : Value} {S S1 : AHeap} {e : AEx} {T : List Value} (h : vcodeV Try.prog O false neaptideref06_Right.code ([x0,undef,undef,undef,undef,undef,undef,undef,undef,undef,undef,undef,undef,undef,undef,undef,undef,undef,undef,undef,undef]) AHeap.empty = some (e, T, S1)) (he : e = .normal ∨ e = .ret) (hca : [x0].all (cleanN 16) = true) (hcv : cleanN 16 (T.getD 2 undef) = true) : vlim Try.prog O 14 [x0] S = some (T.getD 2 undef, S) :=
  vlim_pure rfl rfl Try.func14 (by decide) neaptideref06_Right.body (by exact h) he (vRes_one (a := T.getD 2 undef) ((show vResVals Try.prog T S1 Try.f14.results.toList = vResVals Try.prog T S1 [(ResultVar.tmp 2)] from by kernel_rfl).trans (by simp only [vResVals])) (by kernel_rfl)) hca hcv
end Go.Proofs.Ytfnlcbgijkakiaa

namespace Go.Proofs.Ytfnlcbgijkakiaa
open Go.Abs

/-- neaptide.tx.Less -/
abbrev tx_Less.id : FuncId := 15
noncomputable def tx_Less.code : Code := (Code.seq (Code.region 0 (reg Try.f15 0) false) (Code.seq (Code.region 1 (reg Try.f15 1) true) Code.ret))
theorem tx_Less.body : Try.f15.body = some tx_Less.code := by kernel_rfl
theorem tx_Less.eta {T : List Value} (h : T.length = 18) : T = [T.getD 0 undef,T.getD 1 undef,T.getD 2 undef,T.getD 3 undef,T.getD 4 undef,T.getD 5 undef,T.getD 6 undef,T.getD 7 undef,T.getD 8 undef,T.getD 9 undef,T.getD 10 undef,T.getD 11 undef,T.getD 12 undef,T.getD 13 undef,T.getD 14 undef,T.getD 15 undef,T.getD 16 undef,T.getD 17 undef] := (list_getD T 18 h).trans (by kernel_rfl)
variable (x0 x1 x2 x3 x4 x5 x6 x7 x8 x9 x10 x11 x12 x13 x14 x15 x16 x17 : Value) (S : AHeap)
theorem tx_Less.r0  : vOps Try.prog ⟨false, false, false⟩ (vlim Try.prog O) (reg Try.f15 0) (reg Try.f15 0).toList ([x0,x1,x2,x3,x4,x5,x6,x7,x8,x9,x10,x11,x12,x13,x14,x15,x16,x17]) S =
    (andK (aBox (dem x0) S) (fun v0 S1 => andK (aBox (dem x1) S1) (fun v1 S2 => some ([x0,x1,v0,v1,Value.bool false,x5,x6,x7,x8,x9,x10,x11,x12,x13,x14,x15,x16,x17], S2)) ()) ()) := by
  refine sD Try.f15 0 0 (fun v0 S1 => ?_)
  refine sD Try.f15 0 1 (fun v1 S2 => ?_)
  refine sP Try.f15 0 2 (v := (Value.bool false)) ?_
  kernel_rfl
theorem tx_Less.d1 : drawnOk Try.prog (reg Try.f15 1) = true := by kernel_rfl
theorem tx_Less.ff1 : fixed Try.prog (reg Try.f15 1) = false := by kernel_rfl
theorem tx_Less.k1 : checked Try.prog (reg Try.f15 1) = [5, 6, 7, 8] := by kernel_rfl
theorem tx_Less.g1 : again Try.prog (reg Try.f15 1) = [(6, 4), (8, 4)] := by kernel_rfl
theorem tx_Less.r1  : vcodeV Try.prog O false (.region 1 (reg Try.f15 1) true) ([x0,x1,x2,x3,x4,x5,x6,x7,x8,x9,x10,x11,x12,x13,x14,x15,x16,x17]) S =
    regV (andK (vFieldAddr Try.prog 23 x3 1 S) (fun v0 S1 => andK (vLoad Try.prog false 3 v0 S1) (fun v1 S2 => andK (vFieldAddr Try.prog 23 x2 1 S2) (fun v2 S3 => andK (vLoad Try.prog false 3 v2 S3) (fun v3 S4 => andK ((vlim Try.prog O) 27 [(dem v1), (dem v3)] S4) (fun v4 S5 => andK (vFieldAddr Try.prog 23 x2 0 S5) (fun v5 S6 => okK v5 ( andK (vLoad Try.prog false 3 v5 S6) (fun v6 S7 => okK v6 ( andK (vFieldAddr Try.prog 23 x3 0 S7) (fun v7 S8 => okK v7 ( andK (vLoad Try.prog false 3 v7 S8) (fun v8 S9 => okK v8 ( andK ((vlim Try.prog O) 27 [(dem v6), (dem v8)] S9) (fun v9 S10 => andK (vBuildSlice Try.prog 51 2 [(0, v4), (1, v9)] S10) (fun v10 S11 => andK ((vlim Try.prog O) 26 [(dem v10)] S11) (fun v11 S12 => andK (vBin Try.prog BinOp.lss 3 v11 (Value.int IntKind.i64 0) S12) (fun v12 S13 => ckK (stillQ v5 S4 S6 && (stillQ v7 S4 S8 && (true))) (some ([x0,x1,x2,x3,v12,v0,v1,v2,v3,v4,v5,v6,v7,v8,v9,v10,v11,dem v12], S13)) ()) ()) ()) ()) ()) ()) ()) ()) ()) ()) ()) ()) ()) ()) ()) ()) ()) ()) := by
  rw [vcodeV_drawn tx_Less.d1 tx_Less.ff1 tx_Less.k1 tx_Less.g1]
  refine congrArg regV ?_
  refine uD Try.f15 1 0 (pe := undef) (fun v0 S1 => ?_)
  refine uD Try.f15 1 1 (pe := v0) (fun v1 S2 => ?_)
  refine uD Try.f15 1 2 (pe := undef) (fun v2 S3 => ?_)
  refine uD Try.f15 1 3 (pe := v2) (fun v3 S4 => ?_)
  refine uD Try.f15 1 4 (pe := undef) (fun v4 S5 => ?_)
  refine uDC Try.f15 1 5 (pe := undef) (fun v5 S6 => ?_)
  refine uDC Try.f15 1 6 (pe := v5) (fun v6 S7 => ?_)
  refine uDC Try.f15 1 7 (pe := undef) (fun v7 S8 => ?_)
  refine uDC Try.f15 1 8 (pe := v7) (fun v8 S9 => ?_)
  refine uD Try.f15 1 9 (pe := undef) (fun v9 S10 => ?_)
  refine uD Try.f15 1 10 (pe := undef) (fun v10 S11 => ?_)
  refine uD Try.f15 1 11 (pe := undef) (fun v11 S12 => ?_)
  refine uD Try.f15 1 12 (pe := undef) (fun v12 S13 => ?_)
  refine uP Try.f15 1 13 (v := v12) (pe := undef) ?_
  kernel_rfl
theorem tx_Less.rs : type_of% (And.intro @tx_Less.r0 (@tx_Less.r1)) := And.intro @tx_Less.r0 (@tx_Less.r1)
theorem tx_Less.runs {x0 x1 : Value} {S S1 : AHeap} {e : AEx} {T : List Value} (h : vcodeV Try.prog O false tx_Less.code ([x0,x1,undef,undef,undef,undef,undef,undef,undef,undef,undef,undef,undef,undef,undef,undef,undef,undef]) AHeap.empty = some (e, T, S1)) (he : e = .normal ∨ e = .ret) (hca : [x0, x1].all (cleanN 16) = true) (hcv : cleanN 16 (T.getD 4 undef) = true) : vlim Try.prog O 15 [x0, x1] S = some (T.getD 4 undef, S) :=
  vlim_pure rfl rfl Try.func15 (by decide) tx_Less.body (by exact h) he (vRes_one (a := T.getD 4 undef) ((show vResVals Try.prog T S1 Try.f15.results.toList = vResVals Try.prog T S1 [(ResultVar.tmp 4)] from by kernel_rfl).trans (by simp only [vResVals])) (by kernel_rfl)) hca hcv
end Go.Proofs.Ytfnlcbgijkakiaa

namespace Go.Proofs.Ytfnlcbgijkakiaa
open Go.Abs

/-- neaptide.neaptideref06.Less -/
abbrev neaptideref06_Less.id : FuncId := 16
noncomputable def neaptideref06_Less.code : Code := (Code.seq (Code.region 0 (reg Try.f16 0) false) (Code.seq (Code.seq (Code.region 1 (reg Try.f16 1) false) (Code.cond (Operand.tmp 9) (Code.seq (Code.region 2 (reg Try.f16 2) false) Code.ret) Code.skip)) (Code.seq (Code.region 3 (reg Try.f16 3) false) Code.ret)))
theorem neaptideref06_Less.body : Try.f16.body = some neaptideref06_Less.code := by kernel_rfl
theorem neaptideref06_Less.eta {T : List Value} (h : T.length = 20) : T = [T.getD 0 undef,T.getD 1 undef,T.getD 2 undef,T.getD 3 undef,T.getD 4 undef,T.getD 5 undef,T.getD 6 undef,T.getD 7 undef,T.getD 8 undef,T.getD 9 undef,T.getD 10 undef,T.getD 11 undef,T.getD 12 undef,T.getD 13 undef,T.getD 14 undef,T.getD 15 undef,T.getD 16 undef,T.getD 17 undef,T.getD 18 undef,T.getD 19 undef] := (list_getD T 20 h).trans (by kernel_rfl)
variable (x0 x1 x2 x3 x4 x5 x6 x7 x8 x9 x10 x11 x12 x13 x14 x15 x16 x17 x18 x19 : Value) (S : AHeap)
theorem neaptideref06_Less.r0  : vOps Try.prog ⟨false, false, false⟩ (vlim Try.prog O) (reg Try.f16 0) (reg Try.f16 0).toList ([x0,x1,x2,x3,x4,x5,x6,x7,x8,x9,x10,x11,x12,x13,x14,x15,x16,x17,x18,x19]) S =
    (andK (aBox (dem x0) S) (fun v0 S1 => andK (aBox (dem x1) S1) (fun v1 S2 => some ([x0,x1,v0,v1,Value.bool false,x5,x6,x7,x8,x9,x10,x11,x12,x13,x14,x15,x16,x17,x18,x19], S2)) ()) ()) := by
  refine sD Try.f16 0 0 (fun v0 S1 => ?_)
  refine sD Try.f16 0 1 (fun v1 S2 => ?_)
  refine sP Try.f16 0 2 (v := (Value.bool false)) ?_
  kernel_rfl
theorem neaptideref06_Less.r1  : vOps Try.prog ⟨false, false, false⟩ (vlim Try.prog O) (reg Try.f16 1) (reg Try.f16 1).toList ([x0,x1,x2,x3,x4,x5,x6,x7,x8,x9,x10,x11,x12,x13,x14,x15,x16,x17,x18,x19]) S =
    (andK (vFieldAddr Try.prog 23 x2 1 S) (fun v0 S1 => andK (vLoad Try.prog false 3 v0 S1) (fun v1 S2 => andK (vFieldAddr Try.prog 23 x3 1 S2) (fun v2 S3 => andK (vLoad Try.prog false 3 v2 S3) (fun v3 S4 => andK (vBin Try.prog BinOp.neq 3 v1 v3 S4) (fun v4 S5 => some ([x0,x1,x2,x3,x4,v0,v1,v2,v3,v4,x10,x11,x12,x13,x14,x15,x16,x17,x18,x19], S5)) ()) ()) ()) ()) ()) := by
  refine sD Try.f16 1 0 (fun v0 S1 => ?_)
  refine sD Try.f16 1 1 (fun v1 S2 => ?_)
  refine sD Try.f16 1 2 (fun v2 S3 => ?_)
  refine sD Try.f16 1 3 (fun v3 S4 => ?_)
  refine sD Try.f16 1 4 (fun v4 S5 => ?_)
  kernel_rfl
theorem neaptideref06_Less.r2  : vOps Try.prog ⟨false, false, false⟩ (vlim Try.prog O) (reg Try.f16 2) (reg Try.f16 2).toList ([x0,x1,x2,x3,x4,x5,x6,x7,x8,x9,x10,x11,x12,x13,x14,x15,x16,x17,x18,x19]) S =
    (andK (vFieldAddr Try.prog 23 x2 1 S) (fun v0 S1 => andK (vLoad Try.prog false 3 v0 S1) (fun v1 S2 => andK (vFieldAddr Try.prog 23 x3 1 S2) (fun v2 S3 => andK (vLoad Try.prog false 3 v2 S3) (fun v3 S4 => andK (vBin Try.prog BinOp.gtr 3 v1 v3 S4) (fun v4 S5 => some ([x0,x1,x2,x3,v4,x5,x6,x7,x8,x9,v0,v1,v2,v3,dem v4,x15,x16,x17,x18,x19], S5)) ()) ()) ()) ()) ()) := by
  refine sD Try.f16 2 0 (fun v0 S1 => ?_)
  refine sD Try.f16 2 1 (fun v1 S2 => ?_)
  refine sD Try.f16 2 2 (fun v2 S3 => ?_)
  refine sD Try.f16 2 3 (fun v3 S4 => ?_)
  refine sD Try.f16 2 4 (fun v4 S5 => ?_)
  refine sP Try.f16 2 5 (v := v4) ?_
  kernel_rfl
theorem neaptideref06_Less.r3  : vOps Try.prog ⟨false, false, false⟩ (vlim Try.prog O) (reg Try.f16 3) (reg Try.f16 3).toList ([x0,x1,x2,x3,x4,x5,x6,x7,x8,x9,x10,x11,x12,x13,x14,x15,x16,x17,x18,x19]) S =
    (andK (vFieldAddr Try.prog 23 x2 0 S) (fun v0 S1 => andK (vLoad Try.prog false 3 v0 S1) (fun v1 S2 => andK (vFieldAddr Try.prog 23 x3 0 S2) (fun v2 S3 => andK (vLoad Try.prog false 3 v2 S3) (fun v3 S4 => andK (vBin Try.prog BinOp.lss 3 v1 v3 S4) (fun v4 S5 => some ([x0,x1,x2,x3,v4,x5,x6,x7,x8,x9,x10,x11,x12,x13,x14,v0,v1,v2,v3,dem v4], S5)) ()) ()) ()) ()) ()) := by
  refine sD Try.f16 3 0 (fun v0 S1 => ?_)
  refine sD Try.f16 3 1 (fun v1 S2 => ?_)
  refine sD Try.f16 3 2 (fun v2 S3 => ?_)
  refine sD Try.f16 3 3 (fun v3 S4 => ?_)
  refine sD Try.f16 3 4 (fun v4 S5 => ?_)
  refine sP Try.f16 3 5 (v := v4) ?_
  kernel_rfl
theorem neaptideref06_Less.rs : type_of% (And.intro @neaptideref06_Less.r0 (And.intro @neaptideref06_Less.r1 (And.intro @neaptideref06_Less.r2 (@neaptideref06_Less.r3)))) := And.intro @neaptideref06_Less.r0 (And.intro @neaptideref06_Less.r1 (And.intro @neaptideref06_Less.r2 (@neaptideref06_Less.r3)))
theorem neaptideref06_Less.runs {x0 x1 : Value} {S S1 : AHeap} {e : AEx} {T : List Value} (h : vcodeV Try.prog O false neaptideref06_Less.code ([x0,x1,undef,undef,undef,undef,undef,undef,undef,undef,undef,undef,undef,undef,undef,undef,undef,undef,undef,undef]) AHeap.empty = some (e, T, S1)) (he : e = .normal ∨ e = .ret) (hca : [x0, x1].all (cleanN 16) = true) (hcv : cleanN 16 (T.getD 4 undef) = true) : vlim Try.prog O 16 [x0, x1] S = some (T.getD 4 undef, S) :=
  vlim_pure rfl rfl Try.func16 (by decide) neaptideref06_Less.body (by exact h) he (vRes_one (a := T.getD 4 undef) ((show vResVals Try.prog T S1 Try.f16.results.toList = vResVals Try.prog T S1 [(ResultVar.tmp 4)] from by kernel_rfl).trans (by simp only [vResVals])) (by kernel_rfl)) hca hcv
end Go.Proofs.Ytfnlcbgijkakiaa

namespace Go.Proofs.Ytfnlcbgijkakiaa
open Go.Abs

/-- cmp.Compare[int] -/
abbrev cmp_Compare.id : FuncId := 27
noncomputable def cmp_Compare.code : Code := (Code.seq (Code.region 0 (reg Try.f27 0) false) (Code.seq (Code.region 1 (reg Try.f27 1) false) (Code.seq (Code.region 2 (reg Try.f27 2) false) (Code.seq (Code.seq (Code.region 3 (reg Try.f27 3) false) (Code.cond (Operand.tmp 11) (Code.seq (Code.seq (Code.region 4 (reg Try.f27 4) false) (Code.cond (Operand.tmp 12) (Code.seq (Code.region 5 (reg Try.f27 5) false) Code.ret) Code.skip)) (Code.seq (Code.region 6 (reg Try.f27 6) false) Code.ret)) Code.skip)) (Code.seq (Code.seq (Code.region 7 (reg Try.f27 7) false) (Code.cond (Operand.tmp 13) (Code.seq (Code.region 8 (reg Try.f27 8) false) Code.ret) Code.skip)) (Code.seq (Code.seq (Code.region 9 (reg Try.f27 9) false) (Code.cond (Operand.tmp 16) (Code.seq (Code.region 10 (reg Try.f27 10) false) Code.ret) Code.skip)) (Code.seq (Code.seq (Code.region 11 (reg Try.f27 11) false) (Code.cond (Operand.tmp 19) (Code.seq (Code.region 12 (reg Try.f27 12) false) Code.ret) Code.skip)) (Code.seq (Code.region 13 (reg Try.f27 13) false) Code.ret))))))))
theorem cmp_Compare.body : Try.f27.body = some cmp_Compare.code := by kernel_rfl
theorem cmp_Compare.eta {T : List Value} (h : T.length = 20) : T = [T.getD 0 undef,T.getD 1 undef,T.getD 2 undef,T.getD 3 undef,T.getD 4 undef,T.getD 5 undef,T.getD 6 undef,T.getD 7 undef,T.getD 8 undef,T.getD 9 undef,T.getD 10 undef,T.getD 11 undef,T.getD 12 undef,T.getD 13 undef,T.getD 14 undef,T.getD 15 undef,T.getD 16 undef,T.getD 17 undef,T.getD 18 undef,T.getD 19 undef] := (list_getD T 20 h).trans (by kernel_rfl)
variable (x0 x1 x2 x3 x4 x5 x6 x7 x8 x9 x10 x11 x12 x13 x14 x15 x16 x17 x18 x19 : Value) (S : AHeap)
theorem cmp_Compare.r0  : vOps Try.prog ⟨false, false, false⟩ (vlim Try.prog O) (reg Try.f27 0) (reg Try.f27 0).toList ([x0,x1,x2,x3,x4,x5,x6,x7,x8,x9,x10,x11,x12,x13,x14,x15,x16,x17,x18,x19]) S =
    ( some ([x0,x1,x2,x3,Value.int IntKind.i64 0,x5,x6,x7,x8,x9,x10,x11,x12,x13,x14,x15,x16,x17,x18,x19], S)) := by
  refine sP Try.f27 0 0 (v := (Value.int IntKind.i64 0)) ?_
  kernel_rfl
theorem cmp_Compare.r1  : vOps Try.prog ⟨false, false, false⟩ (vlim Try.prog O) (reg Try.f27 1) (reg Try.f27 1).toList ([x0,x1,x2,x3,x4,x5,x6,x7,x8,x9,x10,x11,x12,x13,x14,x15,x16,x17,x18,x19]) S =
    (andK ((vlim Try.prog O) 34 [(dem (dem x0))] S) (fun v1 S1 => some ([x0,x1,x2,x3,x4,v1,x6,dem x0,dem v1,x9,x10,x11,x12,x13,x14,x15,x16,x17,x18,x19], S1)) ()) := by
  refine sP Try.f27 1 0 (v := x0) ?_
  refine sD Try.f27 1 1 (fun v1 S1 => ?_)
  refine sP Try.f27 1 2 (v := v1) ?_
  kernel_rfl
theorem cmp_Compare.r2  : vOps Try.prog ⟨false, false, false⟩ (vlim Try.prog O) (reg Try.f27 2) (reg Try.f27 2).toList ([x0,x1,x2,x3,x4,x5,x6,x7,x8,x9,x10,x11,x12,x13,x14,x15,x16,x17,x18,x19]) S =
    (andK ((vlim Try.prog O) 34 [(dem (dem x1))] S) (fun v1 S1 => some ([x0,x1,x2,x3,x4,x5,v1,x7,x8,dem x1,dem v1,x11,x12,x13,x14,x15,x16,x17,x18,x19], S1)) ()) := by
  refine sP Try.f27 2 0 (v := x1) ?_
  refine sD Try.f27 2 1 (fun v1 S1 => ?_)
  refine sP Try.f27 2 2 (v := v1) ?_
  kernel_rfl
theorem cmp_Compare.r3  : vOps Try.prog ⟨false, false, false⟩ (vlim Try.prog O) (reg Try.f27 3) (reg Try.f27 3).toList ([x0,x1,x2,x3,x4,x5,x6,x7,x8,x9,x10,x11,x12,x13,x14,x15,x16,x17,x18,x19]) S =
    ( some ([x0,x1,x2,x3,x4,x5,x6,x7,x8,x9,x10,dem x5,x12,x13,x14,x15,x16,x17,x18,x19], S)) := by
  refine sP Try.f27 3 0 (v := x5) ?_
  kernel_rfl
theorem cmp_Compare.r4  : vOps Try.prog ⟨false, false, false⟩ (vlim Try.prog O) (reg Try.f27 4) (reg Try.f27 4).toList ([x0,x1,x2,x3,x4,x5,x6,x7,x8,x9,x10,x11,x12,x13,x14,x15,x16,x17,x18,x19]) S =
    ( some ([x0,x1,x2,x3,x4,x5,x6,x7,x8,x9,x10,x11,dem x6,x13,x14,x15,x16,x17,x18,x19], S)) := by
  refine sP Try.f27 4 0 (v := x6) ?_
  kernel_rfl
theorem cmp_Compare.r5  : vOps Try.prog ⟨false, false, false⟩ (vlim Try.prog O) (reg Try.f27 5) (reg Try.f27 5).toList ([x0,x1,x2,x3,x4,x5,x6,x7,x8,x9,x10,x11,x12,x13,x14,x15,x16,x17,x18,x19]) S =
    ( some ([x0,x1,x2,x3,Value.int IntKind.i64 0,x5,x6,x7,x8,x9,x10,x11,x12,x13,x14,x15,x16,x17,x18,x19], S)) := by
  refine sP Try.f27 5 0 (v := (Value.int IntKind.i64 0)) ?_
  kernel_rfl
theorem cmp_Compare.r6  : vOps Try.prog ⟨false, false, false⟩ (vlim Try.prog O) (reg Try.f27 6) (reg Try.f27 6).toList ([x0,x1,x2,x3,x4,x5,x6,x7,x8,x9,x10,x11,x12,x13,x14,x15,x16,x17,x18,x19]) S =
    ( some ([x0,x1,x2,x3,Value.int IntKind.i64 (-1),x5,x6,x7,x8,x9,x10,x11,x12,x13,x14,x15,x16,x17,x18,x19], S)) := by
  refine sP Try.f27 6 0 (v := (Value.int IntKind.i64 (-1))) ?_
  kernel_rfl
theorem cmp_Compare.r7  : vOps Try.prog ⟨false, false, false⟩ (vlim Try.prog O) (reg Try.f27 7) (reg Try.f27 7).toList ([x0,x1,x2,x3,x4,x5,x6,x7,x8,x9,x10,x11,x12,x13,x14,x15,x16,x17,x18,x19]) S =
    ( some ([x0,x1,x2,x3,x4,x5,x6,x7,x8,x9,x10,x11,x12,dem x6,x14,x15,x16,x17,x18,x19], S)) := by
  refine sP Try.f27 7 0 (v := x6) ?_
  kernel_rfl
theorem cmp_Compare.r8  : vOps Try.prog ⟨false, false, false⟩ (vlim Try.prog O) (reg Try.f27 8) (reg Try.f27 8).toList ([x0,x1,x2,x3,x4,x5,x6,x7,x8,x9,x10,x11,x12,x13,x14,x15,x16,x17,x18,x19]) S =
    ( some ([x0,x1,x2,x3,Value.int IntKind.i64 1,x5,x6,x7,x8,x9,x10,x11,x12,x13,x14,x15,x16,x17,x18,x19], S)) := by
  refine sP Try.f27 8 0 (v := (Value.int IntKind.i64 1)) ?_
  kernel_rfl
theorem cmp_Compare.r9  : vOps Try.prog ⟨false, false, false⟩ (vlim Try.prog O) (reg Try.f27 9) (reg Try.f27 9).toList ([x0,x1,x2,x3,x4,x5,x6,x7,x8,x9,x10,x11,x12,x13,x14,x15,x16,x17,x18,x19]) S =
    (andK (vBin Try.prog BinOp.lss 3 (dem x0) (dem x1) S) (fun v2 S1 => some ([x0,x1,x2,x3,x4,x5,x6,x7,x8,x9,x10,x11,x12,x13,dem x0,dem x1,v2,x17,x18,x19], S1)) ()) := by
  refine sP Try.f27 9 0 (v := x0) ?_
  refine sP Try.f27 9 1 (v := x1) ?_
  refine sD Try.f27 9 2 (fun v2 S1 => ?_)
  kernel_rfl
theorem cmp_Compare.r10  : vOps Try.prog ⟨false, false, false⟩ (vlim Try.prog O) (reg Try.f27 10) (reg Try.f27 10).toList ([x0,x1,x2,x3,x4,x5,x6,x7,x8,x9,x10,x11,x12,x13,x14,x15,x16,x17,x18,x19]) S =
    ( some ([x0,x1,x2,x3,Value.int IntKind.i64 (-1),x5,x6,x7,x8,x9,x10,x11,x12,x13,x14,x15,x16,x17,x18,x19], S)) := by
  refine sP Try.f27 10 0 (v := (Value.int IntKind.i64 (-1))) ?_
  kernel_rfl
theorem cmp_Compare.r11  : vOps Try.prog ⟨false, false, false⟩ (vlim Try.prog O) (reg Try.f27 11) (reg Try.f27 11).toList ([x0,x1,x2,x3,x4,x5,x6,x7,x8,x9,x10,x11,x12,x13,x14,x15,x16,x17,x18,x19]) S =
    (andK (vBin Try.prog BinOp.gtr 3 (dem x0) (dem x1) S) (fun v2 S1 => some ([x0,x1,x2,x3,x4,x5,x6,x7,x8,x9,x10,x11,x12,x13,x14,x15,x16,dem x0,dem x1,v2], S1)) ()) := by
  refine sP Try.f27 11 0 (v := x0) ?_
  refine sP Try.f27 11 1 (v := x1) ?_
  refine sD Try.f27 11 2 (fun v2 S1 => ?_)
  kernel_rfl
theorem cmp_Compare.r12  : vOps Try.prog ⟨false, false, false⟩ (vlim Try.prog O) (reg Try.f27 12) (reg Try.f27 12).toList ([x0,x1,x2,x3,x4,x5,x6,x7,x8,x9,x10,x11,x12,x13,x14,x15,x16,x17,x18,x19]) S =
    ( some ([x0,x1,x2,x3,Value.int IntKind.i64 1,x5,x6,x7,x8,x9,x10,x11,x12,x13,x14,x15,x16,x17,x18,x19], S)) := by
  refine sP Try.f27 12 0 (v := (Value.int IntKind.i64 1)) ?_
  kernel_rfl
theorem cmp_Compare.r13  : vOps Try.prog ⟨false, false, false⟩ (vlim Try.prog O) (reg Try.f27 13) (reg Try.f27 13).toList ([x0,x1,x2,x3,x4,x5,x6,x7,x8,x9,x10,x11,x12,x13,x14,x15,x16,x17,x18,x19]) S =
    ( some ([x0,x1,x2,x3,Value.int IntKind.i64 0,x5,x6,x7,x8,x9,x10,x11,x12,x13,x14,x15,x16,x17,x18,x19], S)) := by
  refine sP Try.f27 13 0 (v := (Value.int IntKind.i64 0)) ?_
  kernel_rfl
theorem cmp_Compare.rs : type_of% (And.intro @cmp_Compare.r0 (And.intro @cmp_Compare.r1 (And.intro @cmp_Compare.r2 (And.intro @cmp_Compare.r3 (And.intro @cmp_Compare.r4 (And.intro @cmp_Compare.r5 (And.intro @cmp_Compare.r6 (And.intro @cmp_Compare.r7 (And.intro @cmp_Compare.r8 (And.intro @cmp_Compare.r9 (And.intro @cmp_Compare.r10 (And.intro @cmp_Compare.r11 (And.intro @cmp_Compare.r12 (@cmp_Compare.r13)))))))))))))) := And.intro @cmp_Compare.r0 (And.intro @cmp_Compare.r1 (And.intro @cmp_Compare.r2 (And.intro @cmp_Compare.r3 (And.intro @cmp_Compare.r4 (And.intro @cmp_Compare.r5 (And.intro @cmp_Compare.r6 (And.intro @cmp_Compare.r7 (And.intro @cmp_Compare.r8 (And.intro @cmp_Compare.r9 (And.intro @cmp_Compare.r10 (And.intro @cmp_Compare.r11 (And.intro @cmp_Compare.r12 (@cmp_Compare.r13)))))))))))))
theorem cmp_Compare.runs {x0 x1 : Value} {S S1 : AHeap} {e : AEx} {T : List Value} (h : vcodeV Try.prog O false cmp_Compare.code ([x0,x1,undef,undef,undef,undef,undef,undef,undef,undef,undef,undef,undef,undef,undef,undef,undef,undef,undef,undef]) S = some (e, T, S1)) (he : e = .normal ∨ e = .ret) : vlim Try.prog O 27 [x0, x1] S = some (T.getD 4 undef, S1) :=
  vlim_code rfl rfl Try.func27 (by decide) cmp_Compare.body (by exact h) he (vRes_one (a := T.getD 4 undef) ((show vResVals Try.prog T S1 Try.f27.results.toList = vResVals Try.prog T S1 [(ResultVar.tmp 4)] from by kernel_rfl).trans (by simp only [vResVals])) (by kernel_rfl))
end Go.Proofs.Ytfnlcbgijkakiaa

namespace Go.Proofs.Ytfnlcbgijkakiaa
open Go.Abs

/-- cmp.Or[int] -/
abbrev cmp_Or.id : FuncId := 26
noncomputable def cmp_Or.loop1 : Code := (Code.seq (Code.region 3 (reg Try.f26 3) false) (Code.seq (Code.cond (Operand.tmp 9) Code.skip (Code.exit 0)) (Code.seq (Code.block 1 (Code.seq (Code.region 4 (reg Try.f26 4) false) (Code.seq (Code.region 5 (reg Try.f26 5) false) (Code.cond (Operand.tmp 14) (Code.seq (Code.region 6 (reg Try.f26 6) false) Code.ret) Code.skip)))) (Code.region 7 (reg Try.f26 7) false))))
noncomputable def cmp_Or.code : Code := (Code.seq (Code.region 0 (reg Try.f26 0) false) (Code.seq (Code.region 1 (reg Try.f26 1) false) (Code.seq (Code.seq (Code.region 2 (reg Try.f26 2) false) (Code.block 0 (Code.loop cmp_Or.loop1))) (Code.seq (Code.region 8 (reg Try.f26 8) false) Code.ret))))
theorem cmp_Or.body : Try.f26.body = some cmp_Or.code := by kernel_rfl
theorem cmp_Or.eta {T : List Value} (h : T.length = 18) : T = [T.getD 0 undef,T.getD 1 undef,T.getD 2 undef,T.getD 3 undef,T.getD 4 undef,T.getD 5 undef,T.getD 6 undef,T.getD 7 undef,T.getD 8 undef,T.getD 9 undef,T.getD 10 undef,T.getD 11 undef,T.getD 12 undef,T.getD 13 undef,T.getD 14 undef,T.getD 15 undef,T.getD 16 undef,T.getD 17 undef] := (list_getD T 18 h).trans (by kernel_rfl)
theorem cmp_Or.list {T : List Value} (h : T.length = 18) : ∃ x0 x1 x2 x3 x4 x5 x6 x7 x8 x9 x10 x11 x12 x13 x14 x15 x16 x17, T = [x0,x1,x2,x3,x4,x5,x6,x7,x8,x9,x10,x11,x12,x13,x14,x15,x16,x17] := ⟨_, _, _, _, _, _, _, _, _, _, _, _, _, _, _, _, _, _, cmp_Or.eta h⟩
variable (x0 x1 x2 x3 x4 x5 x6 x7 x8 x9 x10 x11 x12 x13 x14 x15 x16 x17 : Value) (S : AHeap)
theorem cmp_Or.r0  : vOps Try.prog ⟨false, false, false⟩ (vlim Try.prog O) (reg Try.f26 0) (reg Try.f26 0).toList ([x0,x1,x2,x3,x4,x5,x6,x7,x8,x9,x10,x11,x12,x13,x14,x15,x16,x17]) S =
    ( some ([x0,x1,Value.int IntKind.i64 0,x3,x4,x5,x6,x7,x8,x9,x10,x11,x12,x13,x14,x15,x16,x17], S)) := by
  refine sP Try.f26 0 0 (v := (Value.int IntKind.i64 0)) ?_
  kernel_rfl
theorem cmp_Or.r1  : vOps Try.prog ⟨false, false, false⟩ (vlim Try.prog O) (reg Try.f26 1) (reg Try.f26 1).toList ([x0,x1,x2,x3,x4,x5,x6,x7,x8,x9,x10,x11,x12,x13,x14,x15,x16,x17]) S =
    ( some ([x0,x1,x2,Value.int IntKind.i64 0,x4,x5,x6,x7,x8,x9,x10,x11,x12,x13,x14,x15,x16,x17], S)) := by
  refine sP Try.f26 1 0 (v := (Value.int IntKind.i64 0)) ?_
  kernel_rfl
theorem cmp_Or.r2  : vOps Try.prog ⟨false, false, false⟩ (vlim Try.prog O) (reg Try.f26 2) (reg Try.f26 2).toList ([x0,x1,x2,x3,x4,x5,x6,x7,x8,x9,x10,x11,x12,x13,x14,x15,x16,x17]) S =
    (andK (vLen Try.prog 51 (dem x0) S) (fun v1 S1 => some ([x0,x1,x2,x3,x4,x5,dem x0,v1,Value.int IntKind.i64 0,x9,x10,x11,x12,x13,x14,x15,x16,x17], S1)) ()) := by
  refine sP Try.f26 2 0 (v := x0) ?_
  refine sD Try.f26 2 1 (fun v1 S1 => ?_)
  refine sP Try.f26 2 2 (v := (Value.int IntKind.i64 0)) ?_
  kernel_rfl
theorem cmp_Or.r3  : vOps Try.prog ⟨false, false, false⟩ (vlim Try.prog O) (reg Try.f26 3) (reg Try.f26 3).toList ([x0,x1,x2,x3,x4,x5,x6,x7,x8,x9,x10,x11,x12,x13,x14,x15,x16,x17]) S =
    (andK (vBin Try.prog BinOp.lss 3 x8 x7 S) (fun v0 S1 => some ([x0,x1,x2,x3,x4,x5,x6,x7,x8,v0,x10,x11,x12,x13,x14,x15,x16,x17], S1)) ()) := by
  refine sD Try.f26 3 0 (fun v0 S1 => ?_)
  kernel_rfl
theorem cmp_Or.r4  : vOps Try.prog ⟨false, false, false⟩ (vlim Try.prog O) (reg Try.f26 4) (reg Try.f26 4).toList ([x0,x1,x2,x3,x4,x5,x6,x7,x8,x9,x10,x11,x12,x13,x14,x15,x16,x17]) S =
    (andK (vIndexAddr Try.prog 51 x6 x8 S) (fun v0 S1 => andK (vLoad Try.prog false 3 v0 S1) (fun v1 S2 => some ([x0,x1,x2,x3,x4,v1,x6,x7,x8,x9,v0,dem v1,x12,x13,x14,x15,x16,x17], S2)) ()) ()) := by
  refine sD Try.f26 4 0 (fun v0 S1 => ?_)
  refine sD Try.f26 4 1 (fun v1 S2 => ?_)
  refine sP Try.f26 4 2 (v := v1) ?_
  kernel_rfl
theorem cmp_Or.r5  : vOps Try.prog ⟨false, false, false⟩ (vlim Try.prog O) (reg Try.f26 5) (reg Try.f26 5).toList ([x0,x1,x2,x3,x4,x5,x6,x7,x8,x9,x10,x11,x12,x13,x14,x15,x16,x17]) S =
    (andK (vBin Try.prog BinOp.neq 3 (dem x5) (dem x3) S) (fun v2 S1 => some ([x0,x1,x2,x3,x4,x5,x6,x7,x8,x9,x10,x11,dem x5,dem x3,v2,x15,x16,x17], S1)) ()) := by
  refine sP Try.f26 5 0 (v := x5) ?_
  refine sP Try.f26 5 1 (v := x3) ?_
  refine sD Try.f26 5 2 (fun v2 S1 => ?_)
  kernel_rfl
theorem cmp_Or.r6  : vOps Try.prog ⟨false, false, false⟩ (vlim Try.prog O) (reg Try.f26 6) (reg Try.f26 6).toList ([x0,x1,x2,x3,x4,x5,x6,x7,x8,x9,x10,x11,x12,x13,x14,x15,x16,x17]) S =
    ( some ([x0,x1,x5,x3,x4,dem x5,x6,x7,x8,x9,x10,x11,x12,x13,x14,dem x5,x16,x17], S)) := by
  refine sP Try.f26 6 0 (v := x5) ?_
  refine sP Try.f26 6 1 (v := x5) ?_
  kernel_rfl
theorem cmp_Or.r7  : vOps Try.prog ⟨false, false, false⟩ (vlim Try.prog O) (reg Try.f26 7) (reg Try.f26 7).toList ([x0,x1,x2,x3,x4,x5,x6,x7,x8,x9,x10,x11,x12,x13,x14,x15,x16,x17]) S =
    (andK (vBin Try.prog BinOp.add 3 x8 (Value.int IntKind.i64 1) S) (fun v0 S1 => some ([x0,x1,x2,x3,x4,x5,x6,x7,dem v0,x9,x10,x11,x12,x13,x14,x15,v0,x17], S1)) ()) := by
  refine sD Try.f26 7 0 (fun v0 S1 => ?_)
  refine sP Try.f26 7 1 (v := v0) ?_
  kernel_rfl
theorem cmp_Or.r8  : vOps Try.prog ⟨false, false, false⟩ (vlim Try.prog O) (reg Try.f26 8) (reg Try.f26 8).toList ([x0,x1,x2,x3,x4,x5,x6,x7,x8,x9,x10,x11,x12,x13,x14,x15,x16,x17]) S =
    ( some ([x0,x1,x3,dem x3,x4,x5,x6,x7,x8,x9,x10,x11,x12,x13,x14,x15,x16,dem x3], S)) := by
  refine sP Try.f26 8 0 (v := x3) ?_
  refine sP Try.f26 8 1 (v := x3) ?_
  kernel_rfl
theorem cmp_Or.rs : type_of% (And.intro @cmp_Or.r0 (And.intro @cmp_Or.r1 (And.intro @cmp_Or.r2 (And.intro @cmp_Or.r3 (And.intro @cmp_Or.r4 (And.intro @cmp_Or.r5 (And.intro @cmp_Or.r6 (And.intro @cmp_Or.r7 (@cmp_Or.r8))))))))) := And.intro @cmp_Or.r0 (And.intro @cmp_Or.r1 (And.intro @cmp_Or.r2 (And.intro @cmp_Or.r3 (And.intro @cmp_Or.r4 (And.intro @cmp_Or.r5 (And.intro @cmp_Or.r6 (And.intro @cmp_Or.r7 (@cmp_Or.r8))))))))
theorem cmp_Or.runs {x0 : Value} {S S1 : AHeap} {e : AEx} {T : List Value} (h : vcodeV Try.prog O false cmp_Or.code ([x0,undef,undef,undef,undef,undef,undef,undef,undef,undef,undef,undef,undef,undef,undef,undef,undef,undef]) S = some (e, T, S1)) (he : e = .normal ∨ e = .ret) : vlim Try.prog O 26 [x0] S = some (T.getD 2 undef, S1) :=
  vlim_code rfl rfl Try.func26 (by decide) cmp_Or.body (by exact h) he (vRes_one (a := T.getD 2 undef) ((show vResVals Try.prog T S1 Try.f26.results.toList = vResVals Try.prog T S1 [(ResultVar.tmp 2)] from by kernel_rfl).trans (by simp only [vResVals])) (by kernel_rfl))
end Go.Proofs.Ytfnlcbgijkakiaa

namespace Go.Proofs.Ytfnlcbgijkakiaa
open Go.Abs

/-- cmp.isNaN[int] -/
abbrev cmp_isNaN.id : FuncId := 34
noncomputable def cmp_isNaN.code : Code := (Code.seq (Code.region 0 (reg Try.f34 0) false) (Code.seq (Code.region 1 (reg Try.f34 1) false) Code.ret))
theorem cmp_isNaN.body : Try.f34.body = some cmp_isNaN.code := by kernel_rfl
theorem cmp_isNaN.eta {T : List Value} (h : T.length = 6) : T = [T.getD 0 undef,T.getD 1 undef,T.getD 2 undef,T.getD 3 undef,T.getD 4 undef,T.getD 5 undef] := (list_getD T 6 h).trans (by kernel_rfl)
variable (x0 x1 x2 x3 x4 x5 : Value) (S : AHeap)
theorem cmp_isNaN.r0  : vOps Try.prog ⟨false, false, false⟩ (vlim Try.prog O) (reg Try.f34 0) (reg Try.f34 0).toList ([x0,x1,x2,x3,x4,x5]) S =
    ( some ([x0,x1,Value.bool false,x3,x4,x5], S)) := by
  refine sP Try.f34 0 0 (v := (Value.bool false)) ?_
  kernel_rfl
theorem cmp_isNaN.r1  : vOps Try.prog ⟨false, false, false⟩ (vlim Try.prog O) (reg Try.f34 1) (reg Try.f34 1).toList ([x0,x1,x2,x3,x4,x5]) S =
    (andK (vBin Try.prog BinOp.neq 3 (dem x0) (dem x0) S) (fun v2 S1 => some ([x0,x1,v2,dem x0,dem x0,dem v2], S1)) ()) := by
  refine sP Try.f34 1 0 (v := x0) ?_
  refine sP Try.f34 1 1 (v := x0) ?_
  refine sD Try.f34 1 2 (fun v2 S1 => ?_)
  refine sP Try.f34 1 3 (v := v2) ?_
  kernel_rfl
theorem cmp_isNaN.rs : type_of% (And.intro @cmp_isNaN.r0 (@cmp_isNaN.r1)) := And.intro @cmp_isNaN.r0 (@cmp_isNaN.r1)
theorem cmp_isNaN.runs {x0 : Value} {S S1 : AHeap} {e : AEx} {T : List Value} (h : vcodeV Try.prog O false cmp_isNaN.code ([x0,undef,undef,undef,undef,undef]) S = some (e, T, S1)) (he : e = .normal ∨ e = .ret) : vlim Try.prog O 34 [x0] S = some (T.getD 2 undef, S1) :=
  vlim_code rfl rfl Try.func34 (by decide) cmp_isNaN.body (by exact h) he (vRes_one (a := T.getD 2 undef) ((show vResVals Try.prog T S1 Try.f34.results.toList = vResVals Try.prog T S1 [(ResultVar.tmp 2)] from by kernel_rfl).trans (by simp only [vResVals])) (by kernel_rfl))
end Go.Proofs.Ytfnlcbgijkakiaa

namespace Go.Proofs.Ytfnlcbgijkakiaa
open Go.Abs

theorem bz0 (S : AHeap) : vBuildSlice Try.prog 51 0 [] S = some (iz 2 [], S) := by rw [bs_L_int_0]; rfl
theorem iz2_1 (x : Int) : sv 2 1 1 [.int .i64 x] = iz 2 [x] := rfl
theorem iz_more {k : Nat} {l : List Int} {x : Int} {S : AHeap} (h : Okl k l) (hk : k ≠ 1) (hl : l.length ≤ 17592186044000) : vAppend Try.prog 51 51 (iz k l) (iz 2 [x]) S = some (iz 2 (l ++ [x]), S) := by
  rw [iz_append h hk Okl.own (by simp; omega), if_neg (fun h => by have := h.2; simp at this)]
end Go.Proofs.Ytfnlcbgijkakiaa

namespace Go.Proofs.Ytfnlcbgijkakiaa
open Go.Abs

theorem tx_eql {t : TypeId} {a b : List UInt8} {S : AHeap} : aBin Try.prog .eql t (.string ⟨a.toArray⟩) (.string ⟨b.toArray⟩) S = some (.bool (decide (a = b)), S) := by rw [aBin_streq]
theorem tx_neq {t : TypeId} {a b : List UInt8} {S : AHeap} : aBin Try.prog .neq t (.string ⟨a.toArray⟩) (.string ⟨b.toArray⟩) S = some (.bool (!decide (a = b)), S) := by rw [aBin_strne]
theorem tx_add {t : TypeId} {a b : List UInt8} {S : AHeap} (h : a.length + b.length ≤ 9223372036854775807) : aBin Try.prog .add t (.string ⟨a.toArray⟩) (.string ⟨b.toArray⟩) S = some (.string ⟨(a ++ b).toArray⟩, S) := by
  rw [aBin_stradd _ _ (by simpa using h)]
theorem tf_neq {a b : Bool} {S : AHeap} : aBin Try.prog .neq 4 (.bool a) (.bool b) S = some (.bool (a != b), S) := by cases a <;> cases b <;> kernel_rfl
theorem tf_eql {a b : Bool} {S : AHeap} : aBin Try.prog .eql 4 (.bool a) (.bool b) S = some (.bool (a == b), S) := by cases a <;> cases b <;> kernel_rfl
end Go.Proofs.Ytfnlcbgijkakiaa

namespace Go.Abs
open Go.RowKit

theorem in_slc {b : Nat} {e : Ty} {α : Type} (f : α → List Value) (Q : α → Prop) (h : ∀ x, e.Good x → ∃ y, e.vval x = f y ∧ Q y) (hf : ∀ y, (f y).length = e.sz) (x : (Ty.slc b e).Val) (hg : (Ty.slc b e).Good x) :
    ∃ k l, Okl k l ∧ k ≠ 2 ∧ (Ty.slc b e).vval x = [vs f e.sz k l] ∧ l.length * b ≤ 140737488351232 ∧ ∀ y ∈ l, Q y := by
  match x, hg with
  | none, _ => exact ⟨0, [], Okl.none, by decide, rfl, by simp, fun y hy => by cases hy⟩
  | some xs, hg =>
    obtain ⟨h1, h2, h3⟩ := hg
    have key : ∀ xs : List e.Val, (∀ n ∈ xs, e.Good n) → ∃ l : List α, xs.flatMap e.vval = l.flatMap f ∧ l.length = xs.length ∧ ∀ y ∈ l, Q y := by
      intro xs
      induction xs with
      | nil => intro _; exact ⟨[], rfl, rfl, fun y hy => by cases hy⟩
      | cons n xs ih =>
        intro hn
        obtain ⟨y, hy, hq⟩ := h n (hn n (by simp))
        obtain ⟨l, k1, k2, k3⟩ := ih (fun m hm => hn m (by simp [hm]))
        refine ⟨y :: l, by rw [List.flatMap_cons, List.flatMap_cons, hy, k1], by simp [k2], fun z hz => ?_⟩
        rcases List.mem_cons.1 hz with rfl | hz
        · exact hq
        · exact k3 z hz
    obtain ⟨l, k1, k2, k3⟩ := key xs h3
    refine ⟨1, l, Okl.read, by decide, ?_, by rw [k2]; exact h1, k3⟩
    show [SL 1 e.sz (List.length xs) (List.flatMap e.vval xs)] = [_]
    unfold vs
    rw [sv1, k1, k2]

theorem splice_all {cs xs : List Value} (h : cs.length = xs.length) : splice cs 0 xs = xs := by
  unfold splice
  rw [List.take_zero, List.nil_append, Nat.zero_add, ← h, List.drop_length, List.append_nil]
theorem one_sv {k e n : Nat} {cs : List Value} : (sv k e n cs).oneCell' = true := by unfold sv; split <;> rfl
theorem one_vs {α : Type} {f : α → List Value} {e k : Nat} {l : List α} : (vs f e k l).oneCell' = true := one_sv
theorem one_int {k : IntKind} {n : Int} : (Value.int k n).oneCell' = true := rfl
theorem one_bool {b : Bool} : (Value.bool b).oneCell' = true := rfl
theorem one_string {s : ByteArray} : (Value.string s).oneCell' = true := rfl
theorem one_slice {a : Option Addr} {n c : Nat} : (Value.slice a n c).oneCell' = true := rfl
theorem one_pointer {a : Option Addr} : (Value.pointer a).oneCell' = true := rfl
/-- A new object is filled. -/
theorem new_store {P : Program} {t : TypeId} {z xs : List Value} {x : Value} (S : AHeap) (hx : x.cells.toList = xs) (hs : szOf P t = some z.length) (hl : xs.length = z.length) (h1 : xs.all (·.oneCell') = true) :
    ∃ S2, vStore P t (.pointer (some ⟨S.next, 0, none⟩)) x (S.push (.cells z (.own []) 0)) = some (undef, S2) ∧ S2.get S.next = some (.cells xs (.own []) 0) ∧ Ext S S2 ∧ S.next < S2.next := by
  have hg : (S.push (.cells z (.own []) 0)).get S.next = some (.cells z (.own []) 0) := by rw [AHeap.get_push, if_pos rfl]
  refine ⟨_, store_mem hg hs (by rw [← Array.length_toList, hx, hl]) (by rw [hx]; exact h1) (by simp), ?_, (Ext.push S _).set (Nat.le_refl _) _, by simp [AHeap.kills]⟩
  rw [AHeap.get_set, if_pos rfl, hx, splice_all hl.symm]
/-- An object gets other cells. -/
theorem mem_store {P : Program} {t : TypeId} {q o n : Nat} {cs : List Value} {e : Nat} {x : Value} {S S0 : AHeap} (hg : S.get q = some (.cells cs (.own []) e)) (hs : szOf P t = some n) (hn : x.cells.size = n) (h1 : x.cells.toList.all (·.oneCell') = true) (hle : o + n ≤ cs.length) (hE : Ext S0 S) (hq : S0.next ≤ q) :
    ∃ S2, vStore P t (.pointer (some ⟨q, o, none⟩)) x S = some (undef, S2) ∧ S2.get q = some (.cells (splice cs o x.cells.toList) (.own []) e) ∧ Ext S0 S2 ∧ S2.next = S.next ∧ ∀ k, k ≠ q → S2.get k = S.get k := by
  exact ⟨_, store_mem hg hs hn h1 hle, by rw [AHeap.get_set, if_pos rfl], hE.set hq _, by simp [AHeap.kills], fun k hk => by rw [AHeap.get_set, if_neg hk]; rfl⟩
/-- A boxed value. -/
theorem box_at (x : Value) (S : AHeap) : ∃ S2, aBox x S = some (.pointer (some ⟨S.next, 0, none⟩), S2) ∧ S2.get S.next = some (.cells x.cells.toList (.own []) 0) ∧ Ext S S2 ∧ S.next < S2.next :=
  ⟨_, rfl, by rw [AHeap.get_push, if_pos rfl], Ext.push _ _, by simp⟩
end Go.Abs

namespace Go.Proofs.Ytfnlcbgijkakiaa
open Go.Abs

/-- A transaction. -/
structure TxV where
  id : Int
  fee : Int
  deriving DecidableEq
def fT (t : TxV) : List Value := [.int .i64 t.id, .int .i64 t.fee]
abbrev tv (t : TxV) : Value := .agg [Value.int .i64 t.id, .int .i64 t.fee].toArray
structure TxV.Ok (t : TxV) : Prop where
  id : -9223372036854775808 ≤ t.id ∧ t.id < 9223372036854775808
  fee : -9223372036854775808 ≤ t.fee ∧ t.fee < 9223372036854775808
abbrev tTx : Ty := .pair (.int .i64) (.pair (.int .i64) .unit)
def rightB (t : TxV) : Bool := decide (1 ≤ t.id) && decide (t.id ≤ 1000000) && decide (0 ≤ t.fee) && decide (t.fee ≤ 1000)
def lessB (a b : TxV) : Bool := if a.fee = b.fee then decide (a.id < b.id) else decide (b.fee < a.fee)
theorem rightB_iff {t : TxV} : rightB t = true ↔ 1 ≤ t.id ∧ t.id ≤ 1000000 ∧ 0 ≤ t.fee ∧ t.fee ≤ 1000 := by
  simp [rightB, and_assoc]
/-- A box at the start of memory. -/
abbrev mem1 (t : TxV) : AHeap := AHeap.empty.push (.cells [Value.int .i64 t.id, .int .i64 t.fee] (.own []) 0)
theorem box1 (t : TxV) : aBox (tv t) AHeap.empty = some (.pointer (some ⟨0, 0, none⟩), mem1 t) := rfl
theorem mem1_get (t : TxV) : (mem1 t).get 0 = some (.cells [Value.int .i64 t.id, .int .i64 t.fee] (.own []) 0) := rfl

theorem tx_Right.v (t : TxV) (S : AHeap) : vlim Try.prog O tx_Right.id [tv t] S = some (.bool (rightB t), S) := by
  obtain ⟨T, hTe⟩ : ∃ T, T = (tv t :: undef :: undef :: undef :: undef :: undef :: undef :: undef :: undef :: undef :: undef :: undef :: undef :: undef :: undef :: undef :: undef :: undef :: undef :: undef :: undef :: []) := ⟨_, rfl⟩
  have hr : vcodeV Try.prog O false tx_Right.code T AHeap.empty = vcodeV Try.prog O false tx_Right.code T AHeap.empty := rfl
  have l0 := load_int (t := 3) (o := 0 + 0) (mem1_get t) g_int rfl
  have l1 := load_int (t := 3) (o := 0 + 1) (mem1_get t) g_int rfl
  by_cases h1 : 1 ≤ t.id <;> by_cases h2 : t.id ≤ 1000000 <;> by_cases h3 : 0 ≤ t.fee <;> by_cases h4 : t.fee ≤ 1000
  all_goals
    conv at hr =>
      rhs
      rw [hTe]
      simp only [tx_Right.code, tx_Right.rs, wk, List.getD_cons_succ, List.getD_cons_zero, if_true, if_false, List.getElem?_cons_succ, List.getElem?_cons_zero, Option.map_some, eq_self, reduceIte, Nat.reduceEqDiff, Int.reduceEq, Int.reduceLT, Int.reduceLE, box1, fa_api_Tx_0, fa_api_Tx_1, l0, l1, h1, h2, h3, h4]
    rw [hTe] at hr
    simp only [rightB, h1, h2, h3, h4, decide_true, decide_false, Bool.and_true, Bool.and_false, Bool.false_and]
    exact tx_Right.runs hr (.inr rfl) rfl rfl
theorem neaptideref06_Right.v (t : TxV) (S : AHeap) : vlim Try.prog O neaptideref06_Right.id [tv t] S = some (.bool (rightB t), S) := by
  obtain ⟨T, hTe⟩ : ∃ T, T = (tv t :: undef :: undef :: undef :: undef :: undef :: undef :: undef :: undef :: undef :: undef :: undef :: undef :: undef :: undef :: undef :: undef :: undef :: undef :: undef :: undef :: []) := ⟨_, rfl⟩
  have hr : vcodeV Try.prog O false neaptideref06_Right.code T AHeap.empty = vcodeV Try.prog O false neaptideref06_Right.code T AHeap.empty := rfl
  have l0 := load_int (t := 3) (o := 0 + 0) (mem1_get t) g_int rfl
  have l1 := load_int (t := 3) (o := 0 + 1) (mem1_get t) g_int rfl
  have h0 : decide (1 ≤ t.id) = decide (0 < t.id) := decide_eq_decide.mpr (by omega)
  unfold rightB
  rw [h0]
  by_cases h1 : 0 < t.id <;> by_cases h2 : t.id ≤ 1000000 <;> by_cases h3 : 0 ≤ t.fee <;> by_cases h4 : t.fee ≤ 1000
  all_goals
    conv at hr =>
      rhs
      rw [hTe]
      simp only [neaptideref06_Right.code, neaptideref06_Right.rs, wk, List.getD_cons_succ, List.getD_cons_zero, if_true, if_false, List.getElem?_cons_succ, List.getElem?_cons_zero, Option.map_some, eq_self, reduceIte, Nat.reduceEqDiff, Int.reduceEq, Int.reduceLT, Int.reduceLE, box1, fa_api_Tx_0, fa_api_Tx_1, l0, l1, h1, h2, h3, h4]
    rw [hTe] at hr
    simp only [h1, h2, h3, h4, decide_true, decide_false, Bool.and_true, Bool.and_false, Bool.false_and]
    exact neaptideref06_Right.runs hr (.inr rfl) rfl rfl

def cmpI (a b : Int) : Int := if a < b then -1 else if b < a then 1 else 0
theorem cmp_isNaN.v (a : Int) (S : AHeap) : vlim Try.prog O cmp_isNaN.id [.int .i64 a] S = some (.bool false, S) := by
  obtain ⟨T, hTe⟩ : ∃ T, T = (.int .i64 a :: undef :: undef :: undef :: undef :: undef :: []) := ⟨_, rfl⟩
  have hr : vcodeV Try.prog O false cmp_isNaN.code T S = vcodeV Try.prog O false cmp_isNaN.code T S := rfl
  conv at hr =>
    rhs
    rw [hTe]
    simp only [cmp_isNaN.code, cmp_isNaN.rs, wk, List.getD_cons_succ, List.getD_cons_zero, if_true, if_false, List.getElem?_cons_succ, List.getElem?_cons_zero, Option.map_some, eq_self, reduceIte, Nat.reduceEqDiff, Int.reduceEq, Int.reduceLT, Int.reduceLE, bne_self_eq_false, ne_eq, not_true_eq_false, Bool.not_true]
  rw [hTe] at hr
  exact cmp_isNaN.runs hr (.inr rfl)
theorem cmp_Compare.v (a b : Int) (S : AHeap) : vlim Try.prog O cmp_Compare.id [.int .i64 a, .int .i64 b] S = some (.int .i64 (cmpI a b), S) := by
  obtain ⟨T, hTe⟩ : ∃ T, T = (.int .i64 a :: .int .i64 b :: undef :: undef :: undef :: undef :: undef :: undef :: undef :: undef :: undef :: undef :: undef :: undef :: undef :: undef :: undef :: undef :: undef :: undef :: []) := ⟨_, rfl⟩
  have hr : vcodeV Try.prog O false cmp_Compare.code T S = vcodeV Try.prog O false cmp_Compare.code T S := rfl
  by_cases h1 : a < b <;> by_cases h2 : b < a
  all_goals
    conv at hr =>
      rhs
      rw [hTe]
      simp only [cmp_Compare.code, cmp_Compare.rs, wk, List.getD_cons_succ, List.getD_cons_zero, if_true, if_false, List.getElem?_cons_succ, List.getElem?_cons_zero, Option.map_some, eq_self, reduceIte, Nat.reduceEqDiff, Int.reduceEq, Int.reduceLT, Int.reduceLE, cmp_isNaN.v, h1, h2]
    rw [hTe] at hr
    simp only [cmpI, h1, h2, if_true, if_false]
    exact cmp_Compare.runs hr (.inr rfl)
/-- The first that isn't 0. -/
def orI2 : List Int → Int
  | [] => 0
  | x :: l => if x = 0 then orI2 l else x
theorem cmp_Or.round {k : Nat} {l : List Int} (hk : Okl k l) (hl : l.length ≤ 17592186044416) {S : AHeap} : ∀ (suf pre : List Int) {T : List Value} {r : St}, loopV (vcodeV Try.prog O false cmp_Or.loop1) T S = r → T.length = 18 → T.getD 3 undef = .int .i64 0 →
    T.getD 6 undef = iz k l → T.getD 7 undef = .int .i64 l.length → T.getD 8 undef = .int .i64 pre.length → l = pre ++ suf →
    ∃ e T', r = some (e, T', S) ∧ if orI2 suf = 0 then e = .exit 0 ∧ T'.length = 18 ∧ T'.getD 3 undef = .int .i64 0 else e = .ret ∧ T'.getD 2 undef = .int .i64 (orI2 suf) := by
  intro suf
  induction suf with
  | nil =>
    intro pre T r hL hT h3 h6 h7 h8 hpre
    have hTe := cmp_Or.eta hT
    rw [h3, h6, h7, h8] at hTe
    have hr : vcodeV Try.prog O false cmp_Or.loop1 T S = vcodeV Try.prog O false cmp_Or.loop1 T S := rfl
    have d1 : ¬ (pre.length : Int) < (l.length : Int) := by rw [hpre]; simp
    conv at hr =>
      rhs
      rw [hTe]
      simp only [cmp_Or.loop1, cmp_Or.code, cmp_Or.rs, wk, List.getD_cons_succ, List.getD_cons_zero, if_true, if_false, List.getElem?_cons_succ, List.getElem?_cons_zero, Option.map_some, eq_self, reduceIte, Nat.reduceEqDiff, Int.reduceEq, Int.reduceLT, Int.reduceLE, d1]
    exact ⟨_, _, hL.symm.trans (loopV_exit hr (by simp)), rfl, rfl, rfl⟩
  | cons x suf ih =>
    intro pre T r hL hT h3 h6 h7 h8 hpre
    have hTe := cmp_Or.eta hT
    rw [h3, h6, h7, h8] at hTe
    have hr : vcodeV Try.prog O false cmp_Or.loop1 T S = vcodeV Try.prog O false cmp_Or.loop1 T S := rfl
    have d1 : (pre.length : Int) < (l.length : Int) := by rw [hpre]; simp; omega
    have e1 : ∀ S, vIndexAddr Try.prog 51 (iz k l) (.int .i64 pre.length) S = some (EP [.int .i64 x], S) := fun S => by
      rw [iz_at hk (by omega) d1]; rw [iz_at_pre hpre]
    have wi : IntKind.i64.wrap ((pre.length : Int) + 1) = ((pre ++ [x]).length : Int) := by rw [wrap_i64 (by omega) (by omega)]; simp
    by_cases h1 : x = 0
    · conv at hr =>
        rhs
        rw [hTe]
        simp only [cmp_Or.loop1, cmp_Or.code, cmp_Or.rs, wk, List.getD_cons_succ, List.getD_cons_zero, if_true, if_false, List.getElem?_cons_succ, List.getElem?_cons_zero, Option.map_some, eq_self, reduceIte, Nat.reduceEqDiff, Int.reduceEq, Int.reduceLT, Int.reduceLE, d1, e1, iz_load, h1, wi, not_true_eq_false, ne_eq]
      subst h1
      obtain ⟨e, T', g1, g2⟩ := ih (pre ++ [0]) ((loopV_step hr).symm.trans hL) rfl rfl rfl rfl rfl (by simp [hpre])
      exact ⟨e, T', g1, g2⟩
    · conv at hr =>
        rhs
        rw [hTe]
        simp only [cmp_Or.loop1, cmp_Or.code, cmp_Or.rs, wk, List.getD_cons_succ, List.getD_cons_zero, if_true, if_false, List.getElem?_cons_succ, List.getElem?_cons_zero, Option.map_some, eq_self, reduceIte, Nat.reduceEqDiff, Int.reduceEq, Int.reduceLT, Int.reduceLE, d1, e1, iz_load, h1, wi, not_false_eq_true, ne_eq]
      refine ⟨_, _, hL.symm.trans (loopV_exit hr (by simp)), ?_⟩
      have ho : orI2 (x :: suf) = x := if_neg h1
      rw [ho, if_neg h1]
      exact ⟨rfl, rfl⟩
theorem cmp_Or.v {k : Nat} {l : List Int} (hk : Okl k l) (k2 : k ≠ 2) (hl : l.length ≤ 17592186044416) (S : AHeap) : vlim Try.prog O cmp_Or.id [iz k l] S = some (.int .i64 (orI2 l), S) := by
  obtain ⟨T, hTe⟩ : ∃ T, T = (iz k l :: undef :: undef :: undef :: undef :: undef :: undef :: undef :: undef :: undef :: undef :: undef :: undef :: undef :: undef :: undef :: undef :: undef :: []) := ⟨_, rfl⟩
  have hr : vcodeV Try.prog O false cmp_Or.code T S = vcodeV Try.prog O false cmp_Or.code T S := rfl
  conv at hr =>
    rhs
    rw [hTe]
    simp only [cmp_Or.code, cmp_Or.rs, wk, List.getD_cons_succ, List.getD_cons_zero, if_true, if_false, List.getElem?_cons_succ, List.getElem?_cons_zero, Option.map_some, eq_self, reduceIte, Nat.reduceEqDiff, Int.reduceEq, Int.reduceLT, Int.reduceLE, if_neg k2, iz_len hk, goInt]
  generalize hL : loopV (vcodeV Try.prog O false cmp_Or.loop1) _ _ = r at hr
  obtain ⟨e, T', rfl, g⟩ := cmp_Or.round hk hl l [] hL rfl rfl rfl rfl rfl rfl
  by_cases h : orI2 l = 0
  · rw [if_pos h] at g
    obtain ⟨rfl, g2, g3⟩ := g
    have hTe' := cmp_Or.eta g2
    rw [g3] at hTe'
    conv at hr =>
      rhs
      rw [hTe']
      simp only [cmp_Or.code, cmp_Or.rs, wk, List.getD_cons_succ, List.getD_cons_zero, if_true, if_false, List.getElem?_cons_succ, List.getElem?_cons_zero, Option.map_some, eq_self, reduceIte, Nat.reduceEqDiff, Int.reduceEq, Int.reduceLT, Int.reduceLE]
    rw [hTe] at hr
    rw [h]
    exact cmp_Or.runs hr (.inr rfl)
  · rw [if_neg h] at g
    obtain ⟨rfl, g2⟩ := g
    conv at hr =>
      rhs
      simp only [wk, List.getD_cons_succ, List.getD_cons_zero, if_true, if_false, List.getElem?_cons_succ, List.getElem?_cons_zero, Option.map_some, eq_self, reduceIte, Nat.reduceEqDiff, Int.reduceEq, Int.reduceLT, Int.reduceLE]
    rw [hTe] at hr
    have hrun := cmp_Or.runs hr (.inr rfl)
    rw [g2] at hrun
    exact hrun
theorem iz2_2 (x y : Int) : sv 2 1 2 [.int .i64 x, .int .i64 y] = iz 2 [x, y] := rfl
abbrev mem2 (a b : TxV) : AHeap := (mem1 a).push (.cells [Value.int .i64 b.id, .int .i64 b.fee] (.own []) 0)
theorem box2 (a b : TxV) : aBox (tv b) (mem1 a) = some (.pointer (some ⟨1, 0, none⟩), mem2 a b) := by kernel_rfl
theorem mem2_0 (a b : TxV) : (mem2 a b).get 0 = some (.cells [Value.int .i64 a.id, .int .i64 a.fee] (.own []) 0) := by kernel_rfl
theorem mem2_1 (a b : TxV) : (mem2 a b).get 1 = some (.cells [Value.int .i64 b.id, .int .i64 b.fee] (.own []) 0) := by kernel_rfl
theorem less_or (a b : TxV) : decide (orI2 [cmpI b.fee a.fee, cmpI a.id b.id] < 0) = lessB a b := by
  unfold lessB
  simp only [orI2, cmpI]
  by_cases h1 : b.fee < a.fee
  · rw [if_neg (show ¬ a.fee = b.fee by omega)]; simp [h1]
  · by_cases h2 : a.fee < b.fee
    · rw [if_neg (show ¬ a.fee = b.fee by omega)]; simp [h1, h2]
    · rw [if_pos (show a.fee = b.fee by omega)]
      simp only [h1, h2, if_false, if_true]
      by_cases h3 : a.id < b.id
      · simp [h3]
      · by_cases h4 : b.id < a.id
        · simp [h3, h4]
        · simp [h3, h4]
theorem tx_Less.v (a b : TxV) (S : AHeap) : vlim Try.prog O tx_Less.id [tv a, tv b] S = some (.bool (lessB a b), S) := by
  obtain ⟨T, hTe⟩ : ∃ T, T = (tv a :: tv b :: undef :: undef :: undef :: undef :: undef :: undef :: undef :: undef :: undef :: undef :: undef :: undef :: undef :: undef :: undef :: undef :: []) := ⟨_, rfl⟩
  have hr : vcodeV Try.prog O false tx_Less.code T AHeap.empty = vcodeV Try.prog O false tx_Less.code T AHeap.empty := rfl
  have l00 := load_int (t := 3) (o := 0 + 0) (mem2_0 a b) g_int rfl
  have l01 := load_int (t := 3) (o := 0 + 1) (mem2_0 a b) g_int rfl
  have l10 := load_int (t := 3) (o := 0 + 0) (mem2_1 a b) g_int rfl
  have l11 := load_int (t := 3) (o := 0 + 1) (mem2_1 a b) g_int rfl
  have q0 := stillQ_same (o := 0 + 0) (mem2_0 a b)
  have q1 := stillQ_same (o := 0 + 0) (mem2_1 a b)
  have c1 := fun S => cmp_Or.v (l := [cmpI b.fee a.fee, cmpI a.id b.id]) Okl.read (by decide) (by simp) S
  conv at hr =>
    rhs
    rw [hTe]
    simp only [tx_Less.code, tx_Less.rs, wk, List.getD_cons_succ, List.getD_cons_zero, if_true, if_false, List.getElem?_cons_succ, List.getElem?_cons_zero, Option.map_some, eq_self, reduceIte, Nat.reduceEqDiff, Int.reduceEq, Int.reduceLT, Int.reduceLE, box1, box2, fa_api_Tx_0, fa_api_Tx_1, l00, l01, l10, l11, cmp_Compare.v, bs_L_int_2, iz2_2, c1, less_or, q0, q1]
  rw [hTe] at hr
  exact tx_Less.runs hr (.inr rfl) rfl rfl
theorem neaptideref06_Less.v (a b : TxV) (S : AHeap) : vlim Try.prog O neaptideref06_Less.id [tv a, tv b] S = some (.bool (lessB a b), S) := by
  obtain ⟨T, hTe⟩ : ∃ T, T = (tv a :: tv b :: undef :: undef :: undef :: undef :: undef :: undef :: undef :: undef :: undef :: undef :: undef :: undef :: undef :: undef :: undef :: undef :: undef :: undef :: []) := ⟨_, rfl⟩
  have hr : vcodeV Try.prog O false neaptideref06_Less.code T AHeap.empty = vcodeV Try.prog O false neaptideref06_Less.code T AHeap.empty := rfl
  have l00 := load_int (t := 3) (o := 0 + 0) (mem2_0 a b) g_int rfl
  have l01 := load_int (t := 3) (o := 0 + 1) (mem2_0 a b) g_int rfl
  have l10 := load_int (t := 3) (o := 0 + 0) (mem2_1 a b) g_int rfl
  have l11 := load_int (t := 3) (o := 0 + 1) (mem2_1 a b) g_int rfl
  unfold lessB
  by_cases h : a.fee = b.fee
  · conv at hr =>
      rhs
      rw [hTe]
      simp only [neaptideref06_Less.code, neaptideref06_Less.rs, wk, List.getD_cons_succ, List.getD_cons_zero, if_true, if_false, List.getElem?_cons_succ, List.getElem?_cons_zero, Option.map_some, eq_self, reduceIte, Nat.reduceEqDiff, Int.reduceEq, Int.reduceLT, Int.reduceLE, box1, box2, fa_api_Tx_0, fa_api_Tx_1, l00, l01, l10, l11, decide_eq_true h, bne_iff_ne, ne_eq, not_true_eq_false, Bool.not_true]
    rw [if_pos h]
    rw [hTe] at hr
    exact neaptideref06_Less.runs hr (.inr rfl) rfl rfl
  · conv at hr =>
      rhs
      rw [hTe]
      simp only [neaptideref06_Less.code, neaptideref06_Less.rs, wk, List.getD_cons_succ, List.getD_cons_zero, if_true, if_false, List.getElem?_cons_succ, List.getElem?_cons_zero, Option.map_some, eq_self, reduceIte, Nat.reduceEqDiff, Int.reduceEq, Int.reduceLT, Int.reduceLE, box1, box2, fa_api_Tx_0, fa_api_Tx_1, l00, l01, l10, l11, decide_eq_false h, Bool.not_false]
    rw [if_neg h]
    rw [hTe] at hr
    exact neaptideref06_Less.runs hr (.inr rfl) rfl rfl
theorem in_tx (x : tTx.Val) (hg : tTx.Good x) : ∃ t : TxV, tTx.vval x = fT t ∧ t.Ok := by
  obtain ⟨a, b, u⟩ := x
  obtain ⟨h1, h2, _⟩ := hg
  exact ⟨⟨a, b⟩, rfl, in_int h1, in_int h2⟩
end Go.Proofs.Ytfnlcbgijkakiaa

namespace Go.Proofs.Ytfnlcbgijkakiaa
open Go.Abs

/-- neaptide.wire.ReadNums -/
abbrev wire_ReadNums.id : FuncId := 31
noncomputable def wire_ReadNums.loop1 : Code := (Code.seq (Code.region 6 (reg Try.f31 6) false) (Code.seq (Code.cond (Operand.tmp 22) Code.skip (Code.exit 0)) (Code.seq (Code.block 1 (Code.seq (Code.region 7 (reg Try.f31 7) false) (Code.seq (Code.seq (Code.region 8 (reg Try.f31 8) false) (Code.cond (Operand.tmp 34) (Code.seq (Code.region 9 (reg Try.f31 9) false) Code.ret) Code.skip)) (Code.seq (Code.region 10 (reg Try.f31 10) false) (Code.region 11 (reg Try.f31 11) false))))) (Code.region 12 (reg Try.f31 12) false))))
noncomputable def wire_ReadNums.code : Code := (Code.seq (Code.region 0 (reg Try.f31 0) false) (Code.seq (Code.seq (Code.region 1 (reg Try.f31 1) false) (Code.cond (Operand.tmp 17) (Code.seq (Code.region 2 (reg Try.f31 2) false) Code.ret) Code.skip)) (Code.seq (Code.region 3 (reg Try.f31 3) false) (Code.seq (Code.region 4 (reg Try.f31 4) false) (Code.seq (Code.seq (Code.region 5 (reg Try.f31 5) false) (Code.block 0 (Code.loop wire_ReadNums.loop1))) (Code.seq (Code.region 13 (reg Try.f31 13) false) Code.ret))))))
theorem wire_ReadNums.body : Try.f31.body = some wire_ReadNums.code := by kernel_rfl
theorem wire_ReadNums.eta {T : List Value} (h : T.length = 45) : T = [T.getD 0 undef,T.getD 1 undef,T.getD 2 undef,T.getD 3 undef,T.getD 4 undef,T.getD 5 undef,T.getD 6 undef,T.getD 7 undef,T.getD 8 undef,T.getD 9 undef,T.getD 10 undef,T.getD 11 undef,T.getD 12 undef,T.getD 13 undef,T.getD 14 undef,T.getD 15 undef,T.getD 16 undef,T.getD 17 undef,T.getD 18 undef,T.getD 19 undef,T.getD 20 undef,T.getD 21 undef,T.getD 22 undef,T.getD 23 undef,T.getD 24 undef,T.getD 25 undef,T.getD 26 undef,T.getD 27 undef,T.getD 28 undef,T.getD 29 undef,T.getD 30 undef,T.getD 31 undef,T.getD 32 undef,T.getD 33 undef,T.getD 34 undef,T.getD 35 undef,T.getD 36 undef,T.getD 37 undef,T.getD 38 undef,T.getD 39 undef,T.getD 40 undef,T.getD 41 undef,T.getD 42 undef,T.getD 43 undef,T.getD 44 undef] := (list_getD T 45 h).trans (by kernel_rfl)
theorem wire_ReadNums.list {T : List Value} (h : T.length = 45) : ∃ x0 x1 x2 x3 x4 x5 x6 x7 x8 x9 x10 x11 x12 x13 x14 x15 x16 x17 x18 x19 x20 x21 x22 x23 x24 x25 x26 x27 x28 x29 x30 x31 x32 x33 x34 x35 x36 x37 x38 x39 x40 x41 x42 x43 x44, T = [x0,x1,x2,x3,x4,x5,x6,x7,x8,x9,x10,x11,x12,x13,x14,x15,x16,x17,x18,x19,x20,x21,x22,x23,x24,x25,x26,x27,x28,x29,x30,x31,x32,x33,x34,x35,x36,x37,x38,x39,x40,x41,x42,x43,x44] := ⟨_, _, _, _, _, _, _, _, _, _, _, _, _, _, _, _, _, _, _, _, _, _, _, _, _, _, _, _, _, _, _, _, _, _, _, _, _, _, _, _, _, _, _, _, _, wire_ReadNums.eta h⟩
variable (x0 x1 x2 x3 x4 x5 x6 x7 x8 x9 x10 x11 x12 x13 x14 x15 x16 x17 x18 x19 x20 x21 x22 x23 x24 x25 x26 x27 x28 x29 x30 x31 x32 x33 x34 x35 x36 x37 x38 x39 x40 x41 x42 x43 x44 : Value) (S : AHeap)
theorem wire_ReadNums.r0  : vOps Try.prog ⟨false, false, false⟩ (vlim Try.prog O) (reg Try.f31 0) (reg Try.f31 0).toList ([x0,x1,x2,x3,x4,x5,x6,x7,x8,x9,x10,x11,x12,x13,x14,x15,x16,x17,x18,x19,x20,x21,x22,x23,x24,x25,x26,x27,x28,x29,x30,x31,x32,x33,x34,x35,x36,x37,x38,x39,x40,x41,x42,x43,x44]) S =
    ( some ([x0,x1,x2,x3,Value.slice none 0 0,Value.slice none 0 0,Value.int IntKind.i64 0,x7,x8,x9,x10,x11,x12,x13,x14,x15,x16,x17,x18,x19,x20,x21,x22,x23,x24,x25,x26,x27,x28,x29,x30,x31,x32,x33,x34,x35,x36,x37,x38,x39,x40,x41,x42,x43,x44], S)) := by
  refine sP Try.f31 0 0 (v := (Value.slice none 0 0)) ?_
  refine sP Try.f31 0 1 (v := (Value.slice none 0 0)) ?_
  refine sP Try.f31 0 2 (v := (Value.int IntKind.i64 0)) ?_
  kernel_rfl
theorem wire_ReadNums.r1  : vOps Try.prog ⟨false, false, false⟩ (vlim Try.prog O) (reg Try.f31 1) (reg Try.f31 1).toList ([x0,x1,x2,x3,x4,x5,x6,x7,x8,x9,x10,x11,x12,x13,x14,x15,x16,x17,x18,x19,x20,x21,x22,x23,x24,x25,x26,x27,x28,x29,x30,x31,x32,x33,x34,x35,x36,x37,x38,x39,x40,x41,x42,x43,x44]) S =
    (andK (vBin Try.prog BinOp.lss 3 (dem x1) (Value.int IntKind.i64 0) S) (fun v1 S1 => gdK (dem v1) false (ret x1) S1 (fun v3 S2 => gdK (dem v1) false (vBin Try.prog BinOp.gtr 3 (dem v3) (Value.int IntKind.i64 64)) S2 (fun v4 S3 => andK (vPick (dem v1) (Value.bool true) v4 S3) (fun v5 S4 => some ([x0,x1,x2,x3,x4,x5,x6,x7,x8,x9,x10,x11,dem x1,v1,dem v1,dem v3,v4,v5,x18,x19,x20,x21,x22,x23,x24,x25,x26,x27,x28,x29,x30,x31,x32,x33,x34,x35,x36,x37,x38,x39,x40,x41,x42,x43,x44], S4)) ()) ()) ()) ()) := by
  refine sP Try.f31 1 0 (v := x1) ?_
  refine sD Try.f31 1 1 (fun v1 S1 => ?_)
  refine sP Try.f31 1 2 (v := v1) ?_
  refine sG Try.f31 1 3 (j := 2) (fun v3 S2 => ?_)
  refine sG Try.f31 1 4 (j := 2) (fun v4 S3 => ?_)
  refine sD Try.f31 1 5 (fun v5 S4 => ?_)
  kernel_rfl
theorem wire_ReadNums.r2  : vOps Try.prog ⟨false, false, false⟩ (vlim Try.prog O) (reg Try.f31 2) (reg Try.f31 2).toList ([x0,x1,x2,x3,x4,x5,x6,x7,x8,x9,x10,x11,x12,x13,x14,x15,x16,x17,x18,x19,x20,x21,x22,x23,x24,x25,x26,x27,x28,x29,x30,x31,x32,x33,x34,x35,x36,x37,x38,x39,x40,x41,x42,x43,x44]) S =
    ( some ([x0,x1,x2,x3,Value.slice none 0 0,Value.slice none 0 0,Value.int IntKind.i64 11,x7,x8,x9,x10,x11,x12,x13,x14,x15,x16,x17,x18,x19,x20,x21,x22,x23,x24,x25,x26,x27,x28,x29,x30,x31,x32,x33,x34,x35,x36,x37,x38,x39,x40,x41,x42,x43,x44], S)) := by
  refine sP Try.f31 2 0 (v := (Value.slice none 0 0)) ?_
  refine sP Try.f31 2 1 (v := (Value.slice none 0 0)) ?_
  refine sP Try.f31 2 2 (v := (Value.int IntKind.i64 11)) ?_
  kernel_rfl
theorem wire_ReadNums.r3  : vOps Try.prog ⟨false, false, false⟩ (vlim Try.prog O) (reg Try.f31 3) (reg Try.f31 3).toList ([x0,x1,x2,x3,x4,x5,x6,x7,x8,x9,x10,x11,x12,x13,x14,x15,x16,x17,x18,x19,x20,x21,x22,x23,x24,x25,x26,x27,x28,x29,x30,x31,x32,x33,x34,x35,x36,x37,x38,x39,x40,x41,x42,x43,x44]) S =
    (andK ((vlim Try.prog O) 36 [(dem (dem x0))] S) (fun v1 S1 => some ([x0,x1,x2,x3,x4,x5,x6,v1,x8,x9,x10,x11,x12,x13,x14,x15,x16,x17,dem x0,dem v1,x20,x21,x22,x23,x24,x25,x26,x27,x28,x29,x30,x31,x32,x33,x34,x35,x36,x37,x38,x39,x40,x41,x42,x43,x44], S1)) ()) := by
  refine sP Try.f31 3 0 (v := x0) ?_
  refine sD Try.f31 3 1 (fun v1 S1 => ?_)
  refine sP Try.f31 3 2 (v := v1) ?_
  kernel_rfl
theorem wire_ReadNums.r4  : vOps Try.prog ⟨false, false, false⟩ (vlim Try.prog O) (reg Try.f31 4) (reg Try.f31 4).toList ([x0,x1,x2,x3,x4,x5,x6,x7,x8,x9,x10,x11,x12,x13,x14,x15,x16,x17,x18,x19,x20,x21,x22,x23,x24,x25,x26,x27,x28,x29,x30,x31,x32,x33,x34,x35,x36,x37,x38,x39,x40,x41,x42,x43,x44]) S =
    ( some ([x0,x1,x2,x3,x4,x5,x6,x7,Value.slice none 0 0,x9,x10,x11,x12,x13,x14,x15,x16,x17,x18,x19,x20,x21,x22,x23,x24,x25,x26,x27,x28,x29,x30,x31,x32,x33,x34,x35,x36,x37,x38,x39,x40,x41,x42,x43,x44], S)) := by
  refine sP Try.f31 4 0 (v := (Value.slice none 0 0)) ?_
  kernel_rfl
theorem wire_ReadNums.r5  : vOps Try.prog ⟨false, false, false⟩ (vlim Try.prog O) (reg Try.f31 5) (reg Try.f31 5).toList ([x0,x1,x2,x3,x4,x5,x6,x7,x8,x9,x10,x11,x12,x13,x14,x15,x16,x17,x18,x19,x20,x21,x22,x23,x24,x25,x26,x27,x28,x29,x30,x31,x32,x33,x34,x35,x36,x37,x38,x39,x40,x41,x42,x43,x44]) S =
    ( some ([x0,x1,x2,x3,x4,x5,x6,x7,x8,x9,x10,x11,x12,x13,x14,x15,x16,x17,x18,x19,dem x1,Value.int IntKind.i64 0,x22,x23,x24,x25,x26,x27,x28,x29,x30,x31,x32,x33,x34,x35,x36,x37,x38,x39,x40,x41,x42,x43,x44], S)) := by
  refine sP Try.f31 5 0 (v := x1) ?_
  refine sP Try.f31 5 1 (v := (Value.int IntKind.i64 0)) ?_
  kernel_rfl
theorem wire_ReadNums.r6  : vOps Try.prog ⟨false, false, false⟩ (vlim Try.prog O) (reg Try.f31 6) (reg Try.f31 6).toList ([x0,x1,x2,x3,x4,x5,x6,x7,x8,x9,x10,x11,x12,x13,x14,x15,x16,x17,x18,x19,x20,x21,x22,x23,x24,x25,x26,x27,x28,x29,x30,x31,x32,x33,x34,x35,x36,x37,x38,x39,x40,x41,x42,x43,x44]) S =
    (andK (vBin Try.prog BinOp.lss 3 x21 x20 S) (fun v0 S1 => some ([x0,x1,x2,x3,x4,x5,x6,x7,x8,x9,x10,x11,x12,x13,x14,x15,x16,x17,x18,x19,x20,x21,v0,x23,x24,x25,x26,x27,x28,x29,x30,x31,x32,x33,x34,x35,x36,x37,x38,x39,x40,x41,x42,x43,x44], S1)) ()) := by
  refine sD Try.f31 6 0 (fun v0 S1 => ?_)
  kernel_rfl
theorem wire_ReadNums.r7  : vOps Try.prog ⟨false, false, false⟩ (vlim Try.prog O) (reg Try.f31 7) (reg Try.f31 7).toList ([x0,x1,x2,x3,x4,x5,x6,x7,x8,x9,x10,x11,x12,x13,x14,x15,x16,x17,x18,x19,x20,x21,x22,x23,x24,x25,x26,x27,x28,x29,x30,x31,x32,x33,x34,x35,x36,x37,x38,x39,x40,x41,x42,x43,x44]) S =
    (andK ((vlim Try.prog O) 37 [(dem (dem x7))] S) (fun v1 S1 => andK (aExtract v1 0 S1) (fun v3 S2 => andK (aExtract (demPart 0 v1) 1 S2) (fun v4 S3 => andK (aExtract (demPart 1 (demPart 0 v1)) 2 S3) (fun v5 S4 => some ([x0,x1,x2,x3,x4,x5,x6,x7,x8,v3,v4,v5,x12,x13,x14,x15,x16,x17,x18,x19,x20,x21,x22,demPart 2 (demPart 1 (demPart 0 v1)),dem x7,dem v1,dem v3,dem v4,dem v5,x29,x30,x31,x32,x33,x34,x35,x36,x37,x38,x39,x40,x41,x42,x43,x44], S4)) ()) ()) ()) ()) := by
  refine sP Try.f31 7 0 (v := x7) ?_
  refine sD Try.f31 7 1 (fun v1 S1 => ?_)
  refine sP Try.f31 7 2 (v := v1) ?_
  refine sD Try.f31 7 3 (fun v3 S2 => ?_)
  refine sD Try.f31 7 4 (fun v4 S3 => ?_)
  refine sD Try.f31 7 5 (fun v5 S4 => ?_)
  refine sP Try.f31 7 6 (v := v3) ?_
  refine sP Try.f31 7 7 (v := v4) ?_
  refine sP Try.f31 7 8 (v := v5) ?_
  kernel_rfl
theorem wire_ReadNums.r8  : vOps Try.prog ⟨false, false, false⟩ (vlim Try.prog O) (reg Try.f31 8) (reg Try.f31 8).toList ([x0,x1,x2,x3,x4,x5,x6,x7,x8,x9,x10,x11,x12,x13,x14,x15,x16,x17,x18,x19,x20,x21,x22,x23,x24,x25,x26,x27,x28,x29,x30,x31,x32,x33,x34,x35,x36,x37,x38,x39,x40,x41,x42,x43,x44]) S =
    (andK (vBin Try.prog BinOp.neq 25 (dem x11) (Value.int IntKind.i64 0) S) (fun v1 S1 => gdK (dem v1) false (ret x9) S1 (fun v3 S2 => gdK (dem v1) false (vBin Try.prog BinOp.gtr 61 (dem v3) (Value.int IntKind.u64 4611686018427387905)) S2 (fun v4 S3 => andK (vPick (dem v1) (Value.bool true) v4 S3) (fun v5 S4 => some ([x0,x1,x2,x3,x4,x5,x6,x7,x8,x9,x10,x11,x12,x13,x14,x15,x16,x17,x18,x19,x20,x21,x22,x23,x24,x25,x26,x27,x28,dem x11,v1,dem v1,dem v3,v4,v5,x35,x36,x37,x38,x39,x40,x41,x42,x43,x44], S4)) ()) ()) ()) ()) := by
  refine sP Try.f31 8 0 (v := x11) ?_
  refine sD Try.f31 8 1 (fun v1 S1 => ?_)
  refine sP Try.f31 8 2 (v := v1) ?_
  refine sG Try.f31 8 3 (j := 2) (fun v3 S2 => ?_)
  refine sG Try.f31 8 4 (j := 2) (fun v4 S3 => ?_)
  refine sD Try.f31 8 5 (fun v5 S4 => ?_)
  kernel_rfl
theorem wire_ReadNums.r9  : vOps Try.prog ⟨false, false, false⟩ (vlim Try.prog O) (reg Try.f31 9) (reg Try.f31 9).toList ([x0,x1,x2,x3,x4,x5,x6,x7,x8,x9,x10,x11,x12,x13,x14,x15,x16,x17,x18,x19,x20,x21,x22,x23,x24,x25,x26,x27,x28,x29,x30,x31,x32,x33,x34,x35,x36,x37,x38,x39,x40,x41,x42,x43,x44]) S =
    ( some ([x0,x1,x2,x3,Value.slice none 0 0,Value.slice none 0 0,Value.int IntKind.i64 11,x7,x8,x9,x10,x11,x12,x13,x14,x15,x16,x17,x18,x19,x20,x21,x22,x23,x24,x25,x26,x27,x28,x29,x30,x31,x32,x33,x34,x35,x36,x37,x38,x39,x40,x41,x42,x43,x44], S)) := by
  refine sP Try.f31 9 0 (v := (Value.slice none 0 0)) ?_
  refine sP Try.f31 9 1 (v := (Value.slice none 0 0)) ?_
  refine sP Try.f31 9 2 (v := (Value.int IntKind.i64 11)) ?_
  kernel_rfl
theorem wire_ReadNums.r10  : vOps Try.prog ⟨false, false, false⟩ (vlim Try.prog O) (reg Try.f31 10) (reg Try.f31 10).toList ([x0,x1,x2,x3,x4,x5,x6,x7,x8,x9,x10,x11,x12,x13,x14,x15,x16,x17,x18,x19,x20,x21,x22,x23,x24,x25,x26,x27,x28,x29,x30,x31,x32,x33,x34,x35,x36,x37,x38,x39,x40,x41,x42,x43,x44]) S =
    (andK (vConvF Try.prog false false 61 3 (dem x9) S) (fun v2 S1 => andK (vBin Try.prog BinOp.sub 3 v2 (Value.int IntKind.i64 1) S1) (fun v3 S2 => andK (vBuildSlice Try.prog 51 1 [(0, v3)] S2) (fun v4 S3 => andK (vAppend Try.prog 51 51 x8 v4 S3) (fun v5 S4 => some ([x0,x1,x2,x3,x4,x5,x6,x7,v5,x9,x10,x11,x12,x13,x14,x15,x16,x17,x18,x19,x20,x21,x22,x23,x24,x25,x26,x27,x28,x29,x30,x31,x32,x33,x34,dem x8,dem x9,v2,v3,v4,dem v5,x41,x42,x43,x44], S4)) ()) ()) ()) ()) := by
  refine sP Try.f31 10 0 (v := x8) ?_
  refine sP Try.f31 10 1 (v := x9) ?_
  refine sD Try.f31 10 2 (fun v2 S1 => ?_)
  refine sD Try.f31 10 3 (fun v3 S2 => ?_)
  refine sD Try.f31 10 4 (fun v4 S3 => ?_)
  refine sD Try.f31 10 5 (fun v5 S4 => ?_)
  refine sP Try.f31 10 6 (v := v5) ?_
  kernel_rfl
theorem wire_ReadNums.r11  : vOps Try.prog ⟨false, false, false⟩ (vlim Try.prog O) (reg Try.f31 11) (reg Try.f31 11).toList ([x0,x1,x2,x3,x4,x5,x6,x7,x8,x9,x10,x11,x12,x13,x14,x15,x16,x17,x18,x19,x20,x21,x22,x23,x24,x25,x26,x27,x28,x29,x30,x31,x32,x33,x34,x35,x36,x37,x38,x39,x40,x41,x42,x43,x44]) S =
    ( some ([x0,x1,x2,x3,x4,x5,x6,x10,x8,x9,dem x10,x11,x12,x13,x14,x15,x16,x17,x18,x19,x20,x21,x22,x23,x24,x25,x26,x27,x28,x29,x30,x31,x32,x33,x34,x35,x36,x37,x38,x39,x40,dem x10,x42,x43,x44], S)) := by
  refine sP Try.f31 11 0 (v := x10) ?_
  refine sP Try.f31 11 1 (v := x10) ?_
  kernel_rfl
theorem wire_ReadNums.r12  : vOps Try.prog ⟨false, false, false⟩ (vlim Try.prog O) (reg Try.f31 12) (reg Try.f31 12).toList ([x0,x1,x2,x3,x4,x5,x6,x7,x8,x9,x10,x11,x12,x13,x14,x15,x16,x17,x18,x19,x20,x21,x22,x23,x24,x25,x26,x27,x28,x29,x30,x31,x32,x33,x34,x35,x36,x37,x38,x39,x40,x41,x42,x43,x44]) S =
    (andK (vBin Try.prog BinOp.add 3 x21 (Value.int IntKind.i64 1) S) (fun v0 S1 => some ([x0,x1,x2,x3,x4,x5,x6,x7,x8,x9,x10,x11,x12,x13,x14,x15,x16,x17,x18,x19,x20,dem v0,x22,x23,x24,x25,x26,x27,x28,x29,x30,x31,x32,x33,x34,x35,x36,x37,x38,x39,x40,x41,v0,x43,x44], S1)) ()) := by
  refine sD Try.f31 12 0 (fun v0 S1 => ?_)
  refine sP Try.f31 12 1 (v := v0) ?_
  kernel_rfl
theorem wire_ReadNums.r13  : vOps Try.prog ⟨false, false, false⟩ (vlim Try.prog O) (reg Try.f31 13) (reg Try.f31 13).toList ([x0,x1,x2,x3,x4,x5,x6,x7,x8,x9,x10,x11,x12,x13,x14,x15,x16,x17,x18,x19,x20,x21,x22,x23,x24,x25,x26,x27,x28,x29,x30,x31,x32,x33,x34,x35,x36,x37,x38,x39,x40,x41,x42,x43,x44]) S =
    ( some ([x0,x1,x2,x3,x8,x7,Value.int IntKind.i64 0,dem x7,dem x8,x9,x10,x11,x12,x13,x14,x15,x16,x17,x18,x19,x20,x21,x22,x23,x24,x25,x26,x27,x28,x29,x30,x31,x32,x33,x34,x35,x36,x37,x38,x39,x40,x41,x42,dem x8,dem x7], S)) := by
  refine sP Try.f31 13 0 (v := x8) ?_
  refine sP Try.f31 13 1 (v := x7) ?_
  refine sP Try.f31 13 2 (v := x8) ?_
  refine sP Try.f31 13 3 (v := x7) ?_
  refine sP Try.f31 13 4 (v := (Value.int IntKind.i64 0)) ?_
  kernel_rfl
theorem wire_ReadNums.rs : type_of% (And.intro @wire_ReadNums.r0 (And.intro @wire_ReadNums.r1 (And.intro @wire_ReadNums.r2 (And.intro @wire_ReadNums.r3 (And.intro @wire_ReadNums.r4 (And.intro @wire_ReadNums.r5 (And.intro @wire_ReadNums.r6 (And.intro @wire_ReadNums.r7 (And.intro @wire_ReadNums.r8 (And.intro @wire_ReadNums.r9 (And.intro @wire_ReadNums.r10 (And.intro @wire_ReadNums.r11 (And.intro @wire_ReadNums.r12 (@wire_ReadNums.r13)))))))))))))) := And.intro @wire_ReadNums.r0 (And.intro @wire_ReadNums.r1 (And.intro @wire_ReadNums.r2 (And.intro @wire_ReadNums.r3 (And.intro @wire_ReadNums.r4 (And.intro @wire_ReadNums.r5 (And.intro @wire_ReadNums.r6 (And.intro @wire_ReadNums.r7 (And.intro @wire_ReadNums.r8 (And.intro @wire_ReadNums.r9 (And.intro @wire_ReadNums.r10 (And.intro @wire_ReadNums.r11 (And.intro @wire_ReadNums.r12 (@wire_ReadNums.r13)))))))))))))
theorem wire_ReadNums.runs {x0 x1 : Value} {S S1 : AHeap} {e : AEx} {T : List Value} (h : vcodeV Try.prog O false wire_ReadNums.code ([x0,x1,undef,undef,undef,undef,undef,undef,undef,undef,undef,undef,undef,undef,undef,undef,undef,undef,undef,undef,undef,undef,undef,undef,undef,undef,undef,undef,undef,undef,undef,undef,undef,undef,undef,undef,undef,undef,undef,undef,undef,undef,undef,undef,undef]) S = some (e, T, S1)) (he : e = .normal ∨ e = .ret)  (h0 : notTuple (T.getD 4 undef) = true) (h1 : notTuple (T.getD 5 undef) = true) (h2 : notTuple (T.getD 6 undef) = true) : vlim Try.prog O 31 [x0, x1] S = some (Value.tuple #[T.getD 4 undef, T.getD 5 undef, T.getD 6 undef], S1) :=
  vlim_code rfl rfl Try.func31 (by decide) wire_ReadNums.body (by exact h) he ((vRes_many ((show vResVals Try.prog T S1 Try.f31.results.toList = vResVals Try.prog T S1 [(ResultVar.tmp 4), (ResultVar.tmp 5), (ResultVar.tmp 6)] from by kernel_rfl).trans (by simp only [vResVals])) (by kernel_rfl) (by simp only [List.all_cons, List.all_nil, h0, h1, h2, Bool.and_true])).trans rfl)
end Go.Proofs.Ytfnlcbgijkakiaa
