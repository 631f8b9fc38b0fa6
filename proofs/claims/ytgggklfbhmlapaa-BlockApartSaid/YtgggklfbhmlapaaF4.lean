/-
The seat's functions in a shallow form: each region as a chain of the interpreter's operations. Printed by a program; Lean checks each row.
-/
import Derived.Test.YtgggklfbhmlapaaChecked
import Derived.Test.YtgggklfbhmlapaaOra
import Derived.KernelRfl
set_option linter.unusedVariables false
set_option maxRecDepth 100000
namespace Go.Proofs.Ytgggklfbhmlapaa
open Go.Abs

/-- neaptide.neaptidelaw07.BlockApart -/
abbrev neaptidelaw07_BlockApart.id : FuncId := 4
noncomputable def neaptidelaw07_BlockApart.code : Code := (Code.seq (Code.region 0 (reg Try.f4 0) false) (Code.seq (Code.seq (Code.region 1 (reg Try.f4 1) false) (Code.cond (Operand.tmp 8) (Code.seq (Code.region 2 (reg Try.f4 2) false) Code.ret) Code.skip)) (Code.seq (Code.seq (Code.region 3 (reg Try.f4 3) false) (Code.cond (Operand.tmp 16) (Code.seq (Code.region 4 (reg Try.f4 4) false) Code.ret) Code.skip)) (Code.seq (Code.region 5 (reg Try.f4 5) true) (Code.seq (Code.seq (Code.region 6 (reg Try.f4 6) true) (Code.cond (Operand.tmp 57) (Code.seq (Code.region 7 (reg Try.f4 7) false) Code.ret) Code.skip)) (Code.seq (Code.region 8 (reg Try.f4 8) false) Code.ret))))))
theorem neaptidelaw07_BlockApart.body : Try.f4.body = some neaptidelaw07_BlockApart.code := by kernel_rfl
theorem neaptidelaw07_BlockApart.eta {T : List Value} (h : T.length = 73) : T = [T.getD 0 undef,T.getD 1 undef,T.getD 2 undef,T.getD 3 undef,T.getD 4 undef,T.getD 5 undef,T.getD 6 undef,T.getD 7 undef,T.getD 8 undef,T.getD 9 undef,T.getD 10 undef,T.getD 11 undef,T.getD 12 undef,T.getD 13 undef,T.getD 14 undef,T.getD 15 undef,T.getD 16 undef,T.getD 17 undef,T.getD 18 undef,T.getD 19 undef,T.getD 20 undef,T.getD 21 undef,T.getD 22 undef,T.getD 23 undef,T.getD 24 undef,T.getD 25 undef,T.getD 26 undef,T.getD 27 undef,T.getD 28 undef,T.getD 29 undef,T.getD 30 undef,T.getD 31 undef,T.getD 32 undef,T.getD 33 undef,T.getD 34 undef,T.getD 35 undef,T.getD 36 undef,T.getD 37 undef,T.getD 38 undef,T.getD 39 undef,T.getD 40 undef,T.getD 41 undef,T.getD 42 undef,T.getD 43 undef,T.getD 44 undef,T.getD 45 undef,T.getD 46 undef,T.getD 47 undef,T.getD 48 undef,T.getD 49 undef,T.getD 50 undef,T.getD 51 undef,T.getD 52 undef,T.getD 53 undef,T.getD 54 undef,T.getD 55 undef,T.getD 56 undef,T.getD 57 undef,T.getD 58 undef,T.getD 59 undef,T.getD 60 undef,T.getD 61 undef,T.getD 62 undef,T.getD 63 undef,T.getD 64 undef,T.getD 65 undef,T.getD 66 undef,T.getD 67 undef,T.getD 68 undef,T.getD 69 undef,T.getD 70 undef,T.getD 71 undef,T.getD 72 undef] := (list_getD T 73 h).trans (by kernel_rfl)
variable (x0 x1 x2 x3 x4 x5 x6 x7 x8 x9 x10 x11 x12 x13 x14 x15 x16 x17 x18 x19 x20 x21 x22 x23 x24 x25 x26 x27 x28 x29 x30 x31 x32 x33 x34 x35 x36 x37 x38 x39 x40 x41 x42 x43 x44 x45 x46 x47 x48 x49 x50 x51 x52 x53 x54 x55 x56 x57 x58 x59 x60 x61 x62 x63 x64 x65 x66 x67 x68 x69 x70 x71 x72 : Value) (S : AHeap)
theorem neaptidelaw07_BlockApart.r0  : vOps Try.prog ⟨false, false, false⟩ (vlim Try.prog O) (reg Try.f4 0) (reg Try.f4 0).toList ([x0,x1,x2,x3,x4,x5,x6,x7,x8,x9,x10,x11,x12,x13,x14,x15,x16,x17,x18,x19,x20,x21,x22,x23,x24,x25,x26,x27,x28,x29,x30,x31,x32,x33,x34,x35,x36,x37,x38,x39,x40,x41,x42,x43,x44,x45,x46,x47,x48,x49,x50,x51,x52,x53,x54,x55,x56,x57,x58,x59,x60,x61,x62,x63,x64,x65,x66,x67,x68,x69,x70,x71,x72]) S =
    (andK (aBox (dem x0) S) (fun v0 S1 => andK (aBox (dem x1) S1) (fun v1 S2 => some ([x0,x1,v0,v1,Value.bool false,x5,x6,x7,x8,x9,x10,x11,x12,x13,x14,x15,x16,x17,x18,x19,x20,x21,x22,x23,x24,x25,x26,x27,x28,x29,x30,x31,x32,x33,x34,x35,x36,x37,x38,x39,x40,x41,x42,x43,x44,x45,x46,x47,x48,x49,x50,x51,x52,x53,x54,x55,x56,x57,x58,x59,x60,x61,x62,x63,x64,x65,x66,x67,x68,x69,x70,x71,x72], S2)) ()) ()) := by
  refine sD Try.f4 0 0 (fun v0 S1 => ?_)
  refine sD Try.f4 0 1 (fun v1 S2 => ?_)
  refine sP Try.f4 0 2 (v := (Value.bool false)) ?_
  kernel_rfl
theorem neaptidelaw07_BlockApart.r1  : vOps Try.prog ⟨false, false, false⟩ (vlim Try.prog O) (reg Try.f4 1) (reg Try.f4 1).toList ([x0,x1,x2,x3,x4,x5,x6,x7,x8,x9,x10,x11,x12,x13,x14,x15,x16,x17,x18,x19,x20,x21,x22,x23,x24,x25,x26,x27,x28,x29,x30,x31,x32,x33,x34,x35,x36,x37,x38,x39,x40,x41,x42,x43,x44,x45,x46,x47,x48,x49,x50,x51,x52,x53,x54,x55,x56,x57,x58,x59,x60,x61,x62,x63,x64,x65,x66,x67,x68,x69,x70,x71,x72]) S =
    (andK ((vlim Try.prog O) 11 [] S) (fun v0 S1 => andK (aUn Try.prog UnOp.not v0 S1) (fun v1 S2 => some ([x0,x1,x2,x3,x4,x5,x6,v0,v1,x9,x10,x11,x12,x13,x14,x15,x16,x17,x18,x19,x20,x21,x22,x23,x24,x25,x26,x27,x28,x29,x30,x31,x32,x33,x34,x35,x36,x37,x38,x39,x40,x41,x42,x43,x44,x45,x46,x47,x48,x49,x50,x51,x52,x53,x54,x55,x56,x57,x58,x59,x60,x61,x62,x63,x64,x65,x66,x67,x68,x69,x70,x71,x72], S2)) ()) ()) := by
  refine sD Try.f4 1 0 (fun v0 S1 => ?_)
  refine sD Try.f4 1 1 (fun v1 S2 => ?_)
  kernel_rfl
theorem neaptidelaw07_BlockApart.r2  : vOps Try.prog ⟨false, false, false⟩ (vlim Try.prog O) (reg Try.f4 2) (reg Try.f4 2).toList ([x0,x1,x2,x3,x4,x5,x6,x7,x8,x9,x10,x11,x12,x13,x14,x15,x16,x17,x18,x19,x20,x21,x22,x23,x24,x25,x26,x27,x28,x29,x30,x31,x32,x33,x34,x35,x36,x37,x38,x39,x40,x41,x42,x43,x44,x45,x46,x47,x48,x49,x50,x51,x52,x53,x54,x55,x56,x57,x58,x59,x60,x61,x62,x63,x64,x65,x66,x67,x68,x69,x70,x71,x72]) S =
    ( some ([x0,x1,x2,x3,Value.bool false,x5,x6,x7,x8,x9,x10,x11,x12,x13,x14,x15,x16,x17,x18,x19,x20,x21,x22,x23,x24,x25,x26,x27,x28,x29,x30,x31,x32,x33,x34,x35,x36,x37,x38,x39,x40,x41,x42,x43,x44,x45,x46,x47,x48,x49,x50,x51,x52,x53,x54,x55,x56,x57,x58,x59,x60,x61,x62,x63,x64,x65,x66,x67,x68,x69,x70,x71,x72], S)) := by
  refine sP Try.f4 2 0 (v := (Value.bool false)) ?_
  kernel_rfl
theorem neaptidelaw07_BlockApart.r3  : vOps Try.prog ⟨false, false, false⟩ (vlim Try.prog O) (reg Try.f4 3) (reg Try.f4 3).toList ([x0,x1,x2,x3,x4,x5,x6,x7,x8,x9,x10,x11,x12,x13,x14,x15,x16,x17,x18,x19,x20,x21,x22,x23,x24,x25,x26,x27,x28,x29,x30,x31,x32,x33,x34,x35,x36,x37,x38,x39,x40,x41,x42,x43,x44,x45,x46,x47,x48,x49,x50,x51,x52,x53,x54,x55,x56,x57,x58,x59,x60,x61,x62,x63,x64,x65,x66,x67,x68,x69,x70,x71,x72]) S =
    (andK (vLoad Try.prog false 29 x2 S) (fun v0 S1 => andK ((vlim Try.prog O) 14 [(dem v0)] S1) (fun v1 S2 => andK (aUn Try.prog UnOp.not v1 S2) (fun v2 S3 => gdK (dem v2) false (vLoad Try.prog false 29 x3) S3 (fun v4 S4 => gdK (dem v2) false ((vlim Try.prog O) 14 [(dem v4)]) S4 (fun v5 S5 => gdK (dem v2) false (aUn Try.prog UnOp.not v5) S5 (fun v6 S6 => andK (vPick (dem v2) (Value.bool true) v6 S6) (fun v7 S7 => some ([x0,x1,x2,x3,x4,x5,x6,x7,x8,v0,v1,v2,dem v2,v4,v5,v6,v7,x17,x18,x19,x20,x21,x22,x23,x24,x25,x26,x27,x28,x29,x30,x31,x32,x33,x34,x35,x36,x37,x38,x39,x40,x41,x42,x43,x44,x45,x46,x47,x48,x49,x50,x51,x52,x53,x54,x55,x56,x57,x58,x59,x60,x61,x62,x63,x64,x65,x66,x67,x68,x69,x70,x71,x72], S7)) ()) ()) ()) ()) ()) ()) ()) := by
  refine sD Try.f4 3 0 (fun v0 S1 => ?_)
  refine sD Try.f4 3 1 (fun v1 S2 => ?_)
  refine sD Try.f4 3 2 (fun v2 S3 => ?_)
  refine sP Try.f4 3 3 (v := v2) ?_
  refine sG Try.f4 3 4 (j := 3) (fun v4 S4 => ?_)
  refine sG Try.f4 3 5 (j := 3) (fun v5 S5 => ?_)
  refine sG Try.f4 3 6 (j := 3) (fun v6 S6 => ?_)
  refine sD Try.f4 3 7 (fun v7 S7 => ?_)
  kernel_rfl
theorem neaptidelaw07_BlockApart.r4  : vOps Try.prog ⟨false, false, false⟩ (vlim Try.prog O) (reg Try.f4 4) (reg Try.f4 4).toList ([x0,x1,x2,x3,x4,x5,x6,x7,x8,x9,x10,x11,x12,x13,x14,x15,x16,x17,x18,x19,x20,x21,x22,x23,x24,x25,x26,x27,x28,x29,x30,x31,x32,x33,x34,x35,x36,x37,x38,x39,x40,x41,x42,x43,x44,x45,x46,x47,x48,x49,x50,x51,x52,x53,x54,x55,x56,x57,x58,x59,x60,x61,x62,x63,x64,x65,x66,x67,x68,x69,x70,x71,x72]) S =
    ( some ([x0,x1,x2,x3,Value.bool true,x5,x6,x7,x8,x9,x10,x11,x12,x13,x14,x15,x16,x17,x18,x19,x20,x21,x22,x23,x24,x25,x26,x27,x28,x29,x30,x31,x32,x33,x34,x35,x36,x37,x38,x39,x40,x41,x42,x43,x44,x45,x46,x47,x48,x49,x50,x51,x52,x53,x54,x55,x56,x57,x58,x59,x60,x61,x62,x63,x64,x65,x66,x67,x68,x69,x70,x71,x72], S)) := by
  refine sP Try.f4 4 0 (v := (Value.bool true)) ?_
  kernel_rfl
theorem neaptidelaw07_BlockApart.d5 : drawnOk Try.prog (reg Try.f4 5) = true := by kernel_rfl
theorem neaptidelaw07_BlockApart.ff5 : fixed Try.prog (reg Try.f4 5) = false := by kernel_rfl
theorem neaptidelaw07_BlockApart.k5 : checked Try.prog (reg Try.f4 5) = [2] := by kernel_rfl
theorem neaptidelaw07_BlockApart.g5 : again Try.prog (reg Try.f4 5) = [(2, 1)] := by kernel_rfl
theorem neaptidelaw07_BlockApart.r5  : vcodeV Try.prog O false (.region 5 (reg Try.f4 5) true) ([x0,x1,x2,x3,x4,x5,x6,x7,x8,x9,x10,x11,x12,x13,x14,x15,x16,x17,x18,x19,x20,x21,x22,x23,x24,x25,x26,x27,x28,x29,x30,x31,x32,x33,x34,x35,x36,x37,x38,x39,x40,x41,x42,x43,x44,x45,x46,x47,x48,x49,x50,x51,x52,x53,x54,x55,x56,x57,x58,x59,x60,x61,x62,x63,x64,x65,x66,x67,x68,x69,x70,x71,x72]) S =
    regV (andK (vLoad Try.prog false 29 x2 S) (fun v0 S1 => andK ((vlim Try.prog O) 15 [(dem v0)] S1) (fun v1 S2 => andK (vLoad Try.prog false 29 x3 S2) (fun v2 S3 => okK v2 ( andK ((vlim Try.prog O) 15 [(dem v2)] S3) (fun v3 S4 => ckK (stillQ x3 S1 S2 && (true)) (some ([x0,x1,x2,x3,x4,v1,v3,x7,x8,x9,x10,x11,x12,x13,x14,x15,x16,v0,dem v1,v2,dem v3,x21,x22,x23,x24,x25,x26,x27,x28,x29,x30,x31,x32,x33,x34,x35,x36,x37,x38,x39,x40,x41,x42,x43,x44,x45,x46,x47,x48,x49,x50,x51,x52,x53,x54,x55,x56,x57,x58,x59,x60,x61,x62,x63,x64,x65,x66,x67,x68,x69,x70,x71,x72], S4)) ()) ()) ()) ()) ()) ()) := by
  rw [vcodeV_drawn neaptidelaw07_BlockApart.d5 neaptidelaw07_BlockApart.ff5 neaptidelaw07_BlockApart.k5 neaptidelaw07_BlockApart.g5]
  refine congrArg regV ?_
  refine uD Try.f4 5 0 (pe := x2) (fun v0 S1 => ?_)
  refine uD Try.f4 5 1 (pe := undef) (fun v1 S2 => ?_)
  refine uDC Try.f4 5 2 (pe := x3) (fun v2 S3 => ?_)
  refine uD Try.f4 5 3 (pe := undef) (fun v3 S4 => ?_)
  refine uP Try.f4 5 4 (v := v1) (pe := undef) ?_
  refine uP Try.f4 5 5 (v := v3) (pe := undef) ?_
  kernel_rfl
theorem neaptidelaw07_BlockApart.d6 : drawnOk Try.prog (reg Try.f4 6) = true := by kernel_rfl
theorem neaptidelaw07_BlockApart.ff6 : fixed Try.prog (reg Try.f4 6) = false := by kernel_rfl
theorem neaptidelaw07_BlockApart.k6 : checked Try.prog (reg Try.f4 6) = [26, 27, 33, 34] := by kernel_rfl
theorem neaptidelaw07_BlockApart.g6 : again Try.prog (reg Try.f4 6) = [(27, 25), (34, 32)] := by kernel_rfl
theorem neaptidelaw07_BlockApart.r6  : vcodeV Try.prog O false (.region 6 (reg Try.f4 6) true) ([x0,x1,x2,x3,x4,x5,x6,x7,x8,x9,x10,x11,x12,x13,x14,x15,x16,x17,x18,x19,x20,x21,x22,x23,x24,x25,x26,x27,x28,x29,x30,x31,x32,x33,x34,x35,x36,x37,x38,x39,x40,x41,x42,x43,x44,x45,x46,x47,x48,x49,x50,x51,x52,x53,x54,x55,x56,x57,x58,x59,x60,x61,x62,x63,x64,x65,x66,x67,x68,x69,x70,x71,x72]) S =
    regV (andK (vBin Try.prog BinOp.eql 3 (dem x5) (dem x6) S) (fun v2 S1 => andK (vFieldAddr Try.prog 29 x2 0 S1) (fun v3 S2 => andK (vLoad Try.prog false 3 v3 S2) (fun v4 S3 => andK (vFieldAddr Try.prog 29 x3 0 S3) (fun v5 S4 => andK (vLoad Try.prog false 3 v5 S4) (fun v6 S5 => andK (vBin Try.prog BinOp.eql 3 v4 v6 S5) (fun v7 S6 => gdK (dem v7) true (vFieldAddr Try.prog 29 x2 1) S6 (fun v9 S7 => gdK (dem v7) true (vLoad Try.prog false 3 v9) S7 (fun v10 S8 => gdK (dem v7) true (vFieldAddr Try.prog 29 x3 1) S8 (fun v11 S9 => gdK (dem v7) true (vLoad Try.prog false 3 v11) S9 (fun v12 S10 => gdK (dem v7) true (vBin Try.prog BinOp.eql 3 v10 v12) S10 (fun v13 S11 => andK (vPick (dem v7) v13 (Value.bool false) S11) (fun v14 S12 => gdK (dem v14) true (vFieldAddr Try.prog 29 x2 2) S12 (fun v16 S13 => gdK (dem v14) true (vLoad Try.prog false 3 v16) S13 (fun v17 S14 => gdK (dem v14) true (vFieldAddr Try.prog 29 x3 2) S14 (fun v18 S15 => gdK (dem v14) true (vLoad Try.prog false 3 v18) S15 (fun v19 S16 => gdK (dem v14) true (vBin Try.prog BinOp.eql 3 v17 v19) S16 (fun v20 S17 => andK (vPick (dem v14) v20 (Value.bool false) S17) (fun v21 S18 => andK (vBin Try.prog BinOp.neq 4 v2 v21 S18) (fun v22 S19 => gdK (dem v22) false (ret x5) S19 (fun v24 S20 => gdK (dem v22) false ((vlim Try.prog O) 12 [(dem (dem v24))]) S20 (fun v25 S21 => gdCK (dem v22) false (vFieldAddr Try.prog 29 x2 0) S21 (fun v26 S22 => gdCK (dem v22) false (vLoad Try.prog false 3 v26) S22 (fun v27 S23 => gdK (dem v22) false (vBin Try.prog BinOp.neq 3 v25 v27) S23 (fun v28 S24 => andK (vPick (dem v22) (Value.bool true) v28 S24) (fun v29 S25 => gdK (dem v29) false (ret x5) S25 (fun v31 S26 => gdK (dem v29) false ((vlim Try.prog O) 13 [(dem (dem v31))]) S26 (fun v32 S27 => gdCK (dem v29) false (vFieldAddr Try.prog 29 x2 1) S27 (fun v33 S28 => gdCK (dem v29) false (vLoad Try.prog false 3 v33) S28 (fun v34 S29 => gdK (dem v29) false (vBin Try.prog BinOp.neq 3 v32 v34) S29 (fun v35 S30 => andK (vPick (dem v29) (Value.bool true) v35 S30) (fun v36 S31 => ckK (stillQ v26 S20 S22 && (stillQ v33 S26 S28 && (true))) (some ([x0,x1,x2,x3,x4,x5,x6,x7,x8,x9,x10,x11,x12,x13,x14,x15,x16,x17,x18,x19,x20,dem x5,dem x6,v2,v3,v4,v5,v6,v7,dem v7,v9,v10,v11,v12,v13,v14,dem v14,v16,v17,v18,v19,v20,v21,v22,dem v22,dem v24,v25,v26,v27,v28,v29,dem v29,dem v31,v32,v33,v34,v35,v36,x58,x59,x60,x61,x62,x63,x64,x65,x66,x67,x68,x69,x70,x71,x72], S31)) ()) ()) ()) ()) ()) ()) ()) ()) ()) ()) ()) ()) ()) ()) ()) ()) ()) ()) ()) ()) ()) ()) ()) ()) ()) ()) ()) ()) ()) ()) ()) ()) := by
  rw [vcodeV_drawn neaptidelaw07_BlockApart.d6 neaptidelaw07_BlockApart.ff6 neaptidelaw07_BlockApart.k6 neaptidelaw07_BlockApart.g6]
  refine congrArg regV ?_
  refine uP Try.f4 6 0 (v := x5) (pe := undef) ?_
  refine uP Try.f4 6 1 (v := x6) (pe := undef) ?_
  refine uD Try.f4 6 2 (pe := undef) (fun v2 S1 => ?_)
  refine uD Try.f4 6 3 (pe := undef) (fun v3 S2 => ?_)
  refine uD Try.f4 6 4 (pe := v3) (fun v4 S3 => ?_)
  refine uD Try.f4 6 5 (pe := undef) (fun v5 S4 => ?_)
  refine uD Try.f4 6 6 (pe := v5) (fun v6 S5 => ?_)
  refine uD Try.f4 6 7 (pe := undef) (fun v7 S6 => ?_)
  refine uP Try.f4 6 8 (v := v7) (pe := undef) ?_
  refine uG Try.f4 6 9 (j := 8) (pe := undef) (fun v9 S7 => ?_)
  refine uG Try.f4 6 10 (j := 8) (pe := v9) (fun v10 S8 => ?_)
  refine uG Try.f4 6 11 (j := 8) (pe := undef) (fun v11 S9 => ?_)
  refine uG Try.f4 6 12 (j := 8) (pe := v11) (fun v12 S10 => ?_)
  refine uG Try.f4 6 13 (j := 8) (pe := undef) (fun v13 S11 => ?_)
  refine uD Try.f4 6 14 (pe := undef) (fun v14 S12 => ?_)
  refine uP Try.f4 6 15 (v := v14) (pe := undef) ?_
  refine uG Try.f4 6 16 (j := 15) (pe := undef) (fun v16 S13 => ?_)
  refine uG Try.f4 6 17 (j := 15) (pe := v16) (fun v17 S14 => ?_)
  refine uG Try.f4 6 18 (j := 15) (pe := undef) (fun v18 S15 => ?_)
  refine uG Try.f4 6 19 (j := 15) (pe := v18) (fun v19 S16 => ?_)
  refine uG Try.f4 6 20 (j := 15) (pe := undef) (fun v20 S17 => ?_)
  refine uD Try.f4 6 21 (pe := undef) (fun v21 S18 => ?_)
  refine uD Try.f4 6 22 (pe := undef) (fun v22 S19 => ?_)
  refine uP Try.f4 6 23 (v := v22) (pe := undef) ?_
  refine uG Try.f4 6 24 (j := 23) (pe := undef) (fun v24 S20 => ?_)
  refine uG Try.f4 6 25 (j := 23) (pe := undef) (fun v25 S21 => ?_)
  refine uGC Try.f4 6 26 (j := 23) (pe := undef) (fun v26 S22 => ?_)
  refine uGC Try.f4 6 27 (j := 23) (pe := v26) (fun v27 S23 => ?_)
  refine uG Try.f4 6 28 (j := 23) (pe := undef) (fun v28 S24 => ?_)
  refine uD Try.f4 6 29 (pe := undef) (fun v29 S25 => ?_)
  refine uP Try.f4 6 30 (v := v29) (pe := undef) ?_
  refine uG Try.f4 6 31 (j := 30) (pe := undef) (fun v31 S26 => ?_)
  refine uG Try.f4 6 32 (j := 30) (pe := undef) (fun v32 S27 => ?_)
  refine uGC Try.f4 6 33 (j := 30) (pe := undef) (fun v33 S28 => ?_)
  refine uGC Try.f4 6 34 (j := 30) (pe := v33) (fun v34 S29 => ?_)
  refine uG Try.f4 6 35 (j := 30) (pe := undef) (fun v35 S30 => ?_)
  refine uD Try.f4 6 36 (pe := undef) (fun v36 S31 => ?_)
  kernel_rfl
theorem neaptidelaw07_BlockApart.r7  : vOps Try.prog ⟨false, false, false⟩ (vlim Try.prog O) (reg Try.f4 7) (reg Try.f4 7).toList ([x0,x1,x2,x3,x4,x5,x6,x7,x8,x9,x10,x11,x12,x13,x14,x15,x16,x17,x18,x19,x20,x21,x22,x23,x24,x25,x26,x27,x28,x29,x30,x31,x32,x33,x34,x35,x36,x37,x38,x39,x40,x41,x42,x43,x44,x45,x46,x47,x48,x49,x50,x51,x52,x53,x54,x55,x56,x57,x58,x59,x60,x61,x62,x63,x64,x65,x66,x67,x68,x69,x70,x71,x72]) S =
    ( some ([x0,x1,x2,x3,Value.bool false,x5,x6,x7,x8,x9,x10,x11,x12,x13,x14,x15,x16,x17,x18,x19,x20,x21,x22,x23,x24,x25,x26,x27,x28,x29,x30,x31,x32,x33,x34,x35,x36,x37,x38,x39,x40,x41,x42,x43,x44,x45,x46,x47,x48,x49,x50,x51,x52,x53,x54,x55,x56,x57,x58,x59,x60,x61,x62,x63,x64,x65,x66,x67,x68,x69,x70,x71,x72], S)) := by
  refine sP Try.f4 7 0 (v := (Value.bool false)) ?_
  kernel_rfl
theorem neaptidelaw07_BlockApart.r8  : vOps Try.prog ⟨false, false, false⟩ (vlim Try.prog O) (reg Try.f4 8) (reg Try.f4 8).toList ([x0,x1,x2,x3,x4,x5,x6,x7,x8,x9,x10,x11,x12,x13,x14,x15,x16,x17,x18,x19,x20,x21,x22,x23,x24,x25,x26,x27,x28,x29,x30,x31,x32,x33,x34,x35,x36,x37,x38,x39,x40,x41,x42,x43,x44,x45,x46,x47,x48,x49,x50,x51,x52,x53,x54,x55,x56,x57,x58,x59,x60,x61,x62,x63,x64,x65,x66,x67,x68,x69,x70,x71,x72]) S =
    (andK (vFieldAddr Try.prog 29 x2 3 S) (fun v1 S1 => andK (vLoad Try.prog false 3 v1 S1) (fun v2 S2 => andK (vBin Try.prog BinOp.gtr 3 (dem x5) v2 S2) (fun v3 S3 => gdK (dem v3) true (vFieldAddr Try.prog 29 x2 3) S3 (fun v5 S4 => gdK (dem v3) true (vLoad Try.prog false 3 v5) S4 (fun v6 S5 => gdK (dem v3) true (ret x6) S5 (fun v7 S6 => gdK (dem v3) true (vBin Try.prog BinOp.neq 3 v6 (dem v7)) S6 (fun v8 S7 => gdK (dem v3) true (ret v8) S7 (fun v9 S8 => gdK (dem v9) false (ret x5) S8 (fun v10 S9 => gdK (dem v9) false (ret x6) S9 (fun v11 S10 => gdK (dem v9) false (vBin Try.prog BinOp.gtr 3 (dem v10) (dem v11)) S10 (fun v12 S11 => gdK (dem v3) true (vPick (dem v9) (Value.bool true) v12) S11 (fun v13 S12 => andK (vPick (dem v3) v13 (Value.bool false) S12) (fun v14 S13 => some ([x0,x1,x2,x3,v14,x5,x6,x7,x8,x9,x10,x11,x12,x13,x14,x15,x16,x17,x18,x19,x20,x21,x22,x23,x24,x25,x26,x27,x28,x29,x30,x31,x32,x33,x34,x35,x36,x37,x38,x39,x40,x41,x42,x43,x44,x45,x46,x47,x48,x49,x50,x51,x52,x53,x54,x55,x56,x57,dem x5,v1,v2,v3,dem v3,v5,v6,dem v7,v8,dem v9,dem v10,dem v11,v12,v13,dem v14], S13)) ()) ()) ()) ()) ()) ()) ()) ()) ()) ()) ()) ()) ()) := by
  refine sP Try.f4 8 0 (v := x5) ?_
  refine sD Try.f4 8 1 (fun v1 S1 => ?_)
  refine sD Try.f4 8 2 (fun v2 S2 => ?_)
  refine sD Try.f4 8 3 (fun v3 S3 => ?_)
  refine sP Try.f4 8 4 (v := v3) ?_
  refine sG Try.f4 8 5 (j := 4) (fun v5 S4 => ?_)
  refine sG Try.f4 8 6 (j := 4) (fun v6 S5 => ?_)
  refine sG Try.f4 8 7 (j := 4) (fun v7 S6 => ?_)
  refine sG Try.f4 8 8 (j := 4) (fun v8 S7 => ?_)
  refine sG Try.f4 8 9 (j := 4) (fun v9 S8 => ?_)
  refine sG Try.f4 8 10 (j := 9) (fun v10 S9 => ?_)
  refine sG Try.f4 8 11 (j := 9) (fun v11 S10 => ?_)
  refine sG Try.f4 8 12 (j := 9) (fun v12 S11 => ?_)
  refine sG Try.f4 8 13 (j := 4) (fun v13 S12 => ?_)
  refine sD Try.f4 8 14 (fun v14 S13 => ?_)
  refine sP Try.f4 8 15 (v := v14) ?_
  kernel_rfl
theorem neaptidelaw07_BlockApart.rs : type_of% (And.intro @neaptidelaw07_BlockApart.r0 (And.intro @neaptidelaw07_BlockApart.r1 (And.intro @neaptidelaw07_BlockApart.r2 (And.intro @neaptidelaw07_BlockApart.r3 (And.intro @neaptidelaw07_BlockApart.r4 (And.intro @neaptidelaw07_BlockApart.r5 (And.intro @neaptidelaw07_BlockApart.r6 (And.intro @neaptidelaw07_BlockApart.r7 (@neaptidelaw07_BlockApart.r8))))))))) := And.intro @neaptidelaw07_BlockApart.r0 (And.intro @neaptidelaw07_BlockApart.r1 (And.intro @neaptidelaw07_BlockApart.r2 (And.intro @neaptidelaw07_BlockApart.r3 (And.intro @neaptidelaw07_BlockApart.r4 (And.intro @neaptidelaw07_BlockApart.r5 (And.intro @neaptidelaw07_BlockApart.r6 (And.intro @neaptidelaw07_BlockApart.r7 (@neaptidelaw07_BlockApart.r8))))))))
theorem neaptidelaw07_BlockApart.runs {x0 x1 : Value} {S S1 : AHeap} {e : AEx} {T : List Value} (h : vcodeV Try.prog O false neaptidelaw07_BlockApart.code ([x0,x1,undef,undef,undef,undef,undef,undef,undef,undef,undef,undef,undef,undef,undef,undef,undef,undef,undef,undef,undef,undef,undef,undef,undef,undef,undef,undef,undef,undef,undef,undef,undef,undef,undef,undef,undef,undef,undef,undef,undef,undef,undef,undef,undef,undef,undef,undef,undef,undef,undef,undef,undef,undef,undef,undef,undef,undef,undef,undef,undef,undef,undef,undef,undef,undef,undef,undef,undef,undef,undef,undef,undef]) S = some (e, T, S1)) (he : e = .normal ∨ e = .ret) : vlim Try.prog O 4 [x0, x1] S = some (T.getD 4 undef, S1) :=
  vlim_code rfl rfl Try.func4 (by decide) neaptidelaw07_BlockApart.body (by exact h) he (vRes_one (a := T.getD 4 undef) ((show vResVals Try.prog T S1 Try.f4.results.toList = vResVals Try.prog T S1 [(ResultVar.tmp 4)] from by kernel_rfl).trans (by simp only [vResVals])) (by kernel_rfl))
end Go.Proofs.Ytgggklfbhmlapaa
