/-
The seat's functions in a shallow form: each region as a chain of the interpreter's operations. Printed by a program; Lean checks each row.
-/
import Derived.Test.YtfnlcbgijkakiaaChecked
import Derived.Test.YtfnlcbgijkakiaaOra
import Derived.KernelRfl
set_option linter.unusedVariables false
set_option maxRecDepth 100000
namespace Go.Proofs.Ytfnlcbgijkakiaa
open Go.Abs

/-- neaptide.neaptidelaw06.TxOrder -/
abbrev neaptidelaw06_TxOrder.id : FuncId := 4
noncomputable def neaptidelaw06_TxOrder.code : Code := (Code.seq (Code.region 0 (reg Try.f4 0) false) (Code.seq (Code.seq (Code.region 1 (reg Try.f4 1) false) (Code.cond (Operand.tmp 8) (Code.seq (Code.region 2 (reg Try.f4 2) false) Code.ret) Code.skip)) (Code.seq (Code.seq (Code.region 3 (reg Try.f4 3) false) (Code.cond (Operand.tmp 27) (Code.seq (Code.region 4 (reg Try.f4 4) false) Code.ret) Code.skip)) (Code.seq (Code.seq (Code.region 5 (reg Try.f4 5) false) (Code.cond (Operand.tmp 32) (Code.seq (Code.region 6 (reg Try.f4 6) false) Code.ret) Code.skip)) (Code.seq (Code.region 7 (reg Try.f4 7) true) Code.ret)))))
theorem neaptidelaw06_TxOrder.body : Try.f4.body = some neaptidelaw06_TxOrder.code := by kernel_rfl
theorem neaptidelaw06_TxOrder.eta {T : List Value} (h : T.length = 58) : T = [T.getD 0 undef,T.getD 1 undef,T.getD 2 undef,T.getD 3 undef,T.getD 4 undef,T.getD 5 undef,T.getD 6 undef,T.getD 7 undef,T.getD 8 undef,T.getD 9 undef,T.getD 10 undef,T.getD 11 undef,T.getD 12 undef,T.getD 13 undef,T.getD 14 undef,T.getD 15 undef,T.getD 16 undef,T.getD 17 undef,T.getD 18 undef,T.getD 19 undef,T.getD 20 undef,T.getD 21 undef,T.getD 22 undef,T.getD 23 undef,T.getD 24 undef,T.getD 25 undef,T.getD 26 undef,T.getD 27 undef,T.getD 28 undef,T.getD 29 undef,T.getD 30 undef,T.getD 31 undef,T.getD 32 undef,T.getD 33 undef,T.getD 34 undef,T.getD 35 undef,T.getD 36 undef,T.getD 37 undef,T.getD 38 undef,T.getD 39 undef,T.getD 40 undef,T.getD 41 undef,T.getD 42 undef,T.getD 43 undef,T.getD 44 undef,T.getD 45 undef,T.getD 46 undef,T.getD 47 undef,T.getD 48 undef,T.getD 49 undef,T.getD 50 undef,T.getD 51 undef,T.getD 52 undef,T.getD 53 undef,T.getD 54 undef,T.getD 55 undef,T.getD 56 undef,T.getD 57 undef] := (list_getD T 58 h).trans (by kernel_rfl)
variable (x0 x1 x2 x3 x4 x5 x6 x7 x8 x9 x10 x11 x12 x13 x14 x15 x16 x17 x18 x19 x20 x21 x22 x23 x24 x25 x26 x27 x28 x29 x30 x31 x32 x33 x34 x35 x36 x37 x38 x39 x40 x41 x42 x43 x44 x45 x46 x47 x48 x49 x50 x51 x52 x53 x54 x55 x56 x57 : Value) (S : AHeap)
theorem neaptidelaw06_TxOrder.r0  : vOps Try.prog ⟨false, false, false⟩ (vlim Try.prog O) (reg Try.f4 0) (reg Try.f4 0).toList ([x0,x1,x2,x3,x4,x5,x6,x7,x8,x9,x10,x11,x12,x13,x14,x15,x16,x17,x18,x19,x20,x21,x22,x23,x24,x25,x26,x27,x28,x29,x30,x31,x32,x33,x34,x35,x36,x37,x38,x39,x40,x41,x42,x43,x44,x45,x46,x47,x48,x49,x50,x51,x52,x53,x54,x55,x56,x57]) S =
    (andK (aBox (dem x0) S) (fun v0 S1 => andK (aBox (dem x1) S1) (fun v1 S2 => andK (aBox (dem x2) S2) (fun v2 S3 => some ([x0,x1,x2,v0,v1,v2,Value.bool false,x7,x8,x9,x10,x11,x12,x13,x14,x15,x16,x17,x18,x19,x20,x21,x22,x23,x24,x25,x26,x27,x28,x29,x30,x31,x32,x33,x34,x35,x36,x37,x38,x39,x40,x41,x42,x43,x44,x45,x46,x47,x48,x49,x50,x51,x52,x53,x54,x55,x56,x57], S3)) ()) ()) ()) := by
  refine sD Try.f4 0 0 (fun v0 S1 => ?_)
  refine sD Try.f4 0 1 (fun v1 S2 => ?_)
  refine sD Try.f4 0 2 (fun v2 S3 => ?_)
  refine sP Try.f4 0 3 (v := (Value.bool false)) ?_
  kernel_rfl
theorem neaptidelaw06_TxOrder.r1  : vOps Try.prog ⟨false, false, false⟩ (vlim Try.prog O) (reg Try.f4 1) (reg Try.f4 1).toList ([x0,x1,x2,x3,x4,x5,x6,x7,x8,x9,x10,x11,x12,x13,x14,x15,x16,x17,x18,x19,x20,x21,x22,x23,x24,x25,x26,x27,x28,x29,x30,x31,x32,x33,x34,x35,x36,x37,x38,x39,x40,x41,x42,x43,x44,x45,x46,x47,x48,x49,x50,x51,x52,x53,x54,x55,x56,x57]) S =
    (andK ((vlim Try.prog O) 12 [] S) (fun v0 S1 => andK (aUn Try.prog UnOp.not v0 S1) (fun v1 S2 => some ([x0,x1,x2,x3,x4,x5,x6,v0,v1,x9,x10,x11,x12,x13,x14,x15,x16,x17,x18,x19,x20,x21,x22,x23,x24,x25,x26,x27,x28,x29,x30,x31,x32,x33,x34,x35,x36,x37,x38,x39,x40,x41,x42,x43,x44,x45,x46,x47,x48,x49,x50,x51,x52,x53,x54,x55,x56,x57], S2)) ()) ()) := by
  refine sD Try.f4 1 0 (fun v0 S1 => ?_)
  refine sD Try.f4 1 1 (fun v1 S2 => ?_)
  kernel_rfl
theorem neaptidelaw06_TxOrder.r2  : vOps Try.prog ⟨false, false, false⟩ (vlim Try.prog O) (reg Try.f4 2) (reg Try.f4 2).toList ([x0,x1,x2,x3,x4,x5,x6,x7,x8,x9,x10,x11,x12,x13,x14,x15,x16,x17,x18,x19,x20,x21,x22,x23,x24,x25,x26,x27,x28,x29,x30,x31,x32,x33,x34,x35,x36,x37,x38,x39,x40,x41,x42,x43,x44,x45,x46,x47,x48,x49,x50,x51,x52,x53,x54,x55,x56,x57]) S =
    ( some ([x0,x1,x2,x3,x4,x5,Value.bool false,x7,x8,x9,x10,x11,x12,x13,x14,x15,x16,x17,x18,x19,x20,x21,x22,x23,x24,x25,x26,x27,x28,x29,x30,x31,x32,x33,x34,x35,x36,x37,x38,x39,x40,x41,x42,x43,x44,x45,x46,x47,x48,x49,x50,x51,x52,x53,x54,x55,x56,x57], S)) := by
  refine sP Try.f4 2 0 (v := (Value.bool false)) ?_
  kernel_rfl
theorem neaptidelaw06_TxOrder.r3  : vOps Try.prog ⟨false, false, false⟩ (vlim Try.prog O) (reg Try.f4 3) (reg Try.f4 3).toList ([x0,x1,x2,x3,x4,x5,x6,x7,x8,x9,x10,x11,x12,x13,x14,x15,x16,x17,x18,x19,x20,x21,x22,x23,x24,x25,x26,x27,x28,x29,x30,x31,x32,x33,x34,x35,x36,x37,x38,x39,x40,x41,x42,x43,x44,x45,x46,x47,x48,x49,x50,x51,x52,x53,x54,x55,x56,x57]) S =
    (andK (vLoad Try.prog false 23 x3 S) (fun v0 S1 => andK (vLoad Try.prog false 23 x4 S1) (fun v1 S2 => andK ((vlim Try.prog O) 15 [(dem v0), (dem v1)] S2) (fun v2 S3 => gdK (dem v2) true (vLoad Try.prog false 23 x4) S3 (fun v4 S4 => gdK (dem v2) true (vLoad Try.prog false 23 x5) S4 (fun v5 S5 => gdK (dem v2) true ((vlim Try.prog O) 15 [(dem v4), (dem v5)]) S5 (fun v6 S6 => andK (vPick (dem v2) v6 (Value.bool false) S6) (fun v7 S7 => gdK (dem v7) true (vLoad Try.prog false 23 x3) S7 (fun v9 S8 => gdK (dem v7) true (vLoad Try.prog false 23 x5) S8 (fun v10 S9 => gdK (dem v7) true ((vlim Try.prog O) 15 [(dem v9), (dem v10)]) S9 (fun v11 S10 => gdK (dem v7) true (aUn Try.prog UnOp.not v11) S10 (fun v12 S11 => andK (vPick (dem v7) v12 (Value.bool false) S11) (fun v13 S12 => gdK (dem v13) false (vLoad Try.prog false 23 x3) S12 (fun v15 S13 => gdK (dem v13) false (vLoad Try.prog false 23 x3) S13 (fun v16 S14 => gdK (dem v13) false ((vlim Try.prog O) 15 [(dem v15), (dem v16)]) S14 (fun v17 S15 => andK (vPick (dem v13) (Value.bool true) v17 S15) (fun v18 S16 => some ([x0,x1,x2,x3,x4,x5,x6,x7,x8,v0,v1,v2,dem v2,v4,v5,v6,v7,dem v7,v9,v10,v11,v12,v13,dem v13,v15,v16,v17,v18,x28,x29,x30,x31,x32,x33,x34,x35,x36,x37,x38,x39,x40,x41,x42,x43,x44,x45,x46,x47,x48,x49,x50,x51,x52,x53,x54,x55,x56,x57], S16)) ()) ()) ()) ()) ()) ()) ()) ()) ()) ()) ()) ()) ()) ()) ()) ()) := by
  refine sD Try.f4 3 0 (fun v0 S1 => ?_)
  refine sD Try.f4 3 1 (fun v1 S2 => ?_)
  refine sD Try.f4 3 2 (fun v2 S3 => ?_)
  refine sP Try.f4 3 3 (v := v2) ?_
  refine sG Try.f4 3 4 (j := 3) (fun v4 S4 => ?_)
  refine sG Try.f4 3 5 (j := 3) (fun v5 S5 => ?_)
  refine sG Try.f4 3 6 (j := 3) (fun v6 S6 => ?_)
  refine sD Try.f4 3 7 (fun v7 S7 => ?_)
  refine sP Try.f4 3 8 (v := v7) ?_
  refine sG Try.f4 3 9 (j := 8) (fun v9 S8 => ?_)
  refine sG Try.f4 3 10 (j := 8) (fun v10 S9 => ?_)
  refine sG Try.f4 3 11 (j := 8) (fun v11 S10 => ?_)
  refine sG Try.f4 3 12 (j := 8) (fun v12 S11 => ?_)
  refine sD Try.f4 3 13 (fun v13 S12 => ?_)
  refine sP Try.f4 3 14 (v := v13) ?_
  refine sG Try.f4 3 15 (j := 14) (fun v15 S13 => ?_)
  refine sG Try.f4 3 16 (j := 14) (fun v16 S14 => ?_)
  refine sG Try.f4 3 17 (j := 14) (fun v17 S15 => ?_)
  refine sD Try.f4 3 18 (fun v18 S16 => ?_)
  kernel_rfl
theorem neaptidelaw06_TxOrder.r4  : vOps Try.prog ⟨false, false, false⟩ (vlim Try.prog O) (reg Try.f4 4) (reg Try.f4 4).toList ([x0,x1,x2,x3,x4,x5,x6,x7,x8,x9,x10,x11,x12,x13,x14,x15,x16,x17,x18,x19,x20,x21,x22,x23,x24,x25,x26,x27,x28,x29,x30,x31,x32,x33,x34,x35,x36,x37,x38,x39,x40,x41,x42,x43,x44,x45,x46,x47,x48,x49,x50,x51,x52,x53,x54,x55,x56,x57]) S =
    ( some ([x0,x1,x2,x3,x4,x5,Value.bool false,x7,x8,x9,x10,x11,x12,x13,x14,x15,x16,x17,x18,x19,x20,x21,x22,x23,x24,x25,x26,x27,x28,x29,x30,x31,x32,x33,x34,x35,x36,x37,x38,x39,x40,x41,x42,x43,x44,x45,x46,x47,x48,x49,x50,x51,x52,x53,x54,x55,x56,x57], S)) := by
  refine sP Try.f4 4 0 (v := (Value.bool false)) ?_
  kernel_rfl
theorem neaptidelaw06_TxOrder.r5  : vOps Try.prog ⟨false, false, false⟩ (vlim Try.prog O) (reg Try.f4 5) (reg Try.f4 5).toList ([x0,x1,x2,x3,x4,x5,x6,x7,x8,x9,x10,x11,x12,x13,x14,x15,x16,x17,x18,x19,x20,x21,x22,x23,x24,x25,x26,x27,x28,x29,x30,x31,x32,x33,x34,x35,x36,x37,x38,x39,x40,x41,x42,x43,x44,x45,x46,x47,x48,x49,x50,x51,x52,x53,x54,x55,x56,x57]) S =
    (andK (vFieldAddr Try.prog 23 x3 1 S) (fun v0 S1 => andK (vLoad Try.prog false 3 v0 S1) (fun v1 S2 => andK (vFieldAddr Try.prog 23 x4 1 S2) (fun v2 S3 => andK (vLoad Try.prog false 3 v2 S3) (fun v3 S4 => andK (vBin Try.prog BinOp.gtr 3 v1 v3 S4) (fun v4 S5 => some ([x0,x1,x2,x3,x4,x5,x6,x7,x8,x9,x10,x11,x12,x13,x14,x15,x16,x17,x18,x19,x20,x21,x22,x23,x24,x25,x26,x27,v0,v1,v2,v3,v4,x33,x34,x35,x36,x37,x38,x39,x40,x41,x42,x43,x44,x45,x46,x47,x48,x49,x50,x51,x52,x53,x54,x55,x56,x57], S5)) ()) ()) ()) ()) ()) := by
  refine sD Try.f4 5 0 (fun v0 S1 => ?_)
  refine sD Try.f4 5 1 (fun v1 S2 => ?_)
  refine sD Try.f4 5 2 (fun v2 S3 => ?_)
  refine sD Try.f4 5 3 (fun v3 S4 => ?_)
  refine sD Try.f4 5 4 (fun v4 S5 => ?_)
  kernel_rfl
theorem neaptidelaw06_TxOrder.r6  : vOps Try.prog ⟨false, false, false⟩ (vlim Try.prog O) (reg Try.f4 6) (reg Try.f4 6).toList ([x0,x1,x2,x3,x4,x5,x6,x7,x8,x9,x10,x11,x12,x13,x14,x15,x16,x17,x18,x19,x20,x21,x22,x23,x24,x25,x26,x27,x28,x29,x30,x31,x32,x33,x34,x35,x36,x37,x38,x39,x40,x41,x42,x43,x44,x45,x46,x47,x48,x49,x50,x51,x52,x53,x54,x55,x56,x57]) S =
    (andK (vLoad Try.prog false 23 x3 S) (fun v0 S1 => andK (vLoad Try.prog false 23 x4 S1) (fun v1 S2 => andK ((vlim Try.prog O) 15 [(dem v0), (dem v1)] S2) (fun v2 S3 => gdK (dem v2) true (vLoad Try.prog false 23 x4) S3 (fun v4 S4 => gdK (dem v2) true (vLoad Try.prog false 23 x3) S4 (fun v5 S5 => gdK (dem v2) true ((vlim Try.prog O) 15 [(dem v4), (dem v5)]) S5 (fun v6 S6 => gdK (dem v2) true (aUn Try.prog UnOp.not v6) S6 (fun v7 S7 => andK (vPick (dem v2) v7 (Value.bool false) S7) (fun v8 S8 => some ([x0,x1,x2,x3,x4,x5,v8,x7,x8,x9,x10,x11,x12,x13,x14,x15,x16,x17,x18,x19,x20,x21,x22,x23,x24,x25,x26,x27,x28,x29,x30,x31,x32,v0,v1,v2,dem v2,v4,v5,v6,v7,dem v8,x42,x43,x44,x45,x46,x47,x48,x49,x50,x51,x52,x53,x54,x55,x56,x57], S8)) ()) ()) ()) ()) ()) ()) ()) ()) := by
  refine sD Try.f4 6 0 (fun v0 S1 => ?_)
  refine sD Try.f4 6 1 (fun v1 S2 => ?_)
  refine sD Try.f4 6 2 (fun v2 S3 => ?_)
  refine sP Try.f4 6 3 (v := v2) ?_
  refine sG Try.f4 6 4 (j := 3) (fun v4 S4 => ?_)
  refine sG Try.f4 6 5 (j := 3) (fun v5 S5 => ?_)
  refine sG Try.f4 6 6 (j := 3) (fun v6 S6 => ?_)
  refine sG Try.f4 6 7 (j := 3) (fun v7 S7 => ?_)
  refine sD Try.f4 6 8 (fun v8 S8 => ?_)
  refine sP Try.f4 6 9 (v := v8) ?_
  kernel_rfl
theorem neaptidelaw06_TxOrder.d7 : drawnOk Try.prog (reg Try.f4 7) = true := by kernel_rfl
theorem neaptidelaw06_TxOrder.ff7 : fixed Try.prog (reg Try.f4 7) = false := by kernel_rfl
theorem neaptidelaw06_TxOrder.k7 : checked Try.prog (reg Try.f4 7) = [9, 10, 11, 12, 13] := by kernel_rfl
theorem neaptidelaw06_TxOrder.g7 : again Try.prog (reg Try.f4 7) = [(10, 8), (12, 8)] := by kernel_rfl
theorem neaptidelaw06_TxOrder.r7  : vcodeV Try.prog O false (.region 7 (reg Try.f4 7) true) ([x0,x1,x2,x3,x4,x5,x6,x7,x8,x9,x10,x11,x12,x13,x14,x15,x16,x17,x18,x19,x20,x21,x22,x23,x24,x25,x26,x27,x28,x29,x30,x31,x32,x33,x34,x35,x36,x37,x38,x39,x40,x41,x42,x43,x44,x45,x46,x47,x48,x49,x50,x51,x52,x53,x54,x55,x56,x57]) S =
    regV (andK (vFieldAddr Try.prog 23 x3 1 S) (fun v0 S1 => andK (vLoad Try.prog false 3 v0 S1) (fun v1 S2 => andK (vFieldAddr Try.prog 23 x4 1 S2) (fun v2 S3 => andK (vLoad Try.prog false 3 v2 S3) (fun v3 S4 => andK (vBin Try.prog BinOp.lss 3 v1 v3 S4) (fun v4 S5 => gdK (dem v4) false (vLoad Try.prog false 23 x3) S5 (fun v6 S6 => gdK (dem v4) false (vLoad Try.prog false 23 x4) S6 (fun v7 S7 => gdK (dem v4) false ((vlim Try.prog O) 15 [(dem v6), (dem v7)]) S7 (fun v8 S8 => gdCK (dem v4) false (vFieldAddr Try.prog 23 x3 0) S8 (fun v9 S9 => gdCK (dem v4) false (vLoad Try.prog false 3 v9) S9 (fun v10 S10 => gdCK (dem v4) false (vFieldAddr Try.prog 23 x4 0) S10 (fun v11 S11 => gdCK (dem v4) false (vLoad Try.prog false 3 v11) S11 (fun v12 S12 => gdCK (dem v4) false (vBin Try.prog BinOp.lss 3 v10 v12) S12 (fun v13 S13 => gdK (dem v4) false (vBin Try.prog BinOp.eql 4 v8 v13) S13 (fun v14 S14 => andK (vPick (dem v4) (Value.bool true) v14 S14) (fun v15 S15 => ckK (stillQ v9 S7 S9 && (stillQ v11 S7 S11 && (true))) (some ([x0,x1,x2,x3,x4,x5,v15,x7,x8,x9,x10,x11,x12,x13,x14,x15,x16,x17,x18,x19,x20,x21,x22,x23,x24,x25,x26,x27,x28,x29,x30,x31,x32,x33,x34,x35,x36,x37,x38,x39,x40,x41,v0,v1,v2,v3,v4,dem v4,v6,v7,v8,v9,v10,v11,v12,v13,v14,dem v15], S15)) ()) ()) ()) ()) ()) ()) ()) ()) ()) ()) ()) ()) ()) ()) ()) ()) := by
  rw [vcodeV_drawn neaptidelaw06_TxOrder.d7 neaptidelaw06_TxOrder.ff7 neaptidelaw06_TxOrder.k7 neaptidelaw06_TxOrder.g7]
  refine congrArg regV ?_
  refine uD Try.f4 7 0 (pe := undef) (fun v0 S1 => ?_)
  refine uD Try.f4 7 1 (pe := v0) (fun v1 S2 => ?_)
  refine uD Try.f4 7 2 (pe := undef) (fun v2 S3 => ?_)
  refine uD Try.f4 7 3 (pe := v2) (fun v3 S4 => ?_)
  refine uD Try.f4 7 4 (pe := undef) (fun v4 S5 => ?_)
  refine uP Try.f4 7 5 (v := v4) (pe := undef) ?_
  refine uG Try.f4 7 6 (j := 5) (pe := x3) (fun v6 S6 => ?_)
  refine uG Try.f4 7 7 (j := 5) (pe := x4) (fun v7 S7 => ?_)
  refine uG Try.f4 7 8 (j := 5) (pe := undef) (fun v8 S8 => ?_)
  refine uGC Try.f4 7 9 (j := 5) (pe := undef) (fun v9 S9 => ?_)
  refine uGC Try.f4 7 10 (j := 5) (pe := v9) (fun v10 S10 => ?_)
  refine uGC Try.f4 7 11 (j := 5) (pe := undef) (fun v11 S11 => ?_)
  refine uGC Try.f4 7 12 (j := 5) (pe := v11) (fun v12 S12 => ?_)
  refine uGC Try.f4 7 13 (j := 5) (pe := undef) (fun v13 S13 => ?_)
  refine uG Try.f4 7 14 (j := 5) (pe := undef) (fun v14 S14 => ?_)
  refine uD Try.f4 7 15 (pe := undef) (fun v15 S15 => ?_)
  refine uP Try.f4 7 16 (v := v15) (pe := undef) ?_
  kernel_rfl
theorem neaptidelaw06_TxOrder.rs : type_of% (And.intro @neaptidelaw06_TxOrder.r0 (And.intro @neaptidelaw06_TxOrder.r1 (And.intro @neaptidelaw06_TxOrder.r2 (And.intro @neaptidelaw06_TxOrder.r3 (And.intro @neaptidelaw06_TxOrder.r4 (And.intro @neaptidelaw06_TxOrder.r5 (And.intro @neaptidelaw06_TxOrder.r6 (@neaptidelaw06_TxOrder.r7)))))))) := And.intro @neaptidelaw06_TxOrder.r0 (And.intro @neaptidelaw06_TxOrder.r1 (And.intro @neaptidelaw06_TxOrder.r2 (And.intro @neaptidelaw06_TxOrder.r3 (And.intro @neaptidelaw06_TxOrder.r4 (And.intro @neaptidelaw06_TxOrder.r5 (And.intro @neaptidelaw06_TxOrder.r6 (@neaptidelaw06_TxOrder.r7)))))))
theorem neaptidelaw06_TxOrder.runs {x0 x1 x2 : Value} {S S1 : AHeap} {e : AEx} {T : List Value} (h : vcodeV Try.prog O false neaptidelaw06_TxOrder.code ([x0,x1,x2,undef,undef,undef,undef,undef,undef,undef,undef,undef,undef,undef,undef,undef,undef,undef,undef,undef,undef,undef,undef,undef,undef,undef,undef,undef,undef,undef,undef,undef,undef,undef,undef,undef,undef,undef,undef,undef,undef,undef,undef,undef,undef,undef,undef,undef,undef,undef,undef,undef,undef,undef,undef,undef,undef,undef]) S = some (e, T, S1)) (he : e = .normal ∨ e = .ret) : vlim Try.prog O 4 [x0, x1, x2] S = some (T.getD 6 undef, S1) :=
  vlim_code rfl rfl Try.func4 (by decide) neaptidelaw06_TxOrder.body (by exact h) he (vRes_one (a := T.getD 6 undef) ((show vResVals Try.prog T S1 Try.f4.results.toList = vResVals Try.prog T S1 [(ResultVar.tmp 6)] from by kernel_rfl).trans (by simp only [vResVals])) (by kernel_rfl))
end Go.Proofs.Ytfnlcbgijkakiaa
