/-
Texts put together: F30 F39 F45 F47 F42 VWords VT1 F33 F35 F28 F29 F46 F43 F44 F40 F41 VW1 VW2 VW3 VW5n VBy
-/
import Derived.Test.YtgggklfbhmlapaaPk1
import Derived.Test.YtgggklfbhmlapaaChecked
import Derived.Test.YtgggklfbhmlapaaOra
import Derived.KernelRfl
import Derived.Test.YtgggklfbhmlapaaTy
set_option linter.unusedVariables false
set_option maxRecDepth 100000
set_option linter.unusedSimpArgs false
namespace Go.Proofs.Ytgggklfbhmlapaa
open Go.Abs

/-- neaptide.neaptideref06.List -/
abbrev neaptideref06_List.id : FuncId := 30
noncomputable def neaptideref06_List.loop1 : Code := (Code.seq (Code.region 10 (reg Try.f30 10) false) (Code.seq (Code.cond (Operand.tmp 30) Code.skip (Code.exit 2)) (Code.seq (Code.block 3 (Code.seq (Code.region 11 (reg Try.f30 11) false) (Code.seq (Code.region 12 (reg Try.f30 12) false) (Code.cond (Operand.tmp 37) (Code.seq (Code.region 13 (reg Try.f30 13) false) Code.ret) Code.skip)))) (Code.region 14 (reg Try.f30 14) false))))
noncomputable def neaptideref06_List.loop2 : Code := (Code.seq (Code.region 5 (reg Try.f30 5) false) (Code.seq (Code.cond (Operand.tmp 18) Code.skip (Code.exit 0)) (Code.seq (Code.block 1 (Code.seq (Code.region 6 (reg Try.f30 6) false) (Code.seq (Code.seq (Code.region 7 (reg Try.f30 7) false) (Code.cond (Operand.tmp 24) (Code.seq (Code.region 8 (reg Try.f30 8) false) Code.ret) Code.skip)) (Code.seq (Code.seq (Code.region 9 (reg Try.f30 9) false) (Code.block 2 (Code.loop neaptideref06_List.loop1))) (Code.region 15 (reg Try.f30 15) false))))) (Code.region 16 (reg Try.f30 16) false))))
noncomputable def neaptideref06_List.code : Code := (Code.seq (Code.region 0 (reg Try.f30 0) false) (Code.seq (Code.seq (Code.region 1 (reg Try.f30 1) false) (Code.cond (Operand.tmp 11) (Code.seq (Code.region 2 (reg Try.f30 2) false) Code.ret) Code.skip)) (Code.seq (Code.region 3 (reg Try.f30 3) false) (Code.seq (Code.seq (Code.region 4 (reg Try.f30 4) false) (Code.block 0 (Code.loop neaptideref06_List.loop2))) (Code.seq (Code.region 17 (reg Try.f30 17) false) Code.ret)))))
theorem neaptideref06_List.body : Try.f30.body = some neaptideref06_List.code := by kernel_rfl
theorem neaptideref06_List.eta {T : List Value} (h : T.length = 51) : T = [T.getD 0 undef,T.getD 1 undef,T.getD 2 undef,T.getD 3 undef,T.getD 4 undef,T.getD 5 undef,T.getD 6 undef,T.getD 7 undef,T.getD 8 undef,T.getD 9 undef,T.getD 10 undef,T.getD 11 undef,T.getD 12 undef,T.getD 13 undef,T.getD 14 undef,T.getD 15 undef,T.getD 16 undef,T.getD 17 undef,T.getD 18 undef,T.getD 19 undef,T.getD 20 undef,T.getD 21 undef,T.getD 22 undef,T.getD 23 undef,T.getD 24 undef,T.getD 25 undef,T.getD 26 undef,T.getD 27 undef,T.getD 28 undef,T.getD 29 undef,T.getD 30 undef,T.getD 31 undef,T.getD 32 undef,T.getD 33 undef,T.getD 34 undef,T.getD 35 undef,T.getD 36 undef,T.getD 37 undef,T.getD 38 undef,T.getD 39 undef,T.getD 40 undef,T.getD 41 undef,T.getD 42 undef,T.getD 43 undef,T.getD 44 undef,T.getD 45 undef,T.getD 46 undef,T.getD 47 undef,T.getD 48 undef,T.getD 49 undef,T.getD 50 undef] := (list_getD T 51 h).trans (by kernel_rfl)
theorem neaptideref06_List.list {T : List Value} (h : T.length = 51) : ∃ x0 x1 x2 x3 x4 x5 x6 x7 x8 x9 x10 x11 x12 x13 x14 x15 x16 x17 x18 x19 x20 x21 x22 x23 x24 x25 x26 x27 x28 x29 x30 x31 x32 x33 x34 x35 x36 x37 x38 x39 x40 x41 x42 x43 x44 x45 x46 x47 x48 x49 x50, T = [x0,x1,x2,x3,x4,x5,x6,x7,x8,x9,x10,x11,x12,x13,x14,x15,x16,x17,x18,x19,x20,x21,x22,x23,x24,x25,x26,x27,x28,x29,x30,x31,x32,x33,x34,x35,x36,x37,x38,x39,x40,x41,x42,x43,x44,x45,x46,x47,x48,x49,x50] := ⟨_, _, _, _, _, _, _, _, _, _, _, _, _, _, _, _, _, _, _, _, _, _, _, _, _, _, _, _, _, _, _, _, _, _, _, _, _, _, _, _, _, _, _, _, _, _, _, _, _, _, _, neaptideref06_List.eta h⟩
variable (x0 x1 x2 x3 x4 x5 x6 x7 x8 x9 x10 x11 x12 x13 x14 x15 x16 x17 x18 x19 x20 x21 x22 x23 x24 x25 x26 x27 x28 x29 x30 x31 x32 x33 x34 x35 x36 x37 x38 x39 x40 x41 x42 x43 x44 x45 x46 x47 x48 x49 x50 : Value) (S : AHeap)
theorem neaptideref06_List.r0  : vOps Try.prog ⟨false, false, false⟩ (vlim Try.prog O) (reg Try.f30 0) (reg Try.f30 0).toList ([x0,x1,x2,x3,x4,x5,x6,x7,x8,x9,x10,x11,x12,x13,x14,x15,x16,x17,x18,x19,x20,x21,x22,x23,x24,x25,x26,x27,x28,x29,x30,x31,x32,x33,x34,x35,x36,x37,x38,x39,x40,x41,x42,x43,x44,x45,x46,x47,x48,x49,x50]) S =
    ( some ([x0,x1,Value.slice none 0 0,Value.int IntKind.i64 0,x4,x5,x6,x7,x8,x9,x10,x11,x12,x13,x14,x15,x16,x17,x18,x19,x20,x21,x22,x23,x24,x25,x26,x27,x28,x29,x30,x31,x32,x33,x34,x35,x36,x37,x38,x39,x40,x41,x42,x43,x44,x45,x46,x47,x48,x49,x50], S)) := by
  refine sP Try.f30 0 0 (v := (Value.slice none 0 0)) ?_
  refine sP Try.f30 0 1 (v := (Value.int IntKind.i64 0)) ?_
  kernel_rfl
theorem neaptideref06_List.r1  : vOps Try.prog ⟨false, false, false⟩ (vlim Try.prog O) (reg Try.f30 1) (reg Try.f30 1).toList ([x0,x1,x2,x3,x4,x5,x6,x7,x8,x9,x10,x11,x12,x13,x14,x15,x16,x17,x18,x19,x20,x21,x22,x23,x24,x25,x26,x27,x28,x29,x30,x31,x32,x33,x34,x35,x36,x37,x38,x39,x40,x41,x42,x43,x44,x45,x46,x47,x48,x49,x50]) S =
    (andK (vLen Try.prog 27 (dem x0) S) (fun v1 S1 => andK (vBin Try.prog BinOp.gtr 3 v1 (Value.int IntKind.i64 3) S1) (fun v2 S2 => some ([x0,x1,x2,x3,x4,x5,x6,x7,x8,dem x0,v1,v2,x12,x13,x14,x15,x16,x17,x18,x19,x20,x21,x22,x23,x24,x25,x26,x27,x28,x29,x30,x31,x32,x33,x34,x35,x36,x37,x38,x39,x40,x41,x42,x43,x44,x45,x46,x47,x48,x49,x50], S2)) ()) ()) := by
  refine sP Try.f30 1 0 (v := x0) ?_
  refine sD Try.f30 1 1 (fun v1 S1 => ?_)
  refine sD Try.f30 1 2 (fun v2 S2 => ?_)
  kernel_rfl
theorem neaptideref06_List.r2  : vOps Try.prog ⟨false, false, false⟩ (vlim Try.prog O) (reg Try.f30 2) (reg Try.f30 2).toList ([x0,x1,x2,x3,x4,x5,x6,x7,x8,x9,x10,x11,x12,x13,x14,x15,x16,x17,x18,x19,x20,x21,x22,x23,x24,x25,x26,x27,x28,x29,x30,x31,x32,x33,x34,x35,x36,x37,x38,x39,x40,x41,x42,x43,x44,x45,x46,x47,x48,x49,x50]) S =
    ( some ([x0,x1,Value.slice none 0 0,Value.int IntKind.i64 61,x4,x5,x6,x7,x8,x9,x10,x11,x12,x13,x14,x15,x16,x17,x18,x19,x20,x21,x22,x23,x24,x25,x26,x27,x28,x29,x30,x31,x32,x33,x34,x35,x36,x37,x38,x39,x40,x41,x42,x43,x44,x45,x46,x47,x48,x49,x50], S)) := by
  refine sP Try.f30 2 0 (v := (Value.slice none 0 0)) ?_
  refine sP Try.f30 2 1 (v := (Value.int IntKind.i64 61)) ?_
  kernel_rfl
theorem neaptideref06_List.r3  : vOps Try.prog ⟨false, false, false⟩ (vlim Try.prog O) (reg Try.f30 3) (reg Try.f30 3).toList ([x0,x1,x2,x3,x4,x5,x6,x7,x8,x9,x10,x11,x12,x13,x14,x15,x16,x17,x18,x19,x20,x21,x22,x23,x24,x25,x26,x27,x28,x29,x30,x31,x32,x33,x34,x35,x36,x37,x38,x39,x40,x41,x42,x43,x44,x45,x46,x47,x48,x49,x50]) S =
    (andK (vLen Try.prog 27 (dem x0) S) (fun v1 S1 => andK (vBuildSlice Try.prog 53 1 [(0, v1)] S1) (fun v2 S2 => some ([x0,x1,x2,x3,v2,x5,x6,x7,x8,x9,x10,x11,dem x0,v1,dem v2,x15,x16,x17,x18,x19,x20,x21,x22,x23,x24,x25,x26,x27,x28,x29,x30,x31,x32,x33,x34,x35,x36,x37,x38,x39,x40,x41,x42,x43,x44,x45,x46,x47,x48,x49,x50], S2)) ()) ()) := by
  refine sP Try.f30 3 0 (v := x0) ?_
  refine sD Try.f30 3 1 (fun v1 S1 => ?_)
  refine sD Try.f30 3 2 (fun v2 S2 => ?_)
  refine sP Try.f30 3 3 (v := v2) ?_
  kernel_rfl
theorem neaptideref06_List.r4  : vOps Try.prog ⟨false, false, false⟩ (vlim Try.prog O) (reg Try.f30 4) (reg Try.f30 4).toList ([x0,x1,x2,x3,x4,x5,x6,x7,x8,x9,x10,x11,x12,x13,x14,x15,x16,x17,x18,x19,x20,x21,x22,x23,x24,x25,x26,x27,x28,x29,x30,x31,x32,x33,x34,x35,x36,x37,x38,x39,x40,x41,x42,x43,x44,x45,x46,x47,x48,x49,x50]) S =
    (andK (vLen Try.prog 27 (dem x0) S) (fun v1 S1 => some ([x0,x1,x2,x3,x4,x5,x6,x7,x8,x9,x10,x11,x12,x13,x14,dem x0,v1,Value.int IntKind.i64 0,x18,x19,x20,x21,x22,x23,x24,x25,x26,x27,x28,x29,x30,x31,x32,x33,x34,x35,x36,x37,x38,x39,x40,x41,x42,x43,x44,x45,x46,x47,x48,x49,x50], S1)) ()) := by
  refine sP Try.f30 4 0 (v := x0) ?_
  refine sD Try.f30 4 1 (fun v1 S1 => ?_)
  refine sP Try.f30 4 2 (v := (Value.int IntKind.i64 0)) ?_
  kernel_rfl
theorem neaptideref06_List.r5  : vOps Try.prog ⟨false, false, false⟩ (vlim Try.prog O) (reg Try.f30 5) (reg Try.f30 5).toList ([x0,x1,x2,x3,x4,x5,x6,x7,x8,x9,x10,x11,x12,x13,x14,x15,x16,x17,x18,x19,x20,x21,x22,x23,x24,x25,x26,x27,x28,x29,x30,x31,x32,x33,x34,x35,x36,x37,x38,x39,x40,x41,x42,x43,x44,x45,x46,x47,x48,x49,x50]) S =
    (andK (vBin Try.prog BinOp.lss 3 x17 x16 S) (fun v0 S1 => some ([x0,x1,x2,x3,x4,x5,x6,x7,x8,x9,x10,x11,x12,x13,x14,x15,x16,x17,v0,x19,x20,x21,x22,x23,x24,x25,x26,x27,x28,x29,x30,x31,x32,x33,x34,x35,x36,x37,x38,x39,x40,x41,x42,x43,x44,x45,x46,x47,x48,x49,x50], S1)) ()) := by
  refine sD Try.f30 5 0 (fun v0 S1 => ?_)
  kernel_rfl
theorem neaptideref06_List.r6  : vOps Try.prog ⟨false, false, false⟩ (vlim Try.prog O) (reg Try.f30 6) (reg Try.f30 6).toList ([x0,x1,x2,x3,x4,x5,x6,x7,x8,x9,x10,x11,x12,x13,x14,x15,x16,x17,x18,x19,x20,x21,x22,x23,x24,x25,x26,x27,x28,x29,x30,x31,x32,x33,x34,x35,x36,x37,x38,x39,x40,x41,x42,x43,x44,x45,x46,x47,x48,x49,x50]) S =
    (andK (vIndexAddr Try.prog 27 x15 (dem x17) S) (fun v1 S1 => andK (vLoad Try.prog false 47 v1 S1) (fun v2 S2 => andK (aAlloc Try.prog 47 S2) (fun v3 S3 => andK (vStore Try.prog 47 v3 (dem v2) S3) (fun v5 S4 => some ([x0,x1,x2,x3,x4,x17,v3,x7,x8,x9,x10,x11,x12,x13,x14,x15,x16,dem x17,x18,dem x17,v1,v2,x22,x23,x24,x25,x26,x27,x28,x29,x30,x31,x32,x33,x34,x35,x36,x37,x38,x39,x40,x41,x42,x43,x44,x45,x46,x47,x48,x49,x50], S4)) ()) ()) ()) ()) := by
  refine sP Try.f30 6 0 (v := x17) ?_
  refine sD Try.f30 6 1 (fun v1 S1 => ?_)
  refine sD Try.f30 6 2 (fun v2 S2 => ?_)
  refine sD Try.f30 6 3 (fun v3 S3 => ?_)
  refine sP Try.f30 6 4 (v := x17) ?_
  refine sD Try.f30 6 5 (fun v5 S4 => ?_)
  kernel_rfl
theorem neaptideref06_List.r7  : vOps Try.prog ⟨false, false, false⟩ (vlim Try.prog O) (reg Try.f30 7) (reg Try.f30 7).toList ([x0,x1,x2,x3,x4,x5,x6,x7,x8,x9,x10,x11,x12,x13,x14,x15,x16,x17,x18,x19,x20,x21,x22,x23,x24,x25,x26,x27,x28,x29,x30,x31,x32,x33,x34,x35,x36,x37,x38,x39,x40,x41,x42,x43,x44,x45,x46,x47,x48,x49,x50]) S =
    (andK (vLoad Try.prog false 47 x6 S) (fun v0 S1 => andK ((vlim Try.prog O) 42 [(dem v0)] S1) (fun v1 S2 => andK (aUn Try.prog UnOp.not v1 S2) (fun v2 S3 => some ([x0,x1,x2,x3,x4,x5,x6,x7,x8,x9,x10,x11,x12,x13,x14,x15,x16,x17,x18,x19,x20,x21,v0,v1,v2,x25,x26,x27,x28,x29,x30,x31,x32,x33,x34,x35,x36,x37,x38,x39,x40,x41,x42,x43,x44,x45,x46,x47,x48,x49,x50], S3)) ()) ()) ()) := by
  refine sD Try.f30 7 0 (fun v0 S1 => ?_)
  refine sD Try.f30 7 1 (fun v1 S2 => ?_)
  refine sD Try.f30 7 2 (fun v2 S3 => ?_)
  kernel_rfl
theorem neaptideref06_List.r8  : vOps Try.prog ⟨false, false, false⟩ (vlim Try.prog O) (reg Try.f30 8) (reg Try.f30 8).toList ([x0,x1,x2,x3,x4,x5,x6,x7,x8,x9,x10,x11,x12,x13,x14,x15,x16,x17,x18,x19,x20,x21,x22,x23,x24,x25,x26,x27,x28,x29,x30,x31,x32,x33,x34,x35,x36,x37,x38,x39,x40,x41,x42,x43,x44,x45,x46,x47,x48,x49,x50]) S =
    ( some ([x0,x1,Value.slice none 0 0,Value.int IntKind.i64 61,x4,x5,x6,x7,x8,x9,x10,x11,x12,x13,x14,x15,x16,x17,x18,x19,x20,x21,x22,x23,x24,x25,x26,x27,x28,x29,x30,x31,x32,x33,x34,x35,x36,x37,x38,x39,x40,x41,x42,x43,x44,x45,x46,x47,x48,x49,x50], S)) := by
  refine sP Try.f30 8 0 (v := (Value.slice none 0 0)) ?_
  refine sP Try.f30 8 1 (v := (Value.int IntKind.i64 61)) ?_
  kernel_rfl
theorem neaptideref06_List.r9  : vOps Try.prog ⟨false, false, false⟩ (vlim Try.prog O) (reg Try.f30 9) (reg Try.f30 9).toList ([x0,x1,x2,x3,x4,x5,x6,x7,x8,x9,x10,x11,x12,x13,x14,x15,x16,x17,x18,x19,x20,x21,x22,x23,x24,x25,x26,x27,x28,x29,x30,x31,x32,x33,x34,x35,x36,x37,x38,x39,x40,x41,x42,x43,x44,x45,x46,x47,x48,x49,x50]) S =
    (andK (vSliceF Try.prog false 27 (dem x0) none (some (dem x5)) S) (fun v2 S1 => andK (vLen Try.prog 27 v2 S1) (fun v3 S2 => some ([x0,x1,x2,x3,x4,x5,x6,x7,x8,x9,x10,x11,x12,x13,x14,x15,x16,x17,x18,x19,x20,x21,x22,x23,x24,dem x0,dem x5,v2,v3,Value.int IntKind.i64 0,x30,x31,x32,x33,x34,x35,x36,x37,x38,x39,x40,x41,x42,x43,x44,x45,x46,x47,x48,x49,x50], S2)) ()) ()) := by
  refine sP Try.f30 9 0 (v := x0) ?_
  refine sP Try.f30 9 1 (v := x5) ?_
  refine sD Try.f30 9 2 (fun v2 S1 => ?_)
  refine sD Try.f30 9 3 (fun v3 S2 => ?_)
  refine sP Try.f30 9 4 (v := (Value.int IntKind.i64 0)) ?_
  kernel_rfl
theorem neaptideref06_List.r10  : vOps Try.prog ⟨false, false, false⟩ (vlim Try.prog O) (reg Try.f30 10) (reg Try.f30 10).toList ([x0,x1,x2,x3,x4,x5,x6,x7,x8,x9,x10,x11,x12,x13,x14,x15,x16,x17,x18,x19,x20,x21,x22,x23,x24,x25,x26,x27,x28,x29,x30,x31,x32,x33,x34,x35,x36,x37,x38,x39,x40,x41,x42,x43,x44,x45,x46,x47,x48,x49,x50]) S =
    (andK (vBin Try.prog BinOp.lss 3 x29 x28 S) (fun v0 S1 => some ([x0,x1,x2,x3,x4,x5,x6,x7,x8,x9,x10,x11,x12,x13,x14,x15,x16,x17,x18,x19,x20,x21,x22,x23,x24,x25,x26,x27,x28,x29,v0,x31,x32,x33,x34,x35,x36,x37,x38,x39,x40,x41,x42,x43,x44,x45,x46,x47,x48,x49,x50], S1)) ()) := by
  refine sD Try.f30 10 0 (fun v0 S1 => ?_)
  kernel_rfl
theorem neaptideref06_List.r11  : vOps Try.prog ⟨false, false, false⟩ (vlim Try.prog O) (reg Try.f30 11) (reg Try.f30 11).toList ([x0,x1,x2,x3,x4,x5,x6,x7,x8,x9,x10,x11,x12,x13,x14,x15,x16,x17,x18,x19,x20,x21,x22,x23,x24,x25,x26,x27,x28,x29,x30,x31,x32,x33,x34,x35,x36,x37,x38,x39,x40,x41,x42,x43,x44,x45,x46,x47,x48,x49,x50]) S =
    (andK (vIndexAddr Try.prog 27 x27 x29 S) (fun v0 S1 => andK (vLoad Try.prog false 47 v0 S1) (fun v1 S2 => andK (aAlloc Try.prog 47 S2) (fun v2 S3 => andK (vStore Try.prog 47 v2 (dem v1) S3) (fun v3 S4 => some ([x0,x1,x2,x3,x4,x5,x6,x7,v2,x9,x10,x11,x12,x13,x14,x15,x16,x17,x18,x19,x20,x21,x22,x23,x24,x25,x26,x27,x28,x29,x30,v0,v1,x33,x34,x35,x36,x37,x38,x39,x40,x41,x42,x43,x44,x45,x46,x47,x48,x49,x50], S4)) ()) ()) ()) ()) := by
  refine sD Try.f30 11 0 (fun v0 S1 => ?_)
  refine sD Try.f30 11 1 (fun v1 S2 => ?_)
  refine sD Try.f30 11 2 (fun v2 S3 => ?_)
  refine sD Try.f30 11 3 (fun v3 S4 => ?_)
  kernel_rfl
theorem neaptideref06_List.r12  : vOps Try.prog ⟨false, false, false⟩ (vlim Try.prog O) (reg Try.f30 12) (reg Try.f30 12).toList ([x0,x1,x2,x3,x4,x5,x6,x7,x8,x9,x10,x11,x12,x13,x14,x15,x16,x17,x18,x19,x20,x21,x22,x23,x24,x25,x26,x27,x28,x29,x30,x31,x32,x33,x34,x35,x36,x37,x38,x39,x40,x41,x42,x43,x44,x45,x46,x47,x48,x49,x50]) S =
    (andK (vFieldAddr Try.prog 47 x8 0 S) (fun v0 S1 => andK (vLoad Try.prog false 3 v0 S1) (fun v1 S2 => andK (vFieldAddr Try.prog 47 x6 0 S2) (fun v2 S3 => andK (vLoad Try.prog false 3 v2 S3) (fun v3 S4 => andK (vBin Try.prog BinOp.eql 3 v1 v3 S4) (fun v4 S5 => some ([x0,x1,x2,x3,x4,x5,x6,x7,x8,x9,x10,x11,x12,x13,x14,x15,x16,x17,x18,x19,x20,x21,x22,x23,x24,x25,x26,x27,x28,x29,x30,x31,x32,v0,v1,v2,v3,v4,x38,x39,x40,x41,x42,x43,x44,x45,x46,x47,x48,x49,x50], S5)) ()) ()) ()) ()) ()) := by
  refine sD Try.f30 12 0 (fun v0 S1 => ?_)
  refine sD Try.f30 12 1 (fun v1 S2 => ?_)
  refine sD Try.f30 12 2 (fun v2 S3 => ?_)
  refine sD Try.f30 12 3 (fun v3 S4 => ?_)
  refine sD Try.f30 12 4 (fun v4 S5 => ?_)
  kernel_rfl
theorem neaptideref06_List.r13  : vOps Try.prog ⟨false, false, false⟩ (vlim Try.prog O) (reg Try.f30 13) (reg Try.f30 13).toList ([x0,x1,x2,x3,x4,x5,x6,x7,x8,x9,x10,x11,x12,x13,x14,x15,x16,x17,x18,x19,x20,x21,x22,x23,x24,x25,x26,x27,x28,x29,x30,x31,x32,x33,x34,x35,x36,x37,x38,x39,x40,x41,x42,x43,x44,x45,x46,x47,x48,x49,x50]) S =
    ( some ([x0,x1,Value.slice none 0 0,Value.int IntKind.i64 61,x4,x5,x6,x7,x8,x9,x10,x11,x12,x13,x14,x15,x16,x17,x18,x19,x20,x21,x22,x23,x24,x25,x26,x27,x28,x29,x30,x31,x32,x33,x34,x35,x36,x37,x38,x39,x40,x41,x42,x43,x44,x45,x46,x47,x48,x49,x50], S)) := by
  refine sP Try.f30 13 0 (v := (Value.slice none 0 0)) ?_
  refine sP Try.f30 13 1 (v := (Value.int IntKind.i64 61)) ?_
  kernel_rfl
theorem neaptideref06_List.r14  : vOps Try.prog ⟨false, false, false⟩ (vlim Try.prog O) (reg Try.f30 14) (reg Try.f30 14).toList ([x0,x1,x2,x3,x4,x5,x6,x7,x8,x9,x10,x11,x12,x13,x14,x15,x16,x17,x18,x19,x20,x21,x22,x23,x24,x25,x26,x27,x28,x29,x30,x31,x32,x33,x34,x35,x36,x37,x38,x39,x40,x41,x42,x43,x44,x45,x46,x47,x48,x49,x50]) S =
    (andK (vBin Try.prog BinOp.add 3 x29 (Value.int IntKind.i64 1) S) (fun v0 S1 => some ([x0,x1,x2,x3,x4,x5,x6,x7,x8,x9,x10,x11,x12,x13,x14,x15,x16,x17,x18,x19,x20,x21,x22,x23,x24,x25,x26,x27,x28,dem v0,x30,x31,x32,x33,x34,x35,x36,x37,v0,x39,x40,x41,x42,x43,x44,x45,x46,x47,x48,x49,x50], S1)) ()) := by
  refine sD Try.f30 14 0 (fun v0 S1 => ?_)
  refine sP Try.f30 14 1 (v := v0) ?_
  kernel_rfl
theorem neaptideref06_List.r15  : vOps Try.prog ⟨false, false, false⟩ (vlim Try.prog O) (reg Try.f30 15) (reg Try.f30 15).toList ([x0,x1,x2,x3,x4,x5,x6,x7,x8,x9,x10,x11,x12,x13,x14,x15,x16,x17,x18,x19,x20,x21,x22,x23,x24,x25,x26,x27,x28,x29,x30,x31,x32,x33,x34,x35,x36,x37,x38,x39,x40,x41,x42,x43,x44,x45,x46,x47,x48,x49,x50]) S =
    (andK (vFieldAddr Try.prog 47 x6 0 S) (fun v1 S1 => andK (vLoad Try.prog false 3 v1 S1) (fun v2 S2 => andK (vFieldAddr Try.prog 47 x6 1 S2) (fun v3 S3 => andK (vLoad Try.prog false 3 v3 S3) (fun v4 S4 => andK (vBuildSlice Try.prog 53 2 [(0, v2), (1, v4)] S4) (fun v5 S5 => andK (vAppend Try.prog 53 53 x4 v5 S5) (fun v6 S6 => some ([x0,x1,x2,x3,v6,x5,x6,x7,x8,x9,x10,x11,x12,x13,x14,x15,x16,x17,x18,x19,x20,x21,x22,x23,x24,x25,x26,x27,x28,x29,x30,x31,x32,x33,x34,x35,x36,x37,x38,dem x4,v1,v2,v3,v4,v5,dem v6,x46,x47,x48,x49,x50], S6)) ()) ()) ()) ()) ()) ()) := by
  refine sP Try.f30 15 0 (v := x4) ?_
  refine sD Try.f30 15 1 (fun v1 S1 => ?_)
  refine sD Try.f30 15 2 (fun v2 S2 => ?_)
  refine sD Try.f30 15 3 (fun v3 S3 => ?_)
  refine sD Try.f30 15 4 (fun v4 S4 => ?_)
  refine sD Try.f30 15 5 (fun v5 S5 => ?_)
  refine sD Try.f30 15 6 (fun v6 S6 => ?_)
  refine sP Try.f30 15 7 (v := v6) ?_
  kernel_rfl
theorem neaptideref06_List.r16  : vOps Try.prog ⟨false, false, false⟩ (vlim Try.prog O) (reg Try.f30 16) (reg Try.f30 16).toList ([x0,x1,x2,x3,x4,x5,x6,x7,x8,x9,x10,x11,x12,x13,x14,x15,x16,x17,x18,x19,x20,x21,x22,x23,x24,x25,x26,x27,x28,x29,x30,x31,x32,x33,x34,x35,x36,x37,x38,x39,x40,x41,x42,x43,x44,x45,x46,x47,x48,x49,x50]) S =
    (andK (vBin Try.prog BinOp.add 3 x17 (Value.int IntKind.i64 1) S) (fun v0 S1 => some ([x0,x1,x2,x3,x4,x5,x6,x7,x8,x9,x10,x11,x12,x13,x14,x15,x16,dem v0,x18,x19,x20,x21,x22,x23,x24,x25,x26,x27,x28,x29,x30,x31,x32,x33,x34,x35,x36,x37,x38,x39,x40,x41,x42,x43,x44,x45,v0,x47,x48,x49,x50], S1)) ()) := by
  refine sD Try.f30 16 0 (fun v0 S1 => ?_)
  refine sP Try.f30 16 1 (v := v0) ?_
  kernel_rfl
theorem neaptideref06_List.r17  : vOps Try.prog ⟨false, false, false⟩ (vlim Try.prog O) (reg Try.f30 17) (reg Try.f30 17).toList ([x0,x1,x2,x3,x4,x5,x6,x7,x8,x9,x10,x11,x12,x13,x14,x15,x16,x17,x18,x19,x20,x21,x22,x23,x24,x25,x26,x27,x28,x29,x30,x31,x32,x33,x34,x35,x36,x37,x38,x39,x40,x41,x42,x43,x44,x45,x46,x47,x48,x49,x50]) S =
    (andK ((vlim Try.prog O) 29 [(dem (dem x4))] S) (fun v1 S1 => andK (aExtract v1 0 S1) (fun v2 S2 => andK (aExtract (demPart 0 v1) 1 S2) (fun v3 S3 => some ([x0,x1,v2,v3,x4,x5,x6,x7,x8,x9,x10,x11,x12,x13,x14,x15,x16,x17,x18,x19,x20,x21,x22,x23,x24,x25,x26,x27,x28,x29,x30,x31,x32,x33,x34,x35,x36,x37,x38,x39,x40,x41,x42,x43,x44,x45,x46,dem x4,demPart 1 (demPart 0 v1),dem v2,dem v3], S3)) ()) ()) ()) := by
  refine sP Try.f30 17 0 (v := x4) ?_
  refine sD Try.f30 17 1 (fun v1 S1 => ?_)
  refine sD Try.f30 17 2 (fun v2 S2 => ?_)
  refine sD Try.f30 17 3 (fun v3 S3 => ?_)
  refine sP Try.f30 17 4 (v := v2) ?_
  refine sP Try.f30 17 5 (v := v3) ?_
  kernel_rfl
theorem neaptideref06_List.rs : type_of% (And.intro @neaptideref06_List.r0 (And.intro @neaptideref06_List.r1 (And.intro @neaptideref06_List.r2 (And.intro @neaptideref06_List.r3 (And.intro @neaptideref06_List.r4 (And.intro @neaptideref06_List.r5 (And.intro @neaptideref06_List.r6 (And.intro @neaptideref06_List.r7 (And.intro @neaptideref06_List.r8 (And.intro @neaptideref06_List.r9 (And.intro @neaptideref06_List.r10 (And.intro @neaptideref06_List.r11 (And.intro @neaptideref06_List.r12 (And.intro @neaptideref06_List.r13 (And.intro @neaptideref06_List.r14 (And.intro @neaptideref06_List.r15 (And.intro @neaptideref06_List.r16 (@neaptideref06_List.r17)))))))))))))))))) := And.intro @neaptideref06_List.r0 (And.intro @neaptideref06_List.r1 (And.intro @neaptideref06_List.r2 (And.intro @neaptideref06_List.r3 (And.intro @neaptideref06_List.r4 (And.intro @neaptideref06_List.r5 (And.intro @neaptideref06_List.r6 (And.intro @neaptideref06_List.r7 (And.intro @neaptideref06_List.r8 (And.intro @neaptideref06_List.r9 (And.intro @neaptideref06_List.r10 (And.intro @neaptideref06_List.r11 (And.intro @neaptideref06_List.r12 (And.intro @neaptideref06_List.r13 (And.intro @neaptideref06_List.r14 (And.intro @neaptideref06_List.r15 (And.intro @neaptideref06_List.r16 (@neaptideref06_List.r17)))))))))))))))))
theorem neaptideref06_List.runs {x0 : Value} {S S1 : AHeap} {e : AEx} {T : List Value} (h : vcodeV Try.prog O false neaptideref06_List.code ([x0,undef,undef,undef,undef,undef,undef,undef,undef,undef,undef,undef,undef,undef,undef,undef,undef,undef,undef,undef,undef,undef,undef,undef,undef,undef,undef,undef,undef,undef,undef,undef,undef,undef,undef,undef,undef,undef,undef,undef,undef,undef,undef,undef,undef,undef,undef,undef,undef,undef,undef]) AHeap.empty = some (e, T, S1)) (he : e = .normal ∨ e = .ret)  (h0 : notTuple (T.getD 2 undef) = true) (h1 : notTuple (T.getD 3 undef) = true) (hca : [x0].all (cleanN 16) = true) (hcv : cleanN 16 (Value.tuple #[T.getD 2 undef, T.getD 3 undef]) = true) : vlim Try.prog O 30 [x0] S = some (Value.tuple #[T.getD 2 undef, T.getD 3 undef], S) :=
  vlim_pure rfl rfl Try.func30 (by decide) neaptideref06_List.body (by exact h) he ((vRes_many ((show vResVals Try.prog T S1 Try.f30.results.toList = vResVals Try.prog T S1 [(ResultVar.tmp 2), (ResultVar.tmp 3)] from by kernel_rfl).trans (by simp only [vResVals])) (by kernel_rfl) (by simp only [List.all_cons, List.all_nil, h0, h1, Bool.and_true])).trans rfl) hca hcv
end Go.Proofs.Ytgggklfbhmlapaa

namespace Go.Proofs.Ytgggklfbhmlapaa
open Go.Abs

/-- neaptide.tx.Bytes -/
abbrev tx_Bytes.id : FuncId := 39
noncomputable def tx_Bytes.code : Code := (Code.seq (Code.region 0 (reg Try.f39 0) false) (Code.seq (Code.seq (Code.region 1 (reg Try.f39 1) false) (Code.cond (Operand.tmp 8) (Code.seq (Code.region 2 (reg Try.f39 2) false) Code.ret) Code.skip)) (Code.seq (Code.region 3 (reg Try.f39 3) false) (Code.seq (Code.region 4 (reg Try.f39 4) false) Code.ret))))
theorem tx_Bytes.body : Try.f39.body = some tx_Bytes.code := by kernel_rfl
theorem tx_Bytes.eta {T : List Value} (h : T.length = 19) : T = [T.getD 0 undef,T.getD 1 undef,T.getD 2 undef,T.getD 3 undef,T.getD 4 undef,T.getD 5 undef,T.getD 6 undef,T.getD 7 undef,T.getD 8 undef,T.getD 9 undef,T.getD 10 undef,T.getD 11 undef,T.getD 12 undef,T.getD 13 undef,T.getD 14 undef,T.getD 15 undef,T.getD 16 undef,T.getD 17 undef,T.getD 18 undef] := (list_getD T 19 h).trans (by kernel_rfl)
variable (x0 x1 x2 x3 x4 x5 x6 x7 x8 x9 x10 x11 x12 x13 x14 x15 x16 x17 x18 : Value) (S : AHeap)
theorem tx_Bytes.r0  : vOps Try.prog ⟨false, false, false⟩ (vlim Try.prog O) (reg Try.f39 0) (reg Try.f39 0).toList ([x0,x1,x2,x3,x4,x5,x6,x7,x8,x9,x10,x11,x12,x13,x14,x15,x16,x17,x18]) S =
    (andK (aBox (dem x0) S) (fun v0 S1 => some ([x0,v0,Value.slice none 0 0,Value.int IntKind.i64 0,x4,x5,x6,x7,x8,x9,x10,x11,x12,x13,x14,x15,x16,x17,x18], S1)) ()) := by
  refine sD Try.f39 0 0 (fun v0 S1 => ?_)
  refine sP Try.f39 0 1 (v := (Value.slice none 0 0)) ?_
  refine sP Try.f39 0 2 (v := (Value.int IntKind.i64 0)) ?_
  kernel_rfl
theorem tx_Bytes.r1  : vOps Try.prog ⟨false, false, false⟩ (vlim Try.prog O) (reg Try.f39 1) (reg Try.f39 1).toList ([x0,x1,x2,x3,x4,x5,x6,x7,x8,x9,x10,x11,x12,x13,x14,x15,x16,x17,x18]) S =
    (andK (vLoad Try.prog false 47 x1 S) (fun v0 S1 => andK ((vlim Try.prog O) 47 [(dem v0)] S1) (fun v1 S2 => andK (aUn Try.prog UnOp.not v1 S2) (fun v2 S3 => some ([x0,x1,x2,x3,x4,x5,v0,v1,v2,x9,x10,x11,x12,x13,x14,x15,x16,x17,x18], S3)) ()) ()) ()) := by
  refine sD Try.f39 1 0 (fun v0 S1 => ?_)
  refine sD Try.f39 1 1 (fun v1 S2 => ?_)
  refine sD Try.f39 1 2 (fun v2 S3 => ?_)
  kernel_rfl
theorem tx_Bytes.r2  : vOps Try.prog ⟨false, false, false⟩ (vlim Try.prog O) (reg Try.f39 2) (reg Try.f39 2).toList ([x0,x1,x2,x3,x4,x5,x6,x7,x8,x9,x10,x11,x12,x13,x14,x15,x16,x17,x18]) S =
    ( some ([x0,x1,Value.slice none 0 0,Value.int IntKind.i64 61,x4,x5,x6,x7,x8,x9,x10,x11,x12,x13,x14,x15,x16,x17,x18], S)) := by
  refine sP Try.f39 2 0 (v := (Value.slice none 0 0)) ?_
  refine sP Try.f39 2 1 (v := (Value.int IntKind.i64 61)) ?_
  kernel_rfl
theorem tx_Bytes.r3  : vOps Try.prog ⟨false, false, false⟩ (vlim Try.prog O) (reg Try.f39 3) (reg Try.f39 3).toList ([x0,x1,x2,x3,x4,x5,x6,x7,x8,x9,x10,x11,x12,x13,x14,x15,x16,x17,x18]) S =
    (andK (vFieldAddr Try.prog 47 x1 0 S) (fun v0 S1 => andK (vLoad Try.prog false 3 v0 S1) (fun v1 S2 => andK (vFieldAddr Try.prog 47 x1 1 S2) (fun v2 S3 => andK (vLoad Try.prog false 3 v2 S3) (fun v3 S4 => andK (vBuildSlice Try.prog 53 2 [(0, v1), (1, v3)] S4) (fun v4 S5 => andK ((vlim Try.prog O) 28 [(dem v4)] S5) (fun v5 S6 => andK (aExtract v5 0 S6) (fun v7 S7 => andK (aExtract (demPart 0 v5) 1 S7) (fun v8 S8 => some ([x0,x1,x2,x3,v7,v8,x6,x7,x8,demPart 1 (demPart 0 v5),v0,v1,v2,v3,v4,dem v5,dem v7,dem v8,x18], S8)) ()) ()) ()) ()) ()) ()) ()) ()) := by
  refine sD Try.f39 3 0 (fun v0 S1 => ?_)
  refine sD Try.f39 3 1 (fun v1 S2 => ?_)
  refine sD Try.f39 3 2 (fun v2 S3 => ?_)
  refine sD Try.f39 3 3 (fun v3 S4 => ?_)
  refine sD Try.f39 3 4 (fun v4 S5 => ?_)
  refine sD Try.f39 3 5 (fun v5 S6 => ?_)
  refine sP Try.f39 3 6 (v := v5) ?_
  refine sD Try.f39 3 7 (fun v7 S7 => ?_)
  refine sD Try.f39 3 8 (fun v8 S8 => ?_)
  refine sP Try.f39 3 9 (v := v7) ?_
  refine sP Try.f39 3 10 (v := v8) ?_
  kernel_rfl
theorem tx_Bytes.r4  : vOps Try.prog ⟨false, false, false⟩ (vlim Try.prog O) (reg Try.f39 4) (reg Try.f39 4).toList ([x0,x1,x2,x3,x4,x5,x6,x7,x8,x9,x10,x11,x12,x13,x14,x15,x16,x17,x18]) S =
    ( some ([x0,x1,x4,Value.int IntKind.i64 0,dem x4,x5,x6,x7,x8,x9,x10,x11,x12,x13,x14,x15,x16,x17,dem x4], S)) := by
  refine sP Try.f39 4 0 (v := x4) ?_
  refine sP Try.f39 4 1 (v := x4) ?_
  refine sP Try.f39 4 2 (v := (Value.int IntKind.i64 0)) ?_
  kernel_rfl
theorem tx_Bytes.rs : type_of% (And.intro @tx_Bytes.r0 (And.intro @tx_Bytes.r1 (And.intro @tx_Bytes.r2 (And.intro @tx_Bytes.r3 (@tx_Bytes.r4))))) := And.intro @tx_Bytes.r0 (And.intro @tx_Bytes.r1 (And.intro @tx_Bytes.r2 (And.intro @tx_Bytes.r3 (@tx_Bytes.r4))))
theorem tx_Bytes.runs {x0 : Value} {S S1 : AHeap} {e : AEx} {T : List Value} (h : vcodeV Try.prog O false tx_Bytes.code ([x0,undef,undef,undef,undef,undef,undef,undef,undef,undef,undef,undef,undef,undef,undef,undef,undef,undef,undef]) AHeap.empty = some (e, T, S1)) (he : e = .normal ∨ e = .ret)  (h0 : notTuple (T.getD 2 undef) = true) (h1 : notTuple (T.getD 3 undef) = true) (hca : [x0].all (cleanN 16) = true) (hcv : cleanN 16 (Value.tuple #[T.getD 2 undef, T.getD 3 undef]) = true) : vlim Try.prog O 39 [x0] S = some (Value.tuple #[T.getD 2 undef, T.getD 3 undef], S) :=
  vlim_pure rfl rfl Try.func39 (by decide) tx_Bytes.body (by exact h) he ((vRes_many ((show vResVals Try.prog T S1 Try.f39.results.toList = vResVals Try.prog T S1 [(ResultVar.tmp 2), (ResultVar.tmp 3)] from by kernel_rfl).trans (by simp only [vResVals])) (by kernel_rfl) (by simp only [List.all_cons, List.all_nil, h0, h1, Bool.and_true])).trans rfl) hca hcv
end Go.Proofs.Ytgggklfbhmlapaa

namespace Go.Proofs.Ytgggklfbhmlapaa
open Go.Abs

/-- neaptide.tx.part -/
abbrev tx_part.id : FuncId := 45
noncomputable def tx_part.code : Code := (Code.seq (Code.region 0 (reg Try.f45 0) false) (Code.seq (Code.region 1 (reg Try.f45 1) false) (Code.seq (Code.seq (Code.region 2 (reg Try.f45 2) false) (Code.cond (Operand.tmp 16) (Code.seq (Code.region 3 (reg Try.f45 3) false) Code.ret) Code.skip)) (Code.seq (Code.region 4 (reg Try.f45 4) true) (Code.seq (Code.region 5 (reg Try.f45 5) true) Code.ret)))))
theorem tx_part.body : Try.f45.body = some tx_part.code := by kernel_rfl
theorem tx_part.eta {T : List Value} (h : T.length = 29) : T = [T.getD 0 undef,T.getD 1 undef,T.getD 2 undef,T.getD 3 undef,T.getD 4 undef,T.getD 5 undef,T.getD 6 undef,T.getD 7 undef,T.getD 8 undef,T.getD 9 undef,T.getD 10 undef,T.getD 11 undef,T.getD 12 undef,T.getD 13 undef,T.getD 14 undef,T.getD 15 undef,T.getD 16 undef,T.getD 17 undef,T.getD 18 undef,T.getD 19 undef,T.getD 20 undef,T.getD 21 undef,T.getD 22 undef,T.getD 23 undef,T.getD 24 undef,T.getD 25 undef,T.getD 26 undef,T.getD 27 undef,T.getD 28 undef] := (list_getD T 29 h).trans (by kernel_rfl)
variable (x0 x1 x2 x3 x4 x5 x6 x7 x8 x9 x10 x11 x12 x13 x14 x15 x16 x17 x18 x19 x20 x21 x22 x23 x24 x25 x26 x27 x28 : Value) (S : AHeap)
theorem tx_part.r0  : vOps Try.prog ⟨false, false, false⟩ (vlim Try.prog O) (reg Try.f45 0) (reg Try.f45 0).toList ([x0,x1,x2,x3,x4,x5,x6,x7,x8,x9,x10,x11,x12,x13,x14,x15,x16,x17,x18,x19,x20,x21,x22,x23,x24,x25,x26,x27,x28]) S =
    (andK (aAlloc Try.prog 47 S) (fun v0 S1 => some ([x0,x1,v0,Value.slice none 0 0,Value.bool false,x5,x6,x7,x8,x9,x10,x11,x12,x13,x14,x15,x16,x17,x18,x19,x20,x21,x22,x23,x24,x25,x26,x27,x28], S1)) ()) := by
  refine sD Try.f45 0 0 (fun v0 S1 => ?_)
  refine sP Try.f45 0 1 (v := (Value.slice none 0 0)) ?_
  refine sP Try.f45 0 2 (v := (Value.bool false)) ?_
  kernel_rfl
theorem tx_part.r1  : vOps Try.prog ⟨false, false, false⟩ (vlim Try.prog O) (reg Try.f45 1) (reg Try.f45 1).toList ([x0,x1,x2,x3,x4,x5,x6,x7,x8,x9,x10,x11,x12,x13,x14,x15,x16,x17,x18,x19,x20,x21,x22,x23,x24,x25,x26,x27,x28]) S =
    (andK ((vlim Try.prog O) 33 [(dem (dem x0)), (Value.int IntKind.i64 2)] S) (fun v1 S1 => andK (aExtract v1 0 S1) (fun v3 S2 => andK (aExtract (demPart 0 v1) 1 S2) (fun v4 S3 => andK (aExtract (demPart 1 (demPart 0 v1)) 2 S3) (fun v5 S4 => some ([x0,x1,x2,x3,x4,v3,v4,v5,x8,demPart 2 (demPart 1 (demPart 0 v1)),dem x0,dem v1,dem v3,dem v4,dem v5,x15,x16,x17,x18,x19,x20,x21,x22,x23,x24,x25,x26,x27,x28], S4)) ()) ()) ()) ()) := by
  refine sP Try.f45 1 0 (v := x0) ?_
  refine sD Try.f45 1 1 (fun v1 S1 => ?_)
  refine sP Try.f45 1 2 (v := v1) ?_
  refine sD Try.f45 1 3 (fun v3 S2 => ?_)
  refine sD Try.f45 1 4 (fun v4 S3 => ?_)
  refine sD Try.f45 1 5 (fun v5 S4 => ?_)
  refine sP Try.f45 1 6 (v := v3) ?_
  refine sP Try.f45 1 7 (v := v4) ?_
  refine sP Try.f45 1 8 (v := v5) ?_
  kernel_rfl
theorem tx_part.r2  : vOps Try.prog ⟨false, false, false⟩ (vlim Try.prog O) (reg Try.f45 2) (reg Try.f45 2).toList ([x0,x1,x2,x3,x4,x5,x6,x7,x8,x9,x10,x11,x12,x13,x14,x15,x16,x17,x18,x19,x20,x21,x22,x23,x24,x25,x26,x27,x28]) S =
    (andK (vBin Try.prog BinOp.neq 34 (dem x7) (Value.int IntKind.i64 0) S) (fun v1 S1 => some ([x0,x1,x2,x3,x4,x5,x6,x7,x8,x9,x10,x11,x12,x13,x14,dem x7,v1,x17,x18,x19,x20,x21,x22,x23,x24,x25,x26,x27,x28], S1)) ()) := by
  refine sP Try.f45 2 0 (v := x7) ?_
  refine sD Try.f45 2 1 (fun v1 S1 => ?_)
  kernel_rfl
theorem tx_part.r3  : vOps Try.prog ⟨false, false, false⟩ (vlim Try.prog O) (reg Try.f45 3) (reg Try.f45 3).toList ([x0,x1,x2,x3,x4,x5,x6,x7,x8,x9,x10,x11,x12,x13,x14,x15,x16,x17,x18,x19,x20,x21,x22,x23,x24,x25,x26,x27,x28]) S =
    (andK (aBuild Try.prog 47 [] S) (fun v0 S1 => andK (vStore Try.prog 47 x2 (dem v0) S1) (fun v1 S2 => some ([x0,x1,x2,Value.slice none 0 0,Value.bool false,x5,x6,x7,x8,x9,x10,x11,x12,x13,x14,x15,x16,v0,x18,x19,x20,x21,x22,x23,x24,x25,x26,x27,x28], S2)) ()) ()) := by
  refine sD Try.f45 3 0 (fun v0 S1 => ?_)
  refine sD Try.f45 3 1 (fun v1 S2 => ?_)
  refine sP Try.f45 3 2 (v := (Value.slice none 0 0)) ?_
  refine sP Try.f45 3 3 (v := (Value.bool false)) ?_
  kernel_rfl
theorem tx_part.d4 : drawnOk Try.prog (reg Try.f45 4) = true := by kernel_rfl
theorem tx_part.ff4 : fixed Try.prog (reg Try.f45 4) = false := by kernel_rfl
theorem tx_part.k4 : checked Try.prog (reg Try.f45 4) = [0, 1, 2, 3, 4, 5, 6] := by kernel_rfl
theorem tx_part.g4 : again Try.prog (reg Try.f45 4) = [(2, 7), (5, 7)] := by kernel_rfl
theorem tx_part.r4  : vcodeV Try.prog O false (.region 4 (reg Try.f45 4) true) ([x0,x1,x2,x3,x4,x5,x6,x7,x8,x9,x10,x11,x12,x13,x14,x15,x16,x17,x18,x19,x20,x21,x22,x23,x24,x25,x26,x27,x28]) S =
    regV (okK x5 ( andK (vIndexAddr Try.prog 53 (dem x5) (Value.int IntKind.i64 0) S) (fun v1 S1 => okK v1 ( andK (vLoad Try.prog false 3 v1 S1) (fun v2 S2 => okK v2 ( okK x5 ( andK (vIndexAddr Try.prog 53 (dem x5) (Value.int IntKind.i64 1) S2) (fun v4 S3 => okK v4 ( andK (vLoad Try.prog false 3 v4 S3) (fun v5 S4 => okK v5 ( andK (aBuild Try.prog 47 [(0, (dem v2)), (1, (dem v5))] S4) (fun v6 S5 => okK v6 ( andK (aAlloc Try.prog 47 S5) (fun v7 S6 => andK (vStore Try.prog 47 v7 (dem v6) S6) (fun v8 S7 => ckK (stillQ v1 S1 S6 && (stillQ v4 S3 S6 && (true))) (some ([x0,x1,x2,x3,x4,x5,x6,x7,v7,x9,x10,x11,x12,x13,x14,x15,x16,x17,dem x5,v1,v2,dem x5,v4,v5,v6,x25,x26,x27,x28], S7)) ()) ()) ()) ()) ()) ()) ()) ()) ()) ()) ()) ()) ()) ()) ()) := by
  rw [vcodeV_drawn tx_part.d4 tx_part.ff4 tx_part.k4 tx_part.g4]
  refine congrArg regV ?_
  refine uPC Try.f45 4 0 (v := x5) (pe := undef) ?_
  refine uDC Try.f45 4 1 (pe := undef) (fun v1 S1 => ?_)
  refine uDC Try.f45 4 2 (pe := v1) (fun v2 S2 => ?_)
  refine uPC Try.f45 4 3 (v := x5) (pe := undef) ?_
  refine uDC Try.f45 4 4 (pe := undef) (fun v4 S3 => ?_)
  refine uDC Try.f45 4 5 (pe := v4) (fun v5 S4 => ?_)
  refine uDC Try.f45 4 6 (pe := undef) (fun v6 S5 => ?_)
  refine uD Try.f45 4 7 (pe := undef) (fun v7 S6 => ?_)
  refine uD Try.f45 4 8 (pe := undef) (fun v8 S7 => ?_)
  kernel_rfl
theorem tx_part.d5 : drawnOk Try.prog (reg Try.f45 5) = true := by kernel_rfl
theorem tx_part.ff5 : fixed Try.prog (reg Try.f45 5) = false := by kernel_rfl
theorem tx_part.k5 : checked Try.prog (reg Try.f45 5) = [0, 1, 1] := by kernel_rfl
theorem tx_part.g5 : again Try.prog (reg Try.f45 5) = [(0, 3)] := by kernel_rfl
theorem tx_part.r5  : vcodeV Try.prog O false (.region 5 (reg Try.f45 5) true) ([x0,x1,x2,x3,x4,x5,x6,x7,x8,x9,x10,x11,x12,x13,x14,x15,x16,x17,x18,x19,x20,x21,x22,x23,x24,x25,x26,x27,x28]) S =
    regV (andK (vLoad Try.prog false 47 x8 S) (fun v0 S1 => okK v0 ( okK x6 ( andK (vLoad Try.prog false 47 x8 S1) (fun v2 S2 => andK ((vlim Try.prog O) 47 [(dem v2)] S2) (fun v3 S3 => andK (vStore Try.prog 47 x2 (dem v0) S3) (fun v4 S4 => ckK (stillQ x8 S S3 && (true)) (some ([x0,x1,x2,x6,v3,x5,dem x6,x7,x8,x9,x10,x11,x12,x13,x14,x15,x16,x17,x18,x19,x20,x21,x22,x23,x24,v0,dem x6,v2,dem v3], S4)) ()) ()) ()) ()) ()) ()) ()) := by
  rw [vcodeV_drawn tx_part.d5 tx_part.ff5 tx_part.k5 tx_part.g5]
  refine congrArg regV ?_
  refine uDC Try.f45 5 0 (pe := x8) (fun v0 S1 => ?_)
  refine uPC Try.f45 5 1 (v := x6) (pe := undef) ?_
  refine uD Try.f45 5 2 (pe := x8) (fun v2 S2 => ?_)
  refine uD Try.f45 5 3 (pe := undef) (fun v3 S3 => ?_)
  refine uD Try.f45 5 4 (pe := undef) (fun v4 S4 => ?_)
  refine uP Try.f45 5 5 (v := x6) (pe := undef) ?_
  refine uP Try.f45 5 6 (v := v3) (pe := undef) ?_
  kernel_rfl
theorem tx_part.rs : type_of% (And.intro @tx_part.r0 (And.intro @tx_part.r1 (And.intro @tx_part.r2 (And.intro @tx_part.r3 (And.intro @tx_part.r4 (@tx_part.r5)))))) := And.intro @tx_part.r0 (And.intro @tx_part.r1 (And.intro @tx_part.r2 (And.intro @tx_part.r3 (And.intro @tx_part.r4 (@tx_part.r5)))))
theorem tx_part.runs {x0 : Value} {S S1 : AHeap} {e : AEx} {T : List Value} (h : vcodeV Try.prog O false tx_part.code ([x0,undef,undef,undef,undef,undef,undef,undef,undef,undef,undef,undef,undef,undef,undef,undef,undef,undef,undef,undef,undef,undef,undef,undef,undef,undef,undef,undef,undef]) AHeap.empty = some (e, T, S1)) (he : e = .normal ∨ e = .ret) {w0 : Value} (c0 : vLoad Try.prog false 47 (T.getD 2 undef) S1 = some (w0, S1)) (h0 : notTuple (w0) = true) (h1 : notTuple (T.getD 3 undef) = true) (h2 : notTuple (T.getD 4 undef) = true) (hca : [x0].all (cleanN 16) = true) (hcv : cleanN 16 (Value.tuple #[w0, T.getD 3 undef, T.getD 4 undef]) = true) : vlim Try.prog O 45 [x0] S = some (Value.tuple #[w0, T.getD 3 undef, T.getD 4 undef], S) :=
  vlim_pure rfl rfl Try.func45 (by decide) tx_part.body (by exact h) he ((vRes_many ((show vResVals Try.prog T S1 Try.f45.results.toList = vResVals Try.prog T S1 [(ResultVar.cell 2 47), (ResultVar.tmp 3), (ResultVar.tmp 4)] from by kernel_rfl).trans (by simp only [vResVals, c0])) (by kernel_rfl) (by simp only [List.all_cons, List.all_nil, h0, h1, h2, Bool.and_true])).trans rfl) hca hcv
end Go.Proofs.Ytgggklfbhmlapaa

namespace Go.Proofs.Ytgggklfbhmlapaa
open Go.Abs

/-- neaptide.tx.Right -/
abbrev tx_Right.id : FuncId := 47
noncomputable def tx_Right.code : Code := (Code.seq (Code.region 0 (reg Try.f47 0) false) (Code.seq (Code.region 1 (reg Try.f47 1) false) Code.ret))
theorem tx_Right.body : Try.f47.body = some tx_Right.code := by kernel_rfl
theorem tx_Right.eta {T : List Value} (h : T.length = 21) : T = [T.getD 0 undef,T.getD 1 undef,T.getD 2 undef,T.getD 3 undef,T.getD 4 undef,T.getD 5 undef,T.getD 6 undef,T.getD 7 undef,T.getD 8 undef,T.getD 9 undef,T.getD 10 undef,T.getD 11 undef,T.getD 12 undef,T.getD 13 undef,T.getD 14 undef,T.getD 15 undef,T.getD 16 undef,T.getD 17 undef,T.getD 18 undef,T.getD 19 undef,T.getD 20 undef] := (list_getD T 21 h).trans (by kernel_rfl)
variable (x0 x1 x2 x3 x4 x5 x6 x7 x8 x9 x10 x11 x12 x13 x14 x15 x16 x17 x18 x19 x20 : Value) (S : AHeap)
theorem tx_Right.r0  : vOps Try.prog ⟨false, false, false⟩ (vlim Try.prog O) (reg Try.f47 0) (reg Try.f47 0).toList ([x0,x1,x2,x3,x4,x5,x6,x7,x8,x9,x10,x11,x12,x13,x14,x15,x16,x17,x18,x19,x20]) S =
    (andK (aBox (dem x0) S) (fun v0 S1 => some ([x0,v0,Value.bool false,x3,x4,x5,x6,x7,x8,x9,x10,x11,x12,x13,x14,x15,x16,x17,x18,x19,x20], S1)) ()) := by
  refine sD Try.f47 0 0 (fun v0 S1 => ?_)
  refine sP Try.f47 0 1 (v := (Value.bool false)) ?_
  kernel_rfl
theorem tx_Right.r1  : vOps Try.prog ⟨false, false, false⟩ (vlim Try.prog O) (reg Try.f47 1) (reg Try.f47 1).toList ([x0,x1,x2,x3,x4,x5,x6,x7,x8,x9,x10,x11,x12,x13,x14,x15,x16,x17,x18,x19,x20]) S =
    (andK (vFieldAddr Try.prog 47 x1 0 S) (fun v0 S1 => andK (vLoad Try.prog false 3 v0 S1) (fun v1 S2 => andK (vBin Try.prog BinOp.geq 3 v1 (Value.int IntKind.i64 1) S2) (fun v2 S3 => gdK (dem v2) true (vFieldAddr Try.prog 47 x1 0) S3 (fun v4 S4 => gdK (dem v2) true (vLoad Try.prog false 3 v4) S4 (fun v5 S5 => gdK (dem v2) true (vBin Try.prog BinOp.leq 3 v5 (Value.int IntKind.i64 1000000)) S5 (fun v6 S6 => andK (vPick (dem v2) v6 (Value.bool false) S6) (fun v7 S7 => gdK (dem v7) true (vFieldAddr Try.prog 47 x1 1) S7 (fun v9 S8 => gdK (dem v7) true (vLoad Try.prog false 3 v9) S8 (fun v10 S9 => gdK (dem v7) true (vBin Try.prog BinOp.geq 3 v10 (Value.int IntKind.i64 0)) S9 (fun v11 S10 => andK (vPick (dem v7) v11 (Value.bool false) S10) (fun v12 S11 => gdK (dem v12) true (vFieldAddr Try.prog 47 x1 1) S11 (fun v14 S12 => gdK (dem v12) true (vLoad Try.prog false 3 v14) S12 (fun v15 S13 => gdK (dem v12) true (vBin Try.prog BinOp.leq 3 v15 (Value.int IntKind.i64 1000)) S13 (fun v16 S14 => andK (vPick (dem v12) v16 (Value.bool false) S14) (fun v17 S15 => some ([x0,x1,v17,v0,v1,v2,dem v2,v4,v5,v6,v7,dem v7,v9,v10,v11,v12,dem v12,v14,v15,v16,dem v17], S15)) ()) ()) ()) ()) ()) ()) ()) ()) ()) ()) ()) ()) ()) ()) ()) := by
  refine sD Try.f47 1 0 (fun v0 S1 => ?_)
  refine sD Try.f47 1 1 (fun v1 S2 => ?_)
  refine sD Try.f47 1 2 (fun v2 S3 => ?_)
  refine sP Try.f47 1 3 (v := v2) ?_
  refine sG Try.f47 1 4 (j := 3) (fun v4 S4 => ?_)
  refine sG Try.f47 1 5 (j := 3) (fun v5 S5 => ?_)
  refine sG Try.f47 1 6 (j := 3) (fun v6 S6 => ?_)
  refine sD Try.f47 1 7 (fun v7 S7 => ?_)
  refine sP Try.f47 1 8 (v := v7) ?_
  refine sG Try.f47 1 9 (j := 8) (fun v9 S8 => ?_)
  refine sG Try.f47 1 10 (j := 8) (fun v10 S9 => ?_)
  refine sG Try.f47 1 11 (j := 8) (fun v11 S10 => ?_)
  refine sD Try.f47 1 12 (fun v12 S11 => ?_)
  refine sP Try.f47 1 13 (v := v12) ?_
  refine sG Try.f47 1 14 (j := 13) (fun v14 S12 => ?_)
  refine sG Try.f47 1 15 (j := 13) (fun v15 S13 => ?_)
  refine sG Try.f47 1 16 (j := 13) (fun v16 S14 => ?_)
  refine sD Try.f47 1 17 (fun v17 S15 => ?_)
  refine sP Try.f47 1 18 (v := v17) ?_
  kernel_rfl
theorem tx_Right.rs : type_of% (And.intro @tx_Right.r0 (@tx_Right.r1)) := And.intro @tx_Right.r0 (@tx_Right.r1)
theorem tx_Right.runs {x0 : Value} {S S1 : AHeap} {e : AEx} {T : List Value} (h : vcodeV Try.prog O false tx_Right.code ([x0,undef,undef,undef,undef,undef,undef,undef,undef,undef,undef,undef,undef,undef,undef,undef,undef,undef,undef,undef,undef]) AHeap.empty = some (e, T, S1)) (he : e = .normal ∨ e = .ret) (hca : [x0].all (cleanN 16) = true) (hcv : cleanN 16 (T.getD 2 undef) = true) : vlim Try.prog O 47 [x0] S = some (T.getD 2 undef, S) :=
  vlim_pure rfl rfl Try.func47 (by decide) tx_Right.body (by exact h) he (vRes_one (a := T.getD 2 undef) ((show vResVals Try.prog T S1 Try.f47.results.toList = vResVals Try.prog T S1 [(ResultVar.tmp 2)] from by kernel_rfl).trans (by simp only [vResVals])) (by kernel_rfl)) hca hcv
end Go.Proofs.Ytgggklfbhmlapaa

namespace Go.Proofs.Ytgggklfbhmlapaa
open Go.Abs

/-- neaptide.neaptideref06.Right -/
abbrev neaptideref06_Right.id : FuncId := 42
noncomputable def neaptideref06_Right.code : Code := (Code.seq (Code.region 0 (reg Try.f42 0) false) (Code.seq (Code.region 1 (reg Try.f42 1) false) Code.ret))
theorem neaptideref06_Right.body : Try.f42.body = some neaptideref06_Right.code := by kernel_rfl
theorem neaptideref06_Right.eta {T : List Value} (h : T.length = 21) : T = [T.getD 0 undef,T.getD 1 undef,T.getD 2 undef,T.getD 3 undef,T.getD 4 undef,T.getD 5 undef,T.getD 6 undef,T.getD 7 undef,T.getD 8 undef,T.getD 9 undef,T.getD 10 undef,T.getD 11 undef,T.getD 12 undef,T.getD 13 undef,T.getD 14 undef,T.getD 15 undef,T.getD 16 undef,T.getD 17 undef,T.getD 18 undef,T.getD 19 undef,T.getD 20 undef] := (list_getD T 21 h).trans (by kernel_rfl)
variable (x0 x1 x2 x3 x4 x5 x6 x7 x8 x9 x10 x11 x12 x13 x14 x15 x16 x17 x18 x19 x20 : Value) (S : AHeap)
theorem neaptideref06_Right.r0  : vOps Try.prog ⟨false, false, false⟩ (vlim Try.prog O) (reg Try.f42 0) (reg Try.f42 0).toList ([x0,x1,x2,x3,x4,x5,x6,x7,x8,x9,x10,x11,x12,x13,x14,x15,x16,x17,x18,x19,x20]) S =
    (andK (aBox (dem x0) S) (fun v0 S1 => some ([x0,v0,Value.bool false,x3,x4,x5,x6,x7,x8,x9,x10,x11,x12,x13,x14,x15,x16,x17,x18,x19,x20], S1)) ()) := by
  refine sD Try.f42 0 0 (fun v0 S1 => ?_)
  refine sP Try.f42 0 1 (v := (Value.bool false)) ?_
  kernel_rfl
theorem neaptideref06_Right.r1  : vOps Try.prog ⟨false, false, false⟩ (vlim Try.prog O) (reg Try.f42 1) (reg Try.f42 1).toList ([x0,x1,x2,x3,x4,x5,x6,x7,x8,x9,x10,x11,x12,x13,x14,x15,x16,x17,x18,x19,x20]) S =
    (andK (vFieldAddr Try.prog 47 x1 0 S) (fun v0 S1 => andK (vLoad Try.prog false 3 v0 S1) (fun v1 S2 => andK (vBin Try.prog BinOp.gtr 3 v1 (Value.int IntKind.i64 0) S2) (fun v2 S3 => gdK (dem v2) true (vFieldAddr Try.prog 47 x1 0) S3 (fun v4 S4 => gdK (dem v2) true (vLoad Try.prog false 3 v4) S4 (fun v5 S5 => gdK (dem v2) true (vBin Try.prog BinOp.leq 3 v5 (Value.int IntKind.i64 1000000)) S5 (fun v6 S6 => andK (vPick (dem v2) v6 (Value.bool false) S6) (fun v7 S7 => gdK (dem v7) true (vFieldAddr Try.prog 47 x1 1) S7 (fun v9 S8 => gdK (dem v7) true (vLoad Try.prog false 3 v9) S8 (fun v10 S9 => gdK (dem v7) true (vBin Try.prog BinOp.geq 3 v10 (Value.int IntKind.i64 0)) S9 (fun v11 S10 => andK (vPick (dem v7) v11 (Value.bool false) S10) (fun v12 S11 => gdK (dem v12) true (vFieldAddr Try.prog 47 x1 1) S11 (fun v14 S12 => gdK (dem v12) true (vLoad Try.prog false 3 v14) S12 (fun v15 S13 => gdK (dem v12) true (vBin Try.prog BinOp.leq 3 v15 (Value.int IntKind.i64 1000)) S13 (fun v16 S14 => andK (vPick (dem v12) v16 (Value.bool false) S14) (fun v17 S15 => some ([x0,x1,v17,v0,v1,v2,dem v2,v4,v5,v6,v7,dem v7,v9,v10,v11,v12,dem v12,v14,v15,v16,dem v17], S15)) ()) ()) ()) ()) ()) ()) ()) ()) ()) ()) ()) ()) ()) ()) ()) := by
  refine sD Try.f42 1 0 (fun v0 S1 => ?_)
  refine sD Try.f42 1 1 (fun v1 S2 => ?_)
  refine sD Try.f42 1 2 (fun v2 S3 => ?_)
  refine sP Try.f42 1 3 (v := v2) ?_
  refine sG Try.f42 1 4 (j := 3) (fun v4 S4 => ?_)
  refine sG Try.f42 1 5 (j := 3) (fun v5 S5 => ?_)
  refine sG Try.f42 1 6 (j := 3) (fun v6 S6 => ?_)
  refine sD Try.f42 1 7 (fun v7 S7 => ?_)
  refine sP Try.f42 1 8 (v := v7) ?_
  refine sG Try.f42 1 9 (j := 8) (fun v9 S8 => ?_)
  refine sG Try.f42 1 10 (j := 8) (fun v10 S9 => ?_)
  refine sG Try.f42 1 11 (j := 8) (fun v11 S10 => ?_)
  refine sD Try.f42 1 12 (fun v12 S11 => ?_)
  refine sP Try.f42 1 13 (v := v12) ?_
  refine sG Try.f42 1 14 (j := 13) (fun v14 S12 => ?_)
  refine sG Try.f42 1 15 (j := 13) (fun v15 S13 => ?_)
  refine sG Try.f42 1 16 (j := 13) (fun v16 S14 => ?_)
  refine sD Try.f42 1 17 (fun v17 S15 => ?_)
  refine sP Try.f42 1 18 (v := v17) ?_
  kernel_rfl
theorem neaptideref06_Right.rs : type_of% (And.intro @neaptideref06_Right.r0 (@neaptideref06_Right.r1)) := And.intro @neaptideref06_Right.r0 (@neaptideref06_Right.r1)
theorem neaptideref06_Right.runs {x0 : Value} {S S1 : AHeap} {e : AEx} {T : List Value} (h : vcodeV Try.prog O false neaptideref06_Right.code ([x0,undef,undef,undef,undef,undef,undef,undef,undef,undef,undef,undef,undef,undef,undef,undef,undef,undef,undef,undef,undef]) AHeap.empty = some (e, T, S1)) (he : e = .normal ∨ e = .ret) (hca : [x0].all (cleanN 16) = true) (hcv : cleanN 16 (T.getD 2 undef) = true) : vlim Try.prog O 42 [x0] S = some (T.getD 2 undef, S) :=
  vlim_pure rfl rfl Try.func42 (by decide) neaptideref06_Right.body (by exact h) he (vRes_one (a := T.getD 2 undef) ((show vResVals Try.prog T S1 Try.f42.results.toList = vResVals Try.prog T S1 [(ResultVar.tmp 2)] from by kernel_rfl).trans (by simp only [vResVals])) (by kernel_rfl)) hca hcv
end Go.Proofs.Ytgggklfbhmlapaa

namespace Go.Proofs.Ytgggklfbhmlapaa
open Go.Abs

theorem tx_eql {t : TypeId} {a b : List UInt8} {S : AHeap} : aBin Try.prog .eql t (.string ⟨a.toArray⟩) (.string ⟨b.toArray⟩) S = some (.bool (decide (a = b)), S) := by rw [aBin_streq]
theorem tx_neq {t : TypeId} {a b : List UInt8} {S : AHeap} : aBin Try.prog .neq t (.string ⟨a.toArray⟩) (.string ⟨b.toArray⟩) S = some (.bool (!decide (a = b)), S) := by rw [aBin_strne]
theorem tx_add {t : TypeId} {a b : List UInt8} {S : AHeap} (h : a.length + b.length ≤ 9223372036854775807) : aBin Try.prog .add t (.string ⟨a.toArray⟩) (.string ⟨b.toArray⟩) S = some (.string ⟨(a ++ b).toArray⟩, S) := by
  rw [aBin_stradd _ _ (by simpa using h)]
theorem tf_neq {a b : Bool} {S : AHeap} : aBin Try.prog .neq 4 (.bool a) (.bool b) S = some (.bool (a != b), S) := by cases a <;> cases b <;> kernel_rfl
theorem tf_eql {a b : Bool} {S : AHeap} : aBin Try.prog .eql 4 (.bool a) (.bool b) S = some (.bool (a == b), S) := by cases a <;> cases b <;> kernel_rfl
end Go.Proofs.Ytgggklfbhmlapaa

namespace Go.Proofs.Ytgggklfbhmlapaa
open Go.Abs

/-- A transaction. -/
structure TxV where
  id : Int
  fee : Int
  deriving DecidableEq
def fT (t : TxV) : List Value := [.int .i64 t.id, .int .i64 t.fee]
abbrev tv (t : TxV) : Value := .agg [Value.int .i64 t.id, .int .i64 t.fee].toArray
structure TxV.Ok (t : TxV) : Prop where
  id : -9223372036854775808 ≤ t.id ∧ t.id < 9223372036854775808
  fee : -9223372036854775808 ≤ t.fee ∧ t.fee < 9223372036854775808
abbrev tTx : Ty := .pair (.int .i64) (.pair (.int .i64) .unit)
def rightB (t : TxV) : Bool := decide (1 ≤ t.id) && decide (t.id ≤ 1000000) && decide (0 ≤ t.fee) && decide (t.fee ≤ 1000)
def lessB (a b : TxV) : Bool := if a.fee = b.fee then decide (a.id < b.id) else decide (b.fee < a.fee)
theorem rightB_iff {t : TxV} : rightB t = true ↔ 1 ≤ t.id ∧ t.id ≤ 1000000 ∧ 0 ≤ t.fee ∧ t.fee ≤ 1000 := by
  simp [rightB, and_assoc]
/-- A box at the start of memory. -/
abbrev mem1 (t : TxV) : AHeap := AHeap.empty.push (.cells [Value.int .i64 t.id, .int .i64 t.fee] (.own []) 0)
theorem box1 (t : TxV) : aBox (tv t) AHeap.empty = some (.pointer (some ⟨0, 0, none⟩), mem1 t) := rfl
theorem mem1_get (t : TxV) : (mem1 t).get 0 = some (.cells [Value.int .i64 t.id, .int .i64 t.fee] (.own []) 0) := rfl

theorem tx_Right.v (t : TxV) (S : AHeap) : vlim Try.prog O tx_Right.id [tv t] S = some (.bool (rightB t), S) := by
  obtain ⟨T, hTe⟩ : ∃ T, T = (tv t :: undef :: undef :: undef :: undef :: undef :: undef :: undef :: undef :: undef :: undef :: undef :: undef :: undef :: undef :: undef :: undef :: undef :: undef :: undef :: undef :: []) := ⟨_, rfl⟩
  have hr : vcodeV Try.prog O false tx_Right.code T AHeap.empty = vcodeV Try.prog O false tx_Right.code T AHeap.empty := rfl
  have l0 := load_int (t := 3) (o := 0 + 0) (mem1_get t) g_int rfl
  have l1 := load_int (t := 3) (o := 0 + 1) (mem1_get t) g_int rfl
  by_cases h1 : 1 ≤ t.id <;> by_cases h2 : t.id ≤ 1000000 <;> by_cases h3 : 0 ≤ t.fee <;> by_cases h4 : t.fee ≤ 1000
  all_goals
    conv at hr =>
      rhs
      rw [hTe]
      simp only [tx_Right.code, tx_Right.rs, wk, List.getD_cons_succ, List.getD_cons_zero, if_true, if_false, List.getElem?_cons_succ, List.getElem?_cons_zero, Option.map_some, eq_self, reduceIte, Nat.reduceEqDiff, Int.reduceEq, Int.reduceLT, Int.reduceLE, box1, fa_api_Tx_0, fa_api_Tx_1, l0, l1, h1, h2, h3, h4]
    rw [hTe] at hr
    simp only [rightB, h1, h2, h3, h4, decide_true, decide_false, Bool.and_true, Bool.and_false, Bool.false_and]
    exact tx_Right.runs hr (.inr rfl) rfl rfl
theorem neaptideref06_Right.v (t : TxV) (S : AHeap) : vlim Try.prog O neaptideref06_Right.id [tv t] S = some (.bool (rightB t), S) := by
  obtain ⟨T, hTe⟩ : ∃ T, T = (tv t :: undef :: undef :: undef :: undef :: undef :: undef :: undef :: undef :: undef :: undef :: undef :: undef :: undef :: undef :: undef :: undef :: undef :: undef :: undef :: undef :: []) := ⟨_, rfl⟩
  have hr : vcodeV Try.prog O false neaptideref06_Right.code T AHeap.empty = vcodeV Try.prog O false neaptideref06_Right.code T AHeap.empty := rfl
  have l0 := load_int (t := 3) (o := 0 + 0) (mem1_get t) g_int rfl
  have l1 := load_int (t := 3) (o := 0 + 1) (mem1_get t) g_int rfl
  have h0 : decide (1 ≤ t.id) = decide (0 < t.id) := decide_eq_decide.mpr (by omega)
  unfold rightB
  rw [h0]
  by_cases h1 : 0 < t.id <;> by_cases h2 : t.id ≤ 1000000 <;> by_cases h3 : 0 ≤ t.fee <;> by_cases h4 : t.fee ≤ 1000
  all_goals
    conv at hr =>
      rhs
      rw [hTe]
      simp only [neaptideref06_Right.code, neaptideref06_Right.rs, wk, List.getD_cons_succ, List.getD_cons_zero, if_true, if_false, List.getElem?_cons_succ, List.getElem?_cons_zero, Option.map_some, eq_self, reduceIte, Nat.reduceEqDiff, Int.reduceEq, Int.reduceLT, Int.reduceLE, box1, fa_api_Tx_0, fa_api_Tx_1, l0, l1, h1, h2, h3, h4]
    rw [hTe] at hr
    simp only [h1, h2, h3, h4, decide_true, decide_false, Bool.and_true, Bool.and_false, Bool.false_and]
    exact neaptideref06_Right.runs hr (.inr rfl) rfl rfl
def cmpI (a b : Int) : Int := if a < b then -1 else if b < a then 1 else 0
/-- The first that isn't 0. -/
def orI2 : List Int → Int
  | [] => 0
  | x :: l => if x = 0 then orI2 l else x
theorem iz2_2 (x y : Int) : sv 2 1 2 [.int .i64 x, .int .i64 y] = iz 2 [x, y] := rfl
abbrev mem2 (a b : TxV) : AHeap := (mem1 a).push (.cells [Value.int .i64 b.id, .int .i64 b.fee] (.own []) 0)
theorem box2 (a b : TxV) : aBox (tv b) (mem1 a) = some (.pointer (some ⟨1, 0, none⟩), mem2 a b) := by kernel_rfl
theorem mem2_0 (a b : TxV) : (mem2 a b).get 0 = some (.cells [Value.int .i64 a.id, .int .i64 a.fee] (.own []) 0) := by kernel_rfl
theorem mem2_1 (a b : TxV) : (mem2 a b).get 1 = some (.cells [Value.int .i64 b.id, .int .i64 b.fee] (.own []) 0) := by kernel_rfl
theorem less_or (a b : TxV) : decide (orI2 [cmpI b.fee a.fee, cmpI a.id b.id] < 0) = lessB a b := by
  unfold lessB
  simp only [orI2, cmpI]
  by_cases h1 : b.fee < a.fee
  · rw [if_neg (show ¬ a.fee = b.fee by omega)]; simp [h1]
  · by_cases h2 : a.fee < b.fee
    · rw [if_neg (show ¬ a.fee = b.fee by omega)]; simp [h1, h2]
    · rw [if_pos (show a.fee = b.fee by omega)]
      simp only [h1, h2, if_false, if_true]
      by_cases h3 : a.id < b.id
      · simp [h3]
      · by_cases h4 : b.id < a.id
        · simp [h3, h4]
        · simp [h3, h4]
theorem in_tx (x : tTx.Val) (hg : tTx.Good x) : ∃ t : TxV, tTx.vval x = fT t ∧ t.Ok := by
  obtain ⟨a, b, u⟩ := x
  obtain ⟨h1, h2, _⟩ := hg
  exact ⟨⟨a, b⟩, rfl, in_int h1, in_int h2⟩
end Go.Proofs.Ytgggklfbhmlapaa

namespace Go.Proofs.Ytgggklfbhmlapaa
open Go.Abs

/-- neaptide.wire.ReadNums -/
abbrev wire_ReadNums.id : FuncId := 33
noncomputable def wire_ReadNums.loop1 : Code := (Code.seq (Code.region 6 (reg Try.f33 6) false) (Code.seq (Code.cond (Operand.tmp 22) Code.skip (Code.exit 0)) (Code.seq (Code.block 1 (Code.seq (Code.region 7 (reg Try.f33 7) false) (Code.seq (Code.seq (Code.region 8 (reg Try.f33 8) false) (Code.cond (Operand.tmp 34) (Code.seq (Code.region 9 (reg Try.f33 9) false) Code.ret) Code.skip)) (Code.seq (Code.region 10 (reg Try.f33 10) false) (Code.region 11 (reg Try.f33 11) false))))) (Code.region 12 (reg Try.f33 12) false))))
noncomputable def wire_ReadNums.code : Code := (Code.seq (Code.region 0 (reg Try.f33 0) false) (Code.seq (Code.seq (Code.region 1 (reg Try.f33 1) false) (Code.cond (Operand.tmp 17) (Code.seq (Code.region 2 (reg Try.f33 2) false) Code.ret) Code.skip)) (Code.seq (Code.region 3 (reg Try.f33 3) false) (Code.seq (Code.region 4 (reg Try.f33 4) false) (Code.seq (Code.seq (Code.region 5 (reg Try.f33 5) false) (Code.block 0 (Code.loop wire_ReadNums.loop1))) (Code.seq (Code.region 13 (reg Try.f33 13) false) Code.ret))))))
theorem wire_ReadNums.body : Try.f33.body = some wire_ReadNums.code := by kernel_rfl
theorem wire_ReadNums.eta {T : List Value} (h : T.length = 45) : T = [T.getD 0 undef,T.getD 1 undef,T.getD 2 undef,T.getD 3 undef,T.getD 4 undef,T.getD 5 undef,T.getD 6 undef,T.getD 7 undef,T.getD 8 undef,T.getD 9 undef,T.getD 10 undef,T.getD 11 undef,T.getD 12 undef,T.getD 13 undef,T.getD 14 undef,T.getD 15 undef,T.getD 16 undef,T.getD 17 undef,T.getD 18 undef,T.getD 19 undef,T.getD 20 undef,T.getD 21 undef,T.getD 22 undef,T.getD 23 undef,T.getD 24 undef,T.getD 25 undef,T.getD 26 undef,T.getD 27 undef,T.getD 28 undef,T.getD 29 undef,T.getD 30 undef,T.getD 31 undef,T.getD 32 undef,T.getD 33 undef,T.getD 34 undef,T.getD 35 undef,T.getD 36 undef,T.getD 37 undef,T.getD 38 undef,T.getD 39 undef,T.getD 40 undef,T.getD 41 undef,T.getD 42 undef,T.getD 43 undef,T.getD 44 undef] := (list_getD T 45 h).trans (by kernel_rfl)
theorem wire_ReadNums.list {T : List Value} (h : T.length = 45) : ∃ x0 x1 x2 x3 x4 x5 x6 x7 x8 x9 x10 x11 x12 x13 x14 x15 x16 x17 x18 x19 x20 x21 x22 x23 x24 x25 x26 x27 x28 x29 x30 x31 x32 x33 x34 x35 x36 x37 x38 x39 x40 x41 x42 x43 x44, T = [x0,x1,x2,x3,x4,x5,x6,x7,x8,x9,x10,x11,x12,x13,x14,x15,x16,x17,x18,x19,x20,x21,x22,x23,x24,x25,x26,x27,x28,x29,x30,x31,x32,x33,x34,x35,x36,x37,x38,x39,x40,x41,x42,x43,x44] := ⟨_, _, _, _, _, _, _, _, _, _, _, _, _, _, _, _, _, _, _, _, _, _, _, _, _, _, _, _, _, _, _, _, _, _, _, _, _, _, _, _, _, _, _, _, _, wire_ReadNums.eta h⟩
variable (x0 x1 x2 x3 x4 x5 x6 x7 x8 x9 x10 x11 x12 x13 x14 x15 x16 x17 x18 x19 x20 x21 x22 x23 x24 x25 x26 x27 x28 x29 x30 x31 x32 x33 x34 x35 x36 x37 x38 x39 x40 x41 x42 x43 x44 : Value) (S : AHeap)
theorem wire_ReadNums.r0  : vOps Try.prog ⟨false, false, false⟩ (vlim Try.prog O) (reg Try.f33 0) (reg Try.f33 0).toList ([x0,x1,x2,x3,x4,x5,x6,x7,x8,x9,x10,x11,x12,x13,x14,x15,x16,x17,x18,x19,x20,x21,x22,x23,x24,x25,x26,x27,x28,x29,x30,x31,x32,x33,x34,x35,x36,x37,x38,x39,x40,x41,x42,x43,x44]) S =
    ( some ([x0,x1,x2,x3,Value.slice none 0 0,Value.slice none 0 0,Value.int IntKind.i64 0,x7,x8,x9,x10,x11,x12,x13,x14,x15,x16,x17,x18,x19,x20,x21,x22,x23,x24,x25,x26,x27,x28,x29,x30,x31,x32,x33,x34,x35,x36,x37,x38,x39,x40,x41,x42,x43,x44], S)) := by
  refine sP Try.f33 0 0 (v := (Value.slice none 0 0)) ?_
  refine sP Try.f33 0 1 (v := (Value.slice none 0 0)) ?_
  refine sP Try.f33 0 2 (v := (Value.int IntKind.i64 0)) ?_
  kernel_rfl
theorem wire_ReadNums.r1  : vOps Try.prog ⟨false, false, false⟩ (vlim Try.prog O) (reg Try.f33 1) (reg Try.f33 1).toList ([x0,x1,x2,x3,x4,x5,x6,x7,x8,x9,x10,x11,x12,x13,x14,x15,x16,x17,x18,x19,x20,x21,x22,x23,x24,x25,x26,x27,x28,x29,x30,x31,x32,x33,x34,x35,x36,x37,x38,x39,x40,x41,x42,x43,x44]) S =
    (andK (vBin Try.prog BinOp.lss 3 (dem x1) (Value.int IntKind.i64 0) S) (fun v1 S1 => gdK (dem v1) false (ret x1) S1 (fun v3 S2 => gdK (dem v1) false (vBin Try.prog BinOp.gtr 3 (dem v3) (Value.int IntKind.i64 64)) S2 (fun v4 S3 => andK (vPick (dem v1) (Value.bool true) v4 S3) (fun v5 S4 => some ([x0,x1,x2,x3,x4,x5,x6,x7,x8,x9,x10,x11,dem x1,v1,dem v1,dem v3,v4,v5,x18,x19,x20,x21,x22,x23,x24,x25,x26,x27,x28,x29,x30,x31,x32,x33,x34,x35,x36,x37,x38,x39,x40,x41,x42,x43,x44], S4)) ()) ()) ()) ()) := by
  refine sP Try.f33 1 0 (v := x1) ?_
  refine sD Try.f33 1 1 (fun v1 S1 => ?_)
  refine sP Try.f33 1 2 (v := v1) ?_
  refine sG Try.f33 1 3 (j := 2) (fun v3 S2 => ?_)
  refine sG Try.f33 1 4 (j := 2) (fun v4 S3 => ?_)
  refine sD Try.f33 1 5 (fun v5 S4 => ?_)
  kernel_rfl
theorem wire_ReadNums.r2  : vOps Try.prog ⟨false, false, false⟩ (vlim Try.prog O) (reg Try.f33 2) (reg Try.f33 2).toList ([x0,x1,x2,x3,x4,x5,x6,x7,x8,x9,x10,x11,x12,x13,x14,x15,x16,x17,x18,x19,x20,x21,x22,x23,x24,x25,x26,x27,x28,x29,x30,x31,x32,x33,x34,x35,x36,x37,x38,x39,x40,x41,x42,x43,x44]) S =
    ( some ([x0,x1,x2,x3,Value.slice none 0 0,Value.slice none 0 0,Value.int IntKind.i64 11,x7,x8,x9,x10,x11,x12,x13,x14,x15,x16,x17,x18,x19,x20,x21,x22,x23,x24,x25,x26,x27,x28,x29,x30,x31,x32,x33,x34,x35,x36,x37,x38,x39,x40,x41,x42,x43,x44], S)) := by
  refine sP Try.f33 2 0 (v := (Value.slice none 0 0)) ?_
  refine sP Try.f33 2 1 (v := (Value.slice none 0 0)) ?_
  refine sP Try.f33 2 2 (v := (Value.int IntKind.i64 11)) ?_
  kernel_rfl
theorem wire_ReadNums.r3  : vOps Try.prog ⟨false, false, false⟩ (vlim Try.prog O) (reg Try.f33 3) (reg Try.f33 3).toList ([x0,x1,x2,x3,x4,x5,x6,x7,x8,x9,x10,x11,x12,x13,x14,x15,x16,x17,x18,x19,x20,x21,x22,x23,x24,x25,x26,x27,x28,x29,x30,x31,x32,x33,x34,x35,x36,x37,x38,x39,x40,x41,x42,x43,x44]) S =
    (andK ((vlim Try.prog O) 43 [(dem (dem x0))] S) (fun v1 S1 => some ([x0,x1,x2,x3,x4,x5,x6,v1,x8,x9,x10,x11,x12,x13,x14,x15,x16,x17,dem x0,dem v1,x20,x21,x22,x23,x24,x25,x26,x27,x28,x29,x30,x31,x32,x33,x34,x35,x36,x37,x38,x39,x40,x41,x42,x43,x44], S1)) ()) := by
  refine sP Try.f33 3 0 (v := x0) ?_
  refine sD Try.f33 3 1 (fun v1 S1 => ?_)
  refine sP Try.f33 3 2 (v := v1) ?_
  kernel_rfl
theorem wire_ReadNums.r4  : vOps Try.prog ⟨false, false, false⟩ (vlim Try.prog O) (reg Try.f33 4) (reg Try.f33 4).toList ([x0,x1,x2,x3,x4,x5,x6,x7,x8,x9,x10,x11,x12,x13,x14,x15,x16,x17,x18,x19,x20,x21,x22,x23,x24,x25,x26,x27,x28,x29,x30,x31,x32,x33,x34,x35,x36,x37,x38,x39,x40,x41,x42,x43,x44]) S =
    ( some ([x0,x1,x2,x3,x4,x5,x6,x7,Value.slice none 0 0,x9,x10,x11,x12,x13,x14,x15,x16,x17,x18,x19,x20,x21,x22,x23,x24,x25,x26,x27,x28,x29,x30,x31,x32,x33,x34,x35,x36,x37,x38,x39,x40,x41,x42,x43,x44], S)) := by
  refine sP Try.f33 4 0 (v := (Value.slice none 0 0)) ?_
  kernel_rfl
theorem wire_ReadNums.r5  : vOps Try.prog ⟨false, false, false⟩ (vlim Try.prog O) (reg Try.f33 5) (reg Try.f33 5).toList ([x0,x1,x2,x3,x4,x5,x6,x7,x8,x9,x10,x11,x12,x13,x14,x15,x16,x17,x18,x19,x20,x21,x22,x23,x24,x25,x26,x27,x28,x29,x30,x31,x32,x33,x34,x35,x36,x37,x38,x39,x40,x41,x42,x43,x44]) S =
    ( some ([x0,x1,x2,x3,x4,x5,x6,x7,x8,x9,x10,x11,x12,x13,x14,x15,x16,x17,x18,x19,dem x1,Value.int IntKind.i64 0,x22,x23,x24,x25,x26,x27,x28,x29,x30,x31,x32,x33,x34,x35,x36,x37,x38,x39,x40,x41,x42,x43,x44], S)) := by
  refine sP Try.f33 5 0 (v := x1) ?_
  refine sP Try.f33 5 1 (v := (Value.int IntKind.i64 0)) ?_
  kernel_rfl
theorem wire_ReadNums.r6  : vOps Try.prog ⟨false, false, false⟩ (vlim Try.prog O) (reg Try.f33 6) (reg Try.f33 6).toList ([x0,x1,x2,x3,x4,x5,x6,x7,x8,x9,x10,x11,x12,x13,x14,x15,x16,x17,x18,x19,x20,x21,x22,x23,x24,x25,x26,x27,x28,x29,x30,x31,x32,x33,x34,x35,x36,x37,x38,x39,x40,x41,x42,x43,x44]) S =
    (andK (vBin Try.prog BinOp.lss 3 x21 x20 S) (fun v0 S1 => some ([x0,x1,x2,x3,x4,x5,x6,x7,x8,x9,x10,x11,x12,x13,x14,x15,x16,x17,x18,x19,x20,x21,v0,x23,x24,x25,x26,x27,x28,x29,x30,x31,x32,x33,x34,x35,x36,x37,x38,x39,x40,x41,x42,x43,x44], S1)) ()) := by
  refine sD Try.f33 6 0 (fun v0 S1 => ?_)
  kernel_rfl
theorem wire_ReadNums.r7  : vOps Try.prog ⟨false, false, false⟩ (vlim Try.prog O) (reg Try.f33 7) (reg Try.f33 7).toList ([x0,x1,x2,x3,x4,x5,x6,x7,x8,x9,x10,x11,x12,x13,x14,x15,x16,x17,x18,x19,x20,x21,x22,x23,x24,x25,x26,x27,x28,x29,x30,x31,x32,x33,x34,x35,x36,x37,x38,x39,x40,x41,x42,x43,x44]) S =
    (andK ((vlim Try.prog O) 44 [(dem (dem x7))] S) (fun v1 S1 => andK (aExtract v1 0 S1) (fun v3 S2 => andK (aExtract (demPart 0 v1) 1 S2) (fun v4 S3 => andK (aExtract (demPart 1 (demPart 0 v1)) 2 S3) (fun v5 S4 => some ([x0,x1,x2,x3,x4,x5,x6,x7,x8,v3,v4,v5,x12,x13,x14,x15,x16,x17,x18,x19,x20,x21,x22,demPart 2 (demPart 1 (demPart 0 v1)),dem x7,dem v1,dem v3,dem v4,dem v5,x29,x30,x31,x32,x33,x34,x35,x36,x37,x38,x39,x40,x41,x42,x43,x44], S4)) ()) ()) ()) ()) := by
  refine sP Try.f33 7 0 (v := x7) ?_
  refine sD Try.f33 7 1 (fun v1 S1 => ?_)
  refine sP Try.f33 7 2 (v := v1) ?_
  refine sD Try.f33 7 3 (fun v3 S2 => ?_)
  refine sD Try.f33 7 4 (fun v4 S3 => ?_)
  refine sD Try.f33 7 5 (fun v5 S4 => ?_)
  refine sP Try.f33 7 6 (v := v3) ?_
  refine sP Try.f33 7 7 (v := v4) ?_
  refine sP Try.f33 7 8 (v := v5) ?_
  kernel_rfl
theorem wire_ReadNums.r8  : vOps Try.prog ⟨false, false, false⟩ (vlim Try.prog O) (reg Try.f33 8) (reg Try.f33 8).toList ([x0,x1,x2,x3,x4,x5,x6,x7,x8,x9,x10,x11,x12,x13,x14,x15,x16,x17,x18,x19,x20,x21,x22,x23,x24,x25,x26,x27,x28,x29,x30,x31,x32,x33,x34,x35,x36,x37,x38,x39,x40,x41,x42,x43,x44]) S =
    (andK (vBin Try.prog BinOp.neq 34 (dem x11) (Value.int IntKind.i64 0) S) (fun v1 S1 => gdK (dem v1) false (ret x9) S1 (fun v3 S2 => gdK (dem v1) false (vBin Try.prog BinOp.gtr 68 (dem v3) (Value.int IntKind.u64 4611686018427387905)) S2 (fun v4 S3 => andK (vPick (dem v1) (Value.bool true) v4 S3) (fun v5 S4 => some ([x0,x1,x2,x3,x4,x5,x6,x7,x8,x9,x10,x11,x12,x13,x14,x15,x16,x17,x18,x19,x20,x21,x22,x23,x24,x25,x26,x27,x28,dem x11,v1,dem v1,dem v3,v4,v5,x35,x36,x37,x38,x39,x40,x41,x42,x43,x44], S4)) ()) ()) ()) ()) := by
  refine sP Try.f33 8 0 (v := x11) ?_
  refine sD Try.f33 8 1 (fun v1 S1 => ?_)
  refine sP Try.f33 8 2 (v := v1) ?_
  refine sG Try.f33 8 3 (j := 2) (fun v3 S2 => ?_)
  refine sG Try.f33 8 4 (j := 2) (fun v4 S3 => ?_)
  refine sD Try.f33 8 5 (fun v5 S4 => ?_)
  kernel_rfl
theorem wire_ReadNums.r9  : vOps Try.prog ⟨false, false, false⟩ (vlim Try.prog O) (reg Try.f33 9) (reg Try.f33 9).toList ([x0,x1,x2,x3,x4,x5,x6,x7,x8,x9,x10,x11,x12,x13,x14,x15,x16,x17,x18,x19,x20,x21,x22,x23,x24,x25,x26,x27,x28,x29,x30,x31,x32,x33,x34,x35,x36,x37,x38,x39,x40,x41,x42,x43,x44]) S =
    ( some ([x0,x1,x2,x3,Value.slice none 0 0,Value.slice none 0 0,Value.int IntKind.i64 11,x7,x8,x9,x10,x11,x12,x13,x14,x15,x16,x17,x18,x19,x20,x21,x22,x23,x24,x25,x26,x27,x28,x29,x30,x31,x32,x33,x34,x35,x36,x37,x38,x39,x40,x41,x42,x43,x44], S)) := by
  refine sP Try.f33 9 0 (v := (Value.slice none 0 0)) ?_
  refine sP Try.f33 9 1 (v := (Value.slice none 0 0)) ?_
  refine sP Try.f33 9 2 (v := (Value.int IntKind.i64 11)) ?_
  kernel_rfl
theorem wire_ReadNums.r10  : vOps Try.prog ⟨false, false, false⟩ (vlim Try.prog O) (reg Try.f33 10) (reg Try.f33 10).toList ([x0,x1,x2,x3,x4,x5,x6,x7,x8,x9,x10,x11,x12,x13,x14,x15,x16,x17,x18,x19,x20,x21,x22,x23,x24,x25,x26,x27,x28,x29,x30,x31,x32,x33,x34,x35,x36,x37,x38,x39,x40,x41,x42,x43,x44]) S =
    (andK (vConvF Try.prog false false 68 3 (dem x9) S) (fun v2 S1 => andK (vBin Try.prog BinOp.sub 3 v2 (Value.int IntKind.i64 1) S1) (fun v3 S2 => andK (vBuildSlice Try.prog 53 1 [(0, v3)] S2) (fun v4 S3 => andK (vAppend Try.prog 53 53 x8 v4 S3) (fun v5 S4 => some ([x0,x1,x2,x3,x4,x5,x6,x7,v5,x9,x10,x11,x12,x13,x14,x15,x16,x17,x18,x19,x20,x21,x22,x23,x24,x25,x26,x27,x28,x29,x30,x31,x32,x33,x34,dem x8,dem x9,v2,v3,v4,dem v5,x41,x42,x43,x44], S4)) ()) ()) ()) ()) := by
  refine sP Try.f33 10 0 (v := x8) ?_
  refine sP Try.f33 10 1 (v := x9) ?_
  refine sD Try.f33 10 2 (fun v2 S1 => ?_)
  refine sD Try.f33 10 3 (fun v3 S2 => ?_)
  refine sD Try.f33 10 4 (fun v4 S3 => ?_)
  refine sD Try.f33 10 5 (fun v5 S4 => ?_)
  refine sP Try.f33 10 6 (v := v5) ?_
  kernel_rfl
theorem wire_ReadNums.r11  : vOps Try.prog ⟨false, false, false⟩ (vlim Try.prog O) (reg Try.f33 11) (reg Try.f33 11).toList ([x0,x1,x2,x3,x4,x5,x6,x7,x8,x9,x10,x11,x12,x13,x14,x15,x16,x17,x18,x19,x20,x21,x22,x23,x24,x25,x26,x27,x28,x29,x30,x31,x32,x33,x34,x35,x36,x37,x38,x39,x40,x41,x42,x43,x44]) S =
    ( some ([x0,x1,x2,x3,x4,x5,x6,x10,x8,x9,dem x10,x11,x12,x13,x14,x15,x16,x17,x18,x19,x20,x21,x22,x23,x24,x25,x26,x27,x28,x29,x30,x31,x32,x33,x34,x35,x36,x37,x38,x39,x40,dem x10,x42,x43,x44], S)) := by
  refine sP Try.f33 11 0 (v := x10) ?_
  refine sP Try.f33 11 1 (v := x10) ?_
  kernel_rfl
theorem wire_ReadNums.r12  : vOps Try.prog ⟨false, false, false⟩ (vlim Try.prog O) (reg Try.f33 12) (reg Try.f33 12).toList ([x0,x1,x2,x3,x4,x5,x6,x7,x8,x9,x10,x11,x12,x13,x14,x15,x16,x17,x18,x19,x20,x21,x22,x23,x24,x25,x26,x27,x28,x29,x30,x31,x32,x33,x34,x35,x36,x37,x38,x39,x40,x41,x42,x43,x44]) S =
    (andK (vBin Try.prog BinOp.add 3 x21 (Value.int IntKind.i64 1) S) (fun v0 S1 => some ([x0,x1,x2,x3,x4,x5,x6,x7,x8,x9,x10,x11,x12,x13,x14,x15,x16,x17,x18,x19,x20,dem v0,x22,x23,x24,x25,x26,x27,x28,x29,x30,x31,x32,x33,x34,x35,x36,x37,x38,x39,x40,x41,v0,x43,x44], S1)) ()) := by
  refine sD Try.f33 12 0 (fun v0 S1 => ?_)
  refine sP Try.f33 12 1 (v := v0) ?_
  kernel_rfl
theorem wire_ReadNums.r13  : vOps Try.prog ⟨false, false, false⟩ (vlim Try.prog O) (reg Try.f33 13) (reg Try.f33 13).toList ([x0,x1,x2,x3,x4,x5,x6,x7,x8,x9,x10,x11,x12,x13,x14,x15,x16,x17,x18,x19,x20,x21,x22,x23,x24,x25,x26,x27,x28,x29,x30,x31,x32,x33,x34,x35,x36,x37,x38,x39,x40,x41,x42,x43,x44]) S =
    ( some ([x0,x1,x2,x3,x8,x7,Value.int IntKind.i64 0,dem x7,dem x8,x9,x10,x11,x12,x13,x14,x15,x16,x17,x18,x19,x20,x21,x22,x23,x24,x25,x26,x27,x28,x29,x30,x31,x32,x33,x34,x35,x36,x37,x38,x39,x40,x41,x42,dem x8,dem x7], S)) := by
  refine sP Try.f33 13 0 (v := x8) ?_
  refine sP Try.f33 13 1 (v := x7) ?_
  refine sP Try.f33 13 2 (v := x8) ?_
  refine sP Try.f33 13 3 (v := x7) ?_
  refine sP Try.f33 13 4 (v := (Value.int IntKind.i64 0)) ?_
  kernel_rfl
theorem wire_ReadNums.rs : type_of% (And.intro @wire_ReadNums.r0 (And.intro @wire_ReadNums.r1 (And.intro @wire_ReadNums.r2 (And.intro @wire_ReadNums.r3 (And.intro @wire_ReadNums.r4 (And.intro @wire_ReadNums.r5 (And.intro @wire_ReadNums.r6 (And.intro @wire_ReadNums.r7 (And.intro @wire_ReadNums.r8 (And.intro @wire_ReadNums.r9 (And.intro @wire_ReadNums.r10 (And.intro @wire_ReadNums.r11 (And.intro @wire_ReadNums.r12 (@wire_ReadNums.r13)))))))))))))) := And.intro @wire_ReadNums.r0 (And.intro @wire_ReadNums.r1 (And.intro @wire_ReadNums.r2 (And.intro @wire_ReadNums.r3 (And.intro @wire_ReadNums.r4 (And.intro @wire_ReadNums.r5 (And.intro @wire_ReadNums.r6 (And.intro @wire_ReadNums.r7 (And.intro @wire_ReadNums.r8 (And.intro @wire_ReadNums.r9 (And.intro @wire_ReadNums.r10 (And.intro @wire_ReadNums.r11 (And.intro @wire_ReadNums.r12 (@wire_ReadNums.r13)))))))))))))
theorem wire_ReadNums.runs {x0 x1 : Value} {S S1 : AHeap} {e : AEx} {T : List Value} (h : vcodeV Try.prog O false wire_ReadNums.code ([x0,x1,undef,undef,undef,undef,undef,undef,undef,undef,undef,undef,undef,undef,undef,undef,undef,undef,undef,undef,undef,undef,undef,undef,undef,undef,undef,undef,undef,undef,undef,undef,undef,undef,undef,undef,undef,undef,undef,undef,undef,undef,undef,undef,undef]) S = some (e, T, S1)) (he : e = .normal ∨ e = .ret)  (h0 : notTuple (T.getD 4 undef) = true) (h1 : notTuple (T.getD 5 undef) = true) (h2 : notTuple (T.getD 6 undef) = true) : vlim Try.prog O 33 [x0, x1] S = some (Value.tuple #[T.getD 4 undef, T.getD 5 undef, T.getD 6 undef], S1) :=
  vlim_code rfl rfl Try.func33 (by decide) wire_ReadNums.body (by exact h) he ((vRes_many ((show vResVals Try.prog T S1 Try.f33.results.toList = vResVals Try.prog T S1 [(ResultVar.tmp 4), (ResultVar.tmp 5), (ResultVar.tmp 6)] from by kernel_rfl).trans (by simp only [vResVals])) (by kernel_rfl) (by simp only [List.all_cons, List.all_nil, h0, h1, h2, Bool.and_true])).trans rfl)
end Go.Proofs.Ytgggklfbhmlapaa

namespace Go.Proofs.Ytgggklfbhmlapaa
open Go.Abs

/-- neaptide.neaptideref01.ReadNums -/
abbrev neaptideref01_ReadNums.id : FuncId := 35
noncomputable def neaptideref01_ReadNums.loop1 : Code := (Code.seq (Code.seq (Code.region 6 (reg Try.f35 6) false) (Code.cond (Operand.tmp 25) Code.skip (Code.exit 0))) (Code.seq (Code.block 1 (Code.seq (Code.region 8 (reg Try.f35 8) false) (Code.seq (Code.seq (Code.region 9 (reg Try.f35 9) false) (Code.cond (Operand.tmp 39) (Code.seq (Code.region 10 (reg Try.f35 10) false) Code.ret) Code.skip)) (Code.seq (Code.region 11 (reg Try.f35 11) false) (Code.region 12 (reg Try.f35 12) false))))) (Code.region 7 (reg Try.f35 7) false)))
noncomputable def neaptideref01_ReadNums.code : Code := (Code.seq (Code.region 0 (reg Try.f35 0) false) (Code.seq (Code.seq (Code.region 1 (reg Try.f35 1) false) (Code.cond (Operand.tmp 18) (Code.seq (Code.region 2 (reg Try.f35 2) false) Code.ret) Code.skip)) (Code.seq (Code.region 3 (reg Try.f35 3) false) (Code.seq (Code.region 4 (reg Try.f35 4) false) (Code.seq (Code.seq (Code.region 5 (reg Try.f35 5) false) (Code.block 0 (Code.loop neaptideref01_ReadNums.loop1))) (Code.seq (Code.region 13 (reg Try.f35 13) false) Code.ret))))))
theorem neaptideref01_ReadNums.body : Try.f35.body = some neaptideref01_ReadNums.code := by kernel_rfl
theorem neaptideref01_ReadNums.eta {T : List Value} (h : T.length = 49) : T = [T.getD 0 undef,T.getD 1 undef,T.getD 2 undef,T.getD 3 undef,T.getD 4 undef,T.getD 5 undef,T.getD 6 undef,T.getD 7 undef,T.getD 8 undef,T.getD 9 undef,T.getD 10 undef,T.getD 11 undef,T.getD 12 undef,T.getD 13 undef,T.getD 14 undef,T.getD 15 undef,T.getD 16 undef,T.getD 17 undef,T.getD 18 undef,T.getD 19 undef,T.getD 20 undef,T.getD 21 undef,T.getD 22 undef,T.getD 23 undef,T.getD 24 undef,T.getD 25 undef,T.getD 26 undef,T.getD 27 undef,T.getD 28 undef,T.getD 29 undef,T.getD 30 undef,T.getD 31 undef,T.getD 32 undef,T.getD 33 undef,T.getD 34 undef,T.getD 35 undef,T.getD 36 undef,T.getD 37 undef,T.getD 38 undef,T.getD 39 undef,T.getD 40 undef,T.getD 41 undef,T.getD 42 undef,T.getD 43 undef,T.getD 44 undef,T.getD 45 undef,T.getD 46 undef,T.getD 47 undef,T.getD 48 undef] := (list_getD T 49 h).trans (by kernel_rfl)
theorem neaptideref01_ReadNums.list {T : List Value} (h : T.length = 49) : ∃ x0 x1 x2 x3 x4 x5 x6 x7 x8 x9 x10 x11 x12 x13 x14 x15 x16 x17 x18 x19 x20 x21 x22 x23 x24 x25 x26 x27 x28 x29 x30 x31 x32 x33 x34 x35 x36 x37 x38 x39 x40 x41 x42 x43 x44 x45 x46 x47 x48, T = [x0,x1,x2,x3,x4,x5,x6,x7,x8,x9,x10,x11,x12,x13,x14,x15,x16,x17,x18,x19,x20,x21,x22,x23,x24,x25,x26,x27,x28,x29,x30,x31,x32,x33,x34,x35,x36,x37,x38,x39,x40,x41,x42,x43,x44,x45,x46,x47,x48] := ⟨_, _, _, _, _, _, _, _, _, _, _, _, _, _, _, _, _, _, _, _, _, _, _, _, _, _, _, _, _, _, _, _, _, _, _, _, _, _, _, _, _, _, _, _, _, _, _, _, _, neaptideref01_ReadNums.eta h⟩
variable (x0 x1 x2 x3 x4 x5 x6 x7 x8 x9 x10 x11 x12 x13 x14 x15 x16 x17 x18 x19 x20 x21 x22 x23 x24 x25 x26 x27 x28 x29 x30 x31 x32 x33 x34 x35 x36 x37 x38 x39 x40 x41 x42 x43 x44 x45 x46 x47 x48 : Value) (S : AHeap)
theorem neaptideref01_ReadNums.r0  : vOps Try.prog ⟨false, false, false⟩ (vlim Try.prog O) (reg Try.f35 0) (reg Try.f35 0).toList ([x0,x1,x2,x3,x4,x5,x6,x7,x8,x9,x10,x11,x12,x13,x14,x15,x16,x17,x18,x19,x20,x21,x22,x23,x24,x25,x26,x27,x28,x29,x30,x31,x32,x33,x34,x35,x36,x37,x38,x39,x40,x41,x42,x43,x44,x45,x46,x47,x48]) S =
    ( some ([x0,x1,x2,x3,Value.slice none 0 0,Value.slice none 0 0,Value.int IntKind.i64 0,x7,x8,x9,x10,x11,x12,x13,x14,x15,x16,x17,x18,x19,x20,x21,x22,x23,x24,x25,x26,x27,x28,x29,x30,x31,x32,x33,x34,x35,x36,x37,x38,x39,x40,x41,x42,x43,x44,x45,x46,x47,x48], S)) := by
  refine sP Try.f35 0 0 (v := (Value.slice none 0 0)) ?_
  refine sP Try.f35 0 1 (v := (Value.slice none 0 0)) ?_
  refine sP Try.f35 0 2 (v := (Value.int IntKind.i64 0)) ?_
  kernel_rfl
theorem neaptideref01_ReadNums.r1  : vOps Try.prog ⟨false, false, false⟩ (vlim Try.prog O) (reg Try.f35 1) (reg Try.f35 1).toList ([x0,x1,x2,x3,x4,x5,x6,x7,x8,x9,x10,x11,x12,x13,x14,x15,x16,x17,x18,x19,x20,x21,x22,x23,x24,x25,x26,x27,x28,x29,x30,x31,x32,x33,x34,x35,x36,x37,x38,x39,x40,x41,x42,x43,x44,x45,x46,x47,x48]) S =
    (andK (vBin Try.prog BinOp.lss 3 (dem x1) (Value.int IntKind.i64 0) S) (fun v1 S1 => gdK (dem v1) false (ret x1) S1 (fun v3 S2 => gdK (dem v1) false (vBin Try.prog BinOp.gtr 3 (dem v3) (Value.int IntKind.i64 64)) S2 (fun v4 S3 => andK (vPick (dem v1) (Value.bool true) v4 S3) (fun v5 S4 => some ([x0,x1,x2,x3,x4,x5,x6,x7,x8,x9,x10,x11,x12,dem x1,v1,dem v1,dem v3,v4,v5,x19,x20,x21,x22,x23,x24,x25,x26,x27,x28,x29,x30,x31,x32,x33,x34,x35,x36,x37,x38,x39,x40,x41,x42,x43,x44,x45,x46,x47,x48], S4)) ()) ()) ()) ()) := by
  refine sP Try.f35 1 0 (v := x1) ?_
  refine sD Try.f35 1 1 (fun v1 S1 => ?_)
  refine sP Try.f35 1 2 (v := v1) ?_
  refine sG Try.f35 1 3 (j := 2) (fun v3 S2 => ?_)
  refine sG Try.f35 1 4 (j := 2) (fun v4 S3 => ?_)
  refine sD Try.f35 1 5 (fun v5 S4 => ?_)
  kernel_rfl
theorem neaptideref01_ReadNums.r2  : vOps Try.prog ⟨false, false, false⟩ (vlim Try.prog O) (reg Try.f35 2) (reg Try.f35 2).toList ([x0,x1,x2,x3,x4,x5,x6,x7,x8,x9,x10,x11,x12,x13,x14,x15,x16,x17,x18,x19,x20,x21,x22,x23,x24,x25,x26,x27,x28,x29,x30,x31,x32,x33,x34,x35,x36,x37,x38,x39,x40,x41,x42,x43,x44,x45,x46,x47,x48]) S =
    ( some ([x0,x1,x2,x3,Value.slice none 0 0,Value.slice none 0 0,Value.int IntKind.i64 11,x7,x8,x9,x10,x11,x12,x13,x14,x15,x16,x17,x18,x19,x20,x21,x22,x23,x24,x25,x26,x27,x28,x29,x30,x31,x32,x33,x34,x35,x36,x37,x38,x39,x40,x41,x42,x43,x44,x45,x46,x47,x48], S)) := by
  refine sP Try.f35 2 0 (v := (Value.slice none 0 0)) ?_
  refine sP Try.f35 2 1 (v := (Value.slice none 0 0)) ?_
  refine sP Try.f35 2 2 (v := (Value.int IntKind.i64 11)) ?_
  kernel_rfl
theorem neaptideref01_ReadNums.r3  : vOps Try.prog ⟨false, false, false⟩ (vlim Try.prog O) (reg Try.f35 3) (reg Try.f35 3).toList ([x0,x1,x2,x3,x4,x5,x6,x7,x8,x9,x10,x11,x12,x13,x14,x15,x16,x17,x18,x19,x20,x21,x22,x23,x24,x25,x26,x27,x28,x29,x30,x31,x32,x33,x34,x35,x36,x37,x38,x39,x40,x41,x42,x43,x44,x45,x46,x47,x48]) S =
    (andK (vBuildSlice Try.prog 53 0 [] S) (fun v0 S1 => some ([x0,x1,x2,x3,x4,x5,x6,v0,x8,x9,x10,x11,x12,x13,x14,x15,x16,x17,x18,dem v0,x20,x21,x22,x23,x24,x25,x26,x27,x28,x29,x30,x31,x32,x33,x34,x35,x36,x37,x38,x39,x40,x41,x42,x43,x44,x45,x46,x47,x48], S1)) ()) := by
  refine sD Try.f35 3 0 (fun v0 S1 => ?_)
  refine sP Try.f35 3 1 (v := v0) ?_
  kernel_rfl
theorem neaptideref01_ReadNums.r4  : vOps Try.prog ⟨false, false, false⟩ (vlim Try.prog O) (reg Try.f35 4) (reg Try.f35 4).toList ([x0,x1,x2,x3,x4,x5,x6,x7,x8,x9,x10,x11,x12,x13,x14,x15,x16,x17,x18,x19,x20,x21,x22,x23,x24,x25,x26,x27,x28,x29,x30,x31,x32,x33,x34,x35,x36,x37,x38,x39,x40,x41,x42,x43,x44,x45,x46,x47,x48]) S =
    (andK (vBuildSlice Try.prog 33 0 [] S) (fun v0 S1 => andK (vAppend Try.prog 33 33 v0 (dem x0) S1) (fun v2 S2 => some ([x0,x1,x2,x3,x4,x5,x6,x7,v2,x9,x10,x11,x12,x13,x14,x15,x16,x17,x18,x19,dem v0,dem x0,dem v2,x23,x24,x25,x26,x27,x28,x29,x30,x31,x32,x33,x34,x35,x36,x37,x38,x39,x40,x41,x42,x43,x44,x45,x46,x47,x48], S2)) ()) ()) := by
  refine sD Try.f35 4 0 (fun v0 S1 => ?_)
  refine sP Try.f35 4 1 (v := x0) ?_
  refine sD Try.f35 4 2 (fun v2 S2 => ?_)
  refine sP Try.f35 4 3 (v := v2) ?_
  kernel_rfl
theorem neaptideref01_ReadNums.r5  : vOps Try.prog ⟨false, false, false⟩ (vlim Try.prog O) (reg Try.f35 5) (reg Try.f35 5).toList ([x0,x1,x2,x3,x4,x5,x6,x7,x8,x9,x10,x11,x12,x13,x14,x15,x16,x17,x18,x19,x20,x21,x22,x23,x24,x25,x26,x27,x28,x29,x30,x31,x32,x33,x34,x35,x36,x37,x38,x39,x40,x41,x42,x43,x44,x45,x46,x47,x48]) S =
    ( some ([x0,x1,x2,x3,x4,x5,x6,x7,x8,Value.int IntKind.i64 0,x10,x11,x12,x13,x14,x15,x16,x17,x18,x19,x20,x21,x22,x23,x24,x25,x26,x27,x28,x29,x30,x31,x32,x33,x34,x35,x36,x37,x38,x39,x40,x41,x42,x43,x44,x45,x46,x47,x48], S)) := by
  refine sP Try.f35 5 0 (v := (Value.int IntKind.i64 0)) ?_
  kernel_rfl
theorem neaptideref01_ReadNums.r6  : vOps Try.prog ⟨false, false, false⟩ (vlim Try.prog O) (reg Try.f35 6) (reg Try.f35 6).toList ([x0,x1,x2,x3,x4,x5,x6,x7,x8,x9,x10,x11,x12,x13,x14,x15,x16,x17,x18,x19,x20,x21,x22,x23,x24,x25,x26,x27,x28,x29,x30,x31,x32,x33,x34,x35,x36,x37,x38,x39,x40,x41,x42,x43,x44,x45,x46,x47,x48]) S =
    (andK (vBin Try.prog BinOp.lss 3 (dem x9) (dem x1) S) (fun v2 S1 => some ([x0,x1,x2,x3,x4,x5,x6,x7,x8,x9,x10,x11,x12,x13,x14,x15,x16,x17,x18,x19,x20,x21,x22,dem x9,dem x1,v2,x26,x27,x28,x29,x30,x31,x32,x33,x34,x35,x36,x37,x38,x39,x40,x41,x42,x43,x44,x45,x46,x47,x48], S1)) ()) := by
  refine sP Try.f35 6 0 (v := x9) ?_
  refine sP Try.f35 6 1 (v := x1) ?_
  refine sD Try.f35 6 2 (fun v2 S1 => ?_)
  kernel_rfl
theorem neaptideref01_ReadNums.r8  : vOps Try.prog ⟨false, false, false⟩ (vlim Try.prog O) (reg Try.f35 8) (reg Try.f35 8).toList ([x0,x1,x2,x3,x4,x5,x6,x7,x8,x9,x10,x11,x12,x13,x14,x15,x16,x17,x18,x19,x20,x21,x22,x23,x24,x25,x26,x27,x28,x29,x30,x31,x32,x33,x34,x35,x36,x37,x38,x39,x40,x41,x42,x43,x44,x45,x46,x47,x48]) S =
    (andK ((vlim Try.prog O) 46 [(dem (dem x8))] S) (fun v1 S1 => andK (aExtract v1 0 S1) (fun v3 S2 => andK (aExtract (demPart 0 v1) 1 S2) (fun v4 S3 => andK (aExtract (demPart 1 (demPart 0 v1)) 2 S3) (fun v5 S4 => some ([x0,x1,x2,x3,x4,x5,x6,x7,x8,x9,v3,v4,v5,x13,x14,x15,x16,x17,x18,x19,x20,x21,x22,x23,x24,x25,x26,x27,demPart 2 (demPart 1 (demPart 0 v1)),dem x8,dem v1,dem v3,dem v4,dem v5,x34,x35,x36,x37,x38,x39,x40,x41,x42,x43,x44,x45,x46,x47,x48], S4)) ()) ()) ()) ()) := by
  refine sP Try.f35 8 0 (v := x8) ?_
  refine sD Try.f35 8 1 (fun v1 S1 => ?_)
  refine sP Try.f35 8 2 (v := v1) ?_
  refine sD Try.f35 8 3 (fun v3 S2 => ?_)
  refine sD Try.f35 8 4 (fun v4 S3 => ?_)
  refine sD Try.f35 8 5 (fun v5 S4 => ?_)
  refine sP Try.f35 8 6 (v := v3) ?_
  refine sP Try.f35 8 7 (v := v4) ?_
  refine sP Try.f35 8 8 (v := v5) ?_
  kernel_rfl
theorem neaptideref01_ReadNums.r9  : vOps Try.prog ⟨false, false, false⟩ (vlim Try.prog O) (reg Try.f35 9) (reg Try.f35 9).toList ([x0,x1,x2,x3,x4,x5,x6,x7,x8,x9,x10,x11,x12,x13,x14,x15,x16,x17,x18,x19,x20,x21,x22,x23,x24,x25,x26,x27,x28,x29,x30,x31,x32,x33,x34,x35,x36,x37,x38,x39,x40,x41,x42,x43,x44,x45,x46,x47,x48]) S =
    (andK (vBin Try.prog BinOp.neq 3 (dem x12) (Value.int IntKind.i64 0) S) (fun v1 S1 => gdK (dem v1) false (ret x10) S1 (fun v3 S2 => gdK (dem v1) false (vBin Try.prog BinOp.gtr 68 (dem v3) (Value.int IntKind.u64 4611686018427387905)) S2 (fun v4 S3 => andK (vPick (dem v1) (Value.bool true) v4 S3) (fun v5 S4 => some ([x0,x1,x2,x3,x4,x5,x6,x7,x8,x9,x10,x11,x12,x13,x14,x15,x16,x17,x18,x19,x20,x21,x22,x23,x24,x25,x26,x27,x28,x29,x30,x31,x32,x33,dem x12,v1,dem v1,dem v3,v4,v5,x40,x41,x42,x43,x44,x45,x46,x47,x48], S4)) ()) ()) ()) ()) := by
  refine sP Try.f35 9 0 (v := x12) ?_
  refine sD Try.f35 9 1 (fun v1 S1 => ?_)
  refine sP Try.f35 9 2 (v := v1) ?_
  refine sG Try.f35 9 3 (j := 2) (fun v3 S2 => ?_)
  refine sG Try.f35 9 4 (j := 2) (fun v4 S3 => ?_)
  refine sD Try.f35 9 5 (fun v5 S4 => ?_)
  kernel_rfl
theorem neaptideref01_ReadNums.r10  : vOps Try.prog ⟨false, false, false⟩ (vlim Try.prog O) (reg Try.f35 10) (reg Try.f35 10).toList ([x0,x1,x2,x3,x4,x5,x6,x7,x8,x9,x10,x11,x12,x13,x14,x15,x16,x17,x18,x19,x20,x21,x22,x23,x24,x25,x26,x27,x28,x29,x30,x31,x32,x33,x34,x35,x36,x37,x38,x39,x40,x41,x42,x43,x44,x45,x46,x47,x48]) S =
    ( some ([x0,x1,x2,x3,Value.slice none 0 0,Value.slice none 0 0,Value.int IntKind.i64 11,x7,x8,x9,x10,x11,x12,x13,x14,x15,x16,x17,x18,x19,x20,x21,x22,x23,x24,x25,x26,x27,x28,x29,x30,x31,x32,x33,x34,x35,x36,x37,x38,x39,x40,x41,x42,x43,x44,x45,x46,x47,x48], S)) := by
  refine sP Try.f35 10 0 (v := (Value.slice none 0 0)) ?_
  refine sP Try.f35 10 1 (v := (Value.slice none 0 0)) ?_
  refine sP Try.f35 10 2 (v := (Value.int IntKind.i64 11)) ?_
  kernel_rfl
theorem neaptideref01_ReadNums.r11  : vOps Try.prog ⟨false, false, false⟩ (vlim Try.prog O) (reg Try.f35 11) (reg Try.f35 11).toList ([x0,x1,x2,x3,x4,x5,x6,x7,x8,x9,x10,x11,x12,x13,x14,x15,x16,x17,x18,x19,x20,x21,x22,x23,x24,x25,x26,x27,x28,x29,x30,x31,x32,x33,x34,x35,x36,x37,x38,x39,x40,x41,x42,x43,x44,x45,x46,x47,x48]) S =
    (andK (vConvF Try.prog false false 68 3 (dem x10) S) (fun v2 S1 => andK (vBin Try.prog BinOp.sub 3 v2 (Value.int IntKind.i64 1) S1) (fun v3 S2 => andK (vBuildSlice Try.prog 53 1 [(0, v3)] S2) (fun v4 S3 => andK (vAppend Try.prog 53 53 x7 v4 S3) (fun v5 S4 => some ([x0,x1,x2,x3,x4,x5,x6,v5,x8,x9,x10,x11,x12,x13,x14,x15,x16,x17,x18,x19,x20,x21,x22,x23,x24,x25,x26,x27,x28,x29,x30,x31,x32,x33,x34,x35,x36,x37,x38,x39,dem x7,dem x10,v2,v3,v4,dem v5,x46,x47,x48], S4)) ()) ()) ()) ()) := by
  refine sP Try.f35 11 0 (v := x7) ?_
  refine sP Try.f35 11 1 (v := x10) ?_
  refine sD Try.f35 11 2 (fun v2 S1 => ?_)
  refine sD Try.f35 11 3 (fun v3 S2 => ?_)
  refine sD Try.f35 11 4 (fun v4 S3 => ?_)
  refine sD Try.f35 11 5 (fun v5 S4 => ?_)
  refine sP Try.f35 11 6 (v := v5) ?_
  kernel_rfl
theorem neaptideref01_ReadNums.r12  : vOps Try.prog ⟨false, false, false⟩ (vlim Try.prog O) (reg Try.f35 12) (reg Try.f35 12).toList ([x0,x1,x2,x3,x4,x5,x6,x7,x8,x9,x10,x11,x12,x13,x14,x15,x16,x17,x18,x19,x20,x21,x22,x23,x24,x25,x26,x27,x28,x29,x30,x31,x32,x33,x34,x35,x36,x37,x38,x39,x40,x41,x42,x43,x44,x45,x46,x47,x48]) S =
    ( some ([x0,x1,x2,x3,x4,x5,x6,x7,x11,x9,x10,dem x11,x12,x13,x14,x15,x16,x17,x18,x19,x20,x21,x22,x23,x24,x25,x26,x27,x28,x29,x30,x31,x32,x33,x34,x35,x36,x37,x38,x39,x40,x41,x42,x43,x44,x45,dem x11,x47,x48], S)) := by
  refine sP Try.f35 12 0 (v := x11) ?_
  refine sP Try.f35 12 1 (v := x11) ?_
  kernel_rfl
theorem neaptideref01_ReadNums.r7  : vOps Try.prog ⟨false, false, false⟩ (vlim Try.prog O) (reg Try.f35 7) (reg Try.f35 7).toList ([x0,x1,x2,x3,x4,x5,x6,x7,x8,x9,x10,x11,x12,x13,x14,x15,x16,x17,x18,x19,x20,x21,x22,x23,x24,x25,x26,x27,x28,x29,x30,x31,x32,x33,x34,x35,x36,x37,x38,x39,x40,x41,x42,x43,x44,x45,x46,x47,x48]) S =
    (andK (vBin Try.prog BinOp.add 3 (dem x9) (Value.int IntKind.i64 1) S) (fun v1 S1 => some ([x0,x1,x2,x3,x4,x5,x6,x7,x8,v1,x10,x11,x12,x13,x14,x15,x16,x17,x18,x19,x20,x21,x22,x23,x24,x25,dem x9,dem v1,x28,x29,x30,x31,x32,x33,x34,x35,x36,x37,x38,x39,x40,x41,x42,x43,x44,x45,x46,x47,x48], S1)) ()) := by
  refine sP Try.f35 7 0 (v := x9) ?_
  refine sD Try.f35 7 1 (fun v1 S1 => ?_)
  refine sP Try.f35 7 2 (v := v1) ?_
  kernel_rfl
theorem neaptideref01_ReadNums.r13  : vOps Try.prog ⟨false, false, false⟩ (vlim Try.prog O) (reg Try.f35 13) (reg Try.f35 13).toList ([x0,x1,x2,x3,x4,x5,x6,x7,x8,x9,x10,x11,x12,x13,x14,x15,x16,x17,x18,x19,x20,x21,x22,x23,x24,x25,x26,x27,x28,x29,x30,x31,x32,x33,x34,x35,x36,x37,x38,x39,x40,x41,x42,x43,x44,x45,x46,x47,x48]) S =
    ( some ([x0,x1,x2,x3,x7,x8,Value.int IntKind.i64 0,dem x7,dem x8,x9,x10,x11,x12,x13,x14,x15,x16,x17,x18,x19,x20,x21,x22,x23,x24,x25,x26,x27,x28,x29,x30,x31,x32,x33,x34,x35,x36,x37,x38,x39,x40,x41,x42,x43,x44,x45,x46,dem x7,dem x8], S)) := by
  refine sP Try.f35 13 0 (v := x7) ?_
  refine sP Try.f35 13 1 (v := x8) ?_
  refine sP Try.f35 13 2 (v := x7) ?_
  refine sP Try.f35 13 3 (v := x8) ?_
  refine sP Try.f35 13 4 (v := (Value.int IntKind.i64 0)) ?_
  kernel_rfl
theorem neaptideref01_ReadNums.rs : type_of% (And.intro @neaptideref01_ReadNums.r0 (And.intro @neaptideref01_ReadNums.r1 (And.intro @neaptideref01_ReadNums.r2 (And.intro @neaptideref01_ReadNums.r3 (And.intro @neaptideref01_ReadNums.r4 (And.intro @neaptideref01_ReadNums.r5 (And.intro @neaptideref01_ReadNums.r6 (And.intro @neaptideref01_ReadNums.r8 (And.intro @neaptideref01_ReadNums.r9 (And.intro @neaptideref01_ReadNums.r10 (And.intro @neaptideref01_ReadNums.r11 (And.intro @neaptideref01_ReadNums.r12 (And.intro @neaptideref01_ReadNums.r7 (@neaptideref01_ReadNums.r13)))))))))))))) := And.intro @neaptideref01_ReadNums.r0 (And.intro @neaptideref01_ReadNums.r1 (And.intro @neaptideref01_ReadNums.r2 (And.intro @neaptideref01_ReadNums.r3 (And.intro @neaptideref01_ReadNums.r4 (And.intro @neaptideref01_ReadNums.r5 (And.intro @neaptideref01_ReadNums.r6 (And.intro @neaptideref01_ReadNums.r8 (And.intro @neaptideref01_ReadNums.r9 (And.intro @neaptideref01_ReadNums.r10 (And.intro @neaptideref01_ReadNums.r11 (And.intro @neaptideref01_ReadNums.r12 (And.intro @neaptideref01_ReadNums.r7 (@neaptideref01_ReadNums.r13)))))))))))))
theorem neaptideref01_ReadNums.runs {x0 x1 : Value} {S S1 : AHeap} {e : AEx} {T : List Value} (h : vcodeV Try.prog O false neaptideref01_ReadNums.code ([x0,x1,undef,undef,undef,undef,undef,undef,undef,undef,undef,undef,undef,undef,undef,undef,undef,undef,undef,undef,undef,undef,undef,undef,undef,undef,undef,undef,undef,undef,undef,undef,undef,undef,undef,undef,undef,undef,undef,undef,undef,undef,undef,undef,undef,undef,undef,undef,undef]) S = some (e, T, S1)) (he : e = .normal ∨ e = .ret)  (h0 : notTuple (T.getD 4 undef) = true) (h1 : notTuple (T.getD 5 undef) = true) (h2 : notTuple (T.getD 6 undef) = true) : vlim Try.prog O 35 [x0, x1] S = some (Value.tuple #[T.getD 4 undef, T.getD 5 undef, T.getD 6 undef], S1) :=
  vlim_code rfl rfl Try.func35 (by decide) neaptideref01_ReadNums.body (by exact h) he ((vRes_many ((show vResVals Try.prog T S1 Try.f35.results.toList = vResVals Try.prog T S1 [(ResultVar.tmp 4), (ResultVar.tmp 5), (ResultVar.tmp 6)] from by kernel_rfl).trans (by simp only [vResVals])) (by kernel_rfl) (by simp only [List.all_cons, List.all_nil, h0, h1, h2, Bool.and_true])).trans rfl)
end Go.Proofs.Ytgggklfbhmlapaa

namespace Go.Proofs.Ytgggklfbhmlapaa
open Go.Abs

/-- neaptide.wire.Nums -/
abbrev wire_Nums.id : FuncId := 28
noncomputable def wire_Nums.loop1 : Code := (Code.seq (Code.region 5 (reg Try.f28 5) false) (Code.seq (Code.cond (Operand.tmp 13) Code.skip (Code.exit 0)) (Code.seq (Code.block 1 (Code.seq (Code.region 6 (reg Try.f28 6) false) (Code.seq (Code.seq (Code.region 7 (reg Try.f28 7) false) (Code.cond (Operand.tmp 17) (Code.seq (Code.region 8 (reg Try.f28 8) false) Code.ret) Code.skip)) (Code.region 9 (reg Try.f28 9) false)))) (Code.region 10 (reg Try.f28 10) false))))
noncomputable def wire_Nums.code : Code := (Code.seq (Code.region 0 (reg Try.f28 0) false) (Code.seq (Code.seq (Code.region 1 (reg Try.f28 1) false) (Code.cond (Operand.tmp 9) (Code.seq (Code.region 2 (reg Try.f28 2) false) Code.ret) Code.skip)) (Code.seq (Code.region 3 (reg Try.f28 3) false) (Code.seq (Code.seq (Code.region 4 (reg Try.f28 4) false) (Code.block 0 (Code.loop wire_Nums.loop1))) (Code.seq (Code.region 11 (reg Try.f28 11) false) Code.ret)))))
theorem wire_Nums.body : Try.f28.body = some wire_Nums.code := by kernel_rfl
theorem wire_Nums.eta {T : List Value} (h : T.length = 26) : T = [T.getD 0 undef,T.getD 1 undef,T.getD 2 undef,T.getD 3 undef,T.getD 4 undef,T.getD 5 undef,T.getD 6 undef,T.getD 7 undef,T.getD 8 undef,T.getD 9 undef,T.getD 10 undef,T.getD 11 undef,T.getD 12 undef,T.getD 13 undef,T.getD 14 undef,T.getD 15 undef,T.getD 16 undef,T.getD 17 undef,T.getD 18 undef,T.getD 19 undef,T.getD 20 undef,T.getD 21 undef,T.getD 22 undef,T.getD 23 undef,T.getD 24 undef,T.getD 25 undef] := (list_getD T 26 h).trans (by kernel_rfl)
theorem wire_Nums.list {T : List Value} (h : T.length = 26) : ∃ x0 x1 x2 x3 x4 x5 x6 x7 x8 x9 x10 x11 x12 x13 x14 x15 x16 x17 x18 x19 x20 x21 x22 x23 x24 x25, T = [x0,x1,x2,x3,x4,x5,x6,x7,x8,x9,x10,x11,x12,x13,x14,x15,x16,x17,x18,x19,x20,x21,x22,x23,x24,x25] := ⟨_, _, _, _, _, _, _, _, _, _, _, _, _, _, _, _, _, _, _, _, _, _, _, _, _, _, wire_Nums.eta h⟩
variable (x0 x1 x2 x3 x4 x5 x6 x7 x8 x9 x10 x11 x12 x13 x14 x15 x16 x17 x18 x19 x20 x21 x22 x23 x24 x25 : Value) (S : AHeap)
theorem wire_Nums.r0  : vOps Try.prog ⟨false, false, false⟩ (vlim Try.prog O) (reg Try.f28 0) (reg Try.f28 0).toList ([x0,x1,x2,x3,x4,x5,x6,x7,x8,x9,x10,x11,x12,x13,x14,x15,x16,x17,x18,x19,x20,x21,x22,x23,x24,x25]) S =
    ( some ([x0,x1,Value.slice none 0 0,Value.int IntKind.i64 0,x4,x5,x6,x7,x8,x9,x10,x11,x12,x13,x14,x15,x16,x17,x18,x19,x20,x21,x22,x23,x24,x25], S)) := by
  refine sP Try.f28 0 0 (v := (Value.slice none 0 0)) ?_
  refine sP Try.f28 0 1 (v := (Value.int IntKind.i64 0)) ?_
  kernel_rfl
theorem wire_Nums.r1  : vOps Try.prog ⟨false, false, false⟩ (vlim Try.prog O) (reg Try.f28 1) (reg Try.f28 1).toList ([x0,x1,x2,x3,x4,x5,x6,x7,x8,x9,x10,x11,x12,x13,x14,x15,x16,x17,x18,x19,x20,x21,x22,x23,x24,x25]) S =
    (andK (vLen Try.prog 53 (dem x0) S) (fun v1 S1 => andK (vBin Try.prog BinOp.gtr 3 v1 (Value.int IntKind.i64 64) S1) (fun v2 S2 => some ([x0,x1,x2,x3,x4,x5,x6,dem x0,v1,v2,x10,x11,x12,x13,x14,x15,x16,x17,x18,x19,x20,x21,x22,x23,x24,x25], S2)) ()) ()) := by
  refine sP Try.f28 1 0 (v := x0) ?_
  refine sD Try.f28 1 1 (fun v1 S1 => ?_)
  refine sD Try.f28 1 2 (fun v2 S2 => ?_)
  kernel_rfl
theorem wire_Nums.r2  : vOps Try.prog ⟨false, false, false⟩ (vlim Try.prog O) (reg Try.f28 2) (reg Try.f28 2).toList ([x0,x1,x2,x3,x4,x5,x6,x7,x8,x9,x10,x11,x12,x13,x14,x15,x16,x17,x18,x19,x20,x21,x22,x23,x24,x25]) S =
    ( some ([x0,x1,Value.slice none 0 0,Value.int IntKind.i64 11,x4,x5,x6,x7,x8,x9,x10,x11,x12,x13,x14,x15,x16,x17,x18,x19,x20,x21,x22,x23,x24,x25], S)) := by
  refine sP Try.f28 2 0 (v := (Value.slice none 0 0)) ?_
  refine sP Try.f28 2 1 (v := (Value.int IntKind.i64 11)) ?_
  kernel_rfl
theorem wire_Nums.r3  : vOps Try.prog ⟨false, false, false⟩ (vlim Try.prog O) (reg Try.f28 3) (reg Try.f28 3).toList ([x0,x1,x2,x3,x4,x5,x6,x7,x8,x9,x10,x11,x12,x13,x14,x15,x16,x17,x18,x19,x20,x21,x22,x23,x24,x25]) S =
    ( some ([x0,x1,x2,x3,Value.slice none 0 0,x5,x6,x7,x8,x9,x10,x11,x12,x13,x14,x15,x16,x17,x18,x19,x20,x21,x22,x23,x24,x25], S)) := by
  refine sP Try.f28 3 0 (v := (Value.slice none 0 0)) ?_
  kernel_rfl
theorem wire_Nums.r4  : vOps Try.prog ⟨false, false, false⟩ (vlim Try.prog O) (reg Try.f28 4) (reg Try.f28 4).toList ([x0,x1,x2,x3,x4,x5,x6,x7,x8,x9,x10,x11,x12,x13,x14,x15,x16,x17,x18,x19,x20,x21,x22,x23,x24,x25]) S =
    (andK (vLen Try.prog 53 (dem x0) S) (fun v1 S1 => some ([x0,x1,x2,x3,x4,x5,x6,x7,x8,x9,dem x0,v1,Value.int IntKind.i64 0,x13,x14,x15,x16,x17,x18,x19,x20,x21,x22,x23,x24,x25], S1)) ()) := by
  refine sP Try.f28 4 0 (v := x0) ?_
  refine sD Try.f28 4 1 (fun v1 S1 => ?_)
  refine sP Try.f28 4 2 (v := (Value.int IntKind.i64 0)) ?_
  kernel_rfl
theorem wire_Nums.r5  : vOps Try.prog ⟨false, false, false⟩ (vlim Try.prog O) (reg Try.f28 5) (reg Try.f28 5).toList ([x0,x1,x2,x3,x4,x5,x6,x7,x8,x9,x10,x11,x12,x13,x14,x15,x16,x17,x18,x19,x20,x21,x22,x23,x24,x25]) S =
    (andK (vBin Try.prog BinOp.lss 3 x12 x11 S) (fun v0 S1 => some ([x0,x1,x2,x3,x4,x5,x6,x7,x8,x9,x10,x11,x12,v0,x14,x15,x16,x17,x18,x19,x20,x21,x22,x23,x24,x25], S1)) ()) := by
  refine sD Try.f28 5 0 (fun v0 S1 => ?_)
  kernel_rfl
theorem wire_Nums.r6  : vOps Try.prog ⟨false, false, false⟩ (vlim Try.prog O) (reg Try.f28 6) (reg Try.f28 6).toList ([x0,x1,x2,x3,x4,x5,x6,x7,x8,x9,x10,x11,x12,x13,x14,x15,x16,x17,x18,x19,x20,x21,x22,x23,x24,x25]) S =
    (andK (vIndexAddr Try.prog 53 x10 x12 S) (fun v0 S1 => andK (vLoad Try.prog false 3 v0 S1) (fun v1 S2 => some ([x0,x1,x2,x3,x4,x5,v1,x7,x8,x9,x10,x11,x12,x13,v0,dem v1,x16,x17,x18,x19,x20,x21,x22,x23,x24,x25], S2)) ()) ()) := by
  refine sD Try.f28 6 0 (fun v0 S1 => ?_)
  refine sD Try.f28 6 1 (fun v1 S2 => ?_)
  refine sP Try.f28 6 2 (v := v1) ?_
  kernel_rfl
theorem wire_Nums.r7  : vOps Try.prog ⟨false, false, false⟩ (vlim Try.prog O) (reg Try.f28 7) (reg Try.f28 7).toList ([x0,x1,x2,x3,x4,x5,x6,x7,x8,x9,x10,x11,x12,x13,x14,x15,x16,x17,x18,x19,x20,x21,x22,x23,x24,x25]) S =
    (andK (vBin Try.prog BinOp.lss 3 (dem x6) (Value.int IntKind.i64 (-1)) S) (fun v1 S1 => some ([x0,x1,x2,x3,x4,x5,x6,x7,x8,x9,x10,x11,x12,x13,x14,x15,dem x6,v1,x18,x19,x20,x21,x22,x23,x24,x25], S1)) ()) := by
  refine sP Try.f28 7 0 (v := x6) ?_
  refine sD Try.f28 7 1 (fun v1 S1 => ?_)
  kernel_rfl
theorem wire_Nums.r8  : vOps Try.prog ⟨false, false, false⟩ (vlim Try.prog O) (reg Try.f28 8) (reg Try.f28 8).toList ([x0,x1,x2,x3,x4,x5,x6,x7,x8,x9,x10,x11,x12,x13,x14,x15,x16,x17,x18,x19,x20,x21,x22,x23,x24,x25]) S =
    ( some ([x0,x1,Value.slice none 0 0,Value.int IntKind.i64 11,x4,x5,x6,x7,x8,x9,x10,x11,x12,x13,x14,x15,x16,x17,x18,x19,x20,x21,x22,x23,x24,x25], S)) := by
  refine sP Try.f28 8 0 (v := (Value.slice none 0 0)) ?_
  refine sP Try.f28 8 1 (v := (Value.int IntKind.i64 11)) ?_
  kernel_rfl
theorem wire_Nums.r9  : vOps Try.prog ⟨false, false, false⟩ (vlim Try.prog O) (reg Try.f28 9) (reg Try.f28 9).toList ([x0,x1,x2,x3,x4,x5,x6,x7,x8,x9,x10,x11,x12,x13,x14,x15,x16,x17,x18,x19,x20,x21,x22,x23,x24,x25]) S =
    (andK (vConvF Try.prog false false 3 68 (dem x6) S) (fun v2 S1 => andK (vBin Try.prog BinOp.add 68 v2 (Value.int IntKind.u64 1) S1) (fun v3 S2 => andK ((vlim Try.prog O) 40 [(dem v3)] S2) (fun v4 S3 => andK (vAppend Try.prog 33 33 x4 v4 S3) (fun v5 S4 => some ([x0,x1,x2,x3,v5,x5,x6,x7,x8,x9,x10,x11,x12,x13,x14,x15,x16,x17,dem x4,dem x6,v2,v3,v4,dem v5,x24,x25], S4)) ()) ()) ()) ()) := by
  refine sP Try.f28 9 0 (v := x4) ?_
  refine sP Try.f28 9 1 (v := x6) ?_
  refine sD Try.f28 9 2 (fun v2 S1 => ?_)
  refine sD Try.f28 9 3 (fun v3 S2 => ?_)
  refine sD Try.f28 9 4 (fun v4 S3 => ?_)
  refine sD Try.f28 9 5 (fun v5 S4 => ?_)
  refine sP Try.f28 9 6 (v := v5) ?_
  kernel_rfl
theorem wire_Nums.r10  : vOps Try.prog ⟨false, false, false⟩ (vlim Try.prog O) (reg Try.f28 10) (reg Try.f28 10).toList ([x0,x1,x2,x3,x4,x5,x6,x7,x8,x9,x10,x11,x12,x13,x14,x15,x16,x17,x18,x19,x20,x21,x22,x23,x24,x25]) S =
    (andK (vBin Try.prog BinOp.add 3 x12 (Value.int IntKind.i64 1) S) (fun v0 S1 => some ([x0,x1,x2,x3,x4,x5,x6,x7,x8,x9,x10,x11,dem v0,x13,x14,x15,x16,x17,x18,x19,x20,x21,x22,x23,v0,x25], S1)) ()) := by
  refine sD Try.f28 10 0 (fun v0 S1 => ?_)
  refine sP Try.f28 10 1 (v := v0) ?_
  kernel_rfl
theorem wire_Nums.r11  : vOps Try.prog ⟨false, false, false⟩ (vlim Try.prog O) (reg Try.f28 11) (reg Try.f28 11).toList ([x0,x1,x2,x3,x4,x5,x6,x7,x8,x9,x10,x11,x12,x13,x14,x15,x16,x17,x18,x19,x20,x21,x22,x23,x24,x25]) S =
    ( some ([x0,x1,x4,Value.int IntKind.i64 0,dem x4,x5,x6,x7,x8,x9,x10,x11,x12,x13,x14,x15,x16,x17,x18,x19,x20,x21,x22,x23,x24,dem x4], S)) := by
  refine sP Try.f28 11 0 (v := x4) ?_
  refine sP Try.f28 11 1 (v := x4) ?_
  refine sP Try.f28 11 2 (v := (Value.int IntKind.i64 0)) ?_
  kernel_rfl
theorem wire_Nums.rs : type_of% (And.intro @wire_Nums.r0 (And.intro @wire_Nums.r1 (And.intro @wire_Nums.r2 (And.intro @wire_Nums.r3 (And.intro @wire_Nums.r4 (And.intro @wire_Nums.r5 (And.intro @wire_Nums.r6 (And.intro @wire_Nums.r7 (And.intro @wire_Nums.r8 (And.intro @wire_Nums.r9 (And.intro @wire_Nums.r10 (@wire_Nums.r11)))))))))))) := And.intro @wire_Nums.r0 (And.intro @wire_Nums.r1 (And.intro @wire_Nums.r2 (And.intro @wire_Nums.r3 (And.intro @wire_Nums.r4 (And.intro @wire_Nums.r5 (And.intro @wire_Nums.r6 (And.intro @wire_Nums.r7 (And.intro @wire_Nums.r8 (And.intro @wire_Nums.r9 (And.intro @wire_Nums.r10 (@wire_Nums.r11)))))))))))
theorem wire_Nums.runs {x0 : Value} {S S1 : AHeap} {e : AEx} {T : List Value} (h : vcodeV Try.prog O false wire_Nums.code ([x0,undef,undef,undef,undef,undef,undef,undef,undef,undef,undef,undef,undef,undef,undef,undef,undef,undef,undef,undef,undef,undef,undef,undef,undef,undef]) S = some (e, T, S1)) (he : e = .normal ∨ e = .ret)  (h0 : notTuple (T.getD 2 undef) = true) (h1 : notTuple (T.getD 3 undef) = true) : vlim Try.prog O 28 [x0] S = some (Value.tuple #[T.getD 2 undef, T.getD 3 undef], S1) :=
  vlim_code rfl rfl Try.func28 (by decide) wire_Nums.body (by exact h) he ((vRes_many ((show vResVals Try.prog T S1 Try.f28.results.toList = vResVals Try.prog T S1 [(ResultVar.tmp 2), (ResultVar.tmp 3)] from by kernel_rfl).trans (by simp only [vResVals])) (by kernel_rfl) (by simp only [List.all_cons, List.all_nil, h0, h1, Bool.and_true])).trans rfl)
end Go.Proofs.Ytgggklfbhmlapaa

namespace Go.Proofs.Ytgggklfbhmlapaa
open Go.Abs

/-- neaptide.neaptideref01.Nums -/
abbrev neaptideref01_Nums.id : FuncId := 29
noncomputable def neaptideref01_Nums.loop1 : Code := (Code.seq (Code.region 5 (reg Try.f29 5) false) (Code.seq (Code.cond (Operand.tmp 14) Code.skip (Code.exit 0)) (Code.seq (Code.block 1 (Code.seq (Code.region 6 (reg Try.f29 6) false) (Code.seq (Code.seq (Code.region 7 (reg Try.f29 7) false) (Code.cond (Operand.tmp 18) (Code.seq (Code.region 8 (reg Try.f29 8) false) Code.ret) Code.skip)) (Code.region 9 (reg Try.f29 9) false)))) (Code.region 10 (reg Try.f29 10) false))))
noncomputable def neaptideref01_Nums.code : Code := (Code.seq (Code.region 0 (reg Try.f29 0) false) (Code.seq (Code.seq (Code.region 1 (reg Try.f29 1) false) (Code.cond (Operand.tmp 9) (Code.seq (Code.region 2 (reg Try.f29 2) false) Code.ret) Code.skip)) (Code.seq (Code.region 3 (reg Try.f29 3) false) (Code.seq (Code.seq (Code.region 4 (reg Try.f29 4) false) (Code.block 0 (Code.loop neaptideref01_Nums.loop1))) (Code.seq (Code.region 11 (reg Try.f29 11) false) Code.ret)))))
theorem neaptideref01_Nums.body : Try.f29.body = some neaptideref01_Nums.code := by kernel_rfl
theorem neaptideref01_Nums.eta {T : List Value} (h : T.length = 27) : T = [T.getD 0 undef,T.getD 1 undef,T.getD 2 undef,T.getD 3 undef,T.getD 4 undef,T.getD 5 undef,T.getD 6 undef,T.getD 7 undef,T.getD 8 undef,T.getD 9 undef,T.getD 10 undef,T.getD 11 undef,T.getD 12 undef,T.getD 13 undef,T.getD 14 undef,T.getD 15 undef,T.getD 16 undef,T.getD 17 undef,T.getD 18 undef,T.getD 19 undef,T.getD 20 undef,T.getD 21 undef,T.getD 22 undef,T.getD 23 undef,T.getD 24 undef,T.getD 25 undef,T.getD 26 undef] := (list_getD T 27 h).trans (by kernel_rfl)
theorem neaptideref01_Nums.list {T : List Value} (h : T.length = 27) : ∃ x0 x1 x2 x3 x4 x5 x6 x7 x8 x9 x10 x11 x12 x13 x14 x15 x16 x17 x18 x19 x20 x21 x22 x23 x24 x25 x26, T = [x0,x1,x2,x3,x4,x5,x6,x7,x8,x9,x10,x11,x12,x13,x14,x15,x16,x17,x18,x19,x20,x21,x22,x23,x24,x25,x26] := ⟨_, _, _, _, _, _, _, _, _, _, _, _, _, _, _, _, _, _, _, _, _, _, _, _, _, _, _, neaptideref01_Nums.eta h⟩
variable (x0 x1 x2 x3 x4 x5 x6 x7 x8 x9 x10 x11 x12 x13 x14 x15 x16 x17 x18 x19 x20 x21 x22 x23 x24 x25 x26 : Value) (S : AHeap)
theorem neaptideref01_Nums.r0  : vOps Try.prog ⟨false, false, false⟩ (vlim Try.prog O) (reg Try.f29 0) (reg Try.f29 0).toList ([x0,x1,x2,x3,x4,x5,x6,x7,x8,x9,x10,x11,x12,x13,x14,x15,x16,x17,x18,x19,x20,x21,x22,x23,x24,x25,x26]) S =
    ( some ([x0,x1,Value.slice none 0 0,Value.int IntKind.i64 0,x4,x5,x6,x7,x8,x9,x10,x11,x12,x13,x14,x15,x16,x17,x18,x19,x20,x21,x22,x23,x24,x25,x26], S)) := by
  refine sP Try.f29 0 0 (v := (Value.slice none 0 0)) ?_
  refine sP Try.f29 0 1 (v := (Value.int IntKind.i64 0)) ?_
  kernel_rfl
theorem neaptideref01_Nums.r1  : vOps Try.prog ⟨false, false, false⟩ (vlim Try.prog O) (reg Try.f29 1) (reg Try.f29 1).toList ([x0,x1,x2,x3,x4,x5,x6,x7,x8,x9,x10,x11,x12,x13,x14,x15,x16,x17,x18,x19,x20,x21,x22,x23,x24,x25,x26]) S =
    (andK (vLen Try.prog 53 (dem x0) S) (fun v1 S1 => andK (vBin Try.prog BinOp.gtr 3 v1 (Value.int IntKind.i64 64) S1) (fun v2 S2 => some ([x0,x1,x2,x3,x4,x5,x6,dem x0,v1,v2,x10,x11,x12,x13,x14,x15,x16,x17,x18,x19,x20,x21,x22,x23,x24,x25,x26], S2)) ()) ()) := by
  refine sP Try.f29 1 0 (v := x0) ?_
  refine sD Try.f29 1 1 (fun v1 S1 => ?_)
  refine sD Try.f29 1 2 (fun v2 S2 => ?_)
  kernel_rfl
theorem neaptideref01_Nums.r2  : vOps Try.prog ⟨false, false, false⟩ (vlim Try.prog O) (reg Try.f29 2) (reg Try.f29 2).toList ([x0,x1,x2,x3,x4,x5,x6,x7,x8,x9,x10,x11,x12,x13,x14,x15,x16,x17,x18,x19,x20,x21,x22,x23,x24,x25,x26]) S =
    ( some ([x0,x1,Value.slice none 0 0,Value.int IntKind.i64 11,x4,x5,x6,x7,x8,x9,x10,x11,x12,x13,x14,x15,x16,x17,x18,x19,x20,x21,x22,x23,x24,x25,x26], S)) := by
  refine sP Try.f29 2 0 (v := (Value.slice none 0 0)) ?_
  refine sP Try.f29 2 1 (v := (Value.int IntKind.i64 11)) ?_
  kernel_rfl
theorem neaptideref01_Nums.r3  : vOps Try.prog ⟨false, false, false⟩ (vlim Try.prog O) (reg Try.f29 3) (reg Try.f29 3).toList ([x0,x1,x2,x3,x4,x5,x6,x7,x8,x9,x10,x11,x12,x13,x14,x15,x16,x17,x18,x19,x20,x21,x22,x23,x24,x25,x26]) S =
    (andK (vBuildSlice Try.prog 33 0 [] S) (fun v0 S1 => some ([x0,x1,x2,x3,v0,x5,x6,x7,x8,x9,dem v0,x11,x12,x13,x14,x15,x16,x17,x18,x19,x20,x21,x22,x23,x24,x25,x26], S1)) ()) := by
  refine sD Try.f29 3 0 (fun v0 S1 => ?_)
  refine sP Try.f29 3 1 (v := v0) ?_
  kernel_rfl
theorem neaptideref01_Nums.r4  : vOps Try.prog ⟨false, false, false⟩ (vlim Try.prog O) (reg Try.f29 4) (reg Try.f29 4).toList ([x0,x1,x2,x3,x4,x5,x6,x7,x8,x9,x10,x11,x12,x13,x14,x15,x16,x17,x18,x19,x20,x21,x22,x23,x24,x25,x26]) S =
    (andK (vLen Try.prog 53 (dem x0) S) (fun v1 S1 => some ([x0,x1,x2,x3,x4,x5,x6,x7,x8,x9,x10,dem x0,v1,Value.int IntKind.i64 0,x14,x15,x16,x17,x18,x19,x20,x21,x22,x23,x24,x25,x26], S1)) ()) := by
  refine sP Try.f29 4 0 (v := x0) ?_
  refine sD Try.f29 4 1 (fun v1 S1 => ?_)
  refine sP Try.f29 4 2 (v := (Value.int IntKind.i64 0)) ?_
  kernel_rfl
theorem neaptideref01_Nums.r5  : vOps Try.prog ⟨false, false, false⟩ (vlim Try.prog O) (reg Try.f29 5) (reg Try.f29 5).toList ([x0,x1,x2,x3,x4,x5,x6,x7,x8,x9,x10,x11,x12,x13,x14,x15,x16,x17,x18,x19,x20,x21,x22,x23,x24,x25,x26]) S =
    (andK (vBin Try.prog BinOp.lss 3 x13 x12 S) (fun v0 S1 => some ([x0,x1,x2,x3,x4,x5,x6,x7,x8,x9,x10,x11,x12,x13,v0,x15,x16,x17,x18,x19,x20,x21,x22,x23,x24,x25,x26], S1)) ()) := by
  refine sD Try.f29 5 0 (fun v0 S1 => ?_)
  kernel_rfl
theorem neaptideref01_Nums.r6  : vOps Try.prog ⟨false, false, false⟩ (vlim Try.prog O) (reg Try.f29 6) (reg Try.f29 6).toList ([x0,x1,x2,x3,x4,x5,x6,x7,x8,x9,x10,x11,x12,x13,x14,x15,x16,x17,x18,x19,x20,x21,x22,x23,x24,x25,x26]) S =
    (andK (vIndexAddr Try.prog 53 x11 x13 S) (fun v0 S1 => andK (vLoad Try.prog false 3 v0 S1) (fun v1 S2 => some ([x0,x1,x2,x3,x4,x5,v1,x7,x8,x9,x10,x11,x12,x13,x14,v0,dem v1,x17,x18,x19,x20,x21,x22,x23,x24,x25,x26], S2)) ()) ()) := by
  refine sD Try.f29 6 0 (fun v0 S1 => ?_)
  refine sD Try.f29 6 1 (fun v1 S2 => ?_)
  refine sP Try.f29 6 2 (v := v1) ?_
  kernel_rfl
theorem neaptideref01_Nums.r7  : vOps Try.prog ⟨false, false, false⟩ (vlim Try.prog O) (reg Try.f29 7) (reg Try.f29 7).toList ([x0,x1,x2,x3,x4,x5,x6,x7,x8,x9,x10,x11,x12,x13,x14,x15,x16,x17,x18,x19,x20,x21,x22,x23,x24,x25,x26]) S =
    (andK (vBin Try.prog BinOp.lss 3 (dem x6) (Value.int IntKind.i64 (-1)) S) (fun v1 S1 => some ([x0,x1,x2,x3,x4,x5,x6,x7,x8,x9,x10,x11,x12,x13,x14,x15,x16,dem x6,v1,x19,x20,x21,x22,x23,x24,x25,x26], S1)) ()) := by
  refine sP Try.f29 7 0 (v := x6) ?_
  refine sD Try.f29 7 1 (fun v1 S1 => ?_)
  kernel_rfl
theorem neaptideref01_Nums.r8  : vOps Try.prog ⟨false, false, false⟩ (vlim Try.prog O) (reg Try.f29 8) (reg Try.f29 8).toList ([x0,x1,x2,x3,x4,x5,x6,x7,x8,x9,x10,x11,x12,x13,x14,x15,x16,x17,x18,x19,x20,x21,x22,x23,x24,x25,x26]) S =
    ( some ([x0,x1,Value.slice none 0 0,Value.int IntKind.i64 11,x4,x5,x6,x7,x8,x9,x10,x11,x12,x13,x14,x15,x16,x17,x18,x19,x20,x21,x22,x23,x24,x25,x26], S)) := by
  refine sP Try.f29 8 0 (v := (Value.slice none 0 0)) ?_
  refine sP Try.f29 8 1 (v := (Value.int IntKind.i64 11)) ?_
  kernel_rfl
theorem neaptideref01_Nums.r9  : vOps Try.prog ⟨false, false, false⟩ (vlim Try.prog O) (reg Try.f29 9) (reg Try.f29 9).toList ([x0,x1,x2,x3,x4,x5,x6,x7,x8,x9,x10,x11,x12,x13,x14,x15,x16,x17,x18,x19,x20,x21,x22,x23,x24,x25,x26]) S =
    (andK (vConvF Try.prog false false 3 68 (dem x6) S) (fun v2 S1 => andK (vBin Try.prog BinOp.add 68 v2 (Value.int IntKind.u64 1) S1) (fun v3 S2 => andK ((vlim Try.prog O) 41 [(dem v3)] S2) (fun v4 S3 => andK (vAppend Try.prog 33 33 x4 v4 S3) (fun v5 S4 => some ([x0,x1,x2,x3,v5,x5,x6,x7,x8,x9,x10,x11,x12,x13,x14,x15,x16,x17,x18,dem x4,dem x6,v2,v3,v4,dem v5,x25,x26], S4)) ()) ()) ()) ()) := by
  refine sP Try.f29 9 0 (v := x4) ?_
  refine sP Try.f29 9 1 (v := x6) ?_
  refine sD Try.f29 9 2 (fun v2 S1 => ?_)
  refine sD Try.f29 9 3 (fun v3 S2 => ?_)
  refine sD Try.f29 9 4 (fun v4 S3 => ?_)
  refine sD Try.f29 9 5 (fun v5 S4 => ?_)
  refine sP Try.f29 9 6 (v := v5) ?_
  kernel_rfl
theorem neaptideref01_Nums.r10  : vOps Try.prog ⟨false, false, false⟩ (vlim Try.prog O) (reg Try.f29 10) (reg Try.f29 10).toList ([x0,x1,x2,x3,x4,x5,x6,x7,x8,x9,x10,x11,x12,x13,x14,x15,x16,x17,x18,x19,x20,x21,x22,x23,x24,x25,x26]) S =
    (andK (vBin Try.prog BinOp.add 3 x13 (Value.int IntKind.i64 1) S) (fun v0 S1 => some ([x0,x1,x2,x3,x4,x5,x6,x7,x8,x9,x10,x11,x12,dem v0,x14,x15,x16,x17,x18,x19,x20,x21,x22,x23,x24,v0,x26], S1)) ()) := by
  refine sD Try.f29 10 0 (fun v0 S1 => ?_)
  refine sP Try.f29 10 1 (v := v0) ?_
  kernel_rfl
theorem neaptideref01_Nums.r11  : vOps Try.prog ⟨false, false, false⟩ (vlim Try.prog O) (reg Try.f29 11) (reg Try.f29 11).toList ([x0,x1,x2,x3,x4,x5,x6,x7,x8,x9,x10,x11,x12,x13,x14,x15,x16,x17,x18,x19,x20,x21,x22,x23,x24,x25,x26]) S =
    ( some ([x0,x1,x4,Value.int IntKind.i64 0,dem x4,x5,x6,x7,x8,x9,x10,x11,x12,x13,x14,x15,x16,x17,x18,x19,x20,x21,x22,x23,x24,x25,dem x4], S)) := by
  refine sP Try.f29 11 0 (v := x4) ?_
  refine sP Try.f29 11 1 (v := x4) ?_
  refine sP Try.f29 11 2 (v := (Value.int IntKind.i64 0)) ?_
  kernel_rfl
theorem neaptideref01_Nums.rs : type_of% (And.intro @neaptideref01_Nums.r0 (And.intro @neaptideref01_Nums.r1 (And.intro @neaptideref01_Nums.r2 (And.intro @neaptideref01_Nums.r3 (And.intro @neaptideref01_Nums.r4 (And.intro @neaptideref01_Nums.r5 (And.intro @neaptideref01_Nums.r6 (And.intro @neaptideref01_Nums.r7 (And.intro @neaptideref01_Nums.r8 (And.intro @neaptideref01_Nums.r9 (And.intro @neaptideref01_Nums.r10 (@neaptideref01_Nums.r11)))))))))))) := And.intro @neaptideref01_Nums.r0 (And.intro @neaptideref01_Nums.r1 (And.intro @neaptideref01_Nums.r2 (And.intro @neaptideref01_Nums.r3 (And.intro @neaptideref01_Nums.r4 (And.intro @neaptideref01_Nums.r5 (And.intro @neaptideref01_Nums.r6 (And.intro @neaptideref01_Nums.r7 (And.intro @neaptideref01_Nums.r8 (And.intro @neaptideref01_Nums.r9 (And.intro @neaptideref01_Nums.r10 (@neaptideref01_Nums.r11)))))))))))
theorem neaptideref01_Nums.runs {x0 : Value} {S S1 : AHeap} {e : AEx} {T : List Value} (h : vcodeV Try.prog O false neaptideref01_Nums.code ([x0,undef,undef,undef,undef,undef,undef,undef,undef,undef,undef,undef,undef,undef,undef,undef,undef,undef,undef,undef,undef,undef,undef,undef,undef,undef,undef]) S = some (e, T, S1)) (he : e = .normal ∨ e = .ret)  (h0 : notTuple (T.getD 2 undef) = true) (h1 : notTuple (T.getD 3 undef) = true) : vlim Try.prog O 29 [x0] S = some (Value.tuple #[T.getD 2 undef, T.getD 3 undef], S1) :=
  vlim_code rfl rfl Try.func29 (by decide) neaptideref01_Nums.body (by exact h) he ((vRes_many ((show vResVals Try.prog T S1 Try.f29.results.toList = vResVals Try.prog T S1 [(ResultVar.tmp 2), (ResultVar.tmp 3)] from by kernel_rfl).trans (by simp only [vResVals])) (by kernel_rfl) (by simp only [List.all_cons, List.all_nil, h0, h1, Bool.and_true])).trans rfl)
end Go.Proofs.Ytgggklfbhmlapaa

namespace Go.Proofs.Ytgggklfbhmlapaa
open Go.Abs

/-- neaptide.neaptideref01.ReadNum -/
abbrev neaptideref01_ReadNum.id : FuncId := 46
noncomputable def neaptideref01_ReadNum.loop1 : Code := (Code.seq (Code.seq (Code.region 4 (reg Try.f46 4) false) (Code.cond (Operand.tmp 17) Code.skip (Code.exit 0))) (Code.seq (Code.block 1 (Code.seq (Code.region 6 (reg Try.f46 6) false) (Code.seq (Code.seq (Code.region 7 (reg Try.f46 7) false) (Code.cond (Operand.tmp 31) (Code.seq (Code.region 8 (reg Try.f46 8) false) Code.ret) Code.skip)) (Code.seq (Code.region 9 (reg Try.f46 9) false) (Code.seq (Code.region 10 (reg Try.f46 10) false) (Code.seq (Code.region 11 (reg Try.f46 11) false) (Code.cond (Operand.tmp 43) (Code.seq (Code.region 12 (reg Try.f46 12) false) (Code.seq (Code.seq (Code.region 13 (reg Try.f46 13) false) (Code.cond (Operand.tmp 50) (Code.seq (Code.region 14 (reg Try.f46 14) false) Code.ret) Code.skip)) (Code.seq (Code.region 15 (reg Try.f46 15) false) Code.ret))) Code.skip))))))) (Code.region 5 (reg Try.f46 5) false)))
noncomputable def neaptideref01_ReadNum.code : Code := (Code.seq (Code.region 0 (reg Try.f46 0) false) (Code.seq (Code.region 1 (reg Try.f46 1) false) (Code.seq (Code.region 2 (reg Try.f46 2) false) (Code.seq (Code.seq (Code.region 3 (reg Try.f46 3) false) (Code.block 0 (Code.loop neaptideref01_ReadNum.loop1))) (Code.seq (Code.region 16 (reg Try.f46 16) false) Code.ret)))))
theorem neaptideref01_ReadNum.body : Try.f46.body = some neaptideref01_ReadNum.code := by kernel_rfl
theorem neaptideref01_ReadNum.eta {T : List Value} (h : T.length = 58) : T = [T.getD 0 undef,T.getD 1 undef,T.getD 2 undef,T.getD 3 undef,T.getD 4 undef,T.getD 5 undef,T.getD 6 undef,T.getD 7 undef,T.getD 8 undef,T.getD 9 undef,T.getD 10 undef,T.getD 11 undef,T.getD 12 undef,T.getD 13 undef,T.getD 14 undef,T.getD 15 undef,T.getD 16 undef,T.getD 17 undef,T.getD 18 undef,T.getD 19 undef,T.getD 20 undef,T.getD 21 undef,T.getD 22 undef,T.getD 23 undef,T.getD 24 undef,T.getD 25 undef,T.getD 26 undef,T.getD 27 undef,T.getD 28 undef,T.getD 29 undef,T.getD 30 undef,T.getD 31 undef,T.getD 32 undef,T.getD 33 undef,T.getD 34 undef,T.getD 35 undef,T.getD 36 undef,T.getD 37 undef,T.getD 38 undef,T.getD 39 undef,T.getD 40 undef,T.getD 41 undef,T.getD 42 undef,T.getD 43 undef,T.getD 44 undef,T.getD 45 undef,T.getD 46 undef,T.getD 47 undef,T.getD 48 undef,T.getD 49 undef,T.getD 50 undef,T.getD 51 undef,T.getD 52 undef,T.getD 53 undef,T.getD 54 undef,T.getD 55 undef,T.getD 56 undef,T.getD 57 undef] := (list_getD T 58 h).trans (by kernel_rfl)
theorem neaptideref01_ReadNum.list {T : List Value} (h : T.length = 58) : ∃ x0 x1 x2 x3 x4 x5 x6 x7 x8 x9 x10 x11 x12 x13 x14 x15 x16 x17 x18 x19 x20 x21 x22 x23 x24 x25 x26 x27 x28 x29 x30 x31 x32 x33 x34 x35 x36 x37 x38 x39 x40 x41 x42 x43 x44 x45 x46 x47 x48 x49 x50 x51 x52 x53 x54 x55 x56 x57, T = [x0,x1,x2,x3,x4,x5,x6,x7,x8,x9,x10,x11,x12,x13,x14,x15,x16,x17,x18,x19,x20,x21,x22,x23,x24,x25,x26,x27,x28,x29,x30,x31,x32,x33,x34,x35,x36,x37,x38,x39,x40,x41,x42,x43,x44,x45,x46,x47,x48,x49,x50,x51,x52,x53,x54,x55,x56,x57] := ⟨_, _, _, _, _, _, _, _, _, _, _, _, _, _, _, _, _, _, _, _, _, _, _, _, _, _, _, _, _, _, _, _, _, _, _, _, _, _, _, _, _, _, _, _, _, _, _, _, _, _, _, _, _, _, _, _, _, _, neaptideref01_ReadNum.eta h⟩
variable (x0 x1 x2 x3 x4 x5 x6 x7 x8 x9 x10 x11 x12 x13 x14 x15 x16 x17 x18 x19 x20 x21 x22 x23 x24 x25 x26 x27 x28 x29 x30 x31 x32 x33 x34 x35 x36 x37 x38 x39 x40 x41 x42 x43 x44 x45 x46 x47 x48 x49 x50 x51 x52 x53 x54 x55 x56 x57 : Value) (S : AHeap)
theorem neaptideref01_ReadNum.r0  : vOps Try.prog ⟨false, false, false⟩ (vlim Try.prog O) (reg Try.f46 0) (reg Try.f46 0).toList ([x0,x1,x2,x3,x4,x5,x6,x7,x8,x9,x10,x11,x12,x13,x14,x15,x16,x17,x18,x19,x20,x21,x22,x23,x24,x25,x26,x27,x28,x29,x30,x31,x32,x33,x34,x35,x36,x37,x38,x39,x40,x41,x42,x43,x44,x45,x46,x47,x48,x49,x50,x51,x52,x53,x54,x55,x56,x57]) S =
    ( some ([x0,x1,Value.int IntKind.u64 0,Value.slice none 0 0,Value.int IntKind.i64 0,x5,x6,x7,x8,x9,x10,x11,x12,x13,x14,x15,x16,x17,x18,x19,x20,x21,x22,x23,x24,x25,x26,x27,x28,x29,x30,x31,x32,x33,x34,x35,x36,x37,x38,x39,x40,x41,x42,x43,x44,x45,x46,x47,x48,x49,x50,x51,x52,x53,x54,x55,x56,x57], S)) := by
  refine sP Try.f46 0 0 (v := (Value.int IntKind.u64 0)) ?_
  refine sP Try.f46 0 1 (v := (Value.slice none 0 0)) ?_
  refine sP Try.f46 0 2 (v := (Value.int IntKind.i64 0)) ?_
  kernel_rfl
theorem neaptideref01_ReadNum.r1  : vOps Try.prog ⟨false, false, false⟩ (vlim Try.prog O) (reg Try.f46 1) (reg Try.f46 1).toList ([x0,x1,x2,x3,x4,x5,x6,x7,x8,x9,x10,x11,x12,x13,x14,x15,x16,x17,x18,x19,x20,x21,x22,x23,x24,x25,x26,x27,x28,x29,x30,x31,x32,x33,x34,x35,x36,x37,x38,x39,x40,x41,x42,x43,x44,x45,x46,x47,x48,x49,x50,x51,x52,x53,x54,x55,x56,x57]) S =
    ( some ([x0,x1,x2,x3,x4,Value.int IntKind.u64 0,x6,x7,x8,x9,x10,x11,x12,x13,x14,x15,x16,x17,x18,x19,x20,x21,x22,x23,x24,x25,x26,x27,x28,x29,x30,x31,x32,x33,x34,x35,x36,x37,x38,x39,x40,x41,x42,x43,x44,x45,x46,x47,x48,x49,x50,x51,x52,x53,x54,x55,x56,x57], S)) := by
  refine sP Try.f46 1 0 (v := (Value.int IntKind.u64 0)) ?_
  kernel_rfl
theorem neaptideref01_ReadNum.r2  : vOps Try.prog ⟨false, false, false⟩ (vlim Try.prog O) (reg Try.f46 2) (reg Try.f46 2).toList ([x0,x1,x2,x3,x4,x5,x6,x7,x8,x9,x10,x11,x12,x13,x14,x15,x16,x17,x18,x19,x20,x21,x22,x23,x24,x25,x26,x27,x28,x29,x30,x31,x32,x33,x34,x35,x36,x37,x38,x39,x40,x41,x42,x43,x44,x45,x46,x47,x48,x49,x50,x51,x52,x53,x54,x55,x56,x57]) S =
    ( some ([x0,x1,x2,x3,x4,x5,Value.int IntKind.u64 1,x7,x8,x9,x10,x11,x12,x13,x14,x15,x16,x17,x18,x19,x20,x21,x22,x23,x24,x25,x26,x27,x28,x29,x30,x31,x32,x33,x34,x35,x36,x37,x38,x39,x40,x41,x42,x43,x44,x45,x46,x47,x48,x49,x50,x51,x52,x53,x54,x55,x56,x57], S)) := by
  refine sP Try.f46 2 0 (v := (Value.int IntKind.u64 1)) ?_
  kernel_rfl
theorem neaptideref01_ReadNum.r3  : vOps Try.prog ⟨false, false, false⟩ (vlim Try.prog O) (reg Try.f46 3) (reg Try.f46 3).toList ([x0,x1,x2,x3,x4,x5,x6,x7,x8,x9,x10,x11,x12,x13,x14,x15,x16,x17,x18,x19,x20,x21,x22,x23,x24,x25,x26,x27,x28,x29,x30,x31,x32,x33,x34,x35,x36,x37,x38,x39,x40,x41,x42,x43,x44,x45,x46,x47,x48,x49,x50,x51,x52,x53,x54,x55,x56,x57]) S =
    ( some ([x0,x1,x2,x3,x4,x5,x6,Value.int IntKind.i64 0,x8,x9,x10,x11,x12,x13,x14,x15,x16,x17,x18,x19,x20,x21,x22,x23,x24,x25,x26,x27,x28,x29,x30,x31,x32,x33,x34,x35,x36,x37,x38,x39,x40,x41,x42,x43,x44,x45,x46,x47,x48,x49,x50,x51,x52,x53,x54,x55,x56,x57], S)) := by
  refine sP Try.f46 3 0 (v := (Value.int IntKind.i64 0)) ?_
  kernel_rfl
theorem neaptideref01_ReadNum.r4  : vOps Try.prog ⟨false, false, false⟩ (vlim Try.prog O) (reg Try.f46 4) (reg Try.f46 4).toList ([x0,x1,x2,x3,x4,x5,x6,x7,x8,x9,x10,x11,x12,x13,x14,x15,x16,x17,x18,x19,x20,x21,x22,x23,x24,x25,x26,x27,x28,x29,x30,x31,x32,x33,x34,x35,x36,x37,x38,x39,x40,x41,x42,x43,x44,x45,x46,x47,x48,x49,x50,x51,x52,x53,x54,x55,x56,x57]) S =
    (andK (vLen Try.prog 33 (dem x0) S) (fun v2 S1 => andK (vBin Try.prog BinOp.lss 3 (dem x7) v2 S1) (fun v3 S2 => gdK (dem v3) true (ret x7) S2 (fun v5 S3 => gdK (dem v3) true (vBin Try.prog BinOp.lss 3 (dem v5) (Value.int IntKind.i64 10)) S3 (fun v6 S4 => andK (vPick (dem v3) v6 (Value.bool false) S4) (fun v7 S5 => some ([x0,x1,x2,x3,x4,x5,x6,x7,x8,x9,dem x7,dem x0,v2,v3,dem v3,dem v5,v6,v7,x18,x19,x20,x21,x22,x23,x24,x25,x26,x27,x28,x29,x30,x31,x32,x33,x34,x35,x36,x37,x38,x39,x40,x41,x42,x43,x44,x45,x46,x47,x48,x49,x50,x51,x52,x53,x54,x55,x56,x57], S5)) ()) ()) ()) ()) ()) := by
  refine sP Try.f46 4 0 (v := x7) ?_
  refine sP Try.f46 4 1 (v := x0) ?_
  refine sD Try.f46 4 2 (fun v2 S1 => ?_)
  refine sD Try.f46 4 3 (fun v3 S2 => ?_)
  refine sP Try.f46 4 4 (v := v3) ?_
  refine sG Try.f46 4 5 (j := 4) (fun v5 S3 => ?_)
  refine sG Try.f46 4 6 (j := 4) (fun v6 S4 => ?_)
  refine sD Try.f46 4 7 (fun v7 S5 => ?_)
  kernel_rfl
theorem neaptideref01_ReadNum.r6  : vOps Try.prog ⟨false, false, false⟩ (vlim Try.prog O) (reg Try.f46 6) (reg Try.f46 6).toList ([x0,x1,x2,x3,x4,x5,x6,x7,x8,x9,x10,x11,x12,x13,x14,x15,x16,x17,x18,x19,x20,x21,x22,x23,x24,x25,x26,x27,x28,x29,x30,x31,x32,x33,x34,x35,x36,x37,x38,x39,x40,x41,x42,x43,x44,x45,x46,x47,x48,x49,x50,x51,x52,x53,x54,x55,x56,x57]) S =
    (andK (vIndexAddr Try.prog 33 (dem x0) (dem x7) S) (fun v2 S1 => andK (vLoad Try.prog false 5 v2 S1) (fun v3 S2 => andK (vBin Try.prog BinOp.rem 5 v3 (Value.int IntKind.u8 128) S2) (fun v4 S3 => andK (vConvF Try.prog false false 5 68 v4 S3) (fun v5 S4 => some ([x0,x1,x2,x3,x4,x5,x6,x7,v5,x9,x10,x11,x12,x13,x14,x15,x16,x17,x18,x19,dem x0,dem x7,v2,v3,v4,dem v5,x26,x27,x28,x29,x30,x31,x32,x33,x34,x35,x36,x37,x38,x39,x40,x41,x42,x43,x44,x45,x46,x47,x48,x49,x50,x51,x52,x53,x54,x55,x56,x57], S4)) ()) ()) ()) ()) := by
  refine sP Try.f46 6 0 (v := x0) ?_
  refine sP Try.f46 6 1 (v := x7) ?_
  refine sD Try.f46 6 2 (fun v2 S1 => ?_)
  refine sD Try.f46 6 3 (fun v3 S2 => ?_)
  refine sD Try.f46 6 4 (fun v4 S3 => ?_)
  refine sD Try.f46 6 5 (fun v5 S4 => ?_)
  refine sP Try.f46 6 6 (v := v5) ?_
  kernel_rfl
theorem neaptideref01_ReadNum.r7  : vOps Try.prog ⟨false, false, false⟩ (vlim Try.prog O) (reg Try.f46 7) (reg Try.f46 7).toList ([x0,x1,x2,x3,x4,x5,x6,x7,x8,x9,x10,x11,x12,x13,x14,x15,x16,x17,x18,x19,x20,x21,x22,x23,x24,x25,x26,x27,x28,x29,x30,x31,x32,x33,x34,x35,x36,x37,x38,x39,x40,x41,x42,x43,x44,x45,x46,x47,x48,x49,x50,x51,x52,x53,x54,x55,x56,x57]) S =
    (andK (vBin Try.prog BinOp.eql 3 (dem x7) (Value.int IntKind.i64 9) S) (fun v1 S1 => gdK (dem v1) true (ret x8) S1 (fun v3 S2 => gdK (dem v1) true (vBin Try.prog BinOp.gtr 68 (dem v3) (Value.int IntKind.u64 1)) S2 (fun v4 S3 => andK (vPick (dem v1) v4 (Value.bool false) S3) (fun v5 S4 => some ([x0,x1,x2,x3,x4,x5,x6,x7,x8,x9,x10,x11,x12,x13,x14,x15,x16,x17,x18,x19,x20,x21,x22,x23,x24,x25,dem x7,v1,dem v1,dem v3,v4,v5,x32,x33,x34,x35,x36,x37,x38,x39,x40,x41,x42,x43,x44,x45,x46,x47,x48,x49,x50,x51,x52,x53,x54,x55,x56,x57], S4)) ()) ()) ()) ()) := by
  refine sP Try.f46 7 0 (v := x7) ?_
  refine sD Try.f46 7 1 (fun v1 S1 => ?_)
  refine sP Try.f46 7 2 (v := v1) ?_
  refine sG Try.f46 7 3 (j := 2) (fun v3 S2 => ?_)
  refine sG Try.f46 7 4 (j := 2) (fun v4 S3 => ?_)
  refine sD Try.f46 7 5 (fun v5 S4 => ?_)
  kernel_rfl
theorem neaptideref01_ReadNum.r8  : vOps Try.prog ⟨false, false, false⟩ (vlim Try.prog O) (reg Try.f46 8) (reg Try.f46 8).toList ([x0,x1,x2,x3,x4,x5,x6,x7,x8,x9,x10,x11,x12,x13,x14,x15,x16,x17,x18,x19,x20,x21,x22,x23,x24,x25,x26,x27,x28,x29,x30,x31,x32,x33,x34,x35,x36,x37,x38,x39,x40,x41,x42,x43,x44,x45,x46,x47,x48,x49,x50,x51,x52,x53,x54,x55,x56,x57]) S =
    ( some ([x0,x1,Value.int IntKind.u64 0,Value.slice none 0 0,Value.int IntKind.i64 11,x5,x6,x7,x8,x9,x10,x11,x12,x13,x14,x15,x16,x17,x18,x19,x20,x21,x22,x23,x24,x25,x26,x27,x28,x29,x30,x31,x32,x33,x34,x35,x36,x37,x38,x39,x40,x41,x42,x43,x44,x45,x46,x47,x48,x49,x50,x51,x52,x53,x54,x55,x56,x57], S)) := by
  refine sP Try.f46 8 0 (v := (Value.int IntKind.u64 0)) ?_
  refine sP Try.f46 8 1 (v := (Value.slice none 0 0)) ?_
  refine sP Try.f46 8 2 (v := (Value.int IntKind.i64 11)) ?_
  kernel_rfl
theorem neaptideref01_ReadNum.r9  : vOps Try.prog ⟨false, false, false⟩ (vlim Try.prog O) (reg Try.f46 9) (reg Try.f46 9).toList ([x0,x1,x2,x3,x4,x5,x6,x7,x8,x9,x10,x11,x12,x13,x14,x15,x16,x17,x18,x19,x20,x21,x22,x23,x24,x25,x26,x27,x28,x29,x30,x31,x32,x33,x34,x35,x36,x37,x38,x39,x40,x41,x42,x43,x44,x45,x46,x47,x48,x49,x50,x51,x52,x53,x54,x55,x56,x57]) S =
    (andK (vBin Try.prog BinOp.mul 68 (dem x8) (dem x6) S) (fun v3 S1 => andK (vBin Try.prog BinOp.add 68 (dem x5) v3 S1) (fun v4 S2 => some ([x0,x1,x2,x3,x4,v4,x6,x7,x8,x9,x10,x11,x12,x13,x14,x15,x16,x17,x18,x19,x20,x21,x22,x23,x24,x25,x26,x27,x28,x29,x30,x31,dem x5,dem x8,dem x6,v3,dem v4,x37,x38,x39,x40,x41,x42,x43,x44,x45,x46,x47,x48,x49,x50,x51,x52,x53,x54,x55,x56,x57], S2)) ()) ()) := by
  refine sP Try.f46 9 0 (v := x5) ?_
  refine sP Try.f46 9 1 (v := x8) ?_
  refine sP Try.f46 9 2 (v := x6) ?_
  refine sD Try.f46 9 3 (fun v3 S1 => ?_)
  refine sD Try.f46 9 4 (fun v4 S2 => ?_)
  refine sP Try.f46 9 5 (v := v4) ?_
  kernel_rfl
theorem neaptideref01_ReadNum.r10  : vOps Try.prog ⟨false, false, false⟩ (vlim Try.prog O) (reg Try.f46 10) (reg Try.f46 10).toList ([x0,x1,x2,x3,x4,x5,x6,x7,x8,x9,x10,x11,x12,x13,x14,x15,x16,x17,x18,x19,x20,x21,x22,x23,x24,x25,x26,x27,x28,x29,x30,x31,x32,x33,x34,x35,x36,x37,x38,x39,x40,x41,x42,x43,x44,x45,x46,x47,x48,x49,x50,x51,x52,x53,x54,x55,x56,x57]) S =
    (andK (vBin Try.prog BinOp.mul 68 (dem x6) (Value.int IntKind.u64 128) S) (fun v1 S1 => some ([x0,x1,x2,x3,x4,x5,v1,x7,x8,x9,x10,x11,x12,x13,x14,x15,x16,x17,x18,x19,x20,x21,x22,x23,x24,x25,x26,x27,x28,x29,x30,x31,x32,x33,x34,x35,x36,dem x6,dem v1,x39,x40,x41,x42,x43,x44,x45,x46,x47,x48,x49,x50,x51,x52,x53,x54,x55,x56,x57], S1)) ()) := by
  refine sP Try.f46 10 0 (v := x6) ?_
  refine sD Try.f46 10 1 (fun v1 S1 => ?_)
  refine sP Try.f46 10 2 (v := v1) ?_
  kernel_rfl
theorem neaptideref01_ReadNum.r11  : vOps Try.prog ⟨false, false, false⟩ (vlim Try.prog O) (reg Try.f46 11) (reg Try.f46 11).toList ([x0,x1,x2,x3,x4,x5,x6,x7,x8,x9,x10,x11,x12,x13,x14,x15,x16,x17,x18,x19,x20,x21,x22,x23,x24,x25,x26,x27,x28,x29,x30,x31,x32,x33,x34,x35,x36,x37,x38,x39,x40,x41,x42,x43,x44,x45,x46,x47,x48,x49,x50,x51,x52,x53,x54,x55,x56,x57]) S =
    (andK (vIndexAddr Try.prog 33 (dem x0) (dem x7) S) (fun v2 S1 => andK (vLoad Try.prog false 5 v2 S1) (fun v3 S2 => andK (vBin Try.prog BinOp.lss 5 v3 (Value.int IntKind.u8 128) S2) (fun v4 S3 => some ([x0,x1,x2,x3,x4,x5,x6,x7,x8,x9,x10,x11,x12,x13,x14,x15,x16,x17,x18,x19,x20,x21,x22,x23,x24,x25,x26,x27,x28,x29,x30,x31,x32,x33,x34,x35,x36,x37,x38,dem x0,dem x7,v2,v3,v4,x44,x45,x46,x47,x48,x49,x50,x51,x52,x53,x54,x55,x56,x57], S3)) ()) ()) ()) := by
  refine sP Try.f46 11 0 (v := x0) ?_
  refine sP Try.f46 11 1 (v := x7) ?_
  refine sD Try.f46 11 2 (fun v2 S1 => ?_)
  refine sD Try.f46 11 3 (fun v3 S2 => ?_)
  refine sD Try.f46 11 4 (fun v4 S3 => ?_)
  kernel_rfl
theorem neaptideref01_ReadNum.r12  : vOps Try.prog ⟨false, false, false⟩ (vlim Try.prog O) (reg Try.f46 12) (reg Try.f46 12).toList ([x0,x1,x2,x3,x4,x5,x6,x7,x8,x9,x10,x11,x12,x13,x14,x15,x16,x17,x18,x19,x20,x21,x22,x23,x24,x25,x26,x27,x28,x29,x30,x31,x32,x33,x34,x35,x36,x37,x38,x39,x40,x41,x42,x43,x44,x45,x46,x47,x48,x49,x50,x51,x52,x53,x54,x55,x56,x57]) S =
    (andK ((vlim Try.prog O) 41 [(dem (dem x5))] S) (fun v1 S1 => some ([x0,x1,x2,x3,x4,x5,x6,x7,x8,v1,x10,x11,x12,x13,x14,x15,x16,x17,x18,x19,x20,x21,x22,x23,x24,x25,x26,x27,x28,x29,x30,x31,x32,x33,x34,x35,x36,x37,x38,x39,x40,x41,x42,x43,dem x5,dem v1,x46,x47,x48,x49,x50,x51,x52,x53,x54,x55,x56,x57], S1)) ()) := by
  refine sP Try.f46 12 0 (v := x5) ?_
  refine sD Try.f46 12 1 (fun v1 S1 => ?_)
  refine sP Try.f46 12 2 (v := v1) ?_
  kernel_rfl
theorem neaptideref01_ReadNum.r13  : vOps Try.prog ⟨false, false, false⟩ (vlim Try.prog O) (reg Try.f46 13) (reg Try.f46 13).toList ([x0,x1,x2,x3,x4,x5,x6,x7,x8,x9,x10,x11,x12,x13,x14,x15,x16,x17,x18,x19,x20,x21,x22,x23,x24,x25,x26,x27,x28,x29,x30,x31,x32,x33,x34,x35,x36,x37,x38,x39,x40,x41,x42,x43,x44,x45,x46,x47,x48,x49,x50,x51,x52,x53,x54,x55,x56,x57]) S =
    (andK (vLen Try.prog 33 (dem x9) S) (fun v1 S1 => andK (vBin Try.prog BinOp.add 3 (dem x7) (Value.int IntKind.i64 1) S1) (fun v3 S2 => andK (vBin Try.prog BinOp.neq 3 v1 v3 S2) (fun v4 S3 => some ([x0,x1,x2,x3,x4,x5,x6,x7,x8,x9,x10,x11,x12,x13,x14,x15,x16,x17,x18,x19,x20,x21,x22,x23,x24,x25,x26,x27,x28,x29,x30,x31,x32,x33,x34,x35,x36,x37,x38,x39,x40,x41,x42,x43,x44,x45,dem x9,v1,dem x7,v3,v4,x51,x52,x53,x54,x55,x56,x57], S3)) ()) ()) ()) := by
  refine sP Try.f46 13 0 (v := x9) ?_
  refine sD Try.f46 13 1 (fun v1 S1 => ?_)
  refine sP Try.f46 13 2 (v := x7) ?_
  refine sD Try.f46 13 3 (fun v3 S2 => ?_)
  refine sD Try.f46 13 4 (fun v4 S3 => ?_)
  kernel_rfl
theorem neaptideref01_ReadNum.r14  : vOps Try.prog ⟨false, false, false⟩ (vlim Try.prog O) (reg Try.f46 14) (reg Try.f46 14).toList ([x0,x1,x2,x3,x4,x5,x6,x7,x8,x9,x10,x11,x12,x13,x14,x15,x16,x17,x18,x19,x20,x21,x22,x23,x24,x25,x26,x27,x28,x29,x30,x31,x32,x33,x34,x35,x36,x37,x38,x39,x40,x41,x42,x43,x44,x45,x46,x47,x48,x49,x50,x51,x52,x53,x54,x55,x56,x57]) S =
    ( some ([x0,x1,Value.int IntKind.u64 0,Value.slice none 0 0,Value.int IntKind.i64 11,x5,x6,x7,x8,x9,x10,x11,x12,x13,x14,x15,x16,x17,x18,x19,x20,x21,x22,x23,x24,x25,x26,x27,x28,x29,x30,x31,x32,x33,x34,x35,x36,x37,x38,x39,x40,x41,x42,x43,x44,x45,x46,x47,x48,x49,x50,x51,x52,x53,x54,x55,x56,x57], S)) := by
  refine sP Try.f46 14 0 (v := (Value.int IntKind.u64 0)) ?_
  refine sP Try.f46 14 1 (v := (Value.slice none 0 0)) ?_
  refine sP Try.f46 14 2 (v := (Value.int IntKind.i64 11)) ?_
  kernel_rfl
theorem neaptideref01_ReadNum.r15  : vOps Try.prog ⟨false, false, false⟩ (vlim Try.prog O) (reg Try.f46 15) (reg Try.f46 15).toList ([x0,x1,x2,x3,x4,x5,x6,x7,x8,x9,x10,x11,x12,x13,x14,x15,x16,x17,x18,x19,x20,x21,x22,x23,x24,x25,x26,x27,x28,x29,x30,x31,x32,x33,x34,x35,x36,x37,x38,x39,x40,x41,x42,x43,x44,x45,x46,x47,x48,x49,x50,x51,x52,x53,x54,x55,x56,x57]) S =
    (andK (vBuildSlice Try.prog 33 0 [] S) (fun v1 S1 => andK (vBin Try.prog BinOp.add 3 (dem x7) (Value.int IntKind.i64 1) S1) (fun v4 S2 => andK (vSliceF Try.prog false 33 (dem x0) (some v4) none S2) (fun v5 S3 => andK (vAppend Try.prog 33 33 v1 v5 S3) (fun v6 S4 => some ([x0,x1,x5,v6,Value.int IntKind.i64 0,dem x5,x6,x7,x8,x9,x10,x11,x12,x13,x14,x15,x16,x17,x18,x19,x20,x21,x22,x23,x24,x25,x26,x27,x28,x29,x30,x31,x32,x33,x34,x35,x36,x37,x38,x39,x40,x41,x42,x43,x44,x45,x46,x47,x48,x49,x50,dem x5,dem v1,dem x0,dem x7,v4,v5,dem v6], S4)) ()) ()) ()) ()) := by
  refine sP Try.f46 15 0 (v := x5) ?_
  refine sD Try.f46 15 1 (fun v1 S1 => ?_)
  refine sP Try.f46 15 2 (v := x0) ?_
  refine sP Try.f46 15 3 (v := x7) ?_
  refine sD Try.f46 15 4 (fun v4 S2 => ?_)
  refine sD Try.f46 15 5 (fun v5 S3 => ?_)
  refine sD Try.f46 15 6 (fun v6 S4 => ?_)
  refine sP Try.f46 15 7 (v := x5) ?_
  refine sP Try.f46 15 8 (v := v6) ?_
  refine sP Try.f46 15 9 (v := (Value.int IntKind.i64 0)) ?_
  kernel_rfl
theorem neaptideref01_ReadNum.r5  : vOps Try.prog ⟨false, false, false⟩ (vlim Try.prog O) (reg Try.f46 5) (reg Try.f46 5).toList ([x0,x1,x2,x3,x4,x5,x6,x7,x8,x9,x10,x11,x12,x13,x14,x15,x16,x17,x18,x19,x20,x21,x22,x23,x24,x25,x26,x27,x28,x29,x30,x31,x32,x33,x34,x35,x36,x37,x38,x39,x40,x41,x42,x43,x44,x45,x46,x47,x48,x49,x50,x51,x52,x53,x54,x55,x56,x57]) S =
    (andK (vBin Try.prog BinOp.add 3 (dem x7) (Value.int IntKind.i64 1) S) (fun v1 S1 => some ([x0,x1,x2,x3,x4,x5,x6,v1,x8,x9,x10,x11,x12,x13,x14,x15,x16,x17,dem x7,dem v1,x20,x21,x22,x23,x24,x25,x26,x27,x28,x29,x30,x31,x32,x33,x34,x35,x36,x37,x38,x39,x40,x41,x42,x43,x44,x45,x46,x47,x48,x49,x50,x51,x52,x53,x54,x55,x56,x57], S1)) ()) := by
  refine sP Try.f46 5 0 (v := x7) ?_
  refine sD Try.f46 5 1 (fun v1 S1 => ?_)
  refine sP Try.f46 5 2 (v := v1) ?_
  kernel_rfl
theorem neaptideref01_ReadNum.r16  : vOps Try.prog ⟨false, false, false⟩ (vlim Try.prog O) (reg Try.f46 16) (reg Try.f46 16).toList ([x0,x1,x2,x3,x4,x5,x6,x7,x8,x9,x10,x11,x12,x13,x14,x15,x16,x17,x18,x19,x20,x21,x22,x23,x24,x25,x26,x27,x28,x29,x30,x31,x32,x33,x34,x35,x36,x37,x38,x39,x40,x41,x42,x43,x44,x45,x46,x47,x48,x49,x50,x51,x52,x53,x54,x55,x56,x57]) S =
    ( some ([x0,x1,Value.int IntKind.u64 0,Value.slice none 0 0,Value.int IntKind.i64 11,x5,x6,x7,x8,x9,x10,x11,x12,x13,x14,x15,x16,x17,x18,x19,x20,x21,x22,x23,x24,x25,x26,x27,x28,x29,x30,x31,x32,x33,x34,x35,x36,x37,x38,x39,x40,x41,x42,x43,x44,x45,x46,x47,x48,x49,x50,x51,x52,x53,x54,x55,x56,x57], S)) := by
  refine sP Try.f46 16 0 (v := (Value.int IntKind.u64 0)) ?_
  refine sP Try.f46 16 1 (v := (Value.slice none 0 0)) ?_
  refine sP Try.f46 16 2 (v := (Value.int IntKind.i64 11)) ?_
  kernel_rfl
theorem neaptideref01_ReadNum.rs : type_of% (And.intro @neaptideref01_ReadNum.r0 (And.intro @neaptideref01_ReadNum.r1 (And.intro @neaptideref01_ReadNum.r2 (And.intro @neaptideref01_ReadNum.r3 (And.intro @neaptideref01_ReadNum.r4 (And.intro @neaptideref01_ReadNum.r6 (And.intro @neaptideref01_ReadNum.r7 (And.intro @neaptideref01_ReadNum.r8 (And.intro @neaptideref01_ReadNum.r9 (And.intro @neaptideref01_ReadNum.r10 (And.intro @neaptideref01_ReadNum.r11 (And.intro @neaptideref01_ReadNum.r12 (And.intro @neaptideref01_ReadNum.r13 (And.intro @neaptideref01_ReadNum.r14 (And.intro @neaptideref01_ReadNum.r15 (And.intro @neaptideref01_ReadNum.r5 (@neaptideref01_ReadNum.r16))))))))))))))))) := And.intro @neaptideref01_ReadNum.r0 (And.intro @neaptideref01_ReadNum.r1 (And.intro @neaptideref01_ReadNum.r2 (And.intro @neaptideref01_ReadNum.r3 (And.intro @neaptideref01_ReadNum.r4 (And.intro @neaptideref01_ReadNum.r6 (And.intro @neaptideref01_ReadNum.r7 (And.intro @neaptideref01_ReadNum.r8 (And.intro @neaptideref01_ReadNum.r9 (And.intro @neaptideref01_ReadNum.r10 (And.intro @neaptideref01_ReadNum.r11 (And.intro @neaptideref01_ReadNum.r12 (And.intro @neaptideref01_ReadNum.r13 (And.intro @neaptideref01_ReadNum.r14 (And.intro @neaptideref01_ReadNum.r15 (And.intro @neaptideref01_ReadNum.r5 (@neaptideref01_ReadNum.r16))))))))))))))))
theorem neaptideref01_ReadNum.runs {x0 : Value} {S S1 : AHeap} {e : AEx} {T : List Value} (h : vcodeV Try.prog O false neaptideref01_ReadNum.code ([x0,undef,undef,undef,undef,undef,undef,undef,undef,undef,undef,undef,undef,undef,undef,undef,undef,undef,undef,undef,undef,undef,undef,undef,undef,undef,undef,undef,undef,undef,undef,undef,undef,undef,undef,undef,undef,undef,undef,undef,undef,undef,undef,undef,undef,undef,undef,undef,undef,undef,undef,undef,undef,undef,undef,undef,undef,undef]) S = some (e, T, S1)) (he : e = .normal ∨ e = .ret)  (h0 : notTuple (T.getD 2 undef) = true) (h1 : notTuple (T.getD 3 undef) = true) (h2 : notTuple (T.getD 4 undef) = true) : vlim Try.prog O 46 [x0] S = some (Value.tuple #[T.getD 2 undef, T.getD 3 undef, T.getD 4 undef], S1) :=
  vlim_code rfl rfl Try.func46 (by decide) neaptideref01_ReadNum.body (by exact h) he ((vRes_many ((show vResVals Try.prog T S1 Try.f46.results.toList = vResVals Try.prog T S1 [(ResultVar.tmp 2), (ResultVar.tmp 3), (ResultVar.tmp 4)] from by kernel_rfl).trans (by simp only [vResVals])) (by kernel_rfl) (by simp only [List.all_cons, List.all_nil, h0, h1, h2, Bool.and_true])).trans rfl)
end Go.Proofs.Ytgggklfbhmlapaa

namespace Go.Proofs.Ytgggklfbhmlapaa
open Go.Abs

/-- slices.Clone[[]byte,byte] -/
abbrev slices_Clone.id : FuncId := 43
noncomputable def slices_Clone.code : Code := (Code.seq (Code.region 0 (reg Try.f43 0) false) (Code.seq (Code.seq (Code.region 1 (reg Try.f43 1) false) (Code.cond (Operand.tmp 4) (Code.seq (Code.region 2 (reg Try.f43 2) false) Code.ret) Code.skip)) (Code.seq (Code.region 3 (reg Try.f43 3) false) Code.ret)))
theorem slices_Clone.body : Try.f43.body = some slices_Clone.code := by kernel_rfl
theorem slices_Clone.eta {T : List Value} (h : T.length = 8) : T = [T.getD 0 undef,T.getD 1 undef,T.getD 2 undef,T.getD 3 undef,T.getD 4 undef,T.getD 5 undef,T.getD 6 undef,T.getD 7 undef] := (list_getD T 8 h).trans (by kernel_rfl)
variable (x0 x1 x2 x3 x4 x5 x6 x7 : Value) (S : AHeap)
theorem slices_Clone.r0  : vOps Try.prog ⟨false, false, false⟩ (vlim Try.prog O) (reg Try.f43 0) (reg Try.f43 0).toList ([x0,x1,x2,x3,x4,x5,x6,x7]) S =
    ( some ([x0,x1,Value.slice none 0 0,x3,x4,x5,x6,x7], S)) := by
  refine sP Try.f43 0 0 (v := (Value.slice none 0 0)) ?_
  kernel_rfl
theorem slices_Clone.r1  : vOps Try.prog ⟨false, false, false⟩ (vlim Try.prog O) (reg Try.f43 1) (reg Try.f43 1).toList ([x0,x1,x2,x3,x4,x5,x6,x7]) S =
    (andK (vBin Try.prog BinOp.eql 33 (dem x0) (Value.slice none 0 0) S) (fun v1 S1 => some ([x0,x1,x2,dem x0,v1,x5,x6,x7], S1)) ()) := by
  refine sP Try.f43 1 0 (v := x0) ?_
  refine sD Try.f43 1 1 (fun v1 S1 => ?_)
  kernel_rfl
theorem slices_Clone.r2  : vOps Try.prog ⟨false, false, false⟩ (vlim Try.prog O) (reg Try.f43 2) (reg Try.f43 2).toList ([x0,x1,x2,x3,x4,x5,x6,x7]) S =
    ( some ([x0,x1,Value.slice none 0 0,x3,x4,x5,x6,x7], S)) := by
  refine sP Try.f43 2 0 (v := (Value.slice none 0 0)) ?_
  kernel_rfl
theorem slices_Clone.r3  : vOps Try.prog ⟨false, false, false⟩ (vlim Try.prog O) (reg Try.f43 3) (reg Try.f43 3).toList ([x0,x1,x2,x3,x4,x5,x6,x7]) S =
    (andK (vBuildSlice Try.prog 33 0 [] S) (fun v0 S1 => andK (vAppend Try.prog 33 33 v0 (dem x0) S1) (fun v2 S2 => some ([x0,x1,v2,x3,x4,dem v0,dem x0,dem v2], S2)) ()) ()) := by
  refine sD Try.f43 3 0 (fun v0 S1 => ?_)
  refine sP Try.f43 3 1 (v := x0) ?_
  refine sD Try.f43 3 2 (fun v2 S2 => ?_)
  refine sP Try.f43 3 3 (v := v2) ?_
  kernel_rfl
theorem slices_Clone.rs : type_of% (And.intro @slices_Clone.r0 (And.intro @slices_Clone.r1 (And.intro @slices_Clone.r2 (@slices_Clone.r3)))) := And.intro @slices_Clone.r0 (And.intro @slices_Clone.r1 (And.intro @slices_Clone.r2 (@slices_Clone.r3)))
theorem slices_Clone.runs {x0 : Value} {S S1 : AHeap} {e : AEx} {T : List Value} (h : vcodeV Try.prog O false slices_Clone.code ([x0,undef,undef,undef,undef,undef,undef,undef]) S = some (e, T, S1)) (he : e = .normal ∨ e = .ret) : vlim Try.prog O 43 [x0] S = some (T.getD 2 undef, S1) :=
  vlim_code rfl rfl Try.func43 (by decide) slices_Clone.body (by exact h) he (vRes_one (a := T.getD 2 undef) ((show vResVals Try.prog T S1 Try.f43.results.toList = vResVals Try.prog T S1 [(ResultVar.tmp 2)] from by kernel_rfl).trans (by simp only [vResVals])) (by kernel_rfl))
end Go.Proofs.Ytgggklfbhmlapaa

namespace Go.Proofs.Ytgggklfbhmlapaa
open Go.Abs

/-- neaptide.wire.ReadNum -/
abbrev wire_ReadNum.id : FuncId := 44
noncomputable def wire_ReadNum.loop1 : Code := (Code.seq (Code.region 3 (reg Try.f44 3) false) (Code.seq (Code.cond (Operand.tmp 11) Code.skip (Code.exit 0)) (Code.seq (Code.block 1 (Code.seq (Code.region 4 (reg Try.f44 4) false) (Code.seq (Code.seq (Code.region 5 (reg Try.f44 5) false) (Code.cond (Operand.tmp 28) (Code.exit 0) Code.skip)) (Code.seq (Code.region 6 (reg Try.f44 6) false) (Code.seq (Code.region 7 (reg Try.f44 7) false) (Code.cond (Operand.tmp 38) (Code.seq (Code.region 8 (reg Try.f44 8) false) Code.ret) Code.skip)))))) (Code.region 9 (reg Try.f44 9) false))))
noncomputable def wire_ReadNum.code : Code := (Code.seq (Code.region 0 (reg Try.f44 0) false) (Code.seq (Code.region 1 (reg Try.f44 1) false) (Code.seq (Code.seq (Code.region 2 (reg Try.f44 2) false) (Code.block 0 (Code.loop wire_ReadNum.loop1))) (Code.seq (Code.region 10 (reg Try.f44 10) false) Code.ret))))
theorem wire_ReadNum.body : Try.f44.body = some wire_ReadNum.code := by kernel_rfl
theorem wire_ReadNum.eta {T : List Value} (h : T.length = 46) : T = [T.getD 0 undef,T.getD 1 undef,T.getD 2 undef,T.getD 3 undef,T.getD 4 undef,T.getD 5 undef,T.getD 6 undef,T.getD 7 undef,T.getD 8 undef,T.getD 9 undef,T.getD 10 undef,T.getD 11 undef,T.getD 12 undef,T.getD 13 undef,T.getD 14 undef,T.getD 15 undef,T.getD 16 undef,T.getD 17 undef,T.getD 18 undef,T.getD 19 undef,T.getD 20 undef,T.getD 21 undef,T.getD 22 undef,T.getD 23 undef,T.getD 24 undef,T.getD 25 undef,T.getD 26 undef,T.getD 27 undef,T.getD 28 undef,T.getD 29 undef,T.getD 30 undef,T.getD 31 undef,T.getD 32 undef,T.getD 33 undef,T.getD 34 undef,T.getD 35 undef,T.getD 36 undef,T.getD 37 undef,T.getD 38 undef,T.getD 39 undef,T.getD 40 undef,T.getD 41 undef,T.getD 42 undef,T.getD 43 undef,T.getD 44 undef,T.getD 45 undef] := (list_getD T 46 h).trans (by kernel_rfl)
theorem wire_ReadNum.list {T : List Value} (h : T.length = 46) : ∃ x0 x1 x2 x3 x4 x5 x6 x7 x8 x9 x10 x11 x12 x13 x14 x15 x16 x17 x18 x19 x20 x21 x22 x23 x24 x25 x26 x27 x28 x29 x30 x31 x32 x33 x34 x35 x36 x37 x38 x39 x40 x41 x42 x43 x44 x45, T = [x0,x1,x2,x3,x4,x5,x6,x7,x8,x9,x10,x11,x12,x13,x14,x15,x16,x17,x18,x19,x20,x21,x22,x23,x24,x25,x26,x27,x28,x29,x30,x31,x32,x33,x34,x35,x36,x37,x38,x39,x40,x41,x42,x43,x44,x45] := ⟨_, _, _, _, _, _, _, _, _, _, _, _, _, _, _, _, _, _, _, _, _, _, _, _, _, _, _, _, _, _, _, _, _, _, _, _, _, _, _, _, _, _, _, _, _, _, wire_ReadNum.eta h⟩
variable (x0 x1 x2 x3 x4 x5 x6 x7 x8 x9 x10 x11 x12 x13 x14 x15 x16 x17 x18 x19 x20 x21 x22 x23 x24 x25 x26 x27 x28 x29 x30 x31 x32 x33 x34 x35 x36 x37 x38 x39 x40 x41 x42 x43 x44 x45 : Value) (S : AHeap)
theorem wire_ReadNum.r0  : vOps Try.prog ⟨false, false, false⟩ (vlim Try.prog O) (reg Try.f44 0) (reg Try.f44 0).toList ([x0,x1,x2,x3,x4,x5,x6,x7,x8,x9,x10,x11,x12,x13,x14,x15,x16,x17,x18,x19,x20,x21,x22,x23,x24,x25,x26,x27,x28,x29,x30,x31,x32,x33,x34,x35,x36,x37,x38,x39,x40,x41,x42,x43,x44,x45]) S =
    ( some ([x0,x1,Value.int IntKind.u64 0,Value.slice none 0 0,Value.int IntKind.i64 0,x5,x6,x7,x8,x9,x10,x11,x12,x13,x14,x15,x16,x17,x18,x19,x20,x21,x22,x23,x24,x25,x26,x27,x28,x29,x30,x31,x32,x33,x34,x35,x36,x37,x38,x39,x40,x41,x42,x43,x44,x45], S)) := by
  refine sP Try.f44 0 0 (v := (Value.int IntKind.u64 0)) ?_
  refine sP Try.f44 0 1 (v := (Value.slice none 0 0)) ?_
  refine sP Try.f44 0 2 (v := (Value.int IntKind.i64 0)) ?_
  kernel_rfl
theorem wire_ReadNum.r1  : vOps Try.prog ⟨false, false, false⟩ (vlim Try.prog O) (reg Try.f44 1) (reg Try.f44 1).toList ([x0,x1,x2,x3,x4,x5,x6,x7,x8,x9,x10,x11,x12,x13,x14,x15,x16,x17,x18,x19,x20,x21,x22,x23,x24,x25,x26,x27,x28,x29,x30,x31,x32,x33,x34,x35,x36,x37,x38,x39,x40,x41,x42,x43,x44,x45]) S =
    ( some ([x0,x1,x2,x3,x4,Value.int IntKind.u64 0,x6,x7,x8,x9,x10,x11,x12,x13,x14,x15,x16,x17,x18,x19,x20,x21,x22,x23,x24,x25,x26,x27,x28,x29,x30,x31,x32,x33,x34,x35,x36,x37,x38,x39,x40,x41,x42,x43,x44,x45], S)) := by
  refine sP Try.f44 1 0 (v := (Value.int IntKind.u64 0)) ?_
  kernel_rfl
theorem wire_ReadNum.r2  : vOps Try.prog ⟨false, false, false⟩ (vlim Try.prog O) (reg Try.f44 2) (reg Try.f44 2).toList ([x0,x1,x2,x3,x4,x5,x6,x7,x8,x9,x10,x11,x12,x13,x14,x15,x16,x17,x18,x19,x20,x21,x22,x23,x24,x25,x26,x27,x28,x29,x30,x31,x32,x33,x34,x35,x36,x37,x38,x39,x40,x41,x42,x43,x44,x45]) S =
    (andK (vLen Try.prog 33 (dem x0) S) (fun v1 S1 => some ([x0,x1,x2,x3,x4,x5,x6,x7,dem x0,v1,Value.int IntKind.i64 0,x11,x12,x13,x14,x15,x16,x17,x18,x19,x20,x21,x22,x23,x24,x25,x26,x27,x28,x29,x30,x31,x32,x33,x34,x35,x36,x37,x38,x39,x40,x41,x42,x43,x44,x45], S1)) ()) := by
  refine sP Try.f44 2 0 (v := x0) ?_
  refine sD Try.f44 2 1 (fun v1 S1 => ?_)
  refine sP Try.f44 2 2 (v := (Value.int IntKind.i64 0)) ?_
  kernel_rfl
theorem wire_ReadNum.r3  : vOps Try.prog ⟨false, false, false⟩ (vlim Try.prog O) (reg Try.f44 3) (reg Try.f44 3).toList ([x0,x1,x2,x3,x4,x5,x6,x7,x8,x9,x10,x11,x12,x13,x14,x15,x16,x17,x18,x19,x20,x21,x22,x23,x24,x25,x26,x27,x28,x29,x30,x31,x32,x33,x34,x35,x36,x37,x38,x39,x40,x41,x42,x43,x44,x45]) S =
    (andK (vBin Try.prog BinOp.lss 3 x10 x9 S) (fun v0 S1 => some ([x0,x1,x2,x3,x4,x5,x6,x7,x8,x9,x10,v0,x12,x13,x14,x15,x16,x17,x18,x19,x20,x21,x22,x23,x24,x25,x26,x27,x28,x29,x30,x31,x32,x33,x34,x35,x36,x37,x38,x39,x40,x41,x42,x43,x44,x45], S1)) ()) := by
  refine sD Try.f44 3 0 (fun v0 S1 => ?_)
  kernel_rfl
theorem wire_ReadNum.r4  : vOps Try.prog ⟨false, false, false⟩ (vlim Try.prog O) (reg Try.f44 4) (reg Try.f44 4).toList ([x0,x1,x2,x3,x4,x5,x6,x7,x8,x9,x10,x11,x12,x13,x14,x15,x16,x17,x18,x19,x20,x21,x22,x23,x24,x25,x26,x27,x28,x29,x30,x31,x32,x33,x34,x35,x36,x37,x38,x39,x40,x41,x42,x43,x44,x45]) S =
    (andK (vIndexAddr Try.prog 33 x8 (dem x10) S) (fun v1 S1 => andK (vLoad Try.prog false 5 v1 S1) (fun v2 S2 => some ([x0,x1,x2,x3,x4,x5,x10,v2,x8,x9,dem x10,x11,dem x10,v1,dem v2,x15,x16,x17,x18,x19,x20,x21,x22,x23,x24,x25,x26,x27,x28,x29,x30,x31,x32,x33,x34,x35,x36,x37,x38,x39,x40,x41,x42,x43,x44,x45], S2)) ()) ()) := by
  refine sP Try.f44 4 0 (v := x10) ?_
  refine sD Try.f44 4 1 (fun v1 S1 => ?_)
  refine sD Try.f44 4 2 (fun v2 S2 => ?_)
  refine sP Try.f44 4 3 (v := x10) ?_
  refine sP Try.f44 4 4 (v := v2) ?_
  kernel_rfl
theorem wire_ReadNum.r5  : vOps Try.prog ⟨false, false, false⟩ (vlim Try.prog O) (reg Try.f44 5) (reg Try.f44 5).toList ([x0,x1,x2,x3,x4,x5,x6,x7,x8,x9,x10,x11,x12,x13,x14,x15,x16,x17,x18,x19,x20,x21,x22,x23,x24,x25,x26,x27,x28,x29,x30,x31,x32,x33,x34,x35,x36,x37,x38,x39,x40,x41,x42,x43,x44,x45]) S =
    (andK (vBin Try.prog BinOp.eql 3 (dem x6) (Value.int IntKind.i64 9) S) (fun v1 S1 => gdK (dem v1) true (ret x7) S1 (fun v3 S2 => gdK (dem v1) true (vBin Try.prog BinOp.gtr 5 (dem v3) (Value.int IntKind.u8 1)) S2 (fun v4 S3 => andK (vPick (dem v1) v4 (Value.bool false) S3) (fun v5 S4 => gdK (dem v5) false (ret x6) S4 (fun v7 S5 => gdK (dem v5) false (vBin Try.prog BinOp.gtr 3 (dem v7) (Value.int IntKind.i64 0)) S5 (fun v8 S6 => gdK (dem v5) false (ret v8) S6 (fun v9 S7 => gdK (dem v9) true (ret x7) S7 (fun v10 S8 => gdK (dem v9) true (vBin Try.prog BinOp.eql 5 (dem v10) (Value.int IntKind.u8 0)) S8 (fun v11 S9 => gdK (dem v5) false (vPick (dem v9) v11 (Value.bool false)) S9 (fun v12 S10 => andK (vPick (dem v5) (Value.bool true) v12 S10) (fun v13 S11 => some ([x0,x1,x2,x3,x4,x5,x6,x7,x8,x9,x10,x11,x12,x13,x14,dem x6,v1,dem v1,dem v3,v4,v5,dem v5,dem v7,v8,dem v9,dem v10,v11,v12,v13,x29,x30,x31,x32,x33,x34,x35,x36,x37,x38,x39,x40,x41,x42,x43,x44,x45], S11)) ()) ()) ()) ()) ()) ()) ()) ()) ()) ()) ()) := by
  refine sP Try.f44 5 0 (v := x6) ?_
  refine sD Try.f44 5 1 (fun v1 S1 => ?_)
  refine sP Try.f44 5 2 (v := v1) ?_
  refine sG Try.f44 5 3 (j := 2) (fun v3 S2 => ?_)
  refine sG Try.f44 5 4 (j := 2) (fun v4 S3 => ?_)
  refine sD Try.f44 5 5 (fun v5 S4 => ?_)
  refine sP Try.f44 5 6 (v := v5) ?_
  refine sG Try.f44 5 7 (j := 6) (fun v7 S5 => ?_)
  refine sG Try.f44 5 8 (j := 6) (fun v8 S6 => ?_)
  refine sG Try.f44 5 9 (j := 6) (fun v9 S7 => ?_)
  refine sG Try.f44 5 10 (j := 9) (fun v10 S8 => ?_)
  refine sG Try.f44 5 11 (j := 9) (fun v11 S9 => ?_)
  refine sG Try.f44 5 12 (j := 6) (fun v12 S10 => ?_)
  refine sD Try.f44 5 13 (fun v13 S11 => ?_)
  kernel_rfl
theorem wire_ReadNum.r6  : vOps Try.prog ⟨false, false, false⟩ (vlim Try.prog O) (reg Try.f44 6) (reg Try.f44 6).toList ([x0,x1,x2,x3,x4,x5,x6,x7,x8,x9,x10,x11,x12,x13,x14,x15,x16,x17,x18,x19,x20,x21,x22,x23,x24,x25,x26,x27,x28,x29,x30,x31,x32,x33,x34,x35,x36,x37,x38,x39,x40,x41,x42,x43,x44,x45]) S =
    (andK (vBin Try.prog BinOp.and 5 (dem x7) (Value.int IntKind.u8 127) S) (fun v2 S1 => andK (vConvF Try.prog false false 5 68 v2 S1) (fun v3 S2 => andK (vBin Try.prog BinOp.mul 3 (Value.int IntKind.i64 7) (dem x6) S2) (fun v5 S3 => andK (vBin Try.prog BinOp.shl 68 v3 v5 S3) (fun v6 S4 => andK (vBin Try.prog BinOp.or 68 (dem x5) v6 S4) (fun v7 S5 => some ([x0,x1,x2,x3,x4,v7,x6,x7,x8,x9,x10,x11,x12,x13,x14,x15,x16,x17,x18,x19,x20,x21,x22,x23,x24,x25,x26,x27,x28,dem x5,dem x7,v2,v3,dem x6,v5,v6,dem v7,x37,x38,x39,x40,x41,x42,x43,x44,x45], S5)) ()) ()) ()) ()) ()) := by
  refine sP Try.f44 6 0 (v := x5) ?_
  refine sP Try.f44 6 1 (v := x7) ?_
  refine sD Try.f44 6 2 (fun v2 S1 => ?_)
  refine sD Try.f44 6 3 (fun v3 S2 => ?_)
  refine sP Try.f44 6 4 (v := x6) ?_
  refine sD Try.f44 6 5 (fun v5 S3 => ?_)
  refine sD Try.f44 6 6 (fun v6 S4 => ?_)
  refine sD Try.f44 6 7 (fun v7 S5 => ?_)
  refine sP Try.f44 6 8 (v := v7) ?_
  kernel_rfl
theorem wire_ReadNum.r7  : vOps Try.prog ⟨false, false, false⟩ (vlim Try.prog O) (reg Try.f44 7) (reg Try.f44 7).toList ([x0,x1,x2,x3,x4,x5,x6,x7,x8,x9,x10,x11,x12,x13,x14,x15,x16,x17,x18,x19,x20,x21,x22,x23,x24,x25,x26,x27,x28,x29,x30,x31,x32,x33,x34,x35,x36,x37,x38,x39,x40,x41,x42,x43,x44,x45]) S =
    (andK (vBin Try.prog BinOp.lss 5 (dem x7) (Value.int IntKind.u8 128) S) (fun v1 S1 => some ([x0,x1,x2,x3,x4,x5,x6,x7,x8,x9,x10,x11,x12,x13,x14,x15,x16,x17,x18,x19,x20,x21,x22,x23,x24,x25,x26,x27,x28,x29,x30,x31,x32,x33,x34,x35,x36,dem x7,v1,x39,x40,x41,x42,x43,x44,x45], S1)) ()) := by
  refine sP Try.f44 7 0 (v := x7) ?_
  refine sD Try.f44 7 1 (fun v1 S1 => ?_)
  kernel_rfl
theorem wire_ReadNum.r8  : vOps Try.prog ⟨false, false, false⟩ (vlim Try.prog O) (reg Try.f44 8) (reg Try.f44 8).toList ([x0,x1,x2,x3,x4,x5,x6,x7,x8,x9,x10,x11,x12,x13,x14,x15,x16,x17,x18,x19,x20,x21,x22,x23,x24,x25,x26,x27,x28,x29,x30,x31,x32,x33,x34,x35,x36,x37,x38,x39,x40,x41,x42,x43,x44,x45]) S =
    (andK (vBin Try.prog BinOp.add 3 (dem x6) (Value.int IntKind.i64 1) S) (fun v3 S1 => andK (vSliceF Try.prog false 33 (dem x0) (some v3) none S1) (fun v4 S2 => andK ((vlim Try.prog O) 43 [(dem v4)] S2) (fun v5 S3 => some ([x0,x1,x5,v5,Value.int IntKind.i64 0,dem x5,x6,x7,x8,x9,x10,x11,x12,x13,x14,x15,x16,x17,x18,x19,x20,x21,x22,x23,x24,x25,x26,x27,x28,x29,x30,x31,x32,x33,x34,x35,x36,x37,x38,dem x5,dem x0,dem x6,v3,v4,dem v5,x45], S3)) ()) ()) ()) := by
  refine sP Try.f44 8 0 (v := x5) ?_
  refine sP Try.f44 8 1 (v := x0) ?_
  refine sP Try.f44 8 2 (v := x6) ?_
  refine sD Try.f44 8 3 (fun v3 S1 => ?_)
  refine sD Try.f44 8 4 (fun v4 S2 => ?_)
  refine sD Try.f44 8 5 (fun v5 S3 => ?_)
  refine sP Try.f44 8 6 (v := x5) ?_
  refine sP Try.f44 8 7 (v := v5) ?_
  refine sP Try.f44 8 8 (v := (Value.int IntKind.i64 0)) ?_
  kernel_rfl
theorem wire_ReadNum.r9  : vOps Try.prog ⟨false, false, false⟩ (vlim Try.prog O) (reg Try.f44 9) (reg Try.f44 9).toList ([x0,x1,x2,x3,x4,x5,x6,x7,x8,x9,x10,x11,x12,x13,x14,x15,x16,x17,x18,x19,x20,x21,x22,x23,x24,x25,x26,x27,x28,x29,x30,x31,x32,x33,x34,x35,x36,x37,x38,x39,x40,x41,x42,x43,x44,x45]) S =
    (andK (vBin Try.prog BinOp.add 3 x10 (Value.int IntKind.i64 1) S) (fun v0 S1 => some ([x0,x1,x2,x3,x4,x5,x6,x7,x8,x9,dem v0,x11,x12,x13,x14,x15,x16,x17,x18,x19,x20,x21,x22,x23,x24,x25,x26,x27,x28,x29,x30,x31,x32,x33,x34,x35,x36,x37,x38,x39,x40,x41,x42,x43,x44,v0], S1)) ()) := by
  refine sD Try.f44 9 0 (fun v0 S1 => ?_)
  refine sP Try.f44 9 1 (v := v0) ?_
  kernel_rfl
theorem wire_ReadNum.r10  : vOps Try.prog ⟨false, false, false⟩ (vlim Try.prog O) (reg Try.f44 10) (reg Try.f44 10).toList ([x0,x1,x2,x3,x4,x5,x6,x7,x8,x9,x10,x11,x12,x13,x14,x15,x16,x17,x18,x19,x20,x21,x22,x23,x24,x25,x26,x27,x28,x29,x30,x31,x32,x33,x34,x35,x36,x37,x38,x39,x40,x41,x42,x43,x44,x45]) S =
    ( some ([x0,x1,Value.int IntKind.u64 0,Value.slice none 0 0,Value.int IntKind.i64 11,x5,x6,x7,x8,x9,x10,x11,x12,x13,x14,x15,x16,x17,x18,x19,x20,x21,x22,x23,x24,x25,x26,x27,x28,x29,x30,x31,x32,x33,x34,x35,x36,x37,x38,x39,x40,x41,x42,x43,x44,x45], S)) := by
  refine sP Try.f44 10 0 (v := (Value.int IntKind.u64 0)) ?_
  refine sP Try.f44 10 1 (v := (Value.slice none 0 0)) ?_
  refine sP Try.f44 10 2 (v := (Value.int IntKind.i64 11)) ?_
  kernel_rfl
theorem wire_ReadNum.rs : type_of% (And.intro @wire_ReadNum.r0 (And.intro @wire_ReadNum.r1 (And.intro @wire_ReadNum.r2 (And.intro @wire_ReadNum.r3 (And.intro @wire_ReadNum.r4 (And.intro @wire_ReadNum.r5 (And.intro @wire_ReadNum.r6 (And.intro @wire_ReadNum.r7 (And.intro @wire_ReadNum.r8 (And.intro @wire_ReadNum.r9 (@wire_ReadNum.r10))))))))))) := And.intro @wire_ReadNum.r0 (And.intro @wire_ReadNum.r1 (And.intro @wire_ReadNum.r2 (And.intro @wire_ReadNum.r3 (And.intro @wire_ReadNum.r4 (And.intro @wire_ReadNum.r5 (And.intro @wire_ReadNum.r6 (And.intro @wire_ReadNum.r7 (And.intro @wire_ReadNum.r8 (And.intro @wire_ReadNum.r9 (@wire_ReadNum.r10))))))))))
theorem wire_ReadNum.runs {x0 : Value} {S S1 : AHeap} {e : AEx} {T : List Value} (h : vcodeV Try.prog O false wire_ReadNum.code ([x0,undef,undef,undef,undef,undef,undef,undef,undef,undef,undef,undef,undef,undef,undef,undef,undef,undef,undef,undef,undef,undef,undef,undef,undef,undef,undef,undef,undef,undef,undef,undef,undef,undef,undef,undef,undef,undef,undef,undef,undef,undef,undef,undef,undef,undef]) S = some (e, T, S1)) (he : e = .normal ∨ e = .ret)  (h0 : notTuple (T.getD 2 undef) = true) (h1 : notTuple (T.getD 3 undef) = true) (h2 : notTuple (T.getD 4 undef) = true) : vlim Try.prog O 44 [x0] S = some (Value.tuple #[T.getD 2 undef, T.getD 3 undef, T.getD 4 undef], S1) :=
  vlim_code rfl rfl Try.func44 (by decide) wire_ReadNum.body (by exact h) he ((vRes_many ((show vResVals Try.prog T S1 Try.f44.results.toList = vResVals Try.prog T S1 [(ResultVar.tmp 2), (ResultVar.tmp 3), (ResultVar.tmp 4)] from by kernel_rfl).trans (by simp only [vResVals])) (by kernel_rfl) (by simp only [List.all_cons, List.all_nil, h0, h1, h2, Bool.and_true])).trans rfl)
end Go.Proofs.Ytgggklfbhmlapaa

namespace Go.Proofs.Ytgggklfbhmlapaa
open Go.Abs

/-- neaptide.wire.Num -/
abbrev wire_Num.id : FuncId := 40
noncomputable def wire_Num.loop1 : Code := (Code.seq (Code.seq (Code.region 2 (reg Try.f40 2) false) (Code.cond (Operand.tmp 5) Code.skip (Code.exit 0))) (Code.block 1 (Code.seq (Code.region 3 (reg Try.f40 3) false) (Code.region 4 (reg Try.f40 4) false))))
noncomputable def wire_Num.code : Code := (Code.seq (Code.region 0 (reg Try.f40 0) false) (Code.seq (Code.region 1 (reg Try.f40 1) false) (Code.seq (Code.block 0 (Code.loop wire_Num.loop1)) (Code.seq (Code.region 5 (reg Try.f40 5) false) Code.ret))))
theorem wire_Num.body : Try.f40.body = some wire_Num.code := by kernel_rfl
theorem wire_Num.eta {T : List Value} (h : T.length = 19) : T = [T.getD 0 undef,T.getD 1 undef,T.getD 2 undef,T.getD 3 undef,T.getD 4 undef,T.getD 5 undef,T.getD 6 undef,T.getD 7 undef,T.getD 8 undef,T.getD 9 undef,T.getD 10 undef,T.getD 11 undef,T.getD 12 undef,T.getD 13 undef,T.getD 14 undef,T.getD 15 undef,T.getD 16 undef,T.getD 17 undef,T.getD 18 undef] := (list_getD T 19 h).trans (by kernel_rfl)
theorem wire_Num.list {T : List Value} (h : T.length = 19) : ∃ x0 x1 x2 x3 x4 x5 x6 x7 x8 x9 x10 x11 x12 x13 x14 x15 x16 x17 x18, T = [x0,x1,x2,x3,x4,x5,x6,x7,x8,x9,x10,x11,x12,x13,x14,x15,x16,x17,x18] := ⟨_, _, _, _, _, _, _, _, _, _, _, _, _, _, _, _, _, _, _, wire_Num.eta h⟩
variable (x0 x1 x2 x3 x4 x5 x6 x7 x8 x9 x10 x11 x12 x13 x14 x15 x16 x17 x18 : Value) (S : AHeap)
theorem wire_Num.r0  : vOps Try.prog ⟨false, false, false⟩ (vlim Try.prog O) (reg Try.f40 0) (reg Try.f40 0).toList ([x0,x1,x2,x3,x4,x5,x6,x7,x8,x9,x10,x11,x12,x13,x14,x15,x16,x17,x18]) S =
    ( some ([x0,x1,Value.slice none 0 0,x3,x4,x5,x6,x7,x8,x9,x10,x11,x12,x13,x14,x15,x16,x17,x18], S)) := by
  refine sP Try.f40 0 0 (v := (Value.slice none 0 0)) ?_
  kernel_rfl
theorem wire_Num.r1  : vOps Try.prog ⟨false, false, false⟩ (vlim Try.prog O) (reg Try.f40 1) (reg Try.f40 1).toList ([x0,x1,x2,x3,x4,x5,x6,x7,x8,x9,x10,x11,x12,x13,x14,x15,x16,x17,x18]) S =
    ( some ([x0,x1,x2,Value.slice none 0 0,x4,x5,x6,x7,x8,x9,x10,x11,x12,x13,x14,x15,x16,x17,x18], S)) := by
  refine sP Try.f40 1 0 (v := (Value.slice none 0 0)) ?_
  kernel_rfl
theorem wire_Num.r2  : vOps Try.prog ⟨false, false, false⟩ (vlim Try.prog O) (reg Try.f40 2) (reg Try.f40 2).toList ([x0,x1,x2,x3,x4,x5,x6,x7,x8,x9,x10,x11,x12,x13,x14,x15,x16,x17,x18]) S =
    (andK (vBin Try.prog BinOp.geq 68 (dem x0) (Value.int IntKind.u64 128) S) (fun v1 S1 => some ([x0,x1,x2,x3,dem x0,v1,x6,x7,x8,x9,x10,x11,x12,x13,x14,x15,x16,x17,x18], S1)) ()) := by
  refine sP Try.f40 2 0 (v := x0) ?_
  refine sD Try.f40 2 1 (fun v1 S1 => ?_)
  kernel_rfl
theorem wire_Num.r3  : vOps Try.prog ⟨false, false, false⟩ (vlim Try.prog O) (reg Try.f40 3) (reg Try.f40 3).toList ([x0,x1,x2,x3,x4,x5,x6,x7,x8,x9,x10,x11,x12,x13,x14,x15,x16,x17,x18]) S =
    (andK (vConvF Try.prog false false 68 5 (dem x0) S) (fun v2 S1 => andK (vBin Try.prog BinOp.or 5 v2 (Value.int IntKind.u8 128) S1) (fun v3 S2 => andK (vBuildSlice Try.prog 33 1 [(0, v3)] S2) (fun v4 S3 => andK (vAppend Try.prog 33 33 x3 v4 S3) (fun v5 S4 => some ([x0,x1,x2,v5,x4,x5,dem x3,dem x0,v2,v3,v4,dem v5,x12,x13,x14,x15,x16,x17,x18], S4)) ()) ()) ()) ()) := by
  refine sP Try.f40 3 0 (v := x3) ?_
  refine sP Try.f40 3 1 (v := x0) ?_
  refine sD Try.f40 3 2 (fun v2 S1 => ?_)
  refine sD Try.f40 3 3 (fun v3 S2 => ?_)
  refine sD Try.f40 3 4 (fun v4 S3 => ?_)
  refine sD Try.f40 3 5 (fun v5 S4 => ?_)
  refine sP Try.f40 3 6 (v := v5) ?_
  kernel_rfl
theorem wire_Num.r4  : vOps Try.prog ⟨false, false, false⟩ (vlim Try.prog O) (reg Try.f40 4) (reg Try.f40 4).toList ([x0,x1,x2,x3,x4,x5,x6,x7,x8,x9,x10,x11,x12,x13,x14,x15,x16,x17,x18]) S =
    (andK (vBin Try.prog BinOp.shr 68 (dem x0) (Value.int IntKind.u64 7) S) (fun v1 S1 => some ([v1,x1,x2,x3,x4,x5,x6,x7,x8,x9,x10,x11,dem x0,dem v1,x14,x15,x16,x17,x18], S1)) ()) := by
  refine sP Try.f40 4 0 (v := x0) ?_
  refine sD Try.f40 4 1 (fun v1 S1 => ?_)
  refine sP Try.f40 4 2 (v := v1) ?_
  kernel_rfl
theorem wire_Num.r5  : vOps Try.prog ⟨false, false, false⟩ (vlim Try.prog O) (reg Try.f40 5) (reg Try.f40 5).toList ([x0,x1,x2,x3,x4,x5,x6,x7,x8,x9,x10,x11,x12,x13,x14,x15,x16,x17,x18]) S =
    (andK (vConvF Try.prog false false 68 5 (dem x0) S) (fun v2 S1 => andK (vBuildSlice Try.prog 33 1 [(0, v2)] S1) (fun v3 S2 => andK (vAppend Try.prog 33 33 x3 v3 S2) (fun v4 S3 => some ([x0,x1,v4,dem x3,x4,x5,x6,x7,x8,x9,x10,x11,x12,x13,dem x3,dem x0,v2,v3,dem v4], S3)) ()) ()) ()) := by
  refine sP Try.f40 5 0 (v := x3) ?_
  refine sP Try.f40 5 1 (v := x0) ?_
  refine sD Try.f40 5 2 (fun v2 S1 => ?_)
  refine sD Try.f40 5 3 (fun v3 S2 => ?_)
  refine sD Try.f40 5 4 (fun v4 S3 => ?_)
  refine sP Try.f40 5 5 (v := v4) ?_
  kernel_rfl
theorem wire_Num.rs : type_of% (And.intro @wire_Num.r0 (And.intro @wire_Num.r1 (And.intro @wire_Num.r2 (And.intro @wire_Num.r3 (And.intro @wire_Num.r4 (@wire_Num.r5)))))) := And.intro @wire_Num.r0 (And.intro @wire_Num.r1 (And.intro @wire_Num.r2 (And.intro @wire_Num.r3 (And.intro @wire_Num.r4 (@wire_Num.r5)))))
theorem wire_Num.runs {x0 : Value} {S S1 : AHeap} {e : AEx} {T : List Value} (h : vcodeV Try.prog O false wire_Num.code ([x0,undef,undef,undef,undef,undef,undef,undef,undef,undef,undef,undef,undef,undef,undef,undef,undef,undef,undef]) S = some (e, T, S1)) (he : e = .normal ∨ e = .ret) : vlim Try.prog O 40 [x0] S = some (T.getD 2 undef, S1) :=
  vlim_code rfl rfl Try.func40 (by decide) wire_Num.body (by exact h) he (vRes_one (a := T.getD 2 undef) ((show vResVals Try.prog T S1 Try.f40.results.toList = vResVals Try.prog T S1 [(ResultVar.tmp 2)] from by kernel_rfl).trans (by simp only [vResVals])) (by kernel_rfl))
end Go.Proofs.Ytgggklfbhmlapaa

namespace Go.Proofs.Ytgggklfbhmlapaa
open Go.Abs

/-- neaptide.neaptideref01.Num -/
abbrev neaptideref01_Num.id : FuncId := 41
noncomputable def neaptideref01_Num.loop1 : Code := (Code.block 1 (Code.seq (Code.region 2 (reg Try.f41 2) false) (Code.seq (Code.region 3 (reg Try.f41 3) false) (Code.seq (Code.seq (Code.region 4 (reg Try.f41 4) false) (Code.cond (Operand.tmp 12) (Code.seq (Code.region 5 (reg Try.f41 5) false) Code.ret) Code.skip)) (Code.region 6 (reg Try.f41 6) false)))))
noncomputable def neaptideref01_Num.code : Code := (Code.seq (Code.region 0 (reg Try.f41 0) false) (Code.seq (Code.region 1 (reg Try.f41 1) false) (Code.block 0 (Code.loop neaptideref01_Num.loop1))))
theorem neaptideref01_Num.body : Try.f41.body = some neaptideref01_Num.code := by kernel_rfl
theorem neaptideref01_Num.eta {T : List Value} (h : T.length = 22) : T = [T.getD 0 undef,T.getD 1 undef,T.getD 2 undef,T.getD 3 undef,T.getD 4 undef,T.getD 5 undef,T.getD 6 undef,T.getD 7 undef,T.getD 8 undef,T.getD 9 undef,T.getD 10 undef,T.getD 11 undef,T.getD 12 undef,T.getD 13 undef,T.getD 14 undef,T.getD 15 undef,T.getD 16 undef,T.getD 17 undef,T.getD 18 undef,T.getD 19 undef,T.getD 20 undef,T.getD 21 undef] := (list_getD T 22 h).trans (by kernel_rfl)
theorem neaptideref01_Num.list {T : List Value} (h : T.length = 22) : ∃ x0 x1 x2 x3 x4 x5 x6 x7 x8 x9 x10 x11 x12 x13 x14 x15 x16 x17 x18 x19 x20 x21, T = [x0,x1,x2,x3,x4,x5,x6,x7,x8,x9,x10,x11,x12,x13,x14,x15,x16,x17,x18,x19,x20,x21] := ⟨_, _, _, _, _, _, _, _, _, _, _, _, _, _, _, _, _, _, _, _, _, _, neaptideref01_Num.eta h⟩
variable (x0 x1 x2 x3 x4 x5 x6 x7 x8 x9 x10 x11 x12 x13 x14 x15 x16 x17 x18 x19 x20 x21 : Value) (S : AHeap)
theorem neaptideref01_Num.r0  : vOps Try.prog ⟨false, false, false⟩ (vlim Try.prog O) (reg Try.f41 0) (reg Try.f41 0).toList ([x0,x1,x2,x3,x4,x5,x6,x7,x8,x9,x10,x11,x12,x13,x14,x15,x16,x17,x18,x19,x20,x21]) S =
    ( some ([x0,x1,Value.slice none 0 0,x3,x4,x5,x6,x7,x8,x9,x10,x11,x12,x13,x14,x15,x16,x17,x18,x19,x20,x21], S)) := by
  refine sP Try.f41 0 0 (v := (Value.slice none 0 0)) ?_
  kernel_rfl
theorem neaptideref01_Num.r1  : vOps Try.prog ⟨false, false, false⟩ (vlim Try.prog O) (reg Try.f41 1) (reg Try.f41 1).toList ([x0,x1,x2,x3,x4,x5,x6,x7,x8,x9,x10,x11,x12,x13,x14,x15,x16,x17,x18,x19,x20,x21]) S =
    (andK (vBuildSlice Try.prog 33 0 [] S) (fun v0 S1 => some ([x0,x1,x2,v0,x4,dem v0,x6,x7,x8,x9,x10,x11,x12,x13,x14,x15,x16,x17,x18,x19,x20,x21], S1)) ()) := by
  refine sD Try.f41 1 0 (fun v0 S1 => ?_)
  refine sP Try.f41 1 1 (v := v0) ?_
  kernel_rfl
theorem neaptideref01_Num.r2  : vOps Try.prog ⟨false, false, false⟩ (vlim Try.prog O) (reg Try.f41 2) (reg Try.f41 2).toList ([x0,x1,x2,x3,x4,x5,x6,x7,x8,x9,x10,x11,x12,x13,x14,x15,x16,x17,x18,x19,x20,x21]) S =
    (andK (vBin Try.prog BinOp.rem 68 (dem x0) (Value.int IntKind.u64 128) S) (fun v1 S1 => andK (vConvF Try.prog false false 68 5 v1 S1) (fun v2 S2 => some ([x0,x1,x2,x3,v2,x5,dem x0,v1,dem v2,x9,x10,x11,x12,x13,x14,x15,x16,x17,x18,x19,x20,x21], S2)) ()) ()) := by
  refine sP Try.f41 2 0 (v := x0) ?_
  refine sD Try.f41 2 1 (fun v1 S1 => ?_)
  refine sD Try.f41 2 2 (fun v2 S2 => ?_)
  refine sP Try.f41 2 3 (v := v2) ?_
  kernel_rfl
theorem neaptideref01_Num.r3  : vOps Try.prog ⟨false, false, false⟩ (vlim Try.prog O) (reg Try.f41 3) (reg Try.f41 3).toList ([x0,x1,x2,x3,x4,x5,x6,x7,x8,x9,x10,x11,x12,x13,x14,x15,x16,x17,x18,x19,x20,x21]) S =
    (andK (vBin Try.prog BinOp.quo 68 (dem x0) (Value.int IntKind.u64 128) S) (fun v1 S1 => some ([v1,x1,x2,x3,x4,x5,x6,x7,x8,dem x0,dem v1,x11,x12,x13,x14,x15,x16,x17,x18,x19,x20,x21], S1)) ()) := by
  refine sP Try.f41 3 0 (v := x0) ?_
  refine sD Try.f41 3 1 (fun v1 S1 => ?_)
  refine sP Try.f41 3 2 (v := v1) ?_
  kernel_rfl
theorem neaptideref01_Num.r4  : vOps Try.prog ⟨false, false, false⟩ (vlim Try.prog O) (reg Try.f41 4) (reg Try.f41 4).toList ([x0,x1,x2,x3,x4,x5,x6,x7,x8,x9,x10,x11,x12,x13,x14,x15,x16,x17,x18,x19,x20,x21]) S =
    (andK (vBin Try.prog BinOp.eql 68 (dem x0) (Value.int IntKind.u64 0) S) (fun v1 S1 => some ([x0,x1,x2,x3,x4,x5,x6,x7,x8,x9,x10,dem x0,v1,x13,x14,x15,x16,x17,x18,x19,x20,x21], S1)) ()) := by
  refine sP Try.f41 4 0 (v := x0) ?_
  refine sD Try.f41 4 1 (fun v1 S1 => ?_)
  kernel_rfl
theorem neaptideref01_Num.r5  : vOps Try.prog ⟨false, false, false⟩ (vlim Try.prog O) (reg Try.f41 5) (reg Try.f41 5).toList ([x0,x1,x2,x3,x4,x5,x6,x7,x8,x9,x10,x11,x12,x13,x14,x15,x16,x17,x18,x19,x20,x21]) S =
    (andK (vBuildSlice Try.prog 33 1 [(0, (dem x4))] S) (fun v2 S1 => andK (vAppend Try.prog 33 33 x3 v2 S1) (fun v3 S2 => some ([x0,x1,v3,dem x3,x4,x5,x6,x7,x8,x9,x10,x11,x12,dem x3,dem x4,v2,dem v3,x17,x18,x19,x20,x21], S2)) ()) ()) := by
  refine sP Try.f41 5 0 (v := x3) ?_
  refine sP Try.f41 5 1 (v := x4) ?_
  refine sD Try.f41 5 2 (fun v2 S1 => ?_)
  refine sD Try.f41 5 3 (fun v3 S2 => ?_)
  refine sP Try.f41 5 4 (v := v3) ?_
  kernel_rfl
theorem neaptideref01_Num.r6  : vOps Try.prog ⟨false, false, false⟩ (vlim Try.prog O) (reg Try.f41 6) (reg Try.f41 6).toList ([x0,x1,x2,x3,x4,x5,x6,x7,x8,x9,x10,x11,x12,x13,x14,x15,x16,x17,x18,x19,x20,x21]) S =
    (andK (vBin Try.prog BinOp.add 5 (dem x4) (Value.int IntKind.u8 128) S) (fun v2 S1 => andK (vBuildSlice Try.prog 33 1 [(0, v2)] S1) (fun v3 S2 => andK (vAppend Try.prog 33 33 x3 v3 S2) (fun v4 S3 => some ([x0,x1,x2,v4,x4,x5,x6,x7,x8,x9,x10,x11,x12,x13,x14,x15,x16,dem x3,dem x4,v2,v3,dem v4], S3)) ()) ()) ()) := by
  refine sP Try.f41 6 0 (v := x3) ?_
  refine sP Try.f41 6 1 (v := x4) ?_
  refine sD Try.f41 6 2 (fun v2 S1 => ?_)
  refine sD Try.f41 6 3 (fun v3 S2 => ?_)
  refine sD Try.f41 6 4 (fun v4 S3 => ?_)
  refine sP Try.f41 6 5 (v := v4) ?_
  kernel_rfl
theorem neaptideref01_Num.rs : type_of% (And.intro @neaptideref01_Num.r0 (And.intro @neaptideref01_Num.r1 (And.intro @neaptideref01_Num.r2 (And.intro @neaptideref01_Num.r3 (And.intro @neaptideref01_Num.r4 (And.intro @neaptideref01_Num.r5 (@neaptideref01_Num.r6))))))) := And.intro @neaptideref01_Num.r0 (And.intro @neaptideref01_Num.r1 (And.intro @neaptideref01_Num.r2 (And.intro @neaptideref01_Num.r3 (And.intro @neaptideref01_Num.r4 (And.intro @neaptideref01_Num.r5 (@neaptideref01_Num.r6))))))
theorem neaptideref01_Num.runs {x0 : Value} {S S1 : AHeap} {e : AEx} {T : List Value} (h : vcodeV Try.prog O false neaptideref01_Num.code ([x0,undef,undef,undef,undef,undef,undef,undef,undef,undef,undef,undef,undef,undef,undef,undef,undef,undef,undef,undef,undef,undef]) S = some (e, T, S1)) (he : e = .normal ∨ e = .ret) : vlim Try.prog O 41 [x0] S = some (T.getD 2 undef, S1) :=
  vlim_code rfl rfl Try.func41 (by decide) neaptideref01_Num.body (by exact h) he (vRes_one (a := T.getD 2 undef) ((show vResVals Try.prog T S1 Try.f41.results.toList = vResVals Try.prog T S1 [(ResultVar.tmp 2)] from by kernel_rfl).trans (by simp only [vResVals])) (by kernel_rfl))
end Go.Proofs.Ytgggklfbhmlapaa

namespace Go.Proofs.Ytgggklfbhmlapaa
open Go.Abs

/-- A number's bytes. -/
def enc (n : Nat) : List UInt8 := if n < 128 then [UInt8.ofNat n] else UInt8.ofNat (n % 128 + 128) :: enc (n / 128)
termination_by n
decreasing_by omega
theorem enc_small {n : Nat} (h : n < 128) : enc n = [UInt8.ofNat n] := by rw [enc, if_pos h]
theorem enc_big {n : Nat} (h : ¬ n < 128) : enc n = UInt8.ofNat (n % 128 + 128) :: enc (n / 128) := by rw [enc, if_neg h]

theorem wrap_u8 (n : Nat) : IntKind.u8.wrap (n : Int) = ((n % 256 : Nat) : Int) := by
  simp [IntKind.wrap, IntKind.bits, IntKind.signed]
theorem wrap_u64 (n : Nat) : IntKind.u64.wrap (n : Int) = ((n % 2 ^ 64 : Nat) : Int) := by
  simp [IntKind.wrap, IntKind.bits, IntKind.signed]
theorem or128 : ∀ m : Fin 256, orI .u8 (m.val : Int) 128 = ((m.val % 128 + 128 : Nat) : Int) := by decide +kernel
theorem or128_n (n : Nat) : orI .u8 (IntKind.u8.wrap (n : Int)) 128 = ((UInt8.ofNat (n % 128 + 128)).toNat : Int) := by
  rw [wrap_u8, or128 ⟨n % 256, by omega⟩]
  simp only [UInt8.toNat_ofNat']
  omega
theorem small_n {n : Nat} : IntKind.u8.wrap (n : Int) = ((UInt8.ofNat n).toNat : Int) := by
  rw [wrap_u8]
  simp
theorem shr7 (n : Nat) : (n : Int).fdiv (2 ^ min (Int.toNat 7) (IntKind.bits .u64)) = ((n / 128 : Nat) : Int) := by
  have : (2 : Int) ^ min (Int.toNat 7) (IntKind.bits .u64) = 128 := by decide
  rw [this, Int.fdiv_eq_ediv_of_nonneg _ (by omega)]
  omega
theorem enc_len (k : Nat) : ∀ n, n < 128 ^ (k + 1) → (enc n).length ≤ k + 1 := by
  induction k with
  | zero => intro n h; rw [enc_small (by omega)]; simp
  | succ k ih =>
    intro n h
    by_cases hn : n < 128
    · rw [enc_small hn]; simp
    · rw [enc_big hn]
      have := ih (n / 128) (by rw [Nat.div_lt_iff_lt_mul (by omega)]; exact h)
      simp only [List.length_cons]; omega
theorem enc_len10 {n : Nat} (h : n < 2 ^ 64) : (enc n).length ≤ 10 := enc_len 9 n (Nat.lt_of_lt_of_le h (by decide))
theorem tmod128 (n : Nat) : (n : Int).tmod 128 = ((n % 128 : Nat) : Int) := by
  rw [Int.tmod_eq_emod_of_nonneg (by omega)]; omega
theorem tdiv128 (n : Nat) (h : n < 2 ^ 64) : IntKind.u64.wrap ((n : Int).tdiv 128) = ((n / 128 : Nat) : Int) := by
  rw [Int.tdiv_eq_ediv_of_nonneg (by omega), show (n : Int) / 128 = ((n / 128 : Nat) : Int) by omega, wrap_u64]
  omega
theorem low_n (n : Nat) : IntKind.u8.wrap ((n % 128 : Nat) : Int) = ((UInt8.ofNat (n % 128)).toNat : Int) := small_n
theorem low_add (n : Nat) : IntKind.u8.wrap (((UInt8.ofNat (n % 128)).toNat : Int) + 128) = ((UInt8.ofNat (n % 128 + 128)).toNat : Int) := by
  have : ((UInt8.ofNat (n % 128)).toNat : Int) + 128 = ((n % 128 + 128 : Nat) : Int) := by simp only [UInt8.toNat_ofNat']; omega
  rw [this]; exact small_n
theorem by0 : by_ 0 [] = .slice none 0 0 := rfl
theorem by2_0 : sv 2 1 0 [] = by_ 2 [] := rfl
theorem by2_1 (x : UInt8) : sv 2 1 1 [.int .u8 x.toNat] = by_ 2 [x] := rfl
/-- One more byte. -/
theorem by_more {k : Nat} {l : List UInt8} {x : UInt8} {S : AHeap} (h : Okl k l) (hk : k ≠ 1) (hl : l.length ≤ 140737488355000) : vAppend Try.prog 33 33 (by_ k l) (by_ 2 [x]) S = some (by_ 2 (l ++ [x]), S) := by
  rw [by_append h hk Okl.own (by simp; omega), if_neg (fun h => by have := h.2; simp at this)]

theorem wire_Num.round : ∀ (n : Nat) (l : List UInt8) (k : Nat) {T : List Value} {S : AHeap} {r : St}, loopV (vcodeV Try.prog O false wire_Num.loop1) T S = r → T.length = 19 → T.getD 0 undef = .int .u64 n → T.getD 3 undef = by_ k l →
    Okl k l → k ≠ 1 → n * 2 ^ l.length < 2 ^ 64 → ∃ T' l' k' n', r = some (.exit 0, T', S) ∧ T'.length = 19 ∧ T'.getD 0 undef = .int .u64 (n' : Nat) ∧ T'.getD 3 undef = by_ k' l' ∧
      Okl k' l' ∧ k' ≠ 1 ∧ n' < 128 ∧ l' ++ [UInt8.ofNat n'] = l ++ enc n := by
  intro n
  induction n using Nat.strongRecOn with
  | _ n ih =>
    intro l k T S r hL hT h0 h3 hs hk hl
    obtain ⟨x0, x1, x2, x3, x4, x5, x6, x7, x8, x9, x10, x11, x12, x13, x14, x15, x16, x17, x18, hTe⟩ := wire_Num.list hT
    rw [hTe] at h0 h3
    simp only [List.getD_cons_succ, List.getD_cons_zero] at h0 h3
    subst h0 h3
    have hr : vcodeV Try.prog O false wire_Num.loop1 T S = vcodeV Try.prog O false wire_Num.loop1 T S := rfl
    by_cases hlt : n < 128
    · have hd : decide ((128 : Int) ≤ (n : Int)) = false := by simp; omega
      conv at hr =>
        rhs
        rw [hTe]
        simp only [wire_Num.loop1, wk, List.getD_cons_succ, List.getD_cons_zero, if_true, if_false, List.getElem?_cons_succ, List.getElem?_cons_zero, Option.map_some, eq_self, reduceIte, Nat.reduceEqDiff, Int.reduceEq, Int.reduceLT, Int.reduceLE, wire_Num.r2, hd]
      exact ⟨_, l, k, n, hL.symm.trans (loopV_exit hr (by simp)), rfl, rfl, rfl, hs, hk, hlt, by rw [enc_small hlt]⟩
    · have hd : decide ((128 : Int) ≤ (n : Int)) = true := by simp; omega
      have hll : l.length < 64 := by
        have : 2 ^ l.length < 2 ^ 64 := Nat.lt_of_le_of_lt (Nat.le_mul_of_pos_left _ (by omega)) hl
        exact (Nat.pow_lt_pow_iff_right (by omega)).1 this
      have e1 : ∀ x S, vAppend Try.prog 33 33 (by_ k l) (by_ 2 [x]) S = some (by_ 2 (l ++ [x]), S) := fun x S => by_more hs hk (by omega)
      conv at hr =>
        rhs
        rw [hTe]
        simp only [wire_Num.loop1, wk, List.getD_cons_succ, List.getD_cons_zero, if_true, if_false, List.getElem?_cons_succ, List.getElem?_cons_zero, Option.map_some, eq_self, reduceIte, Nat.reduceEqDiff, Int.reduceEq, Int.reduceLT, Int.reduceLE, wire_Num.r2, hd, wire_Num.r3, cv_uint64_uint8, aBin_or, or128_n, bs_L_uint8_1, by2_1, e1, wire_Num.r4, aBin_shr _ _ _ _ (show (0 : Int) ≤ 7 by omega), shr7]
      have hmul : n / 128 * 2 ^ (l.length + 1) < 2 ^ 64 := by
        refine Nat.lt_of_le_of_lt ?_ hl
        rw [Nat.pow_succ, Nat.mul_comm (2 ^ l.length) 2, ← Nat.mul_assoc]
        exact Nat.mul_le_mul_right _ (by omega)
      obtain ⟨T', l', k', n', g1, g2, g3, g4, g5, g6, g7, g8⟩ := ih (n / 128) (by omega) _ 2 ((loopV_step hr).symm.trans hL) rfl rfl rfl Okl.own (by decide) (by simpa using hmul)
      refine ⟨T', l', k', n', g1, g2, g3, g4, g5, g6, g7, ?_⟩
      rw [g8, enc_big hlt, List.append_assoc]; rfl

theorem wire_Num.v (n : Nat) (hn : n < 2 ^ 64) (S : AHeap) : vlim Try.prog O wire_Num.id [.int .u64 n] S = some (by_ 2 (enc n), S) := by
  obtain ⟨T, hTe⟩ : ∃ T, T = (.int .u64 n :: undef :: undef :: undef :: undef :: undef :: undef :: undef :: undef :: undef :: undef :: undef :: undef :: undef :: undef :: undef :: undef :: undef :: undef :: []) := ⟨_, rfl⟩
  have hr : vcodeV Try.prog O false wire_Num.code T S = vcodeV Try.prog O false wire_Num.code T S := rfl
  conv at hr =>
    rhs
    rw [hTe]
    simp only [wire_Num.code, wk, List.getD_cons_succ, List.getD_cons_zero, if_true, if_false, List.getElem?_cons_succ, List.getElem?_cons_zero, Option.map_some, eq_self, reduceIte, Nat.reduceEqDiff, Int.reduceEq, Int.reduceLT, Int.reduceLE, wire_Num.r0, wire_Num.r1]
  generalize hL : loopV (vcodeV Try.prog O false wire_Num.loop1) _ _ = r at hr
  obtain ⟨T', l', k', n', rfl, g2, g3, g4, g5, g6, g7, g8⟩ := wire_Num.round n [] 0 hL rfl rfl rfl Okl.none (by decide) (by simpa using hn)
  obtain ⟨x0, x1, x2, x3, x4, x5, x6, x7, x8, x9, x10, x11, x12, x13, x14, x15, x16, x17, x18, hT'⟩ := wire_Num.list g2
  rw [hT'] at g3 g4
  simp only [List.getD_cons_succ, List.getD_cons_zero] at g3 g4
  subst g3 g4
  have hlen : l'.length + 1 = (enc n).length := by simpa using congrArg List.length g8
  have h10 := enc_len10 hn
  have e1 : ∀ x S, vAppend Try.prog 33 33 (by_ k' l') (by_ 2 [x]) S = some (by_ 2 (l' ++ [x]), S) := fun x S => by_more g5 g6 (by omega)
  conv at hr =>
    rhs
    rw [hT']
    simp only [wk, List.getD_cons_succ, List.getD_cons_zero, if_true, if_false, List.getElem?_cons_succ, List.getElem?_cons_zero, Option.map_some, eq_self, reduceIte, Nat.reduceEqDiff, Int.reduceEq, Int.reduceLT, Int.reduceLE, wire_Num.r5, cv_uint64_uint8, small_n, bs_L_uint8_1, by2_1, e1]
  rw [hTe] at hr
  have := wire_Num.runs hr (.inr rfl)
  rw [List.nil_append] at g8
  rw [← g8]
  exact this

theorem neaptideref01_Num.round : ∀ (n : Nat) (l : List UInt8) {T : List Value} {S : AHeap} {r : St}, loopV (vcodeV Try.prog O false neaptideref01_Num.loop1) T S = r → T.length = 22 → T.getD 0 undef = .int .u64 n → T.getD 3 undef = by_ 2 l →
    n * 2 ^ l.length < 2 ^ 64 → l.length < 64 → ∃ T', r = some (.ret, T', S) ∧ T'.getD 2 undef = by_ 2 (l ++ enc n) := by
  intro n
  induction n using Nat.strongRecOn with
  | _ n ih =>
    intro l T S r hL hT h0 h3 hl hll
    obtain ⟨x0, x1, x2, x3, x4, x5, x6, x7, x8, x9, x10, x11, x12, x13, x14, x15, x16, x17, x18, x19, x20, x21, hTe⟩ := neaptideref01_Num.list hT
    rw [hTe] at h0 h3
    simp only [List.getD_cons_succ, List.getD_cons_zero] at h0 h3
    subst h0 h3
    have hn : n < 2 ^ 64 := Nat.lt_of_le_of_lt (Nat.le_mul_of_pos_right _ (by exact Nat.two_pow_pos _)) hl
    have e1 : ∀ x S, vAppend Try.prog 33 33 (by_ 2 l) (by_ 2 [x]) S = some (by_ 2 (l ++ [x]), S) := fun x S => by_more Okl.own (by decide) (by omega)
    have hr : vcodeV Try.prog O false neaptideref01_Num.loop1 T S = vcodeV Try.prog O false neaptideref01_Num.loop1 T S := rfl
    conv at hr =>
      rhs
      rw [hTe]
      simp only [neaptideref01_Num.loop1, wk, List.getD_cons_succ, List.getD_cons_zero, if_true, if_false, List.getElem?_cons_succ, List.getElem?_cons_zero, Option.map_some, eq_self, reduceIte, Nat.reduceEqDiff, Int.reduceEq, Int.reduceLT, Int.reduceLE, neaptideref01_Num.r2, neaptideref01_Num.r3, neaptideref01_Num.r4, aBin_rem _ _ _ (show (128 : Int) ≠ 0 by omega), aBin_quo _ _ _ (show (128 : Int) ≠ 0 by omega), tmod128, tdiv128 n hn, cv_uint64_uint8, low_n]
    by_cases hz : n / 128 = 0
    · have hd : decide (((n / 128 : Nat) : Int) = 0) = true := by simp; omega
      conv at hr =>
        rhs
        simp only [hd, wk, List.getD_cons_succ, List.getD_cons_zero, if_true, if_false, List.getElem?_cons_succ, List.getElem?_cons_zero, Option.map_some, eq_self, reduceIte, Nat.reduceEqDiff, Int.reduceEq, Int.reduceLT, Int.reduceLE, neaptideref01_Num.r5, bs_L_uint8_1, by2_1, e1]
      refine ⟨_, hL.symm.trans (loopV_exit hr (by simp)), ?_⟩
      rw [enc_small (by omega)]
      simp only [List.getD_cons_succ, List.getD_cons_zero]
      rw [show n % 128 = n by omega]
    · have hd : decide (((n / 128 : Nat) : Int) = 0) = false := by simp; omega
      conv at hr =>
        rhs
        simp only [hd, wk, List.getD_cons_succ, List.getD_cons_zero, if_true, if_false, List.getElem?_cons_succ, List.getElem?_cons_zero, Option.map_some, eq_self, reduceIte, Nat.reduceEqDiff, Int.reduceEq, Int.reduceLT, Int.reduceLE, neaptideref01_Num.r6, low_add, bs_L_uint8_1, by2_1, e1]
      have hmul : n / 128 * 2 ^ (l.length + 1) < 2 ^ 64 := by
        refine Nat.lt_of_le_of_lt ?_ hl
        rw [Nat.pow_succ, Nat.mul_comm (2 ^ l.length) 2, ← Nat.mul_assoc]
        exact Nat.mul_le_mul_right _ (by omega)
      have hl2 : l.length + 1 < 64 := by
        have : 2 ^ (l.length + 1) < 2 ^ 64 := Nat.lt_of_le_of_lt (Nat.le_mul_of_pos_left _ (by omega)) hmul
        exact (Nat.pow_lt_pow_iff_right (by omega)).1 this
      obtain ⟨T', g1, g2⟩ := ih (n / 128) (by omega) _ ((loopV_step hr).symm.trans hL) rfl rfl rfl (by simpa using hmul) (by simpa using hl2)
      refine ⟨T', g1, ?_⟩
      rw [g2, enc_big (n := n) (by omega), List.append_assoc]
      rfl

theorem neaptideref01_Num.v (n : Nat) (hn : n < 2 ^ 64) (S : AHeap) : vlim Try.prog O neaptideref01_Num.id [.int .u64 n] S = some (by_ 2 (enc n), S) := by
  obtain ⟨T, hTe⟩ : ∃ T, T = (.int .u64 n :: undef :: undef :: undef :: undef :: undef :: undef :: undef :: undef :: undef :: undef :: undef :: undef :: undef :: undef :: undef :: undef :: undef :: undef :: undef :: undef :: undef :: []) := ⟨_, rfl⟩
  have hr : vcodeV Try.prog O false neaptideref01_Num.code T S = vcodeV Try.prog O false neaptideref01_Num.code T S := rfl
  conv at hr =>
    rhs
    rw [hTe]
    simp only [neaptideref01_Num.code, wk, List.getD_cons_succ, List.getD_cons_zero, if_true, if_false, List.getElem?_cons_succ, List.getElem?_cons_zero, Option.map_some, eq_self, reduceIte, Nat.reduceEqDiff, Int.reduceEq, Int.reduceLT, Int.reduceLE, neaptideref01_Num.r0, neaptideref01_Num.r1, bs_L_uint8_0, by2_0]
  generalize hL : loopV (vcodeV Try.prog O false neaptideref01_Num.loop1) _ _ = r at hr
  obtain ⟨T', rfl, g2⟩ := neaptideref01_Num.round n [] hL rfl rfl rfl (by simpa using hn) (by simp)
  conv at hr =>
    rhs
    simp only [wk, List.getD_cons_succ, List.getD_cons_zero, if_true, if_false, List.getElem?_cons_succ, List.getElem?_cons_zero, Option.map_some, eq_self, reduceIte, Nat.reduceEqDiff, Int.reduceEq, Int.reduceLT, Int.reduceLE]
  rw [hTe] at hr
  have hrun := neaptideref01_Num.runs hr (.inr rfl)
  rw [g2] at hrun
  exact hrun
end Go.Proofs.Ytgggklfbhmlapaa

namespace Go.Proofs.Ytgggklfbhmlapaa
open Go.Abs

theorem slices_Clone.v {k : Nat} {l : List UInt8} (h : Okl k l) (hk : k ≠ 2) (hl : l.length ≤ 140737488355328) (S : AHeap) : vlim Try.prog O slices_Clone.id [by_ k l] S = some (by_ (if k = 0 then 0 else 2) l, S) := by
  obtain ⟨T, hTe⟩ : ∃ T, T = (by_ k l :: undef :: undef :: undef :: undef :: undef :: undef :: undef :: []) := ⟨_, rfl⟩
  have hr : vcodeV Try.prog O false slices_Clone.code T S = vcodeV Try.prog O false slices_Clone.code T S := rfl
  conv at hr =>
    rhs
    rw [hTe]
    simp only [slices_Clone.code, wk, List.getD_cons_succ, List.getD_cons_zero, if_true, if_false, List.getElem?_cons_succ, List.getElem?_cons_zero, Option.map_some, eq_self, reduceIte, Nat.reduceEqDiff, Int.reduceEq, Int.reduceLT, Int.reduceLE, slices_Clone.r0, slices_Clone.r1, if_neg hk, by_isNil h]
  by_cases h0 : k = 0
  · have hl0 := h.nil h0
    subst h0 hl0
    conv at hr =>
      rhs
      simp only [decide_true, wk, List.getD_cons_succ, List.getD_cons_zero, if_true, if_false, List.getElem?_cons_succ, List.getElem?_cons_zero, Option.map_some, eq_self, reduceIte, Nat.reduceEqDiff, Int.reduceEq, Int.reduceLT, Int.reduceLE, slices_Clone.r2]
    rw [hTe] at hr
    exact slices_Clone.runs hr (.inr rfl)
  · have e1 : ∀ S, vAppend Try.prog 33 33 (by_ 2 []) (by_ k l) S = some (by_ 2 l, S) := fun S => by
      rw [by_append Okl.own (by decide) h (by simpa using hl)]; rfl
    conv at hr =>
      rhs
      simp only [h0, decide_false, wk, List.getD_cons_succ, List.getD_cons_zero, if_true, if_false, List.getElem?_cons_succ, List.getElem?_cons_zero, Option.map_some, eq_self, reduceIte, Nat.reduceEqDiff, Int.reduceEq, Int.reduceLT, Int.reduceLE, slices_Clone.r3, bs_L_uint8_0, by2_0, if_neg hk, e1]
    rw [hTe] at hr
    rw [if_neg h0]
    exact slices_Clone.runs hr (.inr rfl)

/-- The number with which bytes begin. -/
def scan : Nat → Nat → List UInt8 → Option (Nat × List UInt8)
  | _, _, [] => none
  | i, acc, x :: r => if (i = 9 ∧ 1 < x.toNat) ∨ (0 < i ∧ x.toNat = 0) then none else if x.toNat < 128 then some (acc + x.toNat * 128 ^ i, r) else scan (i + 1) (acc + (x.toNat - 128) * 128 ^ i) r
/-- What ReadNum answers. -/
def readV (l : List UInt8) : Value :=
  match scan 0 0 l with
  | none => .tuple #[.int .u64 0, .slice none 0 0, .int .i64 11]
  | some (m, rest) => .tuple #[.int .u64 (m : Nat), by_ 2 rest, .int .i64 0]

/-- Does it stop here? -/
theorem wire_ReadNum.stop (x0 x1 x2 x3 x4 x5 x6 x7 x8 x9 x10 x11 x12 x13 x14 x15 x16 x17 x18 x19 x20 x21 x22 x23 x24 x25 x26 x27 x28 x29 x30 x31 x32 x33 x34 x35 x36 x37 x38 x39 x40 x41 x42 x43 x44 x45 : Value) (i x : Int) (S : AHeap) (h6 : x6 = .int .i64 i) (h7 : x7 = .int .u8 x) : ∃ y15 y16 y17 y18 y19 y20 y21 y22 y23 y24 y25 y26 y27, vOps Try.prog ⟨false, false, false⟩ (vlim Try.prog O) (reg Try.f44 5) (reg Try.f44 5).toList (x0 :: x1 :: x2 :: x3 :: x4 :: x5 :: x6 :: x7 :: x8 :: x9 :: x10 :: x11 :: x12 :: x13 :: x14 :: x15 :: x16 :: x17 :: x18 :: x19 :: x20 :: x21 :: x22 :: x23 :: x24 :: x25 :: x26 :: x27 :: x28 :: x29 :: x30 :: x31 :: x32 :: x33 :: x34 :: x35 :: x36 :: x37 :: x38 :: x39 :: x40 :: x41 :: x42 :: x43 :: x44 :: x45 :: []) S =
    some ((x0 :: x1 :: x2 :: x3 :: x4 :: x5 :: x6 :: x7 :: x8 :: x9 :: x10 :: x11 :: x12 :: x13 :: x14 :: y15 :: y16 :: y17 :: y18 :: y19 :: y20 :: y21 :: y22 :: y23 :: y24 :: y25 :: y26 :: y27 :: .bool (decide ((i = 9 ∧ 1 < x) ∨ (0 < i ∧ x = 0))) :: x29 :: x30 :: x31 :: x32 :: x33 :: x34 :: x35 :: x36 :: x37 :: x38 :: x39 :: x40 :: x41 :: x42 :: x43 :: x44 :: x45 :: []), S) := by
  subst h6 h7
  rw [wire_ReadNum.r5]
  simp only [wk, List.getD_cons_succ, List.getD_cons_zero, if_true, if_false, List.getElem?_cons_succ, List.getElem?_cons_zero, Option.map_some, eq_self, reduceIte, Nat.reduceEqDiff, Int.reduceEq, Int.reduceLT, Int.reduceLE]
  rcases Bool.eq_false_or_eq_true (decide (i = 9)) with d1 | d1 <;> rcases Bool.eq_false_or_eq_true (decide (1 < x)) with d2 | d2 <;> rcases Bool.eq_false_or_eq_true (decide (0 < i)) with d3 | d3 <;> rcases Bool.eq_false_or_eq_true (decide (x = 0)) with d4 | d4 <;>
    simp only [d1, d2, d3, d4, wk, List.getD_cons_succ, List.getD_cons_zero, if_true, if_false, List.getElem?_cons_succ, List.getElem?_cons_zero, Option.map_some, eq_self, reduceIte, Nat.reduceEqDiff, Int.reduceEq, Int.reduceLT, Int.reduceLE] <;> simp only [decide_eq_true_eq, decide_eq_false_iff_not] at d1 d2 d3 d4 <;>
    simp only [d1, d2, d3, d4, true_and, false_and, and_true, and_false, or_true, true_or, or_false, false_or, decide_true, decide_false, not_true, not_false_iff, Int.reduceLT, Int.reduceEq, and_self, or_self] <;> first | exact ⟨_, _, _, _, _, _, _, _, _, _, _, _, _, rfl⟩ | omega

theorem and127 : ∀ m : Fin 256, andI .u8 (m.val : Int) 127 = ((m.val % 128 : Nat) : Int) := by decide +kernel
theorem and127_n (x : UInt8) : andI .u8 (x.toNat : Int) 127 = ((x.toNat % 128 : Nat) : Int) := and127 ⟨x.toNat, x.toNat_lt⟩
theorem wrap_u64s {n : Nat} (h : n < 2 ^ 64) : IntKind.u64.wrap (n : Int) = (n : Int) := by
  rw [wrap_u64, Nat.mod_eq_of_lt h]
theorem orI_u64 {a c i : Nat} (ha : a < 2 ^ i) (h : c * 2 ^ i < 2 ^ 64) (h2 : a < 2 ^ 64) : orI .u64 (a : Int) ((c * 2 ^ i : Nat) : Int) = ((a + c * 2 ^ i : Nat) : Int) := by
  have hor : a ||| c * 2 ^ i = a + c * 2 ^ i := by
    have := Nat.shiftLeft_add_eq_or_of_lt ha c
    rw [Nat.shiftLeft_eq] at this
    rw [Nat.or_comm, ← this, Nat.add_comm]
  have hlt : a ||| c * 2 ^ i < 2 ^ 64 := Nat.or_lt_two_pow h2 h
  unfold orI
  rw [BitVec.ofInt_natCast, BitVec.ofInt_natCast, BitVec.toNat_or, BitVec.toNat_ofNat, BitVec.toNat_ofNat]
  rw [show IntKind.bits .u64 = 64 from rfl, Nat.mod_eq_of_lt h2, Nat.mod_eq_of_lt h, wrap_u64s hlt, hor]
theorem shl7 {c i : Nat} (hi : i ≤ 9) (h : c * 128 ^ i < 2 ^ 64) : IntKind.u64.wrap ((c : Int) * 2 ^ (min (Int.toNat (7 * (i : Int))) (IntKind.bits .u64))) = ((c * 2 ^ (7 * i) : Nat) : Int) := by
  have e1 : min (Int.toNat (7 * (i : Int))) (IntKind.bits .u64) = 7 * i := by
    rw [show IntKind.bits .u64 = 64 from rfl]; omega
  have e2 : (128 : Nat) ^ i = 2 ^ (7 * i) := by rw [Nat.pow_mul]
  rw [e1, show (c : Int) * 2 ^ (7 * i) = ((c * 2 ^ (7 * i) : Nat) : Int) by simp, wrap_u64s (by rw [← e2]; exact h)]
theorem drop_pre {l pre suf : List UInt8} {x : UInt8} (hl : l = pre ++ x :: suf) : (l.drop ((pre.length : Int) + 1).toNat).take ((l.length : Int).toNat - ((pre.length : Int) + 1).toNat) = suf := by
  rw [show ((pre.length : Int) + 1).toNat = pre.length + 1 by omega, show (l.length : Int).toNat = l.length by omega, hl]
  rw [show pre ++ x :: suf = (pre ++ [x]) ++ suf by simp, show pre.length + 1 = (pre ++ [x]).length by simp, List.drop_left]
  rw [List.take_of_length_le]; simp; omega

theorem wire_ReadNum.round {k : Nat} {l : List UInt8} (hv : Okl k l) (hk : k ≠ 2) (hlen : l.length ≤ 140737488355328) {S : AHeap} : ∀ (suf pre : List UInt8) (acc : Nat) {T : List Value} {r : St}, loopV (vcodeV Try.prog O false wire_ReadNum.loop1) T S = r → T.length = 46 →
    T.getD 0 undef = by_ k l → T.getD 8 undef = by_ k l → T.getD 9 undef = .int .i64 l.length → T.getD 10 undef = .int .i64 pre.length → T.getD 5 undef = .int .u64 acc → l = pre ++ suf → acc < 128 ^ pre.length → pre.length ≤ 9 →
    ∃ e T', r = some (e, T', S) ∧ match scan pre.length acc suf with
      | none => e = .exit 0 ∧ T'.length = 46
      | some (m, rest) => e = .ret ∧ m < 2 ^ 64 ∧ T'.getD 2 undef = .int .u64 m ∧ T'.getD 3 undef = by_ 2 rest ∧ T'.getD 4 undef = .int .i64 0 := by
  intro suf
  induction suf with
  | nil =>
    intro pre acc T r hL hT h0 h8 h9 h10 h5 hl hacc hpre
    obtain ⟨x0, x1, x2, x3, x4, x5, x6, x7, x8, x9, x10, x11, x12, x13, x14, x15, x16, x17, x18, x19, x20, x21, x22, x23, x24, x25, x26, x27, x28, x29, x30, x31, x32, x33, x34, x35, x36, x37, x38, x39, x40, x41, x42, x43, x44, x45, hTe⟩ := wire_ReadNum.list hT
    rw [hTe] at h0 h8 h9 h10 h5
    simp only [List.getD_cons_succ, List.getD_cons_zero] at h0 h8 h9 h10 h5
    subst h0 h8 h9 h10 h5
    have hr : vcodeV Try.prog O false wire_ReadNum.loop1 T S = vcodeV Try.prog O false wire_ReadNum.loop1 T S := rfl
    have hd : decide ((pre.length : Int) < (l.length : Int)) = false := by rw [hl]; simp
    conv at hr =>
      rhs
      rw [hTe]
      simp only [wire_ReadNum.loop1, wk, List.getD_cons_succ, List.getD_cons_zero, if_true, if_false, List.getElem?_cons_succ, List.getElem?_cons_zero, Option.map_some, eq_self, reduceIte, Nat.reduceEqDiff, Int.reduceEq, Int.reduceLT, Int.reduceLE, wire_ReadNum.r3, hd]
    exact ⟨_, _, hL.symm.trans (loopV_exit hr (by simp)), rfl, rfl⟩
  | cons x suf ih =>
    intro pre acc T r hL hT h0 h8 h9 h10 h5 hl hacc hpre
    obtain ⟨x0, x1, x2, x3, x4, x5, x6, x7, x8, x9, x10, x11, x12, x13, x14, x15, x16, x17, x18, x19, x20, x21, x22, x23, x24, x25, x26, x27, x28, x29, x30, x31, x32, x33, x34, x35, x36, x37, x38, x39, x40, x41, x42, x43, x44, x45, hTe⟩ := wire_ReadNum.list hT
    rw [hTe] at h0 h8 h9 h10 h5
    simp only [List.getD_cons_succ, List.getD_cons_zero] at h0 h8 h9 h10 h5
    subst h0 h8 h9 h10 h5
    have hr : vcodeV Try.prog O false wire_ReadNum.loop1 T S = vcodeV Try.prog O false wire_ReadNum.loop1 T S := rfl
    have hlt : (pre.length : Int) < (l.length : Int) := by rw [hl]; simp; omega
    have hd : decide ((pre.length : Int) < (l.length : Int)) = true := by simpa using hlt
    have k0 : k ≠ 0 := fun h => by have := hv.nil h; rw [this] at hl; simp at hl
    have e1 : ∀ S, vIndexAddr Try.prog 33 (by_ k l) (.int .i64 pre.length) S = some (EP [.int .u8 x.toNat], S) := fun S => by
      rw [by_at hv (by omega) hlt]; rw [at_pre hl]
    obtain ⟨y15, y16, y17, y18, y19, y20, y21, y22, y23, y24, y25, y26, y27, e3⟩ := wire_ReadNum.stop (by_ k l) x1 x2 x3 x4 (.int .u64 acc) (.int .i64 pre.length) (.int .u8 x.toNat) (by_ k l) (.int .i64 l.length) (.int .i64 pre.length) (.bool true) (.int .i64 pre.length) (EP [.int .u8 x.toNat]) (.int .u8 x.toNat) x15 x16 x17 x18 x19 x20 x21 x22 x23 x24 x25 x26 x27 x28 x29 x30 x31 x32 x33 x34 x35 x36 x37 x38 x39 x40 x41 x42 x43 x44 x45 (pre.length : Int) (x.toNat : Int) S rfl rfl
    conv at hr =>
      rhs
      rw [hTe]
      simp only [wire_ReadNum.loop1, wk, List.getD_cons_succ, List.getD_cons_zero, if_true, if_false, List.getElem?_cons_succ, List.getElem?_cons_zero, Option.map_some, eq_self, reduceIte, Nat.reduceEqDiff, Int.reduceEq, Int.reduceLT, Int.reduceLE, wire_ReadNum.r3, hd, wire_ReadNum.r4, e1, by_load, if_neg hk, e3]
    have hst : ((pre.length : Int) = 9 ∧ 1 < (x.toNat : Int) ∨ 0 < (pre.length : Int) ∧ (x.toNat : Int) = 0) ↔ ((pre.length = 9 ∧ 1 < x.toNat) ∨ (0 < pre.length ∧ x.toNat = 0)) := by omega
    by_cases hs : (pre.length = 9 ∧ 1 < x.toNat) ∨ (0 < pre.length ∧ x.toNat = 0)
    · have hs2 := decide_eq_true (hst.2 hs)
      conv at hr =>
        rhs
        simp only [hs2, wk, List.getD_cons_succ, List.getD_cons_zero, if_true, if_false, List.getElem?_cons_succ, List.getElem?_cons_zero, Option.map_some, eq_self, reduceIte, Nat.reduceEqDiff, Int.reduceEq, Int.reduceLT, Int.reduceLE]
      refine ⟨_, _, hL.symm.trans (loopV_exit hr (by simp)), ?_⟩
      rw [scan, if_pos hs]
      exact ⟨rfl, rfl⟩
    · have hs2 := decide_eq_false (fun h => hs (hst.1 h))
      have hx256 := x.toNat_lt
      have hpw : 128 ^ pre.length ≤ 128 ^ 9 := Nat.pow_le_pow_right (by omega) hpre
      have hc64 : x.toNat % 128 * 128 ^ pre.length < 2 ^ 64 := by
        by_cases h9 : pre.length = 9
        · rw [h9]; have : x.toNat % 128 ≤ 1 := by omega
          exact Nat.lt_of_le_of_lt (Nat.mul_le_mul_right _ this) (by decide)
        · have h8 : 128 ^ pre.length ≤ 128 ^ 8 := Nat.pow_le_pow_right (by omega) (by omega)
          exact Nat.lt_of_le_of_lt (Nat.mul_le_mul (by omega : x.toNat % 128 ≤ 127) h8) (by decide)
      have hm : IntKind.i64.wrap (7 * (pre.length : Int)) = 7 * (pre.length : Int) := wrap_i64 (by omega) (by omega)
      have e128 : (128 : Nat) ^ pre.length = 2 ^ (7 * pre.length) := by rw [Nat.pow_mul]
      have hor := orI_u64 (a := acc) (c := x.toNat % 128) (i := 7 * pre.length) (by rw [← e128]; exact hacc) (by rw [← e128]; exact hc64) (Nat.lt_of_lt_of_le hacc (Nat.le_trans hpw (by decide)))
      conv at hr =>
        rhs
        simp only [hs2, wk, List.getD_cons_succ, List.getD_cons_zero, if_true, if_false, List.getElem?_cons_succ, List.getElem?_cons_zero, Option.map_some, eq_self, reduceIte, Nat.reduceEqDiff, Int.reduceEq, Int.reduceLT, Int.reduceLE, wire_ReadNum.r6, aBin_and, and127_n, cv_uint8_uint64, wrap_u64s (show x.toNat % 128 < 2 ^ 64 by omega), hm, aBin_shl _ _ _ _ (show (0 : Int) ≤ 7 * (pre.length : Int) by omega), shl7 hpre hc64, aBin_or, hor, wire_ReadNum.r7]
      rw [← e128] at hr
      have hadd : acc + x.toNat % 128 * 128 ^ pre.length < 128 ^ (pre.length + 1) := by
        rw [Nat.pow_succ]
        have : x.toNat % 128 * 128 ^ pre.length ≤ 127 * 128 ^ pre.length := Nat.mul_le_mul_right _ (by omega)
        omega
      have hi1 : IntKind.i64.wrap ((pre.length : Int) + 1) = (pre.length : Int) + 1 := wrap_i64 (by omega) (by omega)
      by_cases hxs : x.toNat < 128
      · have hd2 : decide ((x.toNat : Int) < 128) = true := by simp; omega
        have e4 : ∀ S, vSlice Try.prog 33 (by_ k l) (some (.int .i64 ((pre.length : Int) + 1))) none S = some (by_ k suf, S) := fun S => by
          rw [by_slice hv (lo := some (.int .i64 ((pre.length : Int) + 1))) (hi := none) (i := (pre.length : Int) + 1) (j := l.length) rfl rfl (by omega) (by omega) (by omega), drop_pre hl, if_neg hk]
        have ok2 : Okl k suf := ⟨hv.le, fun h => absurd h k0⟩
        have e5 : ∀ S, vlim Try.prog O slices_Clone.id [by_ k suf] S = some (by_ 2 suf, S) := fun S => by
          rw [slices_Clone.v ok2 hk (by have := congrArg List.length hl; simp at this; omega), if_neg k0]
        conv at hr =>
          rhs
          simp only [hd2, wk, List.getD_cons_succ, List.getD_cons_zero, if_true, if_false, List.getElem?_cons_succ, List.getElem?_cons_zero, Option.map_some, eq_self, reduceIte, Nat.reduceEqDiff, Int.reduceEq, Int.reduceLT, Int.reduceLE, wire_ReadNum.r8, hi1, if_neg hk, e4, e5]
        refine ⟨_, _, hL.symm.trans (loopV_exit hr (by simp)), ?_⟩
        rw [scan, if_neg hs, if_pos hxs]
        have hxm : x.toNat % 128 = x.toNat := by omega
        rw [hxm]
        refine ⟨rfl, ?_, rfl, rfl, rfl⟩
        rw [hxm] at hadd
        by_cases h9 : pre.length = 9
        · rw [h9] at hacc ⊢
          have : x.toNat ≤ 1 := by omega
          have h1 : x.toNat * 128 ^ 9 ≤ 1 * 128 ^ 9 := Nat.mul_le_mul_right _ this
          have h2 : (128 : Nat) ^ 9 + 1 * 128 ^ 9 = 2 ^ 64 := by decide
          omega
        · have h8 : 128 ^ (pre.length + 1) ≤ 128 ^ 9 := Nat.pow_le_pow_right (by omega) (by omega)
          exact Nat.lt_of_lt_of_le hadd (Nat.le_trans h8 (by decide))
      · have hd2 : decide ((x.toNat : Int) < 128) = false := by simp; omega
        conv at hr =>
          rhs
          simp only [hd2, wk, List.getD_cons_succ, List.getD_cons_zero, if_true, if_false, List.getElem?_cons_succ, List.getElem?_cons_zero, Option.map_some, eq_self, reduceIte, Nat.reduceEqDiff, Int.reduceEq, Int.reduceLT, Int.reduceLE, wire_ReadNum.r9, hi1]
        obtain ⟨e, T', g1, g3⟩ := ih (pre ++ [x]) (acc + x.toNat % 128 * 128 ^ pre.length) ((loopV_step hr).symm.trans hL) rfl rfl rfl rfl (by simp) rfl (by simp [hl]) (by simpa using hadd) (by simp; omega)
        refine ⟨e, T', g1, ?_⟩
        rw [scan, if_neg hs, if_neg hxs]
        have hxm : x.toNat % 128 = x.toNat - 128 := by omega
        rw [hxm] at g3
        simpa using g3

theorem wire_ReadNum.v {k : Nat} {l : List UInt8} (hv : Okl k l) (hk : k ≠ 2) (hlen : l.length ≤ 140737488355328) (S : AHeap) : vlim Try.prog O wire_ReadNum.id [by_ k l] S = some (readV l, S) := by
  obtain ⟨T, hTe⟩ : ∃ T, T = (by_ k l :: undef :: undef :: undef :: undef :: undef :: undef :: undef :: undef :: undef :: undef :: undef :: undef :: undef :: undef :: undef :: undef :: undef :: undef :: undef :: undef :: undef :: undef :: undef :: undef :: undef :: undef :: undef :: undef :: undef :: undef :: undef :: undef :: undef :: undef :: undef :: undef :: undef :: undef :: undef :: undef :: undef :: undef :: undef :: undef :: undef :: []) := ⟨_, rfl⟩
  have hr : vcodeV Try.prog O false wire_ReadNum.code T S = vcodeV Try.prog O false wire_ReadNum.code T S := rfl
  conv at hr =>
    rhs
    rw [hTe]
    simp only [wire_ReadNum.code, wk, List.getD_cons_succ, List.getD_cons_zero, if_true, if_false, List.getElem?_cons_succ, List.getElem?_cons_zero, Option.map_some, eq_self, reduceIte, Nat.reduceEqDiff, Int.reduceEq, Int.reduceLT, Int.reduceLE, wire_ReadNum.r0, wire_ReadNum.r1, wire_ReadNum.r2, if_neg hk, by_len hv]
  generalize hL : loopV (vcodeV Try.prog O false wire_ReadNum.loop1) _ _ = r at hr
  obtain ⟨e, T', rfl, g3⟩ := wire_ReadNum.round hv hk hlen l [] 0 hL rfl rfl rfl rfl rfl rfl rfl (by simp) (by simp)
  simp only [List.length_nil] at g3
  unfold readV
  cases hsc : scan 0 0 l with
  | none =>
    rw [hsc] at g3
    obtain ⟨rfl, hT'⟩ := g3
    obtain ⟨x0, x1, x2, x3, x4, x5, x6, x7, x8, x9, x10, x11, x12, x13, x14, x15, x16, x17, x18, x19, x20, x21, x22, x23, x24, x25, x26, x27, x28, x29, x30, x31, x32, x33, x34, x35, x36, x37, x38, x39, x40, x41, x42, x43, x44, x45, hTe'⟩ := wire_ReadNum.list hT'
    conv at hr =>
      rhs
      rw [hTe']
      simp only [wk, List.getD_cons_succ, List.getD_cons_zero, if_true, if_false, List.getElem?_cons_succ, List.getElem?_cons_zero, Option.map_some, eq_self, reduceIte, Nat.reduceEqDiff, Int.reduceEq, Int.reduceLT, Int.reduceLE, wire_ReadNum.r10]
    rw [hTe] at hr
    exact wire_ReadNum.runs hr (.inr rfl) rfl rfl rfl
  | some mr =>
    obtain ⟨m, rest⟩ := mr
    rw [hsc] at g3
    obtain ⟨rfl, hm, h2, h3, h4⟩ := g3
    conv at hr =>
      rhs
      simp only [wk, List.getD_cons_succ, List.getD_cons_zero, if_true, if_false, List.getElem?_cons_succ, List.getElem?_cons_zero, Option.map_some, eq_self, reduceIte, Nat.reduceEqDiff, Int.reduceEq, Int.reduceLT, Int.reduceLE]
    rw [hTe] at hr
    have hrun := wire_ReadNum.runs hr (.inr rfl) (by rw [h2]; rfl) (by rw [h3]; exact notTuple_vs) (by rw [h4]; rfl)
    rw [h2, h3, h4] at hrun
    exact hrun
theorem scan_lt : ∀ (suf : List UInt8) (i acc : Nat), acc < 128 ^ i → i ≤ 9 → ∀ m rest, scan i acc suf = some (m, rest) → m < 2 ^ 64 ∧ rest.length < suf.length := by
  intro suf
  induction suf with
  | nil => intro i acc _ _ m rest h; cases h
  | cons x suf ih =>
    intro i acc hacc hi m rest h
    rw [scan] at h
    have hx256 := x.toNat_lt
    split at h
    · cases h
    · rename_i hs
      split at h
      · rename_i hx
        cases h
        refine ⟨?_, by simp⟩
        by_cases h9 : i = 9
        · subst h9
          have : x.toNat ≤ 1 := by omega
          have h1 : x.toNat * 128 ^ 9 ≤ 1 * 128 ^ 9 := Nat.mul_le_mul_right _ this
          have h2 : (128 : Nat) ^ 9 + 1 * 128 ^ 9 = 2 ^ 64 := by decide
          omega
        · have h8 : 128 ^ (i + 1) ≤ 128 ^ 9 := Nat.pow_le_pow_right (by omega) (by omega)
          have h3 : acc + x.toNat * 128 ^ i < 128 ^ (i + 1) := by
            rw [Nat.pow_succ]
            have : x.toNat * 128 ^ i ≤ 127 * 128 ^ i := Nat.mul_le_mul_right _ (by omega)
            omega
          exact Nat.lt_of_lt_of_le h3 (Nat.le_trans h8 (by decide))
      · rename_i hx
        have h9 : i ≠ 9 := by omega
        have hadd : acc + (x.toNat - 128) * 128 ^ i < 128 ^ (i + 1) := by
          rw [Nat.pow_succ]
          have : (x.toNat - 128) * 128 ^ i ≤ 127 * 128 ^ i := Nat.mul_le_mul_right _ (by omega)
          omega
        obtain ⟨h1, h2⟩ := ih (i + 1) _ hadd (by omega) m rest h
        exact ⟨h1, by simp; omega⟩
end Go.Proofs.Ytgggklfbhmlapaa

namespace Go.Proofs.Ytgggklfbhmlapaa
open Go.Abs

theorem neaptideref01_ReadNum.goes (x0 x1 x2 x3 x4 x5 x6 x7 x8 x9 x10 x11 x12 x13 x14 x15 x16 x17 x18 x19 x20 x21 x22 x23 x24 x25 x26 x27 x28 x29 x30 x31 x32 x33 x34 x35 x36 x37 x38 x39 x40 x41 x42 x43 x44 x45 x46 x47 x48 x49 x50 x51 x52 x53 x54 x55 x56 x57 : Value) (i : Int) {S : AHeap} {k : Nat} {l : List UInt8} (hv : Okl k l) (hk : k ≠ 2) (h0 : x0 = by_ k l) (h7 : x7 = .int .i64 i) : ∃ y10 y11 y12 y13 y14 y15 y16, vOps Try.prog ⟨false, false, false⟩ (vlim Try.prog O) (reg Try.f46 4) (reg Try.f46 4).toList (x0 :: x1 :: x2 :: x3 :: x4 :: x5 :: x6 :: x7 :: x8 :: x9 :: x10 :: x11 :: x12 :: x13 :: x14 :: x15 :: x16 :: x17 :: x18 :: x19 :: x20 :: x21 :: x22 :: x23 :: x24 :: x25 :: x26 :: x27 :: x28 :: x29 :: x30 :: x31 :: x32 :: x33 :: x34 :: x35 :: x36 :: x37 :: x38 :: x39 :: x40 :: x41 :: x42 :: x43 :: x44 :: x45 :: x46 :: x47 :: x48 :: x49 :: x50 :: x51 :: x52 :: x53 :: x54 :: x55 :: x56 :: x57 :: []) S =
    some ((x0 :: x1 :: x2 :: x3 :: x4 :: x5 :: x6 :: x7 :: x8 :: x9 :: y10 :: y11 :: y12 :: y13 :: y14 :: y15 :: y16 :: .bool (decide (i < l.length ∧ i < 10)) :: x18 :: x19 :: x20 :: x21 :: x22 :: x23 :: x24 :: x25 :: x26 :: x27 :: x28 :: x29 :: x30 :: x31 :: x32 :: x33 :: x34 :: x35 :: x36 :: x37 :: x38 :: x39 :: x40 :: x41 :: x42 :: x43 :: x44 :: x45 :: x46 :: x47 :: x48 :: x49 :: x50 :: x51 :: x52 :: x53 :: x54 :: x55 :: x56 :: x57 :: []), S) := by
  subst h7 h0
  rw [neaptideref01_ReadNum.r4]
  simp only [wk, List.getD_cons_succ, List.getD_cons_zero, if_true, if_false, List.getElem?_cons_succ, List.getElem?_cons_zero, Option.map_some, eq_self, reduceIte, Nat.reduceEqDiff, Int.reduceEq, Int.reduceLT, Int.reduceLE, if_neg hk, by_len hv, goInt]
  rcases Bool.eq_false_or_eq_true (decide (i < (l.length : Int))) with d1 | d1 <;> rcases Bool.eq_false_or_eq_true (decide (i < 10)) with d2 | d2 <;>
    simp only [d1, d2, wk, List.getD_cons_succ, List.getD_cons_zero, if_true, if_false, List.getElem?_cons_succ, List.getElem?_cons_zero, Option.map_some, eq_self, reduceIte, Nat.reduceEqDiff, Int.reduceEq, Int.reduceLT, Int.reduceLE] <;> simp only [decide_eq_true_eq, decide_eq_false_iff_not] at d1 d2 <;>
    simp only [d1, d2, and_true, and_false, true_and, false_and, decide_true, decide_false] <;> exact ⟨_, _, _, _, _, _, _, rfl⟩
theorem neaptideref01_ReadNum.nine {T : List Value} {S : AHeap} {i c : Int} (hT : T.length = 58) (h7 : T.getD 7 undef = .int .i64 i) (h8 : T.getD 8 undef = .int .u64 c) : ∃ T', vOps Try.prog ⟨false, false, false⟩ (vlim Try.prog O) (reg Try.f46 7) (reg Try.f46 7).toList T S = some (T', S) ∧
    T'.length = 58 ∧ T'.getD 31 undef = .bool (decide (i = 9 ∧ 1 < c)) ∧ ∀ j, j < 10 → T'.getD j undef = T.getD j undef := by
  obtain ⟨x0, x1, x2, x3, x4, x5, x6, x7, x8, x9, x10, x11, x12, x13, x14, x15, x16, x17, x18, x19, x20, x21, x22, x23, x24, x25, x26, x27, x28, x29, x30, x31, x32, x33, x34, x35, x36, x37, x38, x39, x40, x41, x42, x43, x44, x45, x46, x47, x48, x49, x50, x51, x52, x53, x54, x55, x56, x57, rfl⟩ := neaptideref01_ReadNum.list hT
  simp only [List.getD_cons_succ, List.getD_cons_zero] at h7 h8
  subst h7 h8
  rw [neaptideref01_ReadNum.r7]
  simp only [wk, List.getD_cons_succ, List.getD_cons_zero, if_true, if_false, List.getElem?_cons_succ, List.getElem?_cons_zero, Option.map_some, eq_self, reduceIte, Nat.reduceEqDiff, Int.reduceEq, Int.reduceLT, Int.reduceLE]
  rcases Bool.eq_false_or_eq_true (decide (i = 9)) with d1 | d1 <;> rcases Bool.eq_false_or_eq_true (decide (1 < c)) with d2 | d2 <;>
    simp only [d1, d2, wk, List.getD_cons_succ, List.getD_cons_zero, if_true, if_false, List.getElem?_cons_succ, List.getElem?_cons_zero, Option.map_some, eq_self, reduceIte, Nat.reduceEqDiff, Int.reduceEq, Int.reduceLT, Int.reduceLE] <;> simp only [decide_eq_true_eq, decide_eq_false_iff_not] at d1 d2 <;>
    simp only [d1, d2, and_true, and_false, true_and, false_and, decide_true, decide_false] <;> exact ⟨_, rfl, rfl, rfl, fun j hj => by (match j, hj with | 0, _ => rfl | 1, _ => rfl | 2, _ => rfl | 3, _ => rfl | 4, _ => rfl | 5, _ => rfl | 6, _ => rfl | 7, _ => rfl | 8, _ => rfl | 9, _ => rfl)⟩

theorem enc_len_eq (k : Nat) : ∀ n, 128 ^ k ≤ n → n < 128 ^ (k + 1) → (enc n).length = k + 1 := by
  induction k with
  | zero => intro n _ h; rw [enc_small (by omega)]; rfl
  | succ k ih =>
    intro n h1 h2
    have hn : ¬ n < 128 := by
      have : 128 ^ 1 ≤ 128 ^ (k + 1) := Nat.pow_le_pow_right (by omega) (by omega)
      omega
    rw [enc_big hn, List.length_cons, ih (n / 128) (by rw [Nat.le_div_iff_mul_le (by omega)]; exact h1) (by rw [Nat.div_lt_iff_lt_mul (by omega)]; exact h2)]
theorem enc_pos (n : Nat) : 0 < (enc n).length := by
  by_cases h : n < 128
  · rw [enc_small h]; simp
  · rw [enc_big h]; simp

section
variable {k : Nat} {l : List UInt8} {S : AHeap}
theorem neaptideref01_ReadNum.out (hv : Okl k l) (hk : k ≠ 2) {i : Nat} {T : List Value} {r : St} (hL : loopV (vcodeV Try.prog O false neaptideref01_ReadNum.loop1) T S = r) (hT : T.length = 58)
    (h0 : T.getD 0 undef = by_ k l) (h7 : T.getD 7 undef = .int .i64 i) (hi : l.length ≤ i ∨ 10 ≤ i) : ∃ T', r = some (.exit 0, T', S) ∧ T'.length = 58 := by
  obtain ⟨x0, x1, x2, x3, x4, x5, x6, x7, x8, x9, x10, x11, x12, x13, x14, x15, x16, x17, x18, x19, x20, x21, x22, x23, x24, x25, x26, x27, x28, x29, x30, x31, x32, x33, x34, x35, x36, x37, x38, x39, x40, x41, x42, x43, x44, x45, x46, x47, x48, x49, x50, x51, x52, x53, x54, x55, x56, x57, hTe⟩ := neaptideref01_ReadNum.list hT
  rw [hTe] at h0 h7
  simp only [List.getD_cons_succ, List.getD_cons_zero] at h0 h7
  have hr : vcodeV Try.prog O false neaptideref01_ReadNum.loop1 T S = vcodeV Try.prog O false neaptideref01_ReadNum.loop1 T S := rfl
  obtain ⟨y10, y11, y12, y13, y14, y15, y16, e1⟩ := neaptideref01_ReadNum.goes x0 x1 x2 x3 x4 x5 x6 x7 x8 x9 x10 x11 x12 x13 x14 x15 x16 x17 x18 x19 x20 x21 x22 x23 x24 x25 x26 x27 x28 x29 x30 x31 x32 x33 x34 x35 x36 x37 x38 x39 x40 x41 x42 x43 x44 x45 x46 x47 x48 x49 x50 x51 x52 x53 x54 x55 x56 x57 (i : Int) (S := S) hv hk h0 h7
  have hd : decide ((i : Int) < (l.length : Int) ∧ (i : Int) < 10) = false := by simp; omega
  rw [hd] at e1
  conv at hr =>
    rhs
    rw [hTe]
    simp only [neaptideref01_ReadNum.loop1, wk, List.getD_cons_succ, List.getD_cons_zero, if_true, if_false, List.getElem?_cons_succ, List.getElem?_cons_zero, Option.map_some, eq_self, reduceIte, Nat.reduceEqDiff, Int.reduceEq, Int.reduceLT, Int.reduceLE, e1]
  exact ⟨_, hL.symm.trans (loopV_exit hr (by simp)), rfl⟩

theorem neaptideref01_ReadNum.round (hv : Okl k l) (hk : k ≠ 2) (hlen : l.length ≤ 140737488355328) : ∀ (suf pre : List UInt8) (acc : Nat) {T : List Value} {r : St}, loopV (vcodeV Try.prog O false neaptideref01_ReadNum.loop1) T S = r → T.length = 58 →
    T.getD 0 undef = by_ k l → T.getD 7 undef = .int .i64 pre.length → T.getD 5 undef = .int .u64 acc → T.getD 6 undef = .int .u64 (128 ^ pre.length : Nat) → l = pre ++ suf → acc < 128 ^ pre.length → pre.length ≤ 9 →
    ∃ e T', r = some (e, T', S) ∧ match scan pre.length acc suf with
      | none => (e = .exit 0 ∧ T'.length = 58) ∨ (e = .ret ∧ T'.getD 2 undef = .int .u64 0 ∧ T'.getD 3 undef = .slice none 0 0 ∧ T'.getD 4 undef = .int .i64 11)
      | some (m, rest) => e = .ret ∧ T'.getD 2 undef = .int .u64 m ∧ T'.getD 3 undef = by_ 2 rest ∧ T'.getD 4 undef = .int .i64 0 := by
  intro suf
  induction suf with
  | nil =>
    intro pre acc T r hL hT h0 h7 h5 h6 hl hacc hpre
    obtain ⟨T', h1, h2⟩ := neaptideref01_ReadNum.out hv hk hL hT h0 h7 (by rw [hl]; simp)
    exact ⟨_, T', h1, .inl ⟨rfl, h2⟩⟩
  | cons x suf ih =>
    intro pre acc T r hL hT h0 h7 h5 h6 hl hacc hpre
    obtain ⟨x0, x1, x2, x3, x4, x5, x6, x7, x8, x9, x10, x11, x12, x13, x14, x15, x16, x17, x18, x19, x20, x21, x22, x23, x24, x25, x26, x27, x28, x29, x30, x31, x32, x33, x34, x35, x36, x37, x38, x39, x40, x41, x42, x43, x44, x45, x46, x47, x48, x49, x50, x51, x52, x53, x54, x55, x56, x57, hTe⟩ := neaptideref01_ReadNum.list hT
    rw [hTe] at h0 h7 h5 h6
    simp only [List.getD_cons_succ, List.getD_cons_zero] at h0 h7 h5 h6
    have hr : vcodeV Try.prog O false neaptideref01_ReadNum.loop1 T S = vcodeV Try.prog O false neaptideref01_ReadNum.loop1 T S := rfl
    have hlt : (pre.length : Int) < (l.length : Int) := by rw [hl]; simp; omega
    have k0 : k ≠ 0 := fun h => by have := hv.nil h; rw [this] at hl; simp at hl
    have e1 : ∀ S, vIndexAddr Try.prog 33 (by_ k l) (.int .i64 pre.length) S = some (EP [.int .u8 x.toNat], S) := fun S => by
      rw [by_at hv (by omega) hlt]; rw [at_pre hl]
    have hx256 := x.toNat_lt
    obtain ⟨y10, y11, y12, y13, y14, y15, y16, e3⟩ := neaptideref01_ReadNum.goes x0 x1 x2 x3 x4 x5 x6 x7 x8 x9 x10 x11 x12 x13 x14 x15 x16 x17 x18 x19 x20 x21 x22 x23 x24 x25 x26 x27 x28 x29 x30 x31 x32 x33 x34 x35 x36 x37 x38 x39 x40 x41 x42 x43 x44 x45 x46 x47 x48 x49 x50 x51 x52 x53 x54 x55 x56 x57 (pre.length : Int) (S := S) hv hk h0 h7
    have hd : decide ((pre.length : Int) < (l.length : Int) ∧ (pre.length : Int) < 10) = true := by rw [decide_eq_true_eq]; omega
    rw [hd, h7, h5, h6, h0] at e3
    have hlow : (x.toNat : Int).tmod 128 = ((x.toNat % 128 : Nat) : Int) := tmod128 _
    conv at hr =>
      rhs
      rw [hTe]
      simp only [neaptideref01_ReadNum.loop1, wk, List.getD_cons_succ, List.getD_cons_zero, if_true, if_false, List.getElem?_cons_succ, List.getElem?_cons_zero, Option.map_some, eq_self, reduceIte, Nat.reduceEqDiff, Int.reduceEq, Int.reduceLT, Int.reduceLE, h7, h5, h6, h0, e3, neaptideref01_ReadNum.r6, if_neg hk, e1, by_load, aBin_rem _ _ _ (show (128 : Int) ≠ 0 by omega), hlow, cv_uint8_uint64, wrap_u64s (show x.toNat % 128 < 2 ^ 64 by omega)]
    generalize hT2 : (_ :: _ : List Value) = T2 at hr
    have t0 : T2.length = 58 := by rw [← hT2]; rfl
    have t1 : T2.getD 0 undef = by_ k l := by rw [← hT2]; rfl
    have t2 : T2.getD 5 undef = .int .u64 acc := by rw [← hT2]; rfl
    have t3 : T2.getD 6 undef = .int .u64 (128 ^ pre.length : Nat) := by rw [← hT2]; rfl
    have t4 : T2.getD 7 undef = .int .i64 pre.length := by rw [← hT2]; rfl
    have t5 : T2.getD 8 undef = .int .u64 (x.toNat % 128 : Nat) := by rw [← hT2]; rfl
    obtain ⟨T3, e4, f0, f1, f2⟩ := neaptideref01_ReadNum.nine (S := S) t0 t4 t5
    rw [← f2 _ (by omega)] at t1 t2 t3 t4 t5
    conv at hr =>
      rhs
      simp only [e4, wk, List.getD_cons_succ, List.getD_cons_zero, if_true, if_false, List.getElem?_cons_succ, List.getElem?_cons_zero, Option.map_some, eq_self, reduceIte, Nat.reduceEqDiff, Int.reduceEq, Int.reduceLT, Int.reduceLE, f1]
    clear hT2 e4 f1 f2 e3 hTe h7 h5 h6 h0
    obtain ⟨z0, z1, z2, z3, z4, z5, z6, z7, z8, z9, z10, z11, z12, z13, z14, z15, z16, z17, z18, z19, z20, z21, z22, z23, z24, z25, z26, z27, z28, z29, z30, z31, z32, z33, z34, z35, z36, z37, z38, z39, z40, z41, z42, z43, z44, z45, z46, z47, z48, z49, z50, z51, z52, z53, z54, z55, z56, z57, hTe⟩ := neaptideref01_ReadNum.list f0
    rw [hTe] at t1 t2 t3 t4 t5
    simp only [List.getD_cons_succ, List.getD_cons_zero] at t1 t2 t3 t4 t5
    subst t1
    by_cases hs1 : pre.length = 9 ∧ 1 < x.toNat % 128
    · have hd1 : decide ((pre.length : Int) = 9 ∧ 1 < ((x.toNat % 128 : Nat) : Int)) = true := by rw [decide_eq_true_eq]; omega
      conv at hr =>
        rhs
        rw [hTe]
        simp only [hd1, wk, List.getD_cons_succ, List.getD_cons_zero, if_true, if_false, List.getElem?_cons_succ, List.getElem?_cons_zero, Option.map_some, eq_self, reduceIte, Nat.reduceEqDiff, Int.reduceEq, Int.reduceLT, Int.reduceLE, neaptideref01_ReadNum.r8]
      refine ⟨_, _, hL.symm.trans (loopV_exit hr (by simp)), ?_⟩
      rw [scan, if_pos (.inl ⟨hs1.1, by omega⟩)]
      exact .inr ⟨rfl, rfl, rfl, rfl⟩
    · have hd1 : decide ((pre.length : Int) = 9 ∧ 1 < ((x.toNat % 128 : Nat) : Int)) = false := by rw [decide_eq_false_iff_not]; omega
      have hpw : 128 ^ pre.length ≤ 128 ^ 9 := Nat.pow_le_pow_right (by omega) hpre
      have hc64 : x.toNat % 128 * 128 ^ pre.length < 2 ^ 64 := by
        by_cases h9 : pre.length = 9
        · rw [h9]; have : x.toNat % 128 ≤ 1 := by omega
          exact Nat.lt_of_le_of_lt (Nat.mul_le_mul_right _ this) (by decide)
        · have h8 : 128 ^ pre.length ≤ 128 ^ 8 := Nat.pow_le_pow_right (by omega) (by omega)
          exact Nat.lt_of_le_of_lt (Nat.mul_le_mul (by omega : x.toNat % 128 ≤ 127) h8) (by decide)
      have ha64 : acc + x.toNat % 128 * 128 ^ pre.length < 2 ^ 64 := by
        by_cases h9 : pre.length = 9
        · rw [h9] at hacc ⊢
          have : x.toNat % 128 ≤ 1 := by omega
          have h1 : x.toNat % 128 * 128 ^ 9 ≤ 1 * 128 ^ 9 := Nat.mul_le_mul_right _ this
          have h2 : (128 : Nat) ^ 9 + 1 * 128 ^ 9 = 2 ^ 64 := by decide
          omega
        · have h8 : 128 ^ (pre.length + 1) ≤ 128 ^ 9 := Nat.pow_le_pow_right (by omega) (by omega)
          have h3 : acc + x.toNat % 128 * 128 ^ pre.length < 128 ^ (pre.length + 1) := by
            rw [Nat.pow_succ]
            have : x.toNat % 128 * 128 ^ pre.length ≤ 127 * 128 ^ pre.length := Nat.mul_le_mul_right _ (by omega)
            omega
          exact Nat.lt_of_lt_of_le h3 (Nat.le_trans h8 (by decide))
      have w1 : IntKind.u64.wrap (((x.toNat % 128 : Nat) : Int) * ((128 ^ pre.length : Nat) : Int)) = ((x.toNat % 128 * 128 ^ pre.length : Nat) : Int) := by
        rw [← Int.natCast_mul, wrap_u64s hc64]
      have w2 : IntKind.u64.wrap ((acc : Int) + ((x.toNat % 128 * 128 ^ pre.length : Nat) : Int)) = ((acc + x.toNat % 128 * 128 ^ pre.length : Nat) : Int) := by
        rw [← Int.natCast_add, wrap_u64s ha64]
      conv at hr =>
        rhs
        rw [hTe]
        simp only [hd1, wk, List.getD_cons_succ, List.getD_cons_zero, if_true, if_false, List.getElem?_cons_succ, List.getElem?_cons_zero, Option.map_some, eq_self, reduceIte, Nat.reduceEqDiff, Int.reduceEq, Int.reduceLT, Int.reduceLE, neaptideref01_ReadNum.r9, neaptideref01_ReadNum.r10, neaptideref01_ReadNum.r11, t2, t3, t4, t5, w1, w2, if_neg hk, e1, by_load]
      have hi1 : IntKind.i64.wrap ((pre.length : Int) + 1) = (pre.length : Int) + 1 := wrap_i64 (by omega) (by omega)
      by_cases hxs : x.toNat < 128
      · have hxm : x.toNat % 128 = x.toNat := by omega
        rw [hxm] at hr ha64
        have hd2 : decide ((x.toNat : Int) < 128) = true := by rw [decide_eq_true_eq]; omega
        conv at hr =>
          rhs
          simp only [hd2, wk, List.getD_cons_succ, List.getD_cons_zero, if_true, if_false, List.getElem?_cons_succ, List.getElem?_cons_zero, Option.map_some, eq_self, reduceIte, Nat.reduceEqDiff, Int.reduceEq, Int.reduceLT, Int.reduceLE, neaptideref01_ReadNum.r12, neaptideref01_Num.v _ ha64, neaptideref01_ReadNum.r13, by_len (Okl.read), goInt, hi1]
        by_cases hz : 0 < pre.length ∧ x.toNat = 0
        · have hlen2 : (enc (acc + x.toNat * 128 ^ pre.length)).length ≤ pre.length := by
            obtain ⟨q, hq⟩ : ∃ q, pre.length = q + 1 := ⟨pre.length - 1, by omega⟩
            rw [hz.2, Nat.zero_mul, Nat.add_zero, hq]
            exact enc_len q acc (by rw [← hq]; exact hacc)
          have hd3 : decide ((((enc (acc + x.toNat * 128 ^ pre.length)).length : Nat) : Int) = (pre.length : Int) + 1) = false := by rw [decide_eq_false_iff_not]; omega
          conv at hr =>
            rhs
            simp only [hd3, wk, List.getD_cons_succ, List.getD_cons_zero, if_true, if_false, List.getElem?_cons_succ, List.getElem?_cons_zero, Option.map_some, eq_self, reduceIte, Nat.reduceEqDiff, Int.reduceEq, Int.reduceLT, Int.reduceLE, neaptideref01_ReadNum.r14]
          refine ⟨_, _, hL.symm.trans (loopV_exit hr (by simp)), ?_⟩
          rw [scan, if_pos (.inr hz)]
          exact .inr ⟨rfl, rfl, rfl, rfl⟩
        · have hlen2 : (enc (acc + x.toNat * 128 ^ pre.length)).length = pre.length + 1 := by
            by_cases hp0 : pre.length = 0
            · rw [hp0] at hacc ⊢
              rw [enc_small (by omega)]; rfl
            · refine enc_len_eq _ _ ?_ ?_
              · have : 1 * 128 ^ pre.length ≤ x.toNat * 128 ^ pre.length := Nat.mul_le_mul_right _ (by omega)
                omega
              · rw [Nat.pow_succ]
                have : x.toNat * 128 ^ pre.length ≤ 127 * 128 ^ pre.length := Nat.mul_le_mul_right _ (by omega)
                omega
          have hd3 : decide ((((enc (acc + x.toNat * 128 ^ pre.length)).length : Nat) : Int) = (pre.length : Int) + 1) = true := by rw [decide_eq_true_eq]; omega
          have e4 : ∀ S, vSlice Try.prog 33 (by_ k l) (some (.int .i64 ((pre.length : Int) + 1))) none S = some (by_ k suf, S) := fun S => by
            rw [by_slice hv (lo := some (.int .i64 ((pre.length : Int) + 1))) (hi := none) (i := (pre.length : Int) + 1) (j := l.length) rfl rfl (by omega) (by omega) (by omega), drop_pre hl, if_neg hk]
          have ok2 : Okl k suf := ⟨hv.le, fun h => absurd h k0⟩
          have e5 : ∀ S, vAppend Try.prog 33 33 (by_ 2 []) (by_ k suf) S = some (by_ 2 suf, S) := fun S => by
            rw [by_append Okl.own (by decide) ok2 (by have := congrArg List.length hl; simp at this; simp; omega)]; rfl
          conv at hr =>
            rhs
            simp only [hd3, wk, List.getD_cons_succ, List.getD_cons_zero, if_true, if_false, List.getElem?_cons_succ, List.getElem?_cons_zero, Option.map_some, eq_self, reduceIte, Nat.reduceEqDiff, Int.reduceEq, Int.reduceLT, Int.reduceLE, neaptideref01_ReadNum.r15, bs_L_uint8_0, by2_0, hi1, if_neg hk, e4, e5]
          refine ⟨_, _, hL.symm.trans (loopV_exit hr (by simp)), ?_⟩
          rw [scan, if_neg (by rintro (h | h); exact absurd ⟨h.1, by omega⟩ hs1; exact hz h), if_pos hxs]
          exact ⟨rfl, rfl, rfl, rfl⟩
      · have hd2 : decide ((x.toNat : Int) < 128) = false := by rw [decide_eq_false_iff_not]; omega
        conv at hr =>
          rhs
          simp only [hd2, wk, List.getD_cons_succ, List.getD_cons_zero, if_true, if_false, List.getElem?_cons_succ, List.getElem?_cons_zero, Option.map_some, eq_self, reduceIte, Nat.reduceEqDiff, Int.reduceEq, Int.reduceLT, Int.reduceLE, neaptideref01_ReadNum.r5, hi1]
        obtain ⟨T1, hr, q0, q1, q2, q3, q4⟩ : ∃ T1, vcodeV Try.prog O false neaptideref01_ReadNum.loop1 T S = some (.normal, T1, S) ∧ T1.length = 58 ∧ T1.getD 0 undef = by_ k l ∧ T1.getD 7 undef = .int .i64 ((pre.length : Int) + 1) ∧
          T1.getD 5 undef = .int .u64 ((acc + x.toNat % 128 * 128 ^ pre.length : Nat) : Int) ∧ T1.getD 6 undef = .int .u64 (IntKind.u64.wrap (((128 ^ pre.length : Nat) : Int) * 128)) := ⟨_, hr, rfl, rfl, rfl, rfl, rfl⟩
        by_cases hp9 : pre.length = 9
        · obtain ⟨T', h1, h2⟩ := neaptideref01_ReadNum.out hv hk ((loopV_step hr).symm.trans hL) q0 q1 (i := pre.length + 1) q2 (.inr (by omega))
          refine ⟨_, T', h1, ?_⟩
          rw [scan, if_pos (.inl ⟨hp9, by omega⟩)]
          exact .inl ⟨rfl, h2⟩
        · have hpl : IntKind.u64.wrap (((128 ^ pre.length : Nat) : Int) * 128) = ((128 ^ (pre.length + 1) : Nat) : Int) := by
            have h8 : 128 ^ (pre.length + 1) ≤ 128 ^ 9 := Nat.pow_le_pow_right (by omega) (by omega)
            rw [show ((128 ^ pre.length : Nat) : Int) * 128 = ((128 ^ (pre.length + 1) : Nat) : Int) by rw [Nat.pow_succ, Int.natCast_mul]; rfl]
            exact wrap_u64s (Nat.lt_of_le_of_lt h8 (by decide))
          rw [hpl] at q4
          have hadd : acc + x.toNat % 128 * 128 ^ pre.length < 128 ^ (pre.length + 1) := by
            rw [Nat.pow_succ]
            have : x.toNat % 128 * 128 ^ pre.length ≤ 127 * 128 ^ pre.length := Nat.mul_le_mul_right _ (by omega)
            omega
          have hpl2 : (pre ++ [x]).length = pre.length + 1 := by simp
          obtain ⟨e, T', g1, g3⟩ := ih (pre ++ [x]) (acc + x.toNat % 128 * 128 ^ pre.length) ((loopV_step hr).symm.trans hL) q0 q1 (by rw [hpl2]; exact q2) q3 (by rw [hpl2]; exact q4) (by simp [hl]) (by rw [hpl2]; exact hadd) (by rw [hpl2]; omega)
          refine ⟨e, T', g1, ?_⟩
          rw [scan, if_neg (by omega), if_neg hxs]
          have hxm : x.toNat % 128 = x.toNat - 128 := by omega
          rw [hxm, hpl2] at g3
          exact g3

theorem neaptideref01_ReadNum.v (hv : Okl k l) (hk : k ≠ 2) (hlen : l.length ≤ 140737488355328) (S : AHeap) : vlim Try.prog O neaptideref01_ReadNum.id [by_ k l] S = some (readV l, S) := by
  obtain ⟨T, hTe⟩ : ∃ T, T = (by_ k l :: undef :: undef :: undef :: undef :: undef :: undef :: undef :: undef :: undef :: undef :: undef :: undef :: undef :: undef :: undef :: undef :: undef :: undef :: undef :: undef :: undef :: undef :: undef :: undef :: undef :: undef :: undef :: undef :: undef :: undef :: undef :: undef :: undef :: undef :: undef :: undef :: undef :: undef :: undef :: undef :: undef :: undef :: undef :: undef :: undef :: undef :: undef :: undef :: undef :: undef :: undef :: undef :: undef :: undef :: undef :: undef :: undef :: []) := ⟨_, rfl⟩
  have hr : vcodeV Try.prog O false neaptideref01_ReadNum.code T S = vcodeV Try.prog O false neaptideref01_ReadNum.code T S := rfl
  conv at hr =>
    rhs
    rw [hTe]
    simp only [neaptideref01_ReadNum.code, wk, List.getD_cons_succ, List.getD_cons_zero, if_true, if_false, List.getElem?_cons_succ, List.getElem?_cons_zero, Option.map_some, eq_self, reduceIte, Nat.reduceEqDiff, Int.reduceEq, Int.reduceLT, Int.reduceLE, neaptideref01_ReadNum.r0, neaptideref01_ReadNum.r1, neaptideref01_ReadNum.r2, neaptideref01_ReadNum.r3]
  generalize hL : loopV (vcodeV Try.prog O false neaptideref01_ReadNum.loop1) _ _ = r at hr
  obtain ⟨e, T', rfl, g3⟩ := neaptideref01_ReadNum.round hv hk hlen l [] 0 hL rfl rfl rfl rfl rfl rfl (by simp) (by simp)
  simp only [List.length_nil] at g3
  unfold readV
  cases hsc : scan 0 0 l with
  | none =>
    rw [hsc] at g3
    rcases g3 with ⟨rfl, hT'⟩ | ⟨rfl, h2, h3, h4⟩
    · obtain ⟨x0, x1, x2, x3, x4, x5, x6, x7, x8, x9, x10, x11, x12, x13, x14, x15, x16, x17, x18, x19, x20, x21, x22, x23, x24, x25, x26, x27, x28, x29, x30, x31, x32, x33, x34, x35, x36, x37, x38, x39, x40, x41, x42, x43, x44, x45, x46, x47, x48, x49, x50, x51, x52, x53, x54, x55, x56, x57, hTe'⟩ := neaptideref01_ReadNum.list hT'
      conv at hr =>
        rhs
        rw [hTe']
        simp only [wk, List.getD_cons_succ, List.getD_cons_zero, if_true, if_false, List.getElem?_cons_succ, List.getElem?_cons_zero, Option.map_some, eq_self, reduceIte, Nat.reduceEqDiff, Int.reduceEq, Int.reduceLT, Int.reduceLE, neaptideref01_ReadNum.r16]
      rw [hTe] at hr
      exact neaptideref01_ReadNum.runs hr (.inr rfl) rfl rfl rfl
    · conv at hr =>
        rhs
        simp only [wk, List.getD_cons_succ, List.getD_cons_zero, if_true, if_false, List.getElem?_cons_succ, List.getElem?_cons_zero, Option.map_some, eq_self, reduceIte, Nat.reduceEqDiff, Int.reduceEq, Int.reduceLT, Int.reduceLE]
      rw [hTe] at hr
      have hrun := neaptideref01_ReadNum.runs hr (.inr rfl) (by rw [h2]; rfl) (by rw [h3]; rfl) (by rw [h4]; rfl)
      rw [h2, h3, h4] at hrun
      exact hrun
  | some mr =>
    obtain ⟨m, rest⟩ := mr
    rw [hsc] at g3
    obtain ⟨rfl, h2, h3, h4⟩ := g3
    conv at hr =>
      rhs
      simp only [wk, List.getD_cons_succ, List.getD_cons_zero, if_true, if_false, List.getElem?_cons_succ, List.getElem?_cons_zero, Option.map_some, eq_self, reduceIte, Nat.reduceEqDiff, Int.reduceEq, Int.reduceLT, Int.reduceLE]
    rw [hTe] at hr
    have hrun := neaptideref01_ReadNum.runs hr (.inr rfl) (by rw [h2]; rfl) (by rw [h3]; exact notTuple_vs) (by rw [h4]; rfl)
    rw [h2, h3, h4] at hrun
    exact hrun
end
end Go.Proofs.Ytgggklfbhmlapaa

namespace Go.Proofs.Ytgggklfbhmlapaa
open Go.Abs

theorem toNat_small {n : Nat} (h : n < 256) : (UInt8.ofNat n).toNat = n := by rw [UInt8.toNat_ofNat']; omega
theorem scan_enc_at : ∀ (n i acc : Nat) (r : List UInt8), i ≤ 9 → (0 < i → 0 < n) → n * 128 ^ i < 2 ^ 64 → scan i acc (enc n ++ r) = some (acc + n * 128 ^ i, r) := by
  intro n
  induction n using Nat.strongRecOn with
  | _ n ih =>
    intro i acc r hi hn hlt
    have h9 : i = 9 → n ≤ 1 := by
      intro h; subst h
      have : (128 : Nat) ^ 9 = 2 ^ 63 := by decide
      omega
    by_cases hs : n < 128
    · rw [enc_small hs, List.singleton_append, scan, toNat_small (by omega), if_neg (by rintro (⟨h1, h2⟩ | ⟨h1, h2⟩); exact absurd (h9 h1) (by omega); exact absurd (hn h1) (by omega)), if_pos hs]
    · rw [enc_big hs, List.cons_append, scan, toNat_small (by omega)]
      have hi9 : i ≠ 9 := fun h => by have := h9 h; omega
      rw [if_neg (by rintro (⟨h1, h2⟩ | ⟨h1, h2⟩); exact hi9 h1; omega), if_neg (by omega)]
      have hmul : n / 128 * 128 ^ (i + 1) ≤ n * 128 ^ i := by
        rw [Nat.pow_succ, ← Nat.mul_assoc, Nat.mul_right_comm]
        exact Nat.mul_le_mul_right _ (by omega)
      rw [ih (n / 128) (by omega) (i + 1) _ r (by omega) (fun _ => by omega) (Nat.lt_of_le_of_lt hmul hlt)]
      congr 2
      have : n = n % 128 + n / 128 * 128 := by omega
      have e1 : (n % 128 + 128 - 128) * 128 ^ i + n / 128 * 128 ^ (i + 1) = n * 128 ^ i := by
        rw [Nat.pow_succ]
        conv => rhs; rw [this, Nat.add_mul]
        rw [Nat.add_sub_cancel, Nat.mul_comm (128 ^ i) 128, ← Nat.mul_assoc]
      omega
theorem scan_enc {n : Nat} (h : n < 2 ^ 64) (r : List UInt8) : scan 0 0 (enc n ++ r) = some (n, r) := by
  rw [scan_enc_at n 0 0 r (by omega) (by omega) (by simpa using h)]; simp
theorem scan_form_at : ∀ (l : List UInt8) (i acc m : Nat) (r : List UInt8), scan i acc l = some (m, r) → ∃ n, l = enc n ++ r ∧ m = acc + n * 128 ^ i ∧ (0 < i → 0 < n) := by
  intro l
  induction l with
  | nil => intro i acc m r h; cases h
  | cons x l ih =>
    intro i acc m r h
    rw [scan] at h
    have hx := x.toNat_lt
    split at h
    · cases h
    · rename_i hs
      split at h
      · rename_i hx2
        cases h
        refine ⟨x.toNat, ?_, rfl, fun hi => by omega⟩
        rw [enc_small hx2]; simp
      · rename_i hx2
        obtain ⟨n, h1, h2, h3⟩ := ih _ _ _ _ h
        refine ⟨x.toNat - 128 + n * 128, ?_, ?_, fun _ => ?_⟩
        · have hn := h3 (by omega)
          rw [enc_big (by omega), show (x.toNat - 128 + n * 128) / 128 = n by omega, show (x.toNat - 128 + n * 128) % 128 + 128 = x.toNat by omega, h1]
          simp
        · rw [h2, Nat.pow_succ, Nat.add_mul]
          rw [Nat.mul_comm (128 ^ i) 128, ← Nat.mul_assoc]; omega
        · have := h3 (by omega); omega
theorem scan_form {l r : List UInt8} {m : Nat} (h : scan 0 0 l = some (m, r)) : l = enc m ++ r ∧ m < 2 ^ 64 := by
  obtain ⟨n, h1, h2, _⟩ := scan_form_at l 0 0 m r h
  have : m = n := by simpa using h2
  subst this
  exact ⟨h1, (scan_lt l 0 0 (by decide) (by omega) m r h).1⟩
theorem enc_inj {a b : Nat} (ha : a < 2 ^ 64) (hb : b < 2 ^ 64) {r s : List UInt8} (h : enc a ++ r = enc b ++ s) : a = b ∧ r = s := by
  have h1 := scan_enc ha r
  rw [h, scan_enc hb s] at h1
  simp only [Option.some.injEq, Prod.mk.injEq] at h1
  exact ⟨h1.1.symm, h1.2.symm⟩
theorem scan_cut {n cut : Nat} (hn : n < 2 ^ 64) (hc : cut < (enc n).length) : scan 0 0 ((enc n).take cut) = none := by
  cases h : scan 0 0 ((enc n).take cut) with
  | none => rfl
  | some mr =>
    obtain ⟨m, r⟩ := mr
    obtain ⟨h1, h2⟩ := scan_form h
    have h3 : enc n ++ [] = enc m ++ (r ++ (enc n).drop cut) := by
      rw [← List.append_assoc, ← h1, List.append_nil, List.take_append_drop]
    obtain ⟨_, h4⟩ := enc_inj hn h2 h3
    have := congrArg List.length h4
    simp at this
    omega
theorem enc_mono {a b : Nat} : a ≤ b → (enc a).length ≤ (enc b).length := by
  induction b using Nat.strongRecOn generalizing a with
  | _ b ih =>
    intro h
    by_cases hb : b < 128
    · rw [enc_small hb, enc_small (by omega)]; simp
    · by_cases ha : a < 128
      · rw [enc_small ha]; have := enc_pos b; simp; omega
      · rw [enc_big ha, enc_big hb, List.length_cons, List.length_cons]
        have := ih (b / 128) (by omega) (a := a / 128) (by omega)
        omega
theorem enc_len1 {n : Nat} (h : n < 128) : (enc n).length = 1 := by rw [enc_small h]; rfl
theorem enc_len2 {n : Nat} (h : ¬ n < 128) (h2 : n < 16384) : (enc n).length = 2 := by rw [enc_big h, enc_small (by omega)]; rfl


end Go.Proofs.Ytgggklfbhmlapaa

namespace Go.Proofs.Ytgggklfbhmlapaa
open Go.Abs

theorem bb0 (S : AHeap) : vBuildSlice Try.prog 33 0 [] S = some (by_ 2 [], S) := by rw [bs_L_uint8_0]; rfl
/-- A text that comes in: nil or not, its bytes. -/
structure Tb where
  k : Nat
  b : List UInt8
structure Tb.Ok (t : Tb) : Prop where
  okl : Okl t.k t.b
  ne : t.k ≠ 2
  le : t.b.length ≤ 140737488351232
def fB (t : Tb) : List Value := [by_ t.k t.b]
theorem fB_len (t : Tb) : (fB t).length = 1 := rfl
theorem in_tb (x : (Ty.slc 1 (.int .u8)).Val) (hg : (Ty.slc 1 (.int .u8)).Good x) : ∃ t : Tb, (Ty.slc 1 (.int .u8)).vval x = fB t ∧ t.Ok := by
  obtain ⟨k, l, h1, h2, h3, h4⟩ := in_bytes x hg
  exact ⟨⟨k, l⟩, h3, h1, h2, h4⟩
theorem in_tbs (x : (Ty.slc 24 (.slc 1 (.int .u8))).Val) (hg : (Ty.slc 24 (.slc 1 (.int .u8))).Good x) : ∃ k l, Okl k l ∧ k ≠ 2 ∧ (Ty.slc 24 (.slc 1 (.int .u8))).vval x = [vs fB 1 k l] ∧ l.length * 24 ≤ 140737488351232 ∧ ∀ t ∈ l, t.Ok :=
  in_slc (b := 24) fB Tb.Ok in_tb fB_len x hg
end Go.Proofs.Ytgggklfbhmlapaa
