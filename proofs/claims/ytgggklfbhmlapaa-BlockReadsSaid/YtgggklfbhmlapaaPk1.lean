/-
Texts put together: F22 F23 F20 F21 F16 F17 F14 F18 F15 F19 F26 F25 F12 F13 F10 VBase VMem VB1 F34 F36 F32 F31 F38 F27
-/
import Derived.Test.YtgggklfbhmlapaaChecked
import Derived.Test.YtgggklfbhmlapaaOra
import Derived.KernelRfl
import Derived.Test.YtgggklfbhmlapaaTy
import Derived.Test.YtgggklfbhmlapaaValB
set_option linter.unusedVariables false
set_option maxRecDepth 100000
set_option linter.unusedSimpArgs false
namespace Go.Proofs.Ytgggklfbhmlapaa
open Go.Abs

/-- neaptide.block.Read -/
abbrev block_Read.id : FuncId := 22
noncomputable def block_Read.code : Code := (Code.seq (Code.region 0 (reg Try.f22 0) false) (Code.seq (Code.region 1 (reg Try.f22 1) false) (Code.seq (Code.seq (Code.region 2 (reg Try.f22 2) false) (Code.cond (Operand.tmp 16) (Code.seq (Code.region 3 (reg Try.f22 3) false) Code.ret) Code.skip)) (Code.seq (Code.region 4 (reg Try.f22 4) false) (Code.seq (Code.region 5 (reg Try.f22 5) true) (Code.seq (Code.seq (Code.region 6 (reg Try.f22 6) false) (Code.cond (Operand.tmp 43) (Code.seq (Code.region 7 (reg Try.f22 7) false) Code.ret) Code.skip)) (Code.seq (Code.region 8 (reg Try.f22 8) false) Code.ret)))))))
theorem block_Read.body : Try.f22.body = some block_Read.code := by kernel_rfl
theorem block_Read.eta {T : List Value} (h : T.length = 46) : T = [T.getD 0 undef,T.getD 1 undef,T.getD 2 undef,T.getD 3 undef,T.getD 4 undef,T.getD 5 undef,T.getD 6 undef,T.getD 7 undef,T.getD 8 undef,T.getD 9 undef,T.getD 10 undef,T.getD 11 undef,T.getD 12 undef,T.getD 13 undef,T.getD 14 undef,T.getD 15 undef,T.getD 16 undef,T.getD 17 undef,T.getD 18 undef,T.getD 19 undef,T.getD 20 undef,T.getD 21 undef,T.getD 22 undef,T.getD 23 undef,T.getD 24 undef,T.getD 25 undef,T.getD 26 undef,T.getD 27 undef,T.getD 28 undef,T.getD 29 undef,T.getD 30 undef,T.getD 31 undef,T.getD 32 undef,T.getD 33 undef,T.getD 34 undef,T.getD 35 undef,T.getD 36 undef,T.getD 37 undef,T.getD 38 undef,T.getD 39 undef,T.getD 40 undef,T.getD 41 undef,T.getD 42 undef,T.getD 43 undef,T.getD 44 undef,T.getD 45 undef] := (list_getD T 46 h).trans (by kernel_rfl)
variable (x0 x1 x2 x3 x4 x5 x6 x7 x8 x9 x10 x11 x12 x13 x14 x15 x16 x17 x18 x19 x20 x21 x22 x23 x24 x25 x26 x27 x28 x29 x30 x31 x32 x33 x34 x35 x36 x37 x38 x39 x40 x41 x42 x43 x44 x45 : Value) (S : AHeap)
theorem block_Read.r0  : vOps Try.prog ⟨false, false, false⟩ (vlim Try.prog O) (reg Try.f22 0) (reg Try.f22 0).toList ([x0,x1,x2,x3,x4,x5,x6,x7,x8,x9,x10,x11,x12,x13,x14,x15,x16,x17,x18,x19,x20,x21,x22,x23,x24,x25,x26,x27,x28,x29,x30,x31,x32,x33,x34,x35,x36,x37,x38,x39,x40,x41,x42,x43,x44,x45]) S =
    (andK (aAlloc Try.prog 29 S) (fun v0 S1 => some ([x0,x1,v0,Value.int IntKind.i64 0,x4,x5,x6,x7,x8,x9,x10,x11,x12,x13,x14,x15,x16,x17,x18,x19,x20,x21,x22,x23,x24,x25,x26,x27,x28,x29,x30,x31,x32,x33,x34,x35,x36,x37,x38,x39,x40,x41,x42,x43,x44,x45], S1)) ()) := by
  refine sD Try.f22 0 0 (fun v0 S1 => ?_)
  refine sP Try.f22 0 1 (v := (Value.int IntKind.i64 0)) ?_
  kernel_rfl
theorem block_Read.r1  : vOps Try.prog ⟨false, false, false⟩ (vlim Try.prog O) (reg Try.f22 1) (reg Try.f22 1).toList ([x0,x1,x2,x3,x4,x5,x6,x7,x8,x9,x10,x11,x12,x13,x14,x15,x16,x17,x18,x19,x20,x21,x22,x23,x24,x25,x26,x27,x28,x29,x30,x31,x32,x33,x34,x35,x36,x37,x38,x39,x40,x41,x42,x43,x44,x45]) S =
    (andK ((vlim Try.prog O) 33 [(dem (dem x0)), (Value.int IntKind.i64 4)] S) (fun v1 S1 => andK (aExtract v1 0 S1) (fun v3 S2 => andK (aExtract (demPart 0 v1) 1 S2) (fun v4 S3 => andK (aExtract (demPart 1 (demPart 0 v1)) 2 S3) (fun v5 S4 => some ([x0,x1,x2,x3,v3,v4,v5,x7,x8,demPart 2 (demPart 1 (demPart 0 v1)),dem x0,dem v1,dem v3,dem v4,dem v5,x15,x16,x17,x18,x19,x20,x21,x22,x23,x24,x25,x26,x27,x28,x29,x30,x31,x32,x33,x34,x35,x36,x37,x38,x39,x40,x41,x42,x43,x44,x45], S4)) ()) ()) ()) ()) := by
  refine sP Try.f22 1 0 (v := x0) ?_
  refine sD Try.f22 1 1 (fun v1 S1 => ?_)
  refine sP Try.f22 1 2 (v := v1) ?_
  refine sD Try.f22 1 3 (fun v3 S2 => ?_)
  refine sD Try.f22 1 4 (fun v4 S3 => ?_)
  refine sD Try.f22 1 5 (fun v5 S4 => ?_)
  refine sP Try.f22 1 6 (v := v3) ?_
  refine sP Try.f22 1 7 (v := v4) ?_
  refine sP Try.f22 1 8 (v := v5) ?_
  kernel_rfl
theorem block_Read.r2  : vOps Try.prog ⟨false, false, false⟩ (vlim Try.prog O) (reg Try.f22 2) (reg Try.f22 2).toList ([x0,x1,x2,x3,x4,x5,x6,x7,x8,x9,x10,x11,x12,x13,x14,x15,x16,x17,x18,x19,x20,x21,x22,x23,x24,x25,x26,x27,x28,x29,x30,x31,x32,x33,x34,x35,x36,x37,x38,x39,x40,x41,x42,x43,x44,x45]) S =
    (andK (vBin Try.prog BinOp.neq 34 (dem x6) (Value.int IntKind.i64 0) S) (fun v1 S1 => some ([x0,x1,x2,x3,x4,x5,x6,x7,x8,x9,x10,x11,x12,x13,x14,dem x6,v1,x17,x18,x19,x20,x21,x22,x23,x24,x25,x26,x27,x28,x29,x30,x31,x32,x33,x34,x35,x36,x37,x38,x39,x40,x41,x42,x43,x44,x45], S1)) ()) := by
  refine sP Try.f22 2 0 (v := x6) ?_
  refine sD Try.f22 2 1 (fun v1 S1 => ?_)
  kernel_rfl
theorem block_Read.r3  : vOps Try.prog ⟨false, false, false⟩ (vlim Try.prog O) (reg Try.f22 3) (reg Try.f22 3).toList ([x0,x1,x2,x3,x4,x5,x6,x7,x8,x9,x10,x11,x12,x13,x14,x15,x16,x17,x18,x19,x20,x21,x22,x23,x24,x25,x26,x27,x28,x29,x30,x31,x32,x33,x34,x35,x36,x37,x38,x39,x40,x41,x42,x43,x44,x45]) S =
    (andK (aBuild Try.prog 29 [] S) (fun v0 S1 => andK (vStore Try.prog 29 x2 (dem v0) S1) (fun v1 S2 => some ([x0,x1,x2,Value.int IntKind.i64 71,x4,x5,x6,x7,x8,x9,x10,x11,x12,x13,x14,x15,x16,v0,x18,x19,x20,x21,x22,x23,x24,x25,x26,x27,x28,x29,x30,x31,x32,x33,x34,x35,x36,x37,x38,x39,x40,x41,x42,x43,x44,x45], S2)) ()) ()) := by
  refine sD Try.f22 3 0 (fun v0 S1 => ?_)
  refine sD Try.f22 3 1 (fun v1 S2 => ?_)
  refine sP Try.f22 3 2 (v := (Value.int IntKind.i64 71)) ?_
  kernel_rfl
theorem block_Read.r4  : vOps Try.prog ⟨false, false, false⟩ (vlim Try.prog O) (reg Try.f22 4) (reg Try.f22 4).toList ([x0,x1,x2,x3,x4,x5,x6,x7,x8,x9,x10,x11,x12,x13,x14,x15,x16,x17,x18,x19,x20,x21,x22,x23,x24,x25,x26,x27,x28,x29,x30,x31,x32,x33,x34,x35,x36,x37,x38,x39,x40,x41,x42,x43,x44,x45]) S =
    (andK ((vlim Try.prog O) 34 [(dem (dem x5))] S) (fun v1 S1 => andK (aExtract v1 0 S1) (fun v3 S2 => andK (aExtract (demPart 0 v1) 1 S2) (fun v4 S3 => some ([x0,x1,x2,x3,x4,x5,v4,v3,x8,x9,x10,x11,x12,x13,x14,x15,x16,x17,demPart 1 (demPart 0 v1),dem x5,dem v1,dem v3,dem v4,x23,x24,x25,x26,x27,x28,x29,x30,x31,x32,x33,x34,x35,x36,x37,x38,x39,x40,x41,x42,x43,x44,x45], S3)) ()) ()) ()) := by
  refine sP Try.f22 4 0 (v := x5) ?_
  refine sD Try.f22 4 1 (fun v1 S1 => ?_)
  refine sP Try.f22 4 2 (v := v1) ?_
  refine sD Try.f22 4 3 (fun v3 S2 => ?_)
  refine sD Try.f22 4 4 (fun v4 S3 => ?_)
  refine sP Try.f22 4 5 (v := v3) ?_
  refine sP Try.f22 4 6 (v := v4) ?_
  kernel_rfl
theorem block_Read.d5 : drawnOk Try.prog (reg Try.f22 5) = true := by kernel_rfl
theorem block_Read.ff5 : fixed Try.prog (reg Try.f22 5) = false := by kernel_rfl
theorem block_Read.k5 : checked Try.prog (reg Try.f22 5) = [0, 1, 2, 3, 4, 5, 6, 7, 8, 9, 10, 11, 12, 13] := by kernel_rfl
theorem block_Read.g5 : again Try.prog (reg Try.f22 5) = [(2, 14), (5, 14), (8, 14), (11, 14)] := by kernel_rfl
theorem block_Read.r5  : vcodeV Try.prog O false (.region 5 (reg Try.f22 5) true) ([x0,x1,x2,x3,x4,x5,x6,x7,x8,x9,x10,x11,x12,x13,x14,x15,x16,x17,x18,x19,x20,x21,x22,x23,x24,x25,x26,x27,x28,x29,x30,x31,x32,x33,x34,x35,x36,x37,x38,x39,x40,x41,x42,x43,x44,x45]) S =
    regV (okK x4 ( andK (vIndexAddr Try.prog 53 (dem x4) (Value.int IntKind.i64 0) S) (fun v1 S1 => okK v1 ( andK (vLoad Try.prog false 3 v1 S1) (fun v2 S2 => okK v2 ( okK x4 ( andK (vIndexAddr Try.prog 53 (dem x4) (Value.int IntKind.i64 1) S2) (fun v4 S3 => okK v4 ( andK (vLoad Try.prog false 3 v4 S3) (fun v5 S4 => okK v5 ( okK x4 ( andK (vIndexAddr Try.prog 53 (dem x4) (Value.int IntKind.i64 2) S4) (fun v7 S5 => okK v7 ( andK (vLoad Try.prog false 3 v7 S5) (fun v8 S6 => okK v8 ( okK x4 ( andK (vIndexAddr Try.prog 53 (dem x4) (Value.int IntKind.i64 3) S6) (fun v10 S7 => okK v10 ( andK (vLoad Try.prog false 3 v10 S7) (fun v11 S8 => okK v11 ( okK x7 ( andK (aBuild Try.prog 29 [(0, (dem v2)), (1, (dem v5)), (2, (dem v8)), (3, (dem v11)), (4, (dem (dem x7)))] S8) (fun v13 S9 => okK v13 ( andK (aAlloc Try.prog 29 S9) (fun v14 S10 => andK (vStore Try.prog 29 v14 (dem v13) S10) (fun v15 S11 => ckK (stillQ v1 S1 S10 && (stillQ v4 S3 S10 && (stillQ v7 S5 S10 && (stillQ v10 S7 S10 && (true))))) (some ([x0,x1,x2,x3,x4,x5,x6,x7,v14,x9,x10,x11,x12,x13,x14,x15,x16,x17,x18,x19,x20,x21,x22,dem x4,v1,v2,dem x4,v4,v5,dem x4,v7,v8,dem x4,v10,v11,dem x7,v13,x37,x38,x39,x40,x41,x42,x43,x44,x45], S11)) ()) ()) ()) ()) ()) ()) ()) ()) ()) ()) ()) ()) ()) ()) ()) ()) ()) ()) ()) ()) ()) ()) ()) ()) ()) ()) := by
  rw [vcodeV_drawn block_Read.d5 block_Read.ff5 block_Read.k5 block_Read.g5]
  refine congrArg regV ?_
  refine uPC Try.f22 5 0 (v := x4) (pe := undef) ?_
  refine uDC Try.f22 5 1 (pe := undef) (fun v1 S1 => ?_)
  refine uDC Try.f22 5 2 (pe := v1) (fun v2 S2 => ?_)
  refine uPC Try.f22 5 3 (v := x4) (pe := undef) ?_
  refine uDC Try.f22 5 4 (pe := undef) (fun v4 S3 => ?_)
  refine uDC Try.f22 5 5 (pe := v4) (fun v5 S4 => ?_)
  refine uPC Try.f22 5 6 (v := x4) (pe := undef) ?_
  refine uDC Try.f22 5 7 (pe := undef) (fun v7 S5 => ?_)
  refine uDC Try.f22 5 8 (pe := v7) (fun v8 S6 => ?_)
  refine uPC Try.f22 5 9 (v := x4) (pe := undef) ?_
  refine uDC Try.f22 5 10 (pe := undef) (fun v10 S7 => ?_)
  refine uDC Try.f22 5 11 (pe := v10) (fun v11 S8 => ?_)
  refine uPC Try.f22 5 12 (v := x7) (pe := undef) ?_
  refine uDC Try.f22 5 13 (pe := undef) (fun v13 S9 => ?_)
  refine uD Try.f22 5 14 (pe := undef) (fun v14 S10 => ?_)
  refine uD Try.f22 5 15 (pe := undef) (fun v15 S11 => ?_)
  kernel_rfl
theorem block_Read.r6  : vOps Try.prog ⟨false, false, false⟩ (vlim Try.prog O) (reg Try.f22 6) (reg Try.f22 6).toList ([x0,x1,x2,x3,x4,x5,x6,x7,x8,x9,x10,x11,x12,x13,x14,x15,x16,x17,x18,x19,x20,x21,x22,x23,x24,x25,x26,x27,x28,x29,x30,x31,x32,x33,x34,x35,x36,x37,x38,x39,x40,x41,x42,x43,x44,x45]) S =
    (andK (vBin Try.prog BinOp.neq 34 (dem x6) (Value.int IntKind.i64 0) S) (fun v1 S1 => gdK (dem v1) false (vLoad Try.prog false 29 x8) S1 (fun v3 S2 => gdK (dem v1) false ((vlim Try.prog O) 14 [(dem v3)]) S2 (fun v4 S3 => gdK (dem v1) false (aUn Try.prog UnOp.not v4) S3 (fun v5 S4 => andK (vPick (dem v1) (Value.bool true) v5 S4) (fun v6 S5 => some ([x0,x1,x2,x3,x4,x5,x6,x7,x8,x9,x10,x11,x12,x13,x14,x15,x16,x17,x18,x19,x20,x21,x22,x23,x24,x25,x26,x27,x28,x29,x30,x31,x32,x33,x34,x35,x36,dem x6,v1,dem v1,v3,v4,v5,v6,x44,x45], S5)) ()) ()) ()) ()) ()) := by
  refine sP Try.f22 6 0 (v := x6) ?_
  refine sD Try.f22 6 1 (fun v1 S1 => ?_)
  refine sP Try.f22 6 2 (v := v1) ?_
  refine sG Try.f22 6 3 (j := 2) (fun v3 S2 => ?_)
  refine sG Try.f22 6 4 (j := 2) (fun v4 S3 => ?_)
  refine sG Try.f22 6 5 (j := 2) (fun v5 S4 => ?_)
  refine sD Try.f22 6 6 (fun v6 S5 => ?_)
  kernel_rfl
theorem block_Read.r7  : vOps Try.prog ⟨false, false, false⟩ (vlim Try.prog O) (reg Try.f22 7) (reg Try.f22 7).toList ([x0,x1,x2,x3,x4,x5,x6,x7,x8,x9,x10,x11,x12,x13,x14,x15,x16,x17,x18,x19,x20,x21,x22,x23,x24,x25,x26,x27,x28,x29,x30,x31,x32,x33,x34,x35,x36,x37,x38,x39,x40,x41,x42,x43,x44,x45]) S =
    (andK (aBuild Try.prog 29 [] S) (fun v0 S1 => andK (vStore Try.prog 29 x2 (dem v0) S1) (fun v1 S2 => some ([x0,x1,x2,Value.int IntKind.i64 71,x4,x5,x6,x7,x8,x9,x10,x11,x12,x13,x14,x15,x16,x17,x18,x19,x20,x21,x22,x23,x24,x25,x26,x27,x28,x29,x30,x31,x32,x33,x34,x35,x36,x37,x38,x39,x40,x41,x42,x43,v0,x45], S2)) ()) ()) := by
  refine sD Try.f22 7 0 (fun v0 S1 => ?_)
  refine sD Try.f22 7 1 (fun v1 S2 => ?_)
  refine sP Try.f22 7 2 (v := (Value.int IntKind.i64 71)) ?_
  kernel_rfl
theorem block_Read.r8  : vOps Try.prog ⟨false, false, false⟩ (vlim Try.prog O) (reg Try.f22 8) (reg Try.f22 8).toList ([x0,x1,x2,x3,x4,x5,x6,x7,x8,x9,x10,x11,x12,x13,x14,x15,x16,x17,x18,x19,x20,x21,x22,x23,x24,x25,x26,x27,x28,x29,x30,x31,x32,x33,x34,x35,x36,x37,x38,x39,x40,x41,x42,x43,x44,x45]) S =
    (andK (vLoad Try.prog false 29 x8 S) (fun v0 S1 => andK (vStore Try.prog 29 x2 (dem v0) S1) (fun v1 S2 => some ([x0,x1,x2,Value.int IntKind.i64 0,x4,x5,x6,x7,x8,x9,x10,x11,x12,x13,x14,x15,x16,x17,x18,x19,x20,x21,x22,x23,x24,x25,x26,x27,x28,x29,x30,x31,x32,x33,x34,x35,x36,x37,x38,x39,x40,x41,x42,x43,x44,v0], S2)) ()) ()) := by
  refine sD Try.f22 8 0 (fun v0 S1 => ?_)
  refine sD Try.f22 8 1 (fun v1 S2 => ?_)
  refine sP Try.f22 8 2 (v := (Value.int IntKind.i64 0)) ?_
  kernel_rfl
theorem block_Read.rs : type_of% (And.intro @block_Read.r0 (And.intro @block_Read.r1 (And.intro @block_Read.r2 (And.intro @block_Read.r3 (And.intro @block_Read.r4 (And.intro @block_Read.r5 (And.intro @block_Read.r6 (And.intro @block_Read.r7 (@block_Read.r8))))))))) := And.intro @block_Read.r0 (And.intro @block_Read.r1 (And.intro @block_Read.r2 (And.intro @block_Read.r3 (And.intro @block_Read.r4 (And.intro @block_Read.r5 (And.intro @block_Read.r6 (And.intro @block_Read.r7 (@block_Read.r8))))))))
theorem block_Read.runs {x0 : Value} {S S1 : AHeap} {e : AEx} {T : List Value} (h : vcodeV Try.prog O false block_Read.code ([x0,undef,undef,undef,undef,undef,undef,undef,undef,undef,undef,undef,undef,undef,undef,undef,undef,undef,undef,undef,undef,undef,undef,undef,undef,undef,undef,undef,undef,undef,undef,undef,undef,undef,undef,undef,undef,undef,undef,undef,undef,undef,undef,undef,undef,undef]) AHeap.empty = some (e, T, S1)) (he : e = .normal ∨ e = .ret) {w0 : Value} (c0 : vLoad Try.prog false 29 (T.getD 2 undef) S1 = some (w0, S1)) (h0 : notTuple (w0) = true) (h1 : notTuple (T.getD 3 undef) = true) (hca : [x0].all (cleanN 16) = true) (hcv : cleanN 16 (Value.tuple #[w0, T.getD 3 undef]) = true) : vlim Try.prog O 22 [x0] S = some (Value.tuple #[w0, T.getD 3 undef], S) :=
  vlim_pure rfl rfl Try.func22 (by decide) block_Read.body (by exact h) he ((vRes_many ((show vResVals Try.prog T S1 Try.f22.results.toList = vResVals Try.prog T S1 [(ResultVar.cell 2 29), (ResultVar.tmp 3)] from by kernel_rfl).trans (by simp only [vResVals, c0])) (by kernel_rfl) (by simp only [List.all_cons, List.all_nil, h0, h1, Bool.and_true])).trans rfl) hca hcv
end Go.Proofs.Ytgggklfbhmlapaa

namespace Go.Proofs.Ytgggklfbhmlapaa
open Go.Abs

/-- neaptide.neaptideref07.Read -/
abbrev neaptideref07_Read.id : FuncId := 23
noncomputable def neaptideref07_Read.code : Code := (Code.seq (Code.region 0 (reg Try.f23 0) false) (Code.seq (Code.region 1 (reg Try.f23 1) false) (Code.seq (Code.seq (Code.region 2 (reg Try.f23 2) false) (Code.cond (Operand.tmp 17) (Code.seq (Code.region 3 (reg Try.f23 3) false) Code.ret) Code.skip)) (Code.seq (Code.region 4 (reg Try.f23 4) false) (Code.seq (Code.region 5 (reg Try.f23 5) true) (Code.seq (Code.seq (Code.region 6 (reg Try.f23 6) false) (Code.cond (Operand.tmp 44) (Code.seq (Code.region 7 (reg Try.f23 7) false) Code.ret) Code.skip)) (Code.seq (Code.region 8 (reg Try.f23 8) false) Code.ret)))))))
theorem neaptideref07_Read.body : Try.f23.body = some neaptideref07_Read.code := by kernel_rfl
theorem neaptideref07_Read.eta {T : List Value} (h : T.length = 47) : T = [T.getD 0 undef,T.getD 1 undef,T.getD 2 undef,T.getD 3 undef,T.getD 4 undef,T.getD 5 undef,T.getD 6 undef,T.getD 7 undef,T.getD 8 undef,T.getD 9 undef,T.getD 10 undef,T.getD 11 undef,T.getD 12 undef,T.getD 13 undef,T.getD 14 undef,T.getD 15 undef,T.getD 16 undef,T.getD 17 undef,T.getD 18 undef,T.getD 19 undef,T.getD 20 undef,T.getD 21 undef,T.getD 22 undef,T.getD 23 undef,T.getD 24 undef,T.getD 25 undef,T.getD 26 undef,T.getD 27 undef,T.getD 28 undef,T.getD 29 undef,T.getD 30 undef,T.getD 31 undef,T.getD 32 undef,T.getD 33 undef,T.getD 34 undef,T.getD 35 undef,T.getD 36 undef,T.getD 37 undef,T.getD 38 undef,T.getD 39 undef,T.getD 40 undef,T.getD 41 undef,T.getD 42 undef,T.getD 43 undef,T.getD 44 undef,T.getD 45 undef,T.getD 46 undef] := (list_getD T 47 h).trans (by kernel_rfl)
variable (x0 x1 x2 x3 x4 x5 x6 x7 x8 x9 x10 x11 x12 x13 x14 x15 x16 x17 x18 x19 x20 x21 x22 x23 x24 x25 x26 x27 x28 x29 x30 x31 x32 x33 x34 x35 x36 x37 x38 x39 x40 x41 x42 x43 x44 x45 x46 : Value) (S : AHeap)
theorem neaptideref07_Read.r0  : vOps Try.prog ⟨false, false, false⟩ (vlim Try.prog O) (reg Try.f23 0) (reg Try.f23 0).toList ([x0,x1,x2,x3,x4,x5,x6,x7,x8,x9,x10,x11,x12,x13,x14,x15,x16,x17,x18,x19,x20,x21,x22,x23,x24,x25,x26,x27,x28,x29,x30,x31,x32,x33,x34,x35,x36,x37,x38,x39,x40,x41,x42,x43,x44,x45,x46]) S =
    (andK (aAlloc Try.prog 29 S) (fun v0 S1 => some ([x0,x1,v0,Value.int IntKind.i64 0,x4,x5,x6,x7,x8,x9,x10,x11,x12,x13,x14,x15,x16,x17,x18,x19,x20,x21,x22,x23,x24,x25,x26,x27,x28,x29,x30,x31,x32,x33,x34,x35,x36,x37,x38,x39,x40,x41,x42,x43,x44,x45,x46], S1)) ()) := by
  refine sD Try.f23 0 0 (fun v0 S1 => ?_)
  refine sP Try.f23 0 1 (v := (Value.int IntKind.i64 0)) ?_
  kernel_rfl
theorem neaptideref07_Read.r1  : vOps Try.prog ⟨false, false, false⟩ (vlim Try.prog O) (reg Try.f23 1) (reg Try.f23 1).toList ([x0,x1,x2,x3,x4,x5,x6,x7,x8,x9,x10,x11,x12,x13,x14,x15,x16,x17,x18,x19,x20,x21,x22,x23,x24,x25,x26,x27,x28,x29,x30,x31,x32,x33,x34,x35,x36,x37,x38,x39,x40,x41,x42,x43,x44,x45,x46]) S =
    (andK ((vlim Try.prog O) 35 [(dem (dem x0)), (Value.int IntKind.i64 4)] S) (fun v1 S1 => andK (aExtract v1 0 S1) (fun v3 S2 => andK (aExtract (demPart 0 v1) 1 S2) (fun v4 S3 => andK (aExtract (demPart 1 (demPart 0 v1)) 2 S3) (fun v5 S4 => some ([x0,x1,x2,x3,v3,v4,v5,x7,x8,x9,demPart 2 (demPart 1 (demPart 0 v1)),dem x0,dem v1,dem v3,dem v4,dem v5,x16,x17,x18,x19,x20,x21,x22,x23,x24,x25,x26,x27,x28,x29,x30,x31,x32,x33,x34,x35,x36,x37,x38,x39,x40,x41,x42,x43,x44,x45,x46], S4)) ()) ()) ()) ()) := by
  refine sP Try.f23 1 0 (v := x0) ?_
  refine sD Try.f23 1 1 (fun v1 S1 => ?_)
  refine sP Try.f23 1 2 (v := v1) ?_
  refine sD Try.f23 1 3 (fun v3 S2 => ?_)
  refine sD Try.f23 1 4 (fun v4 S3 => ?_)
  refine sD Try.f23 1 5 (fun v5 S4 => ?_)
  refine sP Try.f23 1 6 (v := v3) ?_
  refine sP Try.f23 1 7 (v := v4) ?_
  refine sP Try.f23 1 8 (v := v5) ?_
  kernel_rfl
theorem neaptideref07_Read.r2  : vOps Try.prog ⟨false, false, false⟩ (vlim Try.prog O) (reg Try.f23 2) (reg Try.f23 2).toList ([x0,x1,x2,x3,x4,x5,x6,x7,x8,x9,x10,x11,x12,x13,x14,x15,x16,x17,x18,x19,x20,x21,x22,x23,x24,x25,x26,x27,x28,x29,x30,x31,x32,x33,x34,x35,x36,x37,x38,x39,x40,x41,x42,x43,x44,x45,x46]) S =
    (andK (vBin Try.prog BinOp.neq 3 (dem x6) (Value.int IntKind.i64 0) S) (fun v1 S1 => some ([x0,x1,x2,x3,x4,x5,x6,x7,x8,x9,x10,x11,x12,x13,x14,x15,dem x6,v1,x18,x19,x20,x21,x22,x23,x24,x25,x26,x27,x28,x29,x30,x31,x32,x33,x34,x35,x36,x37,x38,x39,x40,x41,x42,x43,x44,x45,x46], S1)) ()) := by
  refine sP Try.f23 2 0 (v := x6) ?_
  refine sD Try.f23 2 1 (fun v1 S1 => ?_)
  kernel_rfl
theorem neaptideref07_Read.r3  : vOps Try.prog ⟨false, false, false⟩ (vlim Try.prog O) (reg Try.f23 3) (reg Try.f23 3).toList ([x0,x1,x2,x3,x4,x5,x6,x7,x8,x9,x10,x11,x12,x13,x14,x15,x16,x17,x18,x19,x20,x21,x22,x23,x24,x25,x26,x27,x28,x29,x30,x31,x32,x33,x34,x35,x36,x37,x38,x39,x40,x41,x42,x43,x44,x45,x46]) S =
    (andK (aBuild Try.prog 29 [] S) (fun v0 S1 => andK (vStore Try.prog 29 x2 (dem v0) S1) (fun v1 S2 => some ([x0,x1,x2,Value.int IntKind.i64 71,x4,x5,x6,x7,x8,x9,x10,x11,x12,x13,x14,x15,x16,x17,v0,x19,x20,x21,x22,x23,x24,x25,x26,x27,x28,x29,x30,x31,x32,x33,x34,x35,x36,x37,x38,x39,x40,x41,x42,x43,x44,x45,x46], S2)) ()) ()) := by
  refine sD Try.f23 3 0 (fun v0 S1 => ?_)
  refine sD Try.f23 3 1 (fun v1 S2 => ?_)
  refine sP Try.f23 3 2 (v := (Value.int IntKind.i64 71)) ?_
  kernel_rfl
theorem neaptideref07_Read.r4  : vOps Try.prog ⟨false, false, false⟩ (vlim Try.prog O) (reg Try.f23 4) (reg Try.f23 4).toList ([x0,x1,x2,x3,x4,x5,x6,x7,x8,x9,x10,x11,x12,x13,x14,x15,x16,x17,x18,x19,x20,x21,x22,x23,x24,x25,x26,x27,x28,x29,x30,x31,x32,x33,x34,x35,x36,x37,x38,x39,x40,x41,x42,x43,x44,x45,x46]) S =
    (andK ((vlim Try.prog O) 36 [(dem (dem x5))] S) (fun v1 S1 => andK (aExtract v1 0 S1) (fun v3 S2 => andK (aExtract (demPart 0 v1) 1 S2) (fun v4 S3 => some ([x0,x1,x2,x3,x4,x5,x6,v3,v4,x9,x10,x11,x12,x13,x14,x15,x16,x17,x18,demPart 1 (demPart 0 v1),dem x5,dem v1,dem v3,dem v4,x24,x25,x26,x27,x28,x29,x30,x31,x32,x33,x34,x35,x36,x37,x38,x39,x40,x41,x42,x43,x44,x45,x46], S3)) ()) ()) ()) := by
  refine sP Try.f23 4 0 (v := x5) ?_
  refine sD Try.f23 4 1 (fun v1 S1 => ?_)
  refine sP Try.f23 4 2 (v := v1) ?_
  refine sD Try.f23 4 3 (fun v3 S2 => ?_)
  refine sD Try.f23 4 4 (fun v4 S3 => ?_)
  refine sP Try.f23 4 5 (v := v3) ?_
  refine sP Try.f23 4 6 (v := v4) ?_
  kernel_rfl
theorem neaptideref07_Read.d5 : drawnOk Try.prog (reg Try.f23 5) = true := by kernel_rfl
theorem neaptideref07_Read.ff5 : fixed Try.prog (reg Try.f23 5) = false := by kernel_rfl
theorem neaptideref07_Read.k5 : checked Try.prog (reg Try.f23 5) = [0, 1, 2, 3, 4, 5, 6, 7, 8, 9, 10, 11, 12, 13] := by kernel_rfl
theorem neaptideref07_Read.g5 : again Try.prog (reg Try.f23 5) = [(2, 14), (5, 14), (8, 14), (11, 14)] := by kernel_rfl
theorem neaptideref07_Read.r5  : vcodeV Try.prog O false (.region 5 (reg Try.f23 5) true) ([x0,x1,x2,x3,x4,x5,x6,x7,x8,x9,x10,x11,x12,x13,x14,x15,x16,x17,x18,x19,x20,x21,x22,x23,x24,x25,x26,x27,x28,x29,x30,x31,x32,x33,x34,x35,x36,x37,x38,x39,x40,x41,x42,x43,x44,x45,x46]) S =
    regV (okK x4 ( andK (vIndexAddr Try.prog 53 (dem x4) (Value.int IntKind.i64 0) S) (fun v1 S1 => okK v1 ( andK (vLoad Try.prog false 3 v1 S1) (fun v2 S2 => okK v2 ( okK x4 ( andK (vIndexAddr Try.prog 53 (dem x4) (Value.int IntKind.i64 1) S2) (fun v4 S3 => okK v4 ( andK (vLoad Try.prog false 3 v4 S3) (fun v5 S4 => okK v5 ( okK x4 ( andK (vIndexAddr Try.prog 53 (dem x4) (Value.int IntKind.i64 2) S4) (fun v7 S5 => okK v7 ( andK (vLoad Try.prog false 3 v7 S5) (fun v8 S6 => okK v8 ( okK x4 ( andK (vIndexAddr Try.prog 53 (dem x4) (Value.int IntKind.i64 3) S6) (fun v10 S7 => okK v10 ( andK (vLoad Try.prog false 3 v10 S7) (fun v11 S8 => okK v11 ( okK x7 ( andK (aBuild Try.prog 29 [(0, (dem v2)), (1, (dem v5)), (2, (dem v8)), (3, (dem v11)), (4, (dem (dem x7)))] S8) (fun v13 S9 => okK v13 ( andK (aAlloc Try.prog 29 S9) (fun v14 S10 => andK (vStore Try.prog 29 v14 (dem v13) S10) (fun v15 S11 => ckK (stillQ v1 S1 S10 && (stillQ v4 S3 S10 && (stillQ v7 S5 S10 && (stillQ v10 S7 S10 && (true))))) (some ([x0,x1,x2,x3,x4,x5,x6,x7,x8,v14,x10,x11,x12,x13,x14,x15,x16,x17,x18,x19,x20,x21,x22,x23,dem x4,v1,v2,dem x4,v4,v5,dem x4,v7,v8,dem x4,v10,v11,dem x7,v13,x38,x39,x40,x41,x42,x43,x44,x45,x46], S11)) ()) ()) ()) ()) ()) ()) ()) ()) ()) ()) ()) ()) ()) ()) ()) ()) ()) ()) ()) ()) ()) ()) ()) ()) ()) ()) := by
  rw [vcodeV_drawn neaptideref07_Read.d5 neaptideref07_Read.ff5 neaptideref07_Read.k5 neaptideref07_Read.g5]
  refine congrArg regV ?_
  refine uPC Try.f23 5 0 (v := x4) (pe := undef) ?_
  refine uDC Try.f23 5 1 (pe := undef) (fun v1 S1 => ?_)
  refine uDC Try.f23 5 2 (pe := v1) (fun v2 S2 => ?_)
  refine uPC Try.f23 5 3 (v := x4) (pe := undef) ?_
  refine uDC Try.f23 5 4 (pe := undef) (fun v4 S3 => ?_)
  refine uDC Try.f23 5 5 (pe := v4) (fun v5 S4 => ?_)
  refine uPC Try.f23 5 6 (v := x4) (pe := undef) ?_
  refine uDC Try.f23 5 7 (pe := undef) (fun v7 S5 => ?_)
  refine uDC Try.f23 5 8 (pe := v7) (fun v8 S6 => ?_)
  refine uPC Try.f23 5 9 (v := x4) (pe := undef) ?_
  refine uDC Try.f23 5 10 (pe := undef) (fun v10 S7 => ?_)
  refine uDC Try.f23 5 11 (pe := v10) (fun v11 S8 => ?_)
  refine uPC Try.f23 5 12 (v := x7) (pe := undef) ?_
  refine uDC Try.f23 5 13 (pe := undef) (fun v13 S9 => ?_)
  refine uD Try.f23 5 14 (pe := undef) (fun v14 S10 => ?_)
  refine uD Try.f23 5 15 (pe := undef) (fun v15 S11 => ?_)
  kernel_rfl
theorem neaptideref07_Read.r6  : vOps Try.prog ⟨false, false, false⟩ (vlim Try.prog O) (reg Try.f23 6) (reg Try.f23 6).toList ([x0,x1,x2,x3,x4,x5,x6,x7,x8,x9,x10,x11,x12,x13,x14,x15,x16,x17,x18,x19,x20,x21,x22,x23,x24,x25,x26,x27,x28,x29,x30,x31,x32,x33,x34,x35,x36,x37,x38,x39,x40,x41,x42,x43,x44,x45,x46]) S =
    (andK (vBin Try.prog BinOp.neq 3 (dem x8) (Value.int IntKind.i64 0) S) (fun v1 S1 => gdK (dem v1) false (vLoad Try.prog false 29 x9) S1 (fun v3 S2 => gdK (dem v1) false ((vlim Try.prog O) 18 [(dem v3)]) S2 (fun v4 S3 => gdK (dem v1) false (aUn Try.prog UnOp.not v4) S3 (fun v5 S4 => andK (vPick (dem v1) (Value.bool true) v5 S4) (fun v6 S5 => some ([x0,x1,x2,x3,x4,x5,x6,x7,x8,x9,x10,x11,x12,x13,x14,x15,x16,x17,x18,x19,x20,x21,x22,x23,x24,x25,x26,x27,x28,x29,x30,x31,x32,x33,x34,x35,x36,x37,dem x8,v1,dem v1,v3,v4,v5,v6,x45,x46], S5)) ()) ()) ()) ()) ()) := by
  refine sP Try.f23 6 0 (v := x8) ?_
  refine sD Try.f23 6 1 (fun v1 S1 => ?_)
  refine sP Try.f23 6 2 (v := v1) ?_
  refine sG Try.f23 6 3 (j := 2) (fun v3 S2 => ?_)
  refine sG Try.f23 6 4 (j := 2) (fun v4 S3 => ?_)
  refine sG Try.f23 6 5 (j := 2) (fun v5 S4 => ?_)
  refine sD Try.f23 6 6 (fun v6 S5 => ?_)
  kernel_rfl
theorem neaptideref07_Read.r7  : vOps Try.prog ⟨false, false, false⟩ (vlim Try.prog O) (reg Try.f23 7) (reg Try.f23 7).toList ([x0,x1,x2,x3,x4,x5,x6,x7,x8,x9,x10,x11,x12,x13,x14,x15,x16,x17,x18,x19,x20,x21,x22,x23,x24,x25,x26,x27,x28,x29,x30,x31,x32,x33,x34,x35,x36,x37,x38,x39,x40,x41,x42,x43,x44,x45,x46]) S =
    (andK (aBuild Try.prog 29 [] S) (fun v0 S1 => andK (vStore Try.prog 29 x2 (dem v0) S1) (fun v1 S2 => some ([x0,x1,x2,Value.int IntKind.i64 71,x4,x5,x6,x7,x8,x9,x10,x11,x12,x13,x14,x15,x16,x17,x18,x19,x20,x21,x22,x23,x24,x25,x26,x27,x28,x29,x30,x31,x32,x33,x34,x35,x36,x37,x38,x39,x40,x41,x42,x43,x44,v0,x46], S2)) ()) ()) := by
  refine sD Try.f23 7 0 (fun v0 S1 => ?_)
  refine sD Try.f23 7 1 (fun v1 S2 => ?_)
  refine sP Try.f23 7 2 (v := (Value.int IntKind.i64 71)) ?_
  kernel_rfl
theorem neaptideref07_Read.r8  : vOps Try.prog ⟨false, false, false⟩ (vlim Try.prog O) (reg Try.f23 8) (reg Try.f23 8).toList ([x0,x1,x2,x3,x4,x5,x6,x7,x8,x9,x10,x11,x12,x13,x14,x15,x16,x17,x18,x19,x20,x21,x22,x23,x24,x25,x26,x27,x28,x29,x30,x31,x32,x33,x34,x35,x36,x37,x38,x39,x40,x41,x42,x43,x44,x45,x46]) S =
    (andK (vLoad Try.prog false 29 x9 S) (fun v0 S1 => andK (vStore Try.prog 29 x2 (dem v0) S1) (fun v1 S2 => some ([x0,x1,x2,Value.int IntKind.i64 0,x4,x5,x6,x7,x8,x9,x10,x11,x12,x13,x14,x15,x16,x17,x18,x19,x20,x21,x22,x23,x24,x25,x26,x27,x28,x29,x30,x31,x32,x33,x34,x35,x36,x37,x38,x39,x40,x41,x42,x43,x44,x45,v0], S2)) ()) ()) := by
  refine sD Try.f23 8 0 (fun v0 S1 => ?_)
  refine sD Try.f23 8 1 (fun v1 S2 => ?_)
  refine sP Try.f23 8 2 (v := (Value.int IntKind.i64 0)) ?_
  kernel_rfl
theorem neaptideref07_Read.rs : type_of% (And.intro @neaptideref07_Read.r0 (And.intro @neaptideref07_Read.r1 (And.intro @neaptideref07_Read.r2 (And.intro @neaptideref07_Read.r3 (And.intro @neaptideref07_Read.r4 (And.intro @neaptideref07_Read.r5 (And.intro @neaptideref07_Read.r6 (And.intro @neaptideref07_Read.r7 (@neaptideref07_Read.r8))))))))) := And.intro @neaptideref07_Read.r0 (And.intro @neaptideref07_Read.r1 (And.intro @neaptideref07_Read.r2 (And.intro @neaptideref07_Read.r3 (And.intro @neaptideref07_Read.r4 (And.intro @neaptideref07_Read.r5 (And.intro @neaptideref07_Read.r6 (And.intro @neaptideref07_Read.r7 (@neaptideref07_Read.r8))))))))
theorem neaptideref07_Read.runs {x0 : Value} {S S1 : AHeap} {e : AEx} {T : List Value} (h : vcodeV Try.prog O false neaptideref07_Read.code ([x0,undef,undef,undef,undef,undef,undef,undef,undef,undef,undef,undef,undef,undef,undef,undef,undef,undef,undef,undef,undef,undef,undef,undef,undef,undef,undef,undef,undef,undef,undef,undef,undef,undef,undef,undef,undef,undef,undef,undef,undef,undef,undef,undef,undef,undef,undef]) AHeap.empty = some (e, T, S1)) (he : e = .normal ∨ e = .ret) {w0 : Value} (c0 : vLoad Try.prog false 29 (T.getD 2 undef) S1 = some (w0, S1)) (h0 : notTuple (w0) = true) (h1 : notTuple (T.getD 3 undef) = true) (hca : [x0].all (cleanN 16) = true) (hcv : cleanN 16 (Value.tuple #[w0, T.getD 3 undef]) = true) : vlim Try.prog O 23 [x0] S = some (Value.tuple #[w0, T.getD 3 undef], S) :=
  vlim_pure rfl rfl Try.func23 (by decide) neaptideref07_Read.body (by exact h) he ((vRes_many ((show vResVals Try.prog T S1 Try.f23.results.toList = vResVals Try.prog T S1 [(ResultVar.cell 2 29), (ResultVar.tmp 3)] from by kernel_rfl).trans (by simp only [vResVals, c0])) (by kernel_rfl) (by simp only [List.all_cons, List.all_nil, h0, h1, Bool.and_true])).trans rfl) hca hcv
end Go.Proofs.Ytgggklfbhmlapaa

namespace Go.Proofs.Ytgggklfbhmlapaa
open Go.Abs

/-- neaptide.block.Same -/
abbrev block_Same.id : FuncId := 20
noncomputable def block_Same.code : Code := (Code.seq (Code.region 0 (reg Try.f20 0) false) (Code.seq (Code.region 1 (reg Try.f20 1) false) Code.ret))
theorem block_Same.body : Try.f20.body = some block_Same.code := by kernel_rfl
theorem block_Same.eta {T : List Value} (h : T.length = 38) : T = [T.getD 0 undef,T.getD 1 undef,T.getD 2 undef,T.getD 3 undef,T.getD 4 undef,T.getD 5 undef,T.getD 6 undef,T.getD 7 undef,T.getD 8 undef,T.getD 9 undef,T.getD 10 undef,T.getD 11 undef,T.getD 12 undef,T.getD 13 undef,T.getD 14 undef,T.getD 15 undef,T.getD 16 undef,T.getD 17 undef,T.getD 18 undef,T.getD 19 undef,T.getD 20 undef,T.getD 21 undef,T.getD 22 undef,T.getD 23 undef,T.getD 24 undef,T.getD 25 undef,T.getD 26 undef,T.getD 27 undef,T.getD 28 undef,T.getD 29 undef,T.getD 30 undef,T.getD 31 undef,T.getD 32 undef,T.getD 33 undef,T.getD 34 undef,T.getD 35 undef,T.getD 36 undef,T.getD 37 undef] := (list_getD T 38 h).trans (by kernel_rfl)
variable (x0 x1 x2 x3 x4 x5 x6 x7 x8 x9 x10 x11 x12 x13 x14 x15 x16 x17 x18 x19 x20 x21 x22 x23 x24 x25 x26 x27 x28 x29 x30 x31 x32 x33 x34 x35 x36 x37 : Value) (S : AHeap)
theorem block_Same.r0  : vOps Try.prog ⟨false, false, false⟩ (vlim Try.prog O) (reg Try.f20 0) (reg Try.f20 0).toList ([x0,x1,x2,x3,x4,x5,x6,x7,x8,x9,x10,x11,x12,x13,x14,x15,x16,x17,x18,x19,x20,x21,x22,x23,x24,x25,x26,x27,x28,x29,x30,x31,x32,x33,x34,x35,x36,x37]) S =
    (andK (aBox (dem x0) S) (fun v0 S1 => andK (aBox (dem x1) S1) (fun v1 S2 => some ([x0,x1,v0,v1,Value.bool false,x5,x6,x7,x8,x9,x10,x11,x12,x13,x14,x15,x16,x17,x18,x19,x20,x21,x22,x23,x24,x25,x26,x27,x28,x29,x30,x31,x32,x33,x34,x35,x36,x37], S2)) ()) ()) := by
  refine sD Try.f20 0 0 (fun v0 S1 => ?_)
  refine sD Try.f20 0 1 (fun v1 S2 => ?_)
  refine sP Try.f20 0 2 (v := (Value.bool false)) ?_
  kernel_rfl
theorem block_Same.r1  : vOps Try.prog ⟨false, false, false⟩ (vlim Try.prog O) (reg Try.f20 1) (reg Try.f20 1).toList ([x0,x1,x2,x3,x4,x5,x6,x7,x8,x9,x10,x11,x12,x13,x14,x15,x16,x17,x18,x19,x20,x21,x22,x23,x24,x25,x26,x27,x28,x29,x30,x31,x32,x33,x34,x35,x36,x37]) S =
    (andK (vFieldAddr Try.prog 29 x2 0 S) (fun v0 S1 => andK (vLoad Try.prog false 3 v0 S1) (fun v1 S2 => andK (vFieldAddr Try.prog 29 x3 0 S2) (fun v2 S3 => andK (vLoad Try.prog false 3 v2 S3) (fun v3 S4 => andK (vBin Try.prog BinOp.eql 3 v1 v3 S4) (fun v4 S5 => gdK (dem v4) true (vFieldAddr Try.prog 29 x2 1) S5 (fun v6 S6 => gdK (dem v4) true (vLoad Try.prog false 3 v6) S6 (fun v7 S7 => gdK (dem v4) true (vFieldAddr Try.prog 29 x3 1) S7 (fun v8 S8 => gdK (dem v4) true (vLoad Try.prog false 3 v8) S8 (fun v9 S9 => gdK (dem v4) true (vBin Try.prog BinOp.eql 3 v7 v9) S9 (fun v10 S10 => andK (vPick (dem v4) v10 (Value.bool false) S10) (fun v11 S11 => gdK (dem v11) true (vFieldAddr Try.prog 29 x2 2) S11 (fun v13 S12 => gdK (dem v11) true (vLoad Try.prog false 3 v13) S12 (fun v14 S13 => gdK (dem v11) true (vFieldAddr Try.prog 29 x3 2) S13 (fun v15 S14 => gdK (dem v11) true (vLoad Try.prog false 3 v15) S14 (fun v16 S15 => gdK (dem v11) true (vBin Try.prog BinOp.eql 3 v14 v16) S15 (fun v17 S16 => andK (vPick (dem v11) v17 (Value.bool false) S16) (fun v18 S17 => gdK (dem v18) true (vFieldAddr Try.prog 29 x2 3) S17 (fun v20 S18 => gdK (dem v18) true (vLoad Try.prog false 3 v20) S18 (fun v21 S19 => gdK (dem v18) true (vFieldAddr Try.prog 29 x3 3) S19 (fun v22 S20 => gdK (dem v18) true (vLoad Try.prog false 3 v22) S20 (fun v23 S21 => gdK (dem v18) true (vBin Try.prog BinOp.eql 3 v21 v23) S21 (fun v24 S22 => andK (vPick (dem v18) v24 (Value.bool false) S22) (fun v25 S23 => gdK (dem v25) true (vFieldAddr Try.prog 29 x2 4) S23 (fun v27 S24 => gdK (dem v25) true (vLoad Try.prog false 27 v27) S24 (fun v28 S25 => gdK (dem v25) true (vFieldAddr Try.prog 29 x3 4) S25 (fun v29 S26 => gdK (dem v25) true (vLoad Try.prog false 27 v29) S26 (fun v30 S27 => gdK (dem v25) true ((vlim Try.prog O) 31 [(dem v28), (dem v30)]) S27 (fun v31 S28 => andK (vPick (dem v25) v31 (Value.bool false) S28) (fun v32 S29 => some ([x0,x1,x2,x3,v32,v0,v1,v2,v3,v4,dem v4,v6,v7,v8,v9,v10,v11,dem v11,v13,v14,v15,v16,v17,v18,dem v18,v20,v21,v22,v23,v24,v25,dem v25,v27,v28,v29,v30,v31,dem v32], S29)) ()) ()) ()) ()) ()) ()) ()) ()) ()) ()) ()) ()) ()) ()) ()) ()) ()) ()) ()) ()) ()) ()) ()) ()) ()) ()) ()) ()) ()) := by
  refine sD Try.f20 1 0 (fun v0 S1 => ?_)
  refine sD Try.f20 1 1 (fun v1 S2 => ?_)
  refine sD Try.f20 1 2 (fun v2 S3 => ?_)
  refine sD Try.f20 1 3 (fun v3 S4 => ?_)
  refine sD Try.f20 1 4 (fun v4 S5 => ?_)
  refine sP Try.f20 1 5 (v := v4) ?_
  refine sG Try.f20 1 6 (j := 5) (fun v6 S6 => ?_)
  refine sG Try.f20 1 7 (j := 5) (fun v7 S7 => ?_)
  refine sG Try.f20 1 8 (j := 5) (fun v8 S8 => ?_)
  refine sG Try.f20 1 9 (j := 5) (fun v9 S9 => ?_)
  refine sG Try.f20 1 10 (j := 5) (fun v10 S10 => ?_)
  refine sD Try.f20 1 11 (fun v11 S11 => ?_)
  refine sP Try.f20 1 12 (v := v11) ?_
  refine sG Try.f20 1 13 (j := 12) (fun v13 S12 => ?_)
  refine sG Try.f20 1 14 (j := 12) (fun v14 S13 => ?_)
  refine sG Try.f20 1 15 (j := 12) (fun v15 S14 => ?_)
  refine sG Try.f20 1 16 (j := 12) (fun v16 S15 => ?_)
  refine sG Try.f20 1 17 (j := 12) (fun v17 S16 => ?_)
  refine sD Try.f20 1 18 (fun v18 S17 => ?_)
  refine sP Try.f20 1 19 (v := v18) ?_
  refine sG Try.f20 1 20 (j := 19) (fun v20 S18 => ?_)
  refine sG Try.f20 1 21 (j := 19) (fun v21 S19 => ?_)
  refine sG Try.f20 1 22 (j := 19) (fun v22 S20 => ?_)
  refine sG Try.f20 1 23 (j := 19) (fun v23 S21 => ?_)
  refine sG Try.f20 1 24 (j := 19) (fun v24 S22 => ?_)
  refine sD Try.f20 1 25 (fun v25 S23 => ?_)
  refine sP Try.f20 1 26 (v := v25) ?_
  refine sG Try.f20 1 27 (j := 26) (fun v27 S24 => ?_)
  refine sG Try.f20 1 28 (j := 26) (fun v28 S25 => ?_)
  refine sG Try.f20 1 29 (j := 26) (fun v29 S26 => ?_)
  refine sG Try.f20 1 30 (j := 26) (fun v30 S27 => ?_)
  refine sG Try.f20 1 31 (j := 26) (fun v31 S28 => ?_)
  refine sD Try.f20 1 32 (fun v32 S29 => ?_)
  refine sP Try.f20 1 33 (v := v32) ?_
  kernel_rfl
theorem block_Same.rs : type_of% (And.intro @block_Same.r0 (@block_Same.r1)) := And.intro @block_Same.r0 (@block_Same.r1)
theorem block_Same.runs {x0 x1 : Value} {S S1 : AHeap} {e : AEx} {T : List Value} (h : vcodeV Try.prog O false block_Same.code ([x0,x1,undef,undef,undef,undef,undef,undef,undef,undef,undef,undef,undef,undef,undef,undef,undef,undef,undef,undef,undef,undef,undef,undef,undef,undef,undef,undef,undef,undef,undef,undef,undef,undef,undef,undef,undef,undef]) AHeap.empty = some (e, T, S1)) (he : e = .normal ∨ e = .ret) (hca : [x0, x1].all (cleanN 16) = true) (hcv : cleanN 16 (T.getD 4 undef) = true) : vlim Try.prog O 20 [x0, x1] S = some (T.getD 4 undef, S) :=
  vlim_pure rfl rfl Try.func20 (by decide) block_Same.body (by exact h) he (vRes_one (a := T.getD 4 undef) ((show vResVals Try.prog T S1 Try.f20.results.toList = vResVals Try.prog T S1 [(ResultVar.tmp 4)] from by kernel_rfl).trans (by simp only [vResVals])) (by kernel_rfl)) hca hcv
end Go.Proofs.Ytgggklfbhmlapaa

namespace Go.Proofs.Ytgggklfbhmlapaa
open Go.Abs

/-- neaptide.neaptideref07.Same -/
abbrev neaptideref07_Same.id : FuncId := 21
noncomputable def neaptideref07_Same.code : Code := (Code.seq (Code.region 0 (reg Try.f21 0) false) (Code.seq (Code.region 1 (reg Try.f21 1) false) Code.ret))
theorem neaptideref07_Same.body : Try.f21.body = some neaptideref07_Same.code := by kernel_rfl
theorem neaptideref07_Same.eta {T : List Value} (h : T.length = 38) : T = [T.getD 0 undef,T.getD 1 undef,T.getD 2 undef,T.getD 3 undef,T.getD 4 undef,T.getD 5 undef,T.getD 6 undef,T.getD 7 undef,T.getD 8 undef,T.getD 9 undef,T.getD 10 undef,T.getD 11 undef,T.getD 12 undef,T.getD 13 undef,T.getD 14 undef,T.getD 15 undef,T.getD 16 undef,T.getD 17 undef,T.getD 18 undef,T.getD 19 undef,T.getD 20 undef,T.getD 21 undef,T.getD 22 undef,T.getD 23 undef,T.getD 24 undef,T.getD 25 undef,T.getD 26 undef,T.getD 27 undef,T.getD 28 undef,T.getD 29 undef,T.getD 30 undef,T.getD 31 undef,T.getD 32 undef,T.getD 33 undef,T.getD 34 undef,T.getD 35 undef,T.getD 36 undef,T.getD 37 undef] := (list_getD T 38 h).trans (by kernel_rfl)
variable (x0 x1 x2 x3 x4 x5 x6 x7 x8 x9 x10 x11 x12 x13 x14 x15 x16 x17 x18 x19 x20 x21 x22 x23 x24 x25 x26 x27 x28 x29 x30 x31 x32 x33 x34 x35 x36 x37 : Value) (S : AHeap)
theorem neaptideref07_Same.r0  : vOps Try.prog ⟨false, false, false⟩ (vlim Try.prog O) (reg Try.f21 0) (reg Try.f21 0).toList ([x0,x1,x2,x3,x4,x5,x6,x7,x8,x9,x10,x11,x12,x13,x14,x15,x16,x17,x18,x19,x20,x21,x22,x23,x24,x25,x26,x27,x28,x29,x30,x31,x32,x33,x34,x35,x36,x37]) S =
    (andK (aBox (dem x0) S) (fun v0 S1 => andK (aBox (dem x1) S1) (fun v1 S2 => some ([x0,x1,v0,v1,Value.bool false,x5,x6,x7,x8,x9,x10,x11,x12,x13,x14,x15,x16,x17,x18,x19,x20,x21,x22,x23,x24,x25,x26,x27,x28,x29,x30,x31,x32,x33,x34,x35,x36,x37], S2)) ()) ()) := by
  refine sD Try.f21 0 0 (fun v0 S1 => ?_)
  refine sD Try.f21 0 1 (fun v1 S2 => ?_)
  refine sP Try.f21 0 2 (v := (Value.bool false)) ?_
  kernel_rfl
theorem neaptideref07_Same.r1  : vOps Try.prog ⟨false, false, false⟩ (vlim Try.prog O) (reg Try.f21 1) (reg Try.f21 1).toList ([x0,x1,x2,x3,x4,x5,x6,x7,x8,x9,x10,x11,x12,x13,x14,x15,x16,x17,x18,x19,x20,x21,x22,x23,x24,x25,x26,x27,x28,x29,x30,x31,x32,x33,x34,x35,x36,x37]) S =
    (andK (vFieldAddr Try.prog 29 x2 0 S) (fun v0 S1 => andK (vLoad Try.prog false 3 v0 S1) (fun v1 S2 => andK (vFieldAddr Try.prog 29 x3 0 S2) (fun v2 S3 => andK (vLoad Try.prog false 3 v2 S3) (fun v3 S4 => andK (vBin Try.prog BinOp.eql 3 v1 v3 S4) (fun v4 S5 => gdK (dem v4) true (vFieldAddr Try.prog 29 x2 1) S5 (fun v6 S6 => gdK (dem v4) true (vLoad Try.prog false 3 v6) S6 (fun v7 S7 => gdK (dem v4) true (vFieldAddr Try.prog 29 x3 1) S7 (fun v8 S8 => gdK (dem v4) true (vLoad Try.prog false 3 v8) S8 (fun v9 S9 => gdK (dem v4) true (vBin Try.prog BinOp.eql 3 v7 v9) S9 (fun v10 S10 => andK (vPick (dem v4) v10 (Value.bool false) S10) (fun v11 S11 => gdK (dem v11) true (vFieldAddr Try.prog 29 x2 2) S11 (fun v13 S12 => gdK (dem v11) true (vLoad Try.prog false 3 v13) S12 (fun v14 S13 => gdK (dem v11) true (vFieldAddr Try.prog 29 x3 2) S13 (fun v15 S14 => gdK (dem v11) true (vLoad Try.prog false 3 v15) S14 (fun v16 S15 => gdK (dem v11) true (vBin Try.prog BinOp.eql 3 v14 v16) S15 (fun v17 S16 => andK (vPick (dem v11) v17 (Value.bool false) S16) (fun v18 S17 => gdK (dem v18) true (vFieldAddr Try.prog 29 x2 3) S17 (fun v20 S18 => gdK (dem v18) true (vLoad Try.prog false 3 v20) S18 (fun v21 S19 => gdK (dem v18) true (vFieldAddr Try.prog 29 x3 3) S19 (fun v22 S20 => gdK (dem v18) true (vLoad Try.prog false 3 v22) S20 (fun v23 S21 => gdK (dem v18) true (vBin Try.prog BinOp.eql 3 v21 v23) S21 (fun v24 S22 => andK (vPick (dem v18) v24 (Value.bool false) S22) (fun v25 S23 => gdK (dem v25) true (vFieldAddr Try.prog 29 x2 4) S23 (fun v27 S24 => gdK (dem v25) true (vLoad Try.prog false 27 v27) S24 (fun v28 S25 => gdK (dem v25) true (vFieldAddr Try.prog 29 x3 4) S25 (fun v29 S26 => gdK (dem v25) true (vLoad Try.prog false 27 v29) S26 (fun v30 S27 => gdK (dem v25) true ((vlim Try.prog O) 32 [(dem v28), (dem v30)]) S27 (fun v31 S28 => andK (vPick (dem v25) v31 (Value.bool false) S28) (fun v32 S29 => some ([x0,x1,x2,x3,v32,v0,v1,v2,v3,v4,dem v4,v6,v7,v8,v9,v10,v11,dem v11,v13,v14,v15,v16,v17,v18,dem v18,v20,v21,v22,v23,v24,v25,dem v25,v27,v28,v29,v30,v31,dem v32], S29)) ()) ()) ()) ()) ()) ()) ()) ()) ()) ()) ()) ()) ()) ()) ()) ()) ()) ()) ()) ()) ()) ()) ()) ()) ()) ()) ()) ()) ()) := by
  refine sD Try.f21 1 0 (fun v0 S1 => ?_)
  refine sD Try.f21 1 1 (fun v1 S2 => ?_)
  refine sD Try.f21 1 2 (fun v2 S3 => ?_)
  refine sD Try.f21 1 3 (fun v3 S4 => ?_)
  refine sD Try.f21 1 4 (fun v4 S5 => ?_)
  refine sP Try.f21 1 5 (v := v4) ?_
  refine sG Try.f21 1 6 (j := 5) (fun v6 S6 => ?_)
  refine sG Try.f21 1 7 (j := 5) (fun v7 S7 => ?_)
  refine sG Try.f21 1 8 (j := 5) (fun v8 S8 => ?_)
  refine sG Try.f21 1 9 (j := 5) (fun v9 S9 => ?_)
  refine sG Try.f21 1 10 (j := 5) (fun v10 S10 => ?_)
  refine sD Try.f21 1 11 (fun v11 S11 => ?_)
  refine sP Try.f21 1 12 (v := v11) ?_
  refine sG Try.f21 1 13 (j := 12) (fun v13 S12 => ?_)
  refine sG Try.f21 1 14 (j := 12) (fun v14 S13 => ?_)
  refine sG Try.f21 1 15 (j := 12) (fun v15 S14 => ?_)
  refine sG Try.f21 1 16 (j := 12) (fun v16 S15 => ?_)
  refine sG Try.f21 1 17 (j := 12) (fun v17 S16 => ?_)
  refine sD Try.f21 1 18 (fun v18 S17 => ?_)
  refine sP Try.f21 1 19 (v := v18) ?_
  refine sG Try.f21 1 20 (j := 19) (fun v20 S18 => ?_)
  refine sG Try.f21 1 21 (j := 19) (fun v21 S19 => ?_)
  refine sG Try.f21 1 22 (j := 19) (fun v22 S20 => ?_)
  refine sG Try.f21 1 23 (j := 19) (fun v23 S21 => ?_)
  refine sG Try.f21 1 24 (j := 19) (fun v24 S22 => ?_)
  refine sD Try.f21 1 25 (fun v25 S23 => ?_)
  refine sP Try.f21 1 26 (v := v25) ?_
  refine sG Try.f21 1 27 (j := 26) (fun v27 S24 => ?_)
  refine sG Try.f21 1 28 (j := 26) (fun v28 S25 => ?_)
  refine sG Try.f21 1 29 (j := 26) (fun v29 S26 => ?_)
  refine sG Try.f21 1 30 (j := 26) (fun v30 S27 => ?_)
  refine sG Try.f21 1 31 (j := 26) (fun v31 S28 => ?_)
  refine sD Try.f21 1 32 (fun v32 S29 => ?_)
  refine sP Try.f21 1 33 (v := v32) ?_
  kernel_rfl
theorem neaptideref07_Same.rs : type_of% (And.intro @neaptideref07_Same.r0 (@neaptideref07_Same.r1)) := And.intro @neaptideref07_Same.r0 (@neaptideref07_Same.r1)
theorem neaptideref07_Same.runs {x0 x1 : Value} {S S1 : AHeap} {e : AEx} {T : List Value} (h : vcodeV Try.prog O false neaptideref07_Same.code ([x0,x1,undef,undef,undef,undef,undef,undef,undef,undef,undef,undef,undef,undef,undef,undef,undef,undef,undef,undef,undef,undef,undef,undef,undef,undef,undef,undef,undef,undef,undef,undef,undef,undef,undef,undef,undef,undef]) AHeap.empty = some (e, T, S1)) (he : e = .normal ∨ e = .ret) (hca : [x0, x1].all (cleanN 16) = true) (hcv : cleanN 16 (T.getD 4 undef) = true) : vlim Try.prog O 21 [x0, x1] S = some (T.getD 4 undef, S) :=
  vlim_pure rfl rfl Try.func21 (by decide) neaptideref07_Same.body (by exact h) he (vRes_one (a := T.getD 4 undef) ((show vResVals Try.prog T S1 Try.f21.results.toList = vResVals Try.prog T S1 [(ResultVar.tmp 4)] from by kernel_rfl).trans (by simp only [vResVals])) (by kernel_rfl)) hca hcv
end Go.Proofs.Ytgggklfbhmlapaa

namespace Go.Proofs.Ytgggklfbhmlapaa
open Go.Abs

/-- neaptide.block.Bytes -/
abbrev block_Bytes.id : FuncId := 16
noncomputable def block_Bytes.code : Code := (Code.seq (Code.region 0 (reg Try.f16 0) false) (Code.seq (Code.seq (Code.region 1 (reg Try.f16 1) false) (Code.cond (Operand.tmp 10) (Code.seq (Code.region 2 (reg Try.f16 2) false) Code.ret) Code.skip)) (Code.seq (Code.region 3 (reg Try.f16 3) false) (Code.seq (Code.region 4 (reg Try.f16 4) false) (Code.seq (Code.region 5 (reg Try.f16 5) false) Code.ret)))))
theorem block_Bytes.body : Try.f16.body = some block_Bytes.code := by kernel_rfl
theorem block_Bytes.eta {T : List Value} (h : T.length = 33) : T = [T.getD 0 undef,T.getD 1 undef,T.getD 2 undef,T.getD 3 undef,T.getD 4 undef,T.getD 5 undef,T.getD 6 undef,T.getD 7 undef,T.getD 8 undef,T.getD 9 undef,T.getD 10 undef,T.getD 11 undef,T.getD 12 undef,T.getD 13 undef,T.getD 14 undef,T.getD 15 undef,T.getD 16 undef,T.getD 17 undef,T.getD 18 undef,T.getD 19 undef,T.getD 20 undef,T.getD 21 undef,T.getD 22 undef,T.getD 23 undef,T.getD 24 undef,T.getD 25 undef,T.getD 26 undef,T.getD 27 undef,T.getD 28 undef,T.getD 29 undef,T.getD 30 undef,T.getD 31 undef,T.getD 32 undef] := (list_getD T 33 h).trans (by kernel_rfl)
variable (x0 x1 x2 x3 x4 x5 x6 x7 x8 x9 x10 x11 x12 x13 x14 x15 x16 x17 x18 x19 x20 x21 x22 x23 x24 x25 x26 x27 x28 x29 x30 x31 x32 : Value) (S : AHeap)
theorem block_Bytes.r0  : vOps Try.prog ⟨false, false, false⟩ (vlim Try.prog O) (reg Try.f16 0) (reg Try.f16 0).toList ([x0,x1,x2,x3,x4,x5,x6,x7,x8,x9,x10,x11,x12,x13,x14,x15,x16,x17,x18,x19,x20,x21,x22,x23,x24,x25,x26,x27,x28,x29,x30,x31,x32]) S =
    (andK (aBox (dem x0) S) (fun v0 S1 => some ([x0,v0,Value.slice none 0 0,Value.int IntKind.i64 0,x4,x5,x6,x7,x8,x9,x10,x11,x12,x13,x14,x15,x16,x17,x18,x19,x20,x21,x22,x23,x24,x25,x26,x27,x28,x29,x30,x31,x32], S1)) ()) := by
  refine sD Try.f16 0 0 (fun v0 S1 => ?_)
  refine sP Try.f16 0 1 (v := (Value.slice none 0 0)) ?_
  refine sP Try.f16 0 2 (v := (Value.int IntKind.i64 0)) ?_
  kernel_rfl
theorem block_Bytes.r1  : vOps Try.prog ⟨false, false, false⟩ (vlim Try.prog O) (reg Try.f16 1) (reg Try.f16 1).toList ([x0,x1,x2,x3,x4,x5,x6,x7,x8,x9,x10,x11,x12,x13,x14,x15,x16,x17,x18,x19,x20,x21,x22,x23,x24,x25,x26,x27,x28,x29,x30,x31,x32]) S =
    (andK (vLoad Try.prog false 29 x1 S) (fun v0 S1 => andK ((vlim Try.prog O) 14 [(dem v0)] S1) (fun v1 S2 => andK (aUn Try.prog UnOp.not v1 S2) (fun v2 S3 => some ([x0,x1,x2,x3,x4,x5,x6,x7,v0,v1,v2,x11,x12,x13,x14,x15,x16,x17,x18,x19,x20,x21,x22,x23,x24,x25,x26,x27,x28,x29,x30,x31,x32], S3)) ()) ()) ()) := by
  refine sD Try.f16 1 0 (fun v0 S1 => ?_)
  refine sD Try.f16 1 1 (fun v1 S2 => ?_)
  refine sD Try.f16 1 2 (fun v2 S3 => ?_)
  kernel_rfl
theorem block_Bytes.r2  : vOps Try.prog ⟨false, false, false⟩ (vlim Try.prog O) (reg Try.f16 2) (reg Try.f16 2).toList ([x0,x1,x2,x3,x4,x5,x6,x7,x8,x9,x10,x11,x12,x13,x14,x15,x16,x17,x18,x19,x20,x21,x22,x23,x24,x25,x26,x27,x28,x29,x30,x31,x32]) S =
    ( some ([x0,x1,Value.slice none 0 0,Value.int IntKind.i64 71,x4,x5,x6,x7,x8,x9,x10,x11,x12,x13,x14,x15,x16,x17,x18,x19,x20,x21,x22,x23,x24,x25,x26,x27,x28,x29,x30,x31,x32], S)) := by
  refine sP Try.f16 2 0 (v := (Value.slice none 0 0)) ?_
  refine sP Try.f16 2 1 (v := (Value.int IntKind.i64 71)) ?_
  kernel_rfl
theorem block_Bytes.r3  : vOps Try.prog ⟨false, false, false⟩ (vlim Try.prog O) (reg Try.f16 3) (reg Try.f16 3).toList ([x0,x1,x2,x3,x4,x5,x6,x7,x8,x9,x10,x11,x12,x13,x14,x15,x16,x17,x18,x19,x20,x21,x22,x23,x24,x25,x26,x27,x28,x29,x30,x31,x32]) S =
    (andK (vFieldAddr Try.prog 29 x1 0 S) (fun v0 S1 => andK (vLoad Try.prog false 3 v0 S1) (fun v1 S2 => andK (vFieldAddr Try.prog 29 x1 1 S2) (fun v2 S3 => andK (vLoad Try.prog false 3 v2 S3) (fun v3 S4 => andK (vFieldAddr Try.prog 29 x1 2 S4) (fun v4 S5 => andK (vLoad Try.prog false 3 v4 S5) (fun v5 S6 => andK (vFieldAddr Try.prog 29 x1 3 S6) (fun v6 S7 => andK (vLoad Try.prog false 3 v6 S7) (fun v7 S8 => andK (vBuildSlice Try.prog 53 4 [(0, v1), (1, v3), (2, v5), (3, v7)] S8) (fun v8 S9 => andK ((vlim Try.prog O) 28 [(dem v8)] S9) (fun v9 S10 => andK (aExtract v9 0 S10) (fun v11 S11 => andK (aExtract (demPart 0 v9) 1 S11) (fun v12 S12 => some ([x0,x1,x2,x3,v11,v12,x6,x7,x8,x9,x10,demPart 1 (demPart 0 v9),v0,v1,v2,v3,v4,v5,v6,v7,v8,dem v9,dem v11,dem v12,x24,x25,x26,x27,x28,x29,x30,x31,x32], S12)) ()) ()) ()) ()) ()) ()) ()) ()) ()) ()) ()) ()) := by
  refine sD Try.f16 3 0 (fun v0 S1 => ?_)
  refine sD Try.f16 3 1 (fun v1 S2 => ?_)
  refine sD Try.f16 3 2 (fun v2 S3 => ?_)
  refine sD Try.f16 3 3 (fun v3 S4 => ?_)
  refine sD Try.f16 3 4 (fun v4 S5 => ?_)
  refine sD Try.f16 3 5 (fun v5 S6 => ?_)
  refine sD Try.f16 3 6 (fun v6 S7 => ?_)
  refine sD Try.f16 3 7 (fun v7 S8 => ?_)
  refine sD Try.f16 3 8 (fun v8 S9 => ?_)
  refine sD Try.f16 3 9 (fun v9 S10 => ?_)
  refine sP Try.f16 3 10 (v := v9) ?_
  refine sD Try.f16 3 11 (fun v11 S11 => ?_)
  refine sD Try.f16 3 12 (fun v12 S12 => ?_)
  refine sP Try.f16 3 13 (v := v11) ?_
  refine sP Try.f16 3 14 (v := v12) ?_
  kernel_rfl
theorem block_Bytes.r4  : vOps Try.prog ⟨false, false, false⟩ (vlim Try.prog O) (reg Try.f16 4) (reg Try.f16 4).toList ([x0,x1,x2,x3,x4,x5,x6,x7,x8,x9,x10,x11,x12,x13,x14,x15,x16,x17,x18,x19,x20,x21,x22,x23,x24,x25,x26,x27,x28,x29,x30,x31,x32]) S =
    (andK (vFieldAddr Try.prog 29 x1 4 S) (fun v0 S1 => andK (vLoad Try.prog false 27 v0 S1) (fun v1 S2 => andK ((vlim Try.prog O) 27 [(dem v1)] S2) (fun v2 S3 => andK (aExtract v2 0 S3) (fun v4 S4 => andK (aExtract (demPart 0 v2) 1 S4) (fun v5 S5 => some ([x0,x1,x2,x3,x4,x5,v4,v5,x8,x9,x10,x11,x12,x13,x14,x15,x16,x17,x18,x19,x20,x21,x22,x23,demPart 1 (demPart 0 v2),v0,v1,dem v2,dem v4,dem v5,x30,x31,x32], S5)) ()) ()) ()) ()) ()) := by
  refine sD Try.f16 4 0 (fun v0 S1 => ?_)
  refine sD Try.f16 4 1 (fun v1 S2 => ?_)
  refine sD Try.f16 4 2 (fun v2 S3 => ?_)
  refine sP Try.f16 4 3 (v := v2) ?_
  refine sD Try.f16 4 4 (fun v4 S4 => ?_)
  refine sD Try.f16 4 5 (fun v5 S5 => ?_)
  refine sP Try.f16 4 6 (v := v4) ?_
  refine sP Try.f16 4 7 (v := v5) ?_
  kernel_rfl
theorem block_Bytes.r5  : vOps Try.prog ⟨false, false, false⟩ (vlim Try.prog O) (reg Try.f16 5) (reg Try.f16 5).toList ([x0,x1,x2,x3,x4,x5,x6,x7,x8,x9,x10,x11,x12,x13,x14,x15,x16,x17,x18,x19,x20,x21,x22,x23,x24,x25,x26,x27,x28,x29,x30,x31,x32]) S =
    (andK (vAppend Try.prog 33 33 x4 (dem x6) S) (fun v2 S1 => some ([x0,x1,v2,Value.int IntKind.i64 0,dem x4,x5,x6,x7,x8,x9,x10,x11,x12,x13,x14,x15,x16,x17,x18,x19,x20,x21,x22,x23,x24,x25,x26,x27,x28,x29,dem x4,dem x6,dem v2], S1)) ()) := by
  refine sP Try.f16 5 0 (v := x4) ?_
  refine sP Try.f16 5 1 (v := x6) ?_
  refine sD Try.f16 5 2 (fun v2 S1 => ?_)
  refine sP Try.f16 5 3 (v := v2) ?_
  refine sP Try.f16 5 4 (v := (Value.int IntKind.i64 0)) ?_
  kernel_rfl
theorem block_Bytes.rs : type_of% (And.intro @block_Bytes.r0 (And.intro @block_Bytes.r1 (And.intro @block_Bytes.r2 (And.intro @block_Bytes.r3 (And.intro @block_Bytes.r4 (@block_Bytes.r5)))))) := And.intro @block_Bytes.r0 (And.intro @block_Bytes.r1 (And.intro @block_Bytes.r2 (And.intro @block_Bytes.r3 (And.intro @block_Bytes.r4 (@block_Bytes.r5)))))
theorem block_Bytes.runs {x0 : Value} {S S1 : AHeap} {e : AEx} {T : List Value} (h : vcodeV Try.prog O false block_Bytes.code ([x0,undef,undef,undef,undef,undef,undef,undef,undef,undef,undef,undef,undef,undef,undef,undef,undef,undef,undef,undef,undef,undef,undef,undef,undef,undef,undef,undef,undef,undef,undef,undef,undef]) AHeap.empty = some (e, T, S1)) (he : e = .normal ∨ e = .ret)  (h0 : notTuple (T.getD 2 undef) = true) (h1 : notTuple (T.getD 3 undef) = true) (hca : [x0].all (cleanN 16) = true) (hcv : cleanN 16 (Value.tuple #[T.getD 2 undef, T.getD 3 undef]) = true) : vlim Try.prog O 16 [x0] S = some (Value.tuple #[T.getD 2 undef, T.getD 3 undef], S) :=
  vlim_pure rfl rfl Try.func16 (by decide) block_Bytes.body (by exact h) he ((vRes_many ((show vResVals Try.prog T S1 Try.f16.results.toList = vResVals Try.prog T S1 [(ResultVar.tmp 2), (ResultVar.tmp 3)] from by kernel_rfl).trans (by simp only [vResVals])) (by kernel_rfl) (by simp only [List.all_cons, List.all_nil, h0, h1, Bool.and_true])).trans rfl) hca hcv
end Go.Proofs.Ytgggklfbhmlapaa

namespace Go.Proofs.Ytgggklfbhmlapaa
open Go.Abs

/-- neaptide.neaptideref07.Bytes -/
abbrev neaptideref07_Bytes.id : FuncId := 17
noncomputable def neaptideref07_Bytes.code : Code := (Code.seq (Code.region 0 (reg Try.f17 0) false) (Code.seq (Code.seq (Code.region 1 (reg Try.f17 1) false) (Code.cond (Operand.tmp 10) (Code.seq (Code.region 2 (reg Try.f17 2) false) Code.ret) Code.skip)) (Code.seq (Code.region 3 (reg Try.f17 3) false) (Code.seq (Code.region 4 (reg Try.f17 4) false) (Code.seq (Code.region 5 (reg Try.f17 5) false) Code.ret)))))
theorem neaptideref07_Bytes.body : Try.f17.body = some neaptideref07_Bytes.code := by kernel_rfl
theorem neaptideref07_Bytes.eta {T : List Value} (h : T.length = 33) : T = [T.getD 0 undef,T.getD 1 undef,T.getD 2 undef,T.getD 3 undef,T.getD 4 undef,T.getD 5 undef,T.getD 6 undef,T.getD 7 undef,T.getD 8 undef,T.getD 9 undef,T.getD 10 undef,T.getD 11 undef,T.getD 12 undef,T.getD 13 undef,T.getD 14 undef,T.getD 15 undef,T.getD 16 undef,T.getD 17 undef,T.getD 18 undef,T.getD 19 undef,T.getD 20 undef,T.getD 21 undef,T.getD 22 undef,T.getD 23 undef,T.getD 24 undef,T.getD 25 undef,T.getD 26 undef,T.getD 27 undef,T.getD 28 undef,T.getD 29 undef,T.getD 30 undef,T.getD 31 undef,T.getD 32 undef] := (list_getD T 33 h).trans (by kernel_rfl)
variable (x0 x1 x2 x3 x4 x5 x6 x7 x8 x9 x10 x11 x12 x13 x14 x15 x16 x17 x18 x19 x20 x21 x22 x23 x24 x25 x26 x27 x28 x29 x30 x31 x32 : Value) (S : AHeap)
theorem neaptideref07_Bytes.r0  : vOps Try.prog ⟨false, false, false⟩ (vlim Try.prog O) (reg Try.f17 0) (reg Try.f17 0).toList ([x0,x1,x2,x3,x4,x5,x6,x7,x8,x9,x10,x11,x12,x13,x14,x15,x16,x17,x18,x19,x20,x21,x22,x23,x24,x25,x26,x27,x28,x29,x30,x31,x32]) S =
    (andK (aBox (dem x0) S) (fun v0 S1 => some ([x0,v0,Value.slice none 0 0,Value.int IntKind.i64 0,x4,x5,x6,x7,x8,x9,x10,x11,x12,x13,x14,x15,x16,x17,x18,x19,x20,x21,x22,x23,x24,x25,x26,x27,x28,x29,x30,x31,x32], S1)) ()) := by
  refine sD Try.f17 0 0 (fun v0 S1 => ?_)
  refine sP Try.f17 0 1 (v := (Value.slice none 0 0)) ?_
  refine sP Try.f17 0 2 (v := (Value.int IntKind.i64 0)) ?_
  kernel_rfl
theorem neaptideref07_Bytes.r1  : vOps Try.prog ⟨false, false, false⟩ (vlim Try.prog O) (reg Try.f17 1) (reg Try.f17 1).toList ([x0,x1,x2,x3,x4,x5,x6,x7,x8,x9,x10,x11,x12,x13,x14,x15,x16,x17,x18,x19,x20,x21,x22,x23,x24,x25,x26,x27,x28,x29,x30,x31,x32]) S =
    (andK (vLoad Try.prog false 29 x1 S) (fun v0 S1 => andK ((vlim Try.prog O) 18 [(dem v0)] S1) (fun v1 S2 => andK (aUn Try.prog UnOp.not v1 S2) (fun v2 S3 => some ([x0,x1,x2,x3,x4,x5,x6,x7,v0,v1,v2,x11,x12,x13,x14,x15,x16,x17,x18,x19,x20,x21,x22,x23,x24,x25,x26,x27,x28,x29,x30,x31,x32], S3)) ()) ()) ()) := by
  refine sD Try.f17 1 0 (fun v0 S1 => ?_)
  refine sD Try.f17 1 1 (fun v1 S2 => ?_)
  refine sD Try.f17 1 2 (fun v2 S3 => ?_)
  kernel_rfl
theorem neaptideref07_Bytes.r2  : vOps Try.prog ⟨false, false, false⟩ (vlim Try.prog O) (reg Try.f17 2) (reg Try.f17 2).toList ([x0,x1,x2,x3,x4,x5,x6,x7,x8,x9,x10,x11,x12,x13,x14,x15,x16,x17,x18,x19,x20,x21,x22,x23,x24,x25,x26,x27,x28,x29,x30,x31,x32]) S =
    ( some ([x0,x1,Value.slice none 0 0,Value.int IntKind.i64 71,x4,x5,x6,x7,x8,x9,x10,x11,x12,x13,x14,x15,x16,x17,x18,x19,x20,x21,x22,x23,x24,x25,x26,x27,x28,x29,x30,x31,x32], S)) := by
  refine sP Try.f17 2 0 (v := (Value.slice none 0 0)) ?_
  refine sP Try.f17 2 1 (v := (Value.int IntKind.i64 71)) ?_
  kernel_rfl
theorem neaptideref07_Bytes.r3  : vOps Try.prog ⟨false, false, false⟩ (vlim Try.prog O) (reg Try.f17 3) (reg Try.f17 3).toList ([x0,x1,x2,x3,x4,x5,x6,x7,x8,x9,x10,x11,x12,x13,x14,x15,x16,x17,x18,x19,x20,x21,x22,x23,x24,x25,x26,x27,x28,x29,x30,x31,x32]) S =
    (andK (vFieldAddr Try.prog 29 x1 0 S) (fun v0 S1 => andK (vLoad Try.prog false 3 v0 S1) (fun v1 S2 => andK (vFieldAddr Try.prog 29 x1 1 S2) (fun v2 S3 => andK (vLoad Try.prog false 3 v2 S3) (fun v3 S4 => andK (vFieldAddr Try.prog 29 x1 2 S4) (fun v4 S5 => andK (vLoad Try.prog false 3 v4 S5) (fun v5 S6 => andK (vFieldAddr Try.prog 29 x1 3 S6) (fun v6 S7 => andK (vLoad Try.prog false 3 v6 S7) (fun v7 S8 => andK (vBuildSlice Try.prog 53 4 [(0, v1), (1, v3), (2, v5), (3, v7)] S8) (fun v8 S9 => andK ((vlim Try.prog O) 29 [(dem v8)] S9) (fun v9 S10 => andK (aExtract v9 0 S10) (fun v11 S11 => andK (aExtract (demPart 0 v9) 1 S11) (fun v12 S12 => some ([x0,x1,x2,x3,v11,v12,x6,x7,x8,x9,x10,demPart 1 (demPart 0 v9),v0,v1,v2,v3,v4,v5,v6,v7,v8,dem v9,dem v11,dem v12,x24,x25,x26,x27,x28,x29,x30,x31,x32], S12)) ()) ()) ()) ()) ()) ()) ()) ()) ()) ()) ()) ()) := by
  refine sD Try.f17 3 0 (fun v0 S1 => ?_)
  refine sD Try.f17 3 1 (fun v1 S2 => ?_)
  refine sD Try.f17 3 2 (fun v2 S3 => ?_)
  refine sD Try.f17 3 3 (fun v3 S4 => ?_)
  refine sD Try.f17 3 4 (fun v4 S5 => ?_)
  refine sD Try.f17 3 5 (fun v5 S6 => ?_)
  refine sD Try.f17 3 6 (fun v6 S7 => ?_)
  refine sD Try.f17 3 7 (fun v7 S8 => ?_)
  refine sD Try.f17 3 8 (fun v8 S9 => ?_)
  refine sD Try.f17 3 9 (fun v9 S10 => ?_)
  refine sP Try.f17 3 10 (v := v9) ?_
  refine sD Try.f17 3 11 (fun v11 S11 => ?_)
  refine sD Try.f17 3 12 (fun v12 S12 => ?_)
  refine sP Try.f17 3 13 (v := v11) ?_
  refine sP Try.f17 3 14 (v := v12) ?_
  kernel_rfl
theorem neaptideref07_Bytes.r4  : vOps Try.prog ⟨false, false, false⟩ (vlim Try.prog O) (reg Try.f17 4) (reg Try.f17 4).toList ([x0,x1,x2,x3,x4,x5,x6,x7,x8,x9,x10,x11,x12,x13,x14,x15,x16,x17,x18,x19,x20,x21,x22,x23,x24,x25,x26,x27,x28,x29,x30,x31,x32]) S =
    (andK (vFieldAddr Try.prog 29 x1 4 S) (fun v0 S1 => andK (vLoad Try.prog false 27 v0 S1) (fun v1 S2 => andK ((vlim Try.prog O) 30 [(dem v1)] S2) (fun v2 S3 => andK (aExtract v2 0 S3) (fun v4 S4 => andK (aExtract (demPart 0 v2) 1 S4) (fun v5 S5 => some ([x0,x1,x2,x3,x4,x5,v4,v5,x8,x9,x10,x11,x12,x13,x14,x15,x16,x17,x18,x19,x20,x21,x22,x23,demPart 1 (demPart 0 v2),v0,v1,dem v2,dem v4,dem v5,x30,x31,x32], S5)) ()) ()) ()) ()) ()) := by
  refine sD Try.f17 4 0 (fun v0 S1 => ?_)
  refine sD Try.f17 4 1 (fun v1 S2 => ?_)
  refine sD Try.f17 4 2 (fun v2 S3 => ?_)
  refine sP Try.f17 4 3 (v := v2) ?_
  refine sD Try.f17 4 4 (fun v4 S4 => ?_)
  refine sD Try.f17 4 5 (fun v5 S5 => ?_)
  refine sP Try.f17 4 6 (v := v4) ?_
  refine sP Try.f17 4 7 (v := v5) ?_
  kernel_rfl
theorem neaptideref07_Bytes.r5  : vOps Try.prog ⟨false, false, false⟩ (vlim Try.prog O) (reg Try.f17 5) (reg Try.f17 5).toList ([x0,x1,x2,x3,x4,x5,x6,x7,x8,x9,x10,x11,x12,x13,x14,x15,x16,x17,x18,x19,x20,x21,x22,x23,x24,x25,x26,x27,x28,x29,x30,x31,x32]) S =
    (andK (vAppend Try.prog 33 33 x4 (dem x6) S) (fun v2 S1 => some ([x0,x1,v2,Value.int IntKind.i64 0,dem x4,x5,x6,x7,x8,x9,x10,x11,x12,x13,x14,x15,x16,x17,x18,x19,x20,x21,x22,x23,x24,x25,x26,x27,x28,x29,dem x4,dem x6,dem v2], S1)) ()) := by
  refine sP Try.f17 5 0 (v := x4) ?_
  refine sP Try.f17 5 1 (v := x6) ?_
  refine sD Try.f17 5 2 (fun v2 S1 => ?_)
  refine sP Try.f17 5 3 (v := v2) ?_
  refine sP Try.f17 5 4 (v := (Value.int IntKind.i64 0)) ?_
  kernel_rfl
theorem neaptideref07_Bytes.rs : type_of% (And.intro @neaptideref07_Bytes.r0 (And.intro @neaptideref07_Bytes.r1 (And.intro @neaptideref07_Bytes.r2 (And.intro @neaptideref07_Bytes.r3 (And.intro @neaptideref07_Bytes.r4 (@neaptideref07_Bytes.r5)))))) := And.intro @neaptideref07_Bytes.r0 (And.intro @neaptideref07_Bytes.r1 (And.intro @neaptideref07_Bytes.r2 (And.intro @neaptideref07_Bytes.r3 (And.intro @neaptideref07_Bytes.r4 (@neaptideref07_Bytes.r5)))))
theorem neaptideref07_Bytes.runs {x0 : Value} {S S1 : AHeap} {e : AEx} {T : List Value} (h : vcodeV Try.prog O false neaptideref07_Bytes.code ([x0,undef,undef,undef,undef,undef,undef,undef,undef,undef,undef,undef,undef,undef,undef,undef,undef,undef,undef,undef,undef,undef,undef,undef,undef,undef,undef,undef,undef,undef,undef,undef,undef]) AHeap.empty = some (e, T, S1)) (he : e = .normal ∨ e = .ret)  (h0 : notTuple (T.getD 2 undef) = true) (h1 : notTuple (T.getD 3 undef) = true) (hca : [x0].all (cleanN 16) = true) (hcv : cleanN 16 (Value.tuple #[T.getD 2 undef, T.getD 3 undef]) = true) : vlim Try.prog O 17 [x0] S = some (Value.tuple #[T.getD 2 undef, T.getD 3 undef], S) :=
  vlim_pure rfl rfl Try.func17 (by decide) neaptideref07_Bytes.body (by exact h) he ((vRes_many ((show vResVals Try.prog T S1 Try.f17.results.toList = vResVals Try.prog T S1 [(ResultVar.tmp 2), (ResultVar.tmp 3)] from by kernel_rfl).trans (by simp only [vResVals])) (by kernel_rfl) (by simp only [List.all_cons, List.all_nil, h0, h1, Bool.and_true])).trans rfl) hca hcv
end Go.Proofs.Ytgggklfbhmlapaa

namespace Go.Proofs.Ytgggklfbhmlapaa
open Go.Abs

/-- neaptide.block.Right -/
abbrev block_Right.id : FuncId := 14
noncomputable def block_Right.code : Code := (Code.seq (Code.region 0 (reg Try.f14 0) false) (Code.seq (Code.seq (Code.region 1 (reg Try.f14 1) false) (Code.cond (Operand.tmp 20) (Code.seq (Code.region 2 (reg Try.f14 2) false) Code.ret) Code.skip)) (Code.seq (Code.seq (Code.region 3 (reg Try.f14 3) false) (Code.cond (Operand.tmp 37) (Code.seq (Code.region 4 (reg Try.f14 4) false) Code.ret) Code.skip)) (Code.seq (Code.region 5 (reg Try.f14 5) false) (Code.seq (Code.region 6 (reg Try.f14 6) false) Code.ret)))))
theorem block_Right.body : Try.f14.body = some block_Right.code := by kernel_rfl
theorem block_Right.eta {T : List Value} (h : T.length = 46) : T = [T.getD 0 undef,T.getD 1 undef,T.getD 2 undef,T.getD 3 undef,T.getD 4 undef,T.getD 5 undef,T.getD 6 undef,T.getD 7 undef,T.getD 8 undef,T.getD 9 undef,T.getD 10 undef,T.getD 11 undef,T.getD 12 undef,T.getD 13 undef,T.getD 14 undef,T.getD 15 undef,T.getD 16 undef,T.getD 17 undef,T.getD 18 undef,T.getD 19 undef,T.getD 20 undef,T.getD 21 undef,T.getD 22 undef,T.getD 23 undef,T.getD 24 undef,T.getD 25 undef,T.getD 26 undef,T.getD 27 undef,T.getD 28 undef,T.getD 29 undef,T.getD 30 undef,T.getD 31 undef,T.getD 32 undef,T.getD 33 undef,T.getD 34 undef,T.getD 35 undef,T.getD 36 undef,T.getD 37 undef,T.getD 38 undef,T.getD 39 undef,T.getD 40 undef,T.getD 41 undef,T.getD 42 undef,T.getD 43 undef,T.getD 44 undef,T.getD 45 undef] := (list_getD T 46 h).trans (by kernel_rfl)
variable (x0 x1 x2 x3 x4 x5 x6 x7 x8 x9 x10 x11 x12 x13 x14 x15 x16 x17 x18 x19 x20 x21 x22 x23 x24 x25 x26 x27 x28 x29 x30 x31 x32 x33 x34 x35 x36 x37 x38 x39 x40 x41 x42 x43 x44 x45 : Value) (S : AHeap)
theorem block_Right.r0  : vOps Try.prog ⟨false, false, false⟩ (vlim Try.prog O) (reg Try.f14 0) (reg Try.f14 0).toList ([x0,x1,x2,x3,x4,x5,x6,x7,x8,x9,x10,x11,x12,x13,x14,x15,x16,x17,x18,x19,x20,x21,x22,x23,x24,x25,x26,x27,x28,x29,x30,x31,x32,x33,x34,x35,x36,x37,x38,x39,x40,x41,x42,x43,x44,x45]) S =
    (andK (aBox (dem x0) S) (fun v0 S1 => some ([x0,v0,Value.bool false,x3,x4,x5,x6,x7,x8,x9,x10,x11,x12,x13,x14,x15,x16,x17,x18,x19,x20,x21,x22,x23,x24,x25,x26,x27,x28,x29,x30,x31,x32,x33,x34,x35,x36,x37,x38,x39,x40,x41,x42,x43,x44,x45], S1)) ()) := by
  refine sD Try.f14 0 0 (fun v0 S1 => ?_)
  refine sP Try.f14 0 1 (v := (Value.bool false)) ?_
  kernel_rfl
theorem block_Right.r1  : vOps Try.prog ⟨false, false, false⟩ (vlim Try.prog O) (reg Try.f14 1) (reg Try.f14 1).toList ([x0,x1,x2,x3,x4,x5,x6,x7,x8,x9,x10,x11,x12,x13,x14,x15,x16,x17,x18,x19,x20,x21,x22,x23,x24,x25,x26,x27,x28,x29,x30,x31,x32,x33,x34,x35,x36,x37,x38,x39,x40,x41,x42,x43,x44,x45]) S =
    (andK (vFieldAddr Try.prog 29 x1 0 S) (fun v0 S1 => andK (vLoad Try.prog false 3 v0 S1) (fun v1 S2 => andK ((vlim Try.prog O) 26 [(dem v1), (Value.int IntKind.i64 1), (Value.int IntKind.i64 4095)] S2) (fun v2 S3 => andK (aUn Try.prog UnOp.not v2 S3) (fun v3 S4 => gdK (dem v3) false (vFieldAddr Try.prog 29 x1 1) S4 (fun v5 S5 => gdK (dem v3) false (vLoad Try.prog false 3 v5) S5 (fun v6 S6 => gdK (dem v3) false ((vlim Try.prog O) 26 [(dem v6), (Value.int IntKind.i64 0), (Value.int IntKind.i64 6)]) S6 (fun v7 S7 => gdK (dem v3) false (aUn Try.prog UnOp.not v7) S7 (fun v8 S8 => andK (vPick (dem v3) (Value.bool true) v8 S8) (fun v9 S9 => gdK (dem v9) false (vFieldAddr Try.prog 29 x1 2) S9 (fun v11 S10 => gdK (dem v9) false (vLoad Try.prog false 3 v11) S10 (fun v12 S11 => gdK (dem v9) false ((vlim Try.prog O) 26 [(dem v12), (Value.int IntKind.i64 0), (Value.int IntKind.i64 255)]) S11 (fun v13 S12 => gdK (dem v9) false (aUn Try.prog UnOp.not v13) S12 (fun v14 S13 => andK (vPick (dem v9) (Value.bool true) v14 S13) (fun v15 S14 => some ([x0,x1,x2,x3,x4,v0,v1,v2,v3,dem v3,v5,v6,v7,v8,v9,dem v9,v11,v12,v13,v14,v15,x21,x22,x23,x24,x25,x26,x27,x28,x29,x30,x31,x32,x33,x34,x35,x36,x37,x38,x39,x40,x41,x42,x43,x44,x45], S14)) ()) ()) ()) ()) ()) ()) ()) ()) ()) ()) ()) ()) ()) ()) := by
  refine sD Try.f14 1 0 (fun v0 S1 => ?_)
  refine sD Try.f14 1 1 (fun v1 S2 => ?_)
  refine sD Try.f14 1 2 (fun v2 S3 => ?_)
  refine sD Try.f14 1 3 (fun v3 S4 => ?_)
  refine sP Try.f14 1 4 (v := v3) ?_
  refine sG Try.f14 1 5 (j := 4) (fun v5 S5 => ?_)
  refine sG Try.f14 1 6 (j := 4) (fun v6 S6 => ?_)
  refine sG Try.f14 1 7 (j := 4) (fun v7 S7 => ?_)
  refine sG Try.f14 1 8 (j := 4) (fun v8 S8 => ?_)
  refine sD Try.f14 1 9 (fun v9 S9 => ?_)
  refine sP Try.f14 1 10 (v := v9) ?_
  refine sG Try.f14 1 11 (j := 10) (fun v11 S10 => ?_)
  refine sG Try.f14 1 12 (j := 10) (fun v12 S11 => ?_)
  refine sG Try.f14 1 13 (j := 10) (fun v13 S12 => ?_)
  refine sG Try.f14 1 14 (j := 10) (fun v14 S13 => ?_)
  refine sD Try.f14 1 15 (fun v15 S14 => ?_)
  kernel_rfl
theorem block_Right.r2  : vOps Try.prog ⟨false, false, false⟩ (vlim Try.prog O) (reg Try.f14 2) (reg Try.f14 2).toList ([x0,x1,x2,x3,x4,x5,x6,x7,x8,x9,x10,x11,x12,x13,x14,x15,x16,x17,x18,x19,x20,x21,x22,x23,x24,x25,x26,x27,x28,x29,x30,x31,x32,x33,x34,x35,x36,x37,x38,x39,x40,x41,x42,x43,x44,x45]) S =
    ( some ([x0,x1,Value.bool false,x3,x4,x5,x6,x7,x8,x9,x10,x11,x12,x13,x14,x15,x16,x17,x18,x19,x20,x21,x22,x23,x24,x25,x26,x27,x28,x29,x30,x31,x32,x33,x34,x35,x36,x37,x38,x39,x40,x41,x42,x43,x44,x45], S)) := by
  refine sP Try.f14 2 0 (v := (Value.bool false)) ?_
  kernel_rfl
theorem block_Right.r3  : vOps Try.prog ⟨false, false, false⟩ (vlim Try.prog O) (reg Try.f14 3) (reg Try.f14 3).toList ([x0,x1,x2,x3,x4,x5,x6,x7,x8,x9,x10,x11,x12,x13,x14,x15,x16,x17,x18,x19,x20,x21,x22,x23,x24,x25,x26,x27,x28,x29,x30,x31,x32,x33,x34,x35,x36,x37,x38,x39,x40,x41,x42,x43,x44,x45]) S =
    (andK (vFieldAddr Try.prog 29 x1 3 S) (fun v0 S1 => andK (vLoad Try.prog false 3 v0 S1) (fun v1 S2 => andK (vBin Try.prog BinOp.neq 3 v1 (Value.int IntKind.i64 0) S2) (fun v2 S3 => gdK (dem v2) true (vFieldAddr Try.prog 29 x1 3) S3 (fun v4 S4 => gdK (dem v2) true (vLoad Try.prog false 3 v4) S4 (fun v5 S5 => gdK (dem v2) true ((vlim Try.prog O) 25 [(dem v5)]) S5 (fun v6 S6 => gdK (dem v2) true (aUn Try.prog UnOp.not v6) S6 (fun v7 S7 => gdK (dem v2) true (ret v7) S7 (fun v8 S8 => gdK (dem v8) false (vFieldAddr Try.prog 29 x1 3) S8 (fun v9 S9 => gdK (dem v8) false (vLoad Try.prog false 3 v9) S9 (fun v10 S10 => gdK (dem v8) false (vBin Try.prog BinOp.quo 3 v10 (Value.int IntKind.i64 65536)) S10 (fun v11 S11 => gdK (dem v8) false (vFieldAddr Try.prog 29 x1 0) S11 (fun v12 S12 => gdK (dem v8) false (vLoad Try.prog false 3 v12) S12 (fun v13 S13 => gdK (dem v8) false (vBin Try.prog BinOp.geq 3 v11 v13) S13 (fun v14 S14 => gdK (dem v2) true (vPick (dem v8) (Value.bool true) v14) S14 (fun v15 S15 => andK (vPick (dem v2) v15 (Value.bool false) S15) (fun v16 S16 => some ([x0,x1,x2,x3,x4,x5,x6,x7,x8,x9,x10,x11,x12,x13,x14,x15,x16,x17,x18,x19,x20,v0,v1,v2,dem v2,v4,v5,v6,v7,dem v8,v9,v10,v11,v12,v13,v14,v15,v16,x38,x39,x40,x41,x42,x43,x44,x45], S16)) ()) ()) ()) ()) ()) ()) ()) ()) ()) ()) ()) ()) ()) ()) ()) ()) := by
  refine sD Try.f14 3 0 (fun v0 S1 => ?_)
  refine sD Try.f14 3 1 (fun v1 S2 => ?_)
  refine sD Try.f14 3 2 (fun v2 S3 => ?_)
  refine sP Try.f14 3 3 (v := v2) ?_
  refine sG Try.f14 3 4 (j := 3) (fun v4 S4 => ?_)
  refine sG Try.f14 3 5 (j := 3) (fun v5 S5 => ?_)
  refine sG Try.f14 3 6 (j := 3) (fun v6 S6 => ?_)
  refine sG Try.f14 3 7 (j := 3) (fun v7 S7 => ?_)
  refine sG Try.f14 3 8 (j := 3) (fun v8 S8 => ?_)
  refine sG Try.f14 3 9 (j := 8) (fun v9 S9 => ?_)
  refine sG Try.f14 3 10 (j := 8) (fun v10 S10 => ?_)
  refine sG Try.f14 3 11 (j := 8) (fun v11 S11 => ?_)
  refine sG Try.f14 3 12 (j := 8) (fun v12 S12 => ?_)
  refine sG Try.f14 3 13 (j := 8) (fun v13 S13 => ?_)
  refine sG Try.f14 3 14 (j := 8) (fun v14 S14 => ?_)
  refine sG Try.f14 3 15 (j := 3) (fun v15 S15 => ?_)
  refine sD Try.f14 3 16 (fun v16 S16 => ?_)
  kernel_rfl
theorem block_Right.r4  : vOps Try.prog ⟨false, false, false⟩ (vlim Try.prog O) (reg Try.f14 4) (reg Try.f14 4).toList ([x0,x1,x2,x3,x4,x5,x6,x7,x8,x9,x10,x11,x12,x13,x14,x15,x16,x17,x18,x19,x20,x21,x22,x23,x24,x25,x26,x27,x28,x29,x30,x31,x32,x33,x34,x35,x36,x37,x38,x39,x40,x41,x42,x43,x44,x45]) S =
    ( some ([x0,x1,Value.bool false,x3,x4,x5,x6,x7,x8,x9,x10,x11,x12,x13,x14,x15,x16,x17,x18,x19,x20,x21,x22,x23,x24,x25,x26,x27,x28,x29,x30,x31,x32,x33,x34,x35,x36,x37,x38,x39,x40,x41,x42,x43,x44,x45], S)) := by
  refine sP Try.f14 4 0 (v := (Value.bool false)) ?_
  kernel_rfl
theorem block_Right.r5  : vOps Try.prog ⟨false, false, false⟩ (vlim Try.prog O) (reg Try.f14 5) (reg Try.f14 5).toList ([x0,x1,x2,x3,x4,x5,x6,x7,x8,x9,x10,x11,x12,x13,x14,x15,x16,x17,x18,x19,x20,x21,x22,x23,x24,x25,x26,x27,x28,x29,x30,x31,x32,x33,x34,x35,x36,x37,x38,x39,x40,x41,x42,x43,x44,x45]) S =
    (andK (vFieldAddr Try.prog 29 x1 4 S) (fun v0 S1 => andK (vLoad Try.prog false 27 v0 S1) (fun v1 S2 => andK ((vlim Try.prog O) 27 [(dem v1)] S2) (fun v2 S3 => andK (aExtract v2 0 S3) (fun v4 S4 => andK (aExtract (demPart 0 v2) 1 S4) (fun v5 S5 => some ([x0,x1,x2,v4,v5,x5,x6,x7,x8,x9,x10,x11,x12,x13,x14,x15,x16,x17,x18,x19,x20,x21,x22,x23,x24,x25,x26,x27,x28,x29,x30,x31,x32,x33,x34,x35,x36,x37,demPart 1 (demPart 0 v2),v0,v1,dem v2,dem v4,dem v5,x44,x45], S5)) ()) ()) ()) ()) ()) := by
  refine sD Try.f14 5 0 (fun v0 S1 => ?_)
  refine sD Try.f14 5 1 (fun v1 S2 => ?_)
  refine sD Try.f14 5 2 (fun v2 S3 => ?_)
  refine sP Try.f14 5 3 (v := v2) ?_
  refine sD Try.f14 5 4 (fun v4 S4 => ?_)
  refine sD Try.f14 5 5 (fun v5 S5 => ?_)
  refine sP Try.f14 5 6 (v := v4) ?_
  refine sP Try.f14 5 7 (v := v5) ?_
  kernel_rfl
theorem block_Right.r6  : vOps Try.prog ⟨false, false, false⟩ (vlim Try.prog O) (reg Try.f14 6) (reg Try.f14 6).toList ([x0,x1,x2,x3,x4,x5,x6,x7,x8,x9,x10,x11,x12,x13,x14,x15,x16,x17,x18,x19,x20,x21,x22,x23,x24,x25,x26,x27,x28,x29,x30,x31,x32,x33,x34,x35,x36,x37,x38,x39,x40,x41,x42,x43,x44,x45]) S =
    (andK (vBin Try.prog BinOp.eql 34 (dem x4) (Value.int IntKind.i64 0) S) (fun v1 S1 => some ([x0,x1,v1,x3,x4,x5,x6,x7,x8,x9,x10,x11,x12,x13,x14,x15,x16,x17,x18,x19,x20,x21,x22,x23,x24,x25,x26,x27,x28,x29,x30,x31,x32,x33,x34,x35,x36,x37,x38,x39,x40,x41,x42,x43,dem x4,dem v1], S1)) ()) := by
  refine sP Try.f14 6 0 (v := x4) ?_
  refine sD Try.f14 6 1 (fun v1 S1 => ?_)
  refine sP Try.f14 6 2 (v := v1) ?_
  kernel_rfl
theorem block_Right.rs : type_of% (And.intro @block_Right.r0 (And.intro @block_Right.r1 (And.intro @block_Right.r2 (And.intro @block_Right.r3 (And.intro @block_Right.r4 (And.intro @block_Right.r5 (@block_Right.r6))))))) := And.intro @block_Right.r0 (And.intro @block_Right.r1 (And.intro @block_Right.r2 (And.intro @block_Right.r3 (And.intro @block_Right.r4 (And.intro @block_Right.r5 (@block_Right.r6))))))
theorem block_Right.runs {x0 : Value} {S S1 : AHeap} {e : AEx} {T : List Value} (h : vcodeV Try.prog O false block_Right.code ([x0,undef,undef,undef,undef,undef,undef,undef,undef,undef,undef,undef,undef,undef,undef,undef,undef,undef,undef,undef,undef,undef,undef,undef,undef,undef,undef,undef,undef,undef,undef,undef,undef,undef,undef,undef,undef,undef,undef,undef,undef,undef,undef,undef,undef,undef]) AHeap.empty = some (e, T, S1)) (he : e = .normal ∨ e = .ret) (hca : [x0].all (cleanN 16) = true) (hcv : cleanN 16 (T.getD 2 undef) = true) : vlim Try.prog O 14 [x0] S = some (T.getD 2 undef, S) :=
  vlim_pure rfl rfl Try.func14 (by decide) block_Right.body (by exact h) he (vRes_one (a := T.getD 2 undef) ((show vResVals Try.prog T S1 Try.f14.results.toList = vResVals Try.prog T S1 [(ResultVar.tmp 2)] from by kernel_rfl).trans (by simp only [vResVals])) (by kernel_rfl)) hca hcv
end Go.Proofs.Ytgggklfbhmlapaa

namespace Go.Proofs.Ytgggklfbhmlapaa
open Go.Abs

/-- neaptide.neaptideref07.Right -/
abbrev neaptideref07_Right.id : FuncId := 18
noncomputable def neaptideref07_Right.code : Code := (Code.seq (Code.region 0 (reg Try.f18 0) false) (Code.seq (Code.seq (Code.region 1 (reg Try.f18 1) false) (Code.cond (Operand.tmp 36) (Code.seq (Code.region 2 (reg Try.f18 2) false) Code.ret) Code.skip)) (Code.seq (Code.region 3 (reg Try.f18 3) false) (Code.seq (Code.seq (Code.region 4 (reg Try.f18 4) false) (Code.cond (Operand.tmp 44) (Code.seq (Code.region 5 (reg Try.f18 5) false) Code.ret) Code.skip)) (Code.seq (Code.seq (Code.region 6 (reg Try.f18 6) false) (Code.cond (Operand.tmp 47) (Code.seq (Code.region 7 (reg Try.f18 7) false) Code.ret) Code.skip)) (Code.seq (Code.region 8 (reg Try.f18 8) false) (Code.seq (Code.region 9 (reg Try.f18 9) false) Code.ret)))))))
theorem neaptideref07_Right.body : Try.f18.body = some neaptideref07_Right.code := by kernel_rfl
theorem neaptideref07_Right.eta {T : List Value} (h : T.length = 63) : T = [T.getD 0 undef,T.getD 1 undef,T.getD 2 undef,T.getD 3 undef,T.getD 4 undef,T.getD 5 undef,T.getD 6 undef,T.getD 7 undef,T.getD 8 undef,T.getD 9 undef,T.getD 10 undef,T.getD 11 undef,T.getD 12 undef,T.getD 13 undef,T.getD 14 undef,T.getD 15 undef,T.getD 16 undef,T.getD 17 undef,T.getD 18 undef,T.getD 19 undef,T.getD 20 undef,T.getD 21 undef,T.getD 22 undef,T.getD 23 undef,T.getD 24 undef,T.getD 25 undef,T.getD 26 undef,T.getD 27 undef,T.getD 28 undef,T.getD 29 undef,T.getD 30 undef,T.getD 31 undef,T.getD 32 undef,T.getD 33 undef,T.getD 34 undef,T.getD 35 undef,T.getD 36 undef,T.getD 37 undef,T.getD 38 undef,T.getD 39 undef,T.getD 40 undef,T.getD 41 undef,T.getD 42 undef,T.getD 43 undef,T.getD 44 undef,T.getD 45 undef,T.getD 46 undef,T.getD 47 undef,T.getD 48 undef,T.getD 49 undef,T.getD 50 undef,T.getD 51 undef,T.getD 52 undef,T.getD 53 undef,T.getD 54 undef,T.getD 55 undef,T.getD 56 undef,T.getD 57 undef,T.getD 58 undef,T.getD 59 undef,T.getD 60 undef,T.getD 61 undef,T.getD 62 undef] := (list_getD T 63 h).trans (by kernel_rfl)
variable (x0 x1 x2 x3 x4 x5 x6 x7 x8 x9 x10 x11 x12 x13 x14 x15 x16 x17 x18 x19 x20 x21 x22 x23 x24 x25 x26 x27 x28 x29 x30 x31 x32 x33 x34 x35 x36 x37 x38 x39 x40 x41 x42 x43 x44 x45 x46 x47 x48 x49 x50 x51 x52 x53 x54 x55 x56 x57 x58 x59 x60 x61 x62 : Value) (S : AHeap)
theorem neaptideref07_Right.r0  : vOps Try.prog ⟨false, false, false⟩ (vlim Try.prog O) (reg Try.f18 0) (reg Try.f18 0).toList ([x0,x1,x2,x3,x4,x5,x6,x7,x8,x9,x10,x11,x12,x13,x14,x15,x16,x17,x18,x19,x20,x21,x22,x23,x24,x25,x26,x27,x28,x29,x30,x31,x32,x33,x34,x35,x36,x37,x38,x39,x40,x41,x42,x43,x44,x45,x46,x47,x48,x49,x50,x51,x52,x53,x54,x55,x56,x57,x58,x59,x60,x61,x62]) S =
    (andK (aBox (dem x0) S) (fun v0 S1 => some ([x0,v0,Value.bool false,x3,x4,x5,x6,x7,x8,x9,x10,x11,x12,x13,x14,x15,x16,x17,x18,x19,x20,x21,x22,x23,x24,x25,x26,x27,x28,x29,x30,x31,x32,x33,x34,x35,x36,x37,x38,x39,x40,x41,x42,x43,x44,x45,x46,x47,x48,x49,x50,x51,x52,x53,x54,x55,x56,x57,x58,x59,x60,x61,x62], S1)) ()) := by
  refine sD Try.f18 0 0 (fun v0 S1 => ?_)
  refine sP Try.f18 0 1 (v := (Value.bool false)) ?_
  kernel_rfl
theorem neaptideref07_Right.r1  : vOps Try.prog ⟨false, false, false⟩ (vlim Try.prog O) (reg Try.f18 1) (reg Try.f18 1).toList ([x0,x1,x2,x3,x4,x5,x6,x7,x8,x9,x10,x11,x12,x13,x14,x15,x16,x17,x18,x19,x20,x21,x22,x23,x24,x25,x26,x27,x28,x29,x30,x31,x32,x33,x34,x35,x36,x37,x38,x39,x40,x41,x42,x43,x44,x45,x46,x47,x48,x49,x50,x51,x52,x53,x54,x55,x56,x57,x58,x59,x60,x61,x62]) S =
    (andK (vFieldAddr Try.prog 29 x1 0 S) (fun v0 S1 => andK (vLoad Try.prog false 3 v0 S1) (fun v1 S2 => andK (vBin Try.prog BinOp.lss 3 v1 (Value.int IntKind.i64 1) S2) (fun v2 S3 => gdK (dem v2) false (vFieldAddr Try.prog 29 x1 0) S3 (fun v4 S4 => gdK (dem v2) false (vLoad Try.prog false 3 v4) S4 (fun v5 S5 => gdK (dem v2) false (vBin Try.prog BinOp.gtr 3 v5 (Value.int IntKind.i64 4095)) S5 (fun v6 S6 => andK (vPick (dem v2) (Value.bool true) v6 S6) (fun v7 S7 => gdK (dem v7) false (vFieldAddr Try.prog 29 x1 1) S7 (fun v9 S8 => gdK (dem v7) false (vLoad Try.prog false 3 v9) S8 (fun v10 S9 => gdK (dem v7) false (vBin Try.prog BinOp.lss 3 v10 (Value.int IntKind.i64 0)) S9 (fun v11 S10 => andK (vPick (dem v7) (Value.bool true) v11 S10) (fun v12 S11 => gdK (dem v12) false (vFieldAddr Try.prog 29 x1 1) S11 (fun v14 S12 => gdK (dem v12) false (vLoad Try.prog false 3 v14) S12 (fun v15 S13 => gdK (dem v12) false (vBin Try.prog BinOp.gtr 3 v15 (Value.int IntKind.i64 6)) S13 (fun v16 S14 => andK (vPick (dem v12) (Value.bool true) v16 S14) (fun v17 S15 => gdK (dem v17) false (vFieldAddr Try.prog 29 x1 2) S15 (fun v19 S16 => gdK (dem v17) false (vLoad Try.prog false 3 v19) S16 (fun v20 S17 => gdK (dem v17) false (vBin Try.prog BinOp.lss 3 v20 (Value.int IntKind.i64 0)) S17 (fun v21 S18 => andK (vPick (dem v17) (Value.bool true) v21 S18) (fun v22 S19 => gdK (dem v22) false (vFieldAddr Try.prog 29 x1 2) S19 (fun v24 S20 => gdK (dem v22) false (vLoad Try.prog false 3 v24) S20 (fun v25 S21 => gdK (dem v22) false (vBin Try.prog BinOp.gtr 3 v25 (Value.int IntKind.i64 255)) S21 (fun v26 S22 => andK (vPick (dem v22) (Value.bool true) v26 S22) (fun v27 S23 => some ([x0,x1,x2,x3,x4,x5,x6,x7,x8,v0,v1,v2,dem v2,v4,v5,v6,v7,dem v7,v9,v10,v11,v12,dem v12,v14,v15,v16,v17,dem v17,v19,v20,v21,v22,dem v22,v24,v25,v26,v27,x37,x38,x39,x40,x41,x42,x43,x44,x45,x46,x47,x48,x49,x50,x51,x52,x53,x54,x55,x56,x57,x58,x59,x60,x61,x62], S23)) ()) ()) ()) ()) ()) ()) ()) ()) ()) ()) ()) ()) ()) ()) ()) ()) ()) ()) ()) ()) ()) ()) ()) := by
  refine sD Try.f18 1 0 (fun v0 S1 => ?_)
  refine sD Try.f18 1 1 (fun v1 S2 => ?_)
  refine sD Try.f18 1 2 (fun v2 S3 => ?_)
  refine sP Try.f18 1 3 (v := v2) ?_
  refine sG Try.f18 1 4 (j := 3) (fun v4 S4 => ?_)
  refine sG Try.f18 1 5 (j := 3) (fun v5 S5 => ?_)
  refine sG Try.f18 1 6 (j := 3) (fun v6 S6 => ?_)
  refine sD Try.f18 1 7 (fun v7 S7 => ?_)
  refine sP Try.f18 1 8 (v := v7) ?_
  refine sG Try.f18 1 9 (j := 8) (fun v9 S8 => ?_)
  refine sG Try.f18 1 10 (j := 8) (fun v10 S9 => ?_)
  refine sG Try.f18 1 11 (j := 8) (fun v11 S10 => ?_)
  refine sD Try.f18 1 12 (fun v12 S11 => ?_)
  refine sP Try.f18 1 13 (v := v12) ?_
  refine sG Try.f18 1 14 (j := 13) (fun v14 S12 => ?_)
  refine sG Try.f18 1 15 (j := 13) (fun v15 S13 => ?_)
  refine sG Try.f18 1 16 (j := 13) (fun v16 S14 => ?_)
  refine sD Try.f18 1 17 (fun v17 S15 => ?_)
  refine sP Try.f18 1 18 (v := v17) ?_
  refine sG Try.f18 1 19 (j := 18) (fun v19 S16 => ?_)
  refine sG Try.f18 1 20 (j := 18) (fun v20 S17 => ?_)
  refine sG Try.f18 1 21 (j := 18) (fun v21 S18 => ?_)
  refine sD Try.f18 1 22 (fun v22 S19 => ?_)
  refine sP Try.f18 1 23 (v := v22) ?_
  refine sG Try.f18 1 24 (j := 23) (fun v24 S20 => ?_)
  refine sG Try.f18 1 25 (j := 23) (fun v25 S21 => ?_)
  refine sG Try.f18 1 26 (j := 23) (fun v26 S22 => ?_)
  refine sD Try.f18 1 27 (fun v27 S23 => ?_)
  kernel_rfl
theorem neaptideref07_Right.r2  : vOps Try.prog ⟨false, false, false⟩ (vlim Try.prog O) (reg Try.f18 2) (reg Try.f18 2).toList ([x0,x1,x2,x3,x4,x5,x6,x7,x8,x9,x10,x11,x12,x13,x14,x15,x16,x17,x18,x19,x20,x21,x22,x23,x24,x25,x26,x27,x28,x29,x30,x31,x32,x33,x34,x35,x36,x37,x38,x39,x40,x41,x42,x43,x44,x45,x46,x47,x48,x49,x50,x51,x52,x53,x54,x55,x56,x57,x58,x59,x60,x61,x62]) S =
    ( some ([x0,x1,Value.bool false,x3,x4,x5,x6,x7,x8,x9,x10,x11,x12,x13,x14,x15,x16,x17,x18,x19,x20,x21,x22,x23,x24,x25,x26,x27,x28,x29,x30,x31,x32,x33,x34,x35,x36,x37,x38,x39,x40,x41,x42,x43,x44,x45,x46,x47,x48,x49,x50,x51,x52,x53,x54,x55,x56,x57,x58,x59,x60,x61,x62], S)) := by
  refine sP Try.f18 2 0 (v := (Value.bool false)) ?_
  kernel_rfl
theorem neaptideref07_Right.r3  : vOps Try.prog ⟨false, false, false⟩ (vlim Try.prog O) (reg Try.f18 3) (reg Try.f18 3).toList ([x0,x1,x2,x3,x4,x5,x6,x7,x8,x9,x10,x11,x12,x13,x14,x15,x16,x17,x18,x19,x20,x21,x22,x23,x24,x25,x26,x27,x28,x29,x30,x31,x32,x33,x34,x35,x36,x37,x38,x39,x40,x41,x42,x43,x44,x45,x46,x47,x48,x49,x50,x51,x52,x53,x54,x55,x56,x57,x58,x59,x60,x61,x62]) S =
    (andK (vFieldAddr Try.prog 29 x1 4 S) (fun v0 S1 => andK (vLoad Try.prog false 27 v0 S1) (fun v1 S2 => andK ((vlim Try.prog O) 30 [(dem v1)] S2) (fun v2 S3 => andK (aExtract v2 0 S3) (fun v4 S4 => andK (aExtract (demPart 0 v2) 1 S4) (fun v5 S5 => some ([x0,x1,x2,v4,v5,x5,x6,x7,x8,x9,x10,x11,x12,x13,x14,x15,x16,x17,x18,x19,x20,x21,x22,x23,x24,x25,x26,x27,x28,x29,x30,x31,x32,x33,x34,x35,x36,demPart 1 (demPart 0 v2),v0,v1,dem v2,dem v4,dem v5,x43,x44,x45,x46,x47,x48,x49,x50,x51,x52,x53,x54,x55,x56,x57,x58,x59,x60,x61,x62], S5)) ()) ()) ()) ()) ()) := by
  refine sD Try.f18 3 0 (fun v0 S1 => ?_)
  refine sD Try.f18 3 1 (fun v1 S2 => ?_)
  refine sD Try.f18 3 2 (fun v2 S3 => ?_)
  refine sP Try.f18 3 3 (v := v2) ?_
  refine sD Try.f18 3 4 (fun v4 S4 => ?_)
  refine sD Try.f18 3 5 (fun v5 S5 => ?_)
  refine sP Try.f18 3 6 (v := v4) ?_
  refine sP Try.f18 3 7 (v := v5) ?_
  kernel_rfl
theorem neaptideref07_Right.r4  : vOps Try.prog ⟨false, false, false⟩ (vlim Try.prog O) (reg Try.f18 4) (reg Try.f18 4).toList ([x0,x1,x2,x3,x4,x5,x6,x7,x8,x9,x10,x11,x12,x13,x14,x15,x16,x17,x18,x19,x20,x21,x22,x23,x24,x25,x26,x27,x28,x29,x30,x31,x32,x33,x34,x35,x36,x37,x38,x39,x40,x41,x42,x43,x44,x45,x46,x47,x48,x49,x50,x51,x52,x53,x54,x55,x56,x57,x58,x59,x60,x61,x62]) S =
    (andK (vBin Try.prog BinOp.neq 3 (dem x4) (Value.int IntKind.i64 0) S) (fun v1 S1 => some ([x0,x1,x2,x3,x4,x5,x6,x7,x8,x9,x10,x11,x12,x13,x14,x15,x16,x17,x18,x19,x20,x21,x22,x23,x24,x25,x26,x27,x28,x29,x30,x31,x32,x33,x34,x35,x36,x37,x38,x39,x40,x41,x42,dem x4,v1,x45,x46,x47,x48,x49,x50,x51,x52,x53,x54,x55,x56,x57,x58,x59,x60,x61,x62], S1)) ()) := by
  refine sP Try.f18 4 0 (v := x4) ?_
  refine sD Try.f18 4 1 (fun v1 S1 => ?_)
  kernel_rfl
theorem neaptideref07_Right.r5  : vOps Try.prog ⟨false, false, false⟩ (vlim Try.prog O) (reg Try.f18 5) (reg Try.f18 5).toList ([x0,x1,x2,x3,x4,x5,x6,x7,x8,x9,x10,x11,x12,x13,x14,x15,x16,x17,x18,x19,x20,x21,x22,x23,x24,x25,x26,x27,x28,x29,x30,x31,x32,x33,x34,x35,x36,x37,x38,x39,x40,x41,x42,x43,x44,x45,x46,x47,x48,x49,x50,x51,x52,x53,x54,x55,x56,x57,x58,x59,x60,x61,x62]) S =
    ( some ([x0,x1,Value.bool false,x3,x4,x5,x6,x7,x8,x9,x10,x11,x12,x13,x14,x15,x16,x17,x18,x19,x20,x21,x22,x23,x24,x25,x26,x27,x28,x29,x30,x31,x32,x33,x34,x35,x36,x37,x38,x39,x40,x41,x42,x43,x44,x45,x46,x47,x48,x49,x50,x51,x52,x53,x54,x55,x56,x57,x58,x59,x60,x61,x62], S)) := by
  refine sP Try.f18 5 0 (v := (Value.bool false)) ?_
  kernel_rfl
theorem neaptideref07_Right.r6  : vOps Try.prog ⟨false, false, false⟩ (vlim Try.prog O) (reg Try.f18 6) (reg Try.f18 6).toList ([x0,x1,x2,x3,x4,x5,x6,x7,x8,x9,x10,x11,x12,x13,x14,x15,x16,x17,x18,x19,x20,x21,x22,x23,x24,x25,x26,x27,x28,x29,x30,x31,x32,x33,x34,x35,x36,x37,x38,x39,x40,x41,x42,x43,x44,x45,x46,x47,x48,x49,x50,x51,x52,x53,x54,x55,x56,x57,x58,x59,x60,x61,x62]) S =
    (andK (vFieldAddr Try.prog 29 x1 3 S) (fun v0 S1 => andK (vLoad Try.prog false 3 v0 S1) (fun v1 S2 => andK (vBin Try.prog BinOp.eql 3 v1 (Value.int IntKind.i64 0) S2) (fun v2 S3 => some ([x0,x1,x2,x3,x4,x5,x6,x7,x8,x9,x10,x11,x12,x13,x14,x15,x16,x17,x18,x19,x20,x21,x22,x23,x24,x25,x26,x27,x28,x29,x30,x31,x32,x33,x34,x35,x36,x37,x38,x39,x40,x41,x42,x43,x44,v0,v1,v2,x48,x49,x50,x51,x52,x53,x54,x55,x56,x57,x58,x59,x60,x61,x62], S3)) ()) ()) ()) := by
  refine sD Try.f18 6 0 (fun v0 S1 => ?_)
  refine sD Try.f18 6 1 (fun v1 S2 => ?_)
  refine sD Try.f18 6 2 (fun v2 S3 => ?_)
  kernel_rfl
theorem neaptideref07_Right.r7  : vOps Try.prog ⟨false, false, false⟩ (vlim Try.prog O) (reg Try.f18 7) (reg Try.f18 7).toList ([x0,x1,x2,x3,x4,x5,x6,x7,x8,x9,x10,x11,x12,x13,x14,x15,x16,x17,x18,x19,x20,x21,x22,x23,x24,x25,x26,x27,x28,x29,x30,x31,x32,x33,x34,x35,x36,x37,x38,x39,x40,x41,x42,x43,x44,x45,x46,x47,x48,x49,x50,x51,x52,x53,x54,x55,x56,x57,x58,x59,x60,x61,x62]) S =
    ( some ([x0,x1,Value.bool true,x3,x4,x5,x6,x7,x8,x9,x10,x11,x12,x13,x14,x15,x16,x17,x18,x19,x20,x21,x22,x23,x24,x25,x26,x27,x28,x29,x30,x31,x32,x33,x34,x35,x36,x37,x38,x39,x40,x41,x42,x43,x44,x45,x46,x47,x48,x49,x50,x51,x52,x53,x54,x55,x56,x57,x58,x59,x60,x61,x62], S)) := by
  refine sP Try.f18 7 0 (v := (Value.bool true)) ?_
  kernel_rfl
theorem neaptideref07_Right.r8  : vOps Try.prog ⟨false, false, false⟩ (vlim Try.prog O) (reg Try.f18 8) (reg Try.f18 8).toList ([x0,x1,x2,x3,x4,x5,x6,x7,x8,x9,x10,x11,x12,x13,x14,x15,x16,x17,x18,x19,x20,x21,x22,x23,x24,x25,x26,x27,x28,x29,x30,x31,x32,x33,x34,x35,x36,x37,x38,x39,x40,x41,x42,x43,x44,x45,x46,x47,x48,x49,x50,x51,x52,x53,x54,x55,x56,x57,x58,x59,x60,x61,x62]) S =
    (andK (vFieldAddr Try.prog 29 x1 3 S) (fun v0 S1 => andK (vLoad Try.prog false 3 v0 S1) (fun v1 S2 => andK ((vlim Try.prog O) 10 [(dem v1)] S2) (fun v2 S3 => andK (aExtract v2 0 S3) (fun v4 S4 => andK (aExtract (demPart 0 v2) 1 S4) (fun v5 S5 => andK (aExtract (demPart 1 (demPart 0 v2)) 2 S5) (fun v6 S6 => andK (aExtract (demPart 2 (demPart 1 (demPart 0 v2))) 3 S6) (fun v7 S7 => some ([x0,x1,x2,x3,x4,v4,v5,v6,v7,x9,x10,x11,x12,x13,x14,x15,x16,x17,x18,x19,x20,x21,x22,x23,x24,x25,x26,x27,x28,x29,x30,x31,x32,x33,x34,x35,x36,x37,x38,x39,x40,x41,x42,x43,x44,x45,x46,x47,demPart 3 (demPart 2 (demPart 1 (demPart 0 v2))),v0,v1,dem v2,dem v4,dem v5,dem v6,dem v7,x56,x57,x58,x59,x60,x61,x62], S7)) ()) ()) ()) ()) ()) ()) ()) := by
  refine sD Try.f18 8 0 (fun v0 S1 => ?_)
  refine sD Try.f18 8 1 (fun v1 S2 => ?_)
  refine sD Try.f18 8 2 (fun v2 S3 => ?_)
  refine sP Try.f18 8 3 (v := v2) ?_
  refine sD Try.f18 8 4 (fun v4 S4 => ?_)
  refine sD Try.f18 8 5 (fun v5 S5 => ?_)
  refine sD Try.f18 8 6 (fun v6 S6 => ?_)
  refine sD Try.f18 8 7 (fun v7 S7 => ?_)
  refine sP Try.f18 8 8 (v := v4) ?_
  refine sP Try.f18 8 9 (v := v5) ?_
  refine sP Try.f18 8 10 (v := v6) ?_
  refine sP Try.f18 8 11 (v := v7) ?_
  kernel_rfl
theorem neaptideref07_Right.r9  : vOps Try.prog ⟨false, false, false⟩ (vlim Try.prog O) (reg Try.f18 9) (reg Try.f18 9).toList ([x0,x1,x2,x3,x4,x5,x6,x7,x8,x9,x10,x11,x12,x13,x14,x15,x16,x17,x18,x19,x20,x21,x22,x23,x24,x25,x26,x27,x28,x29,x30,x31,x32,x33,x34,x35,x36,x37,x38,x39,x40,x41,x42,x43,x44,x45,x46,x47,x48,x49,x50,x51,x52,x53,x54,x55,x56,x57,x58,x59,x60,x61,x62]) S =
    (gdK (dem x8) true (ret x5) S (fun v2 S1 => gdK (dem x8) true (vFieldAddr Try.prog 29 x1 0) S1 (fun v3 S2 => gdK (dem x8) true (vLoad Try.prog false 3 v3) S2 (fun v4 S3 => gdK (dem x8) true (vBin Try.prog BinOp.lss 3 (dem v2) v4) S3 (fun v5 S4 => andK (vPick (dem x8) v5 (Value.bool false) S4) (fun v6 S5 => some ([x0,x1,v6,x3,x4,x5,x6,x7,dem x8,x9,x10,x11,x12,x13,x14,x15,x16,x17,x18,x19,x20,x21,x22,x23,x24,x25,x26,x27,x28,x29,x30,x31,x32,x33,x34,x35,x36,x37,x38,x39,x40,x41,x42,x43,x44,x45,x46,x47,x48,x49,x50,x51,x52,x53,x54,x55,x8,dem x8,dem v2,v3,v4,v5,dem v6], S5)) ()) ()) ()) ()) ()) := by
  refine sP Try.f18 9 0 (v := x8) ?_
  refine sP Try.f18 9 1 (v := x8) ?_
  refine sG Try.f18 9 2 (j := 1) (fun v2 S1 => ?_)
  refine sG Try.f18 9 3 (j := 1) (fun v3 S2 => ?_)
  refine sG Try.f18 9 4 (j := 1) (fun v4 S3 => ?_)
  refine sG Try.f18 9 5 (j := 1) (fun v5 S4 => ?_)
  refine sD Try.f18 9 6 (fun v6 S5 => ?_)
  refine sP Try.f18 9 7 (v := v6) ?_
  kernel_rfl
theorem neaptideref07_Right.rs : type_of% (And.intro @neaptideref07_Right.r0 (And.intro @neaptideref07_Right.r1 (And.intro @neaptideref07_Right.r2 (And.intro @neaptideref07_Right.r3 (And.intro @neaptideref07_Right.r4 (And.intro @neaptideref07_Right.r5 (And.intro @neaptideref07_Right.r6 (And.intro @neaptideref07_Right.r7 (And.intro @neaptideref07_Right.r8 (@neaptideref07_Right.r9)))))))))) := And.intro @neaptideref07_Right.r0 (And.intro @neaptideref07_Right.r1 (And.intro @neaptideref07_Right.r2 (And.intro @neaptideref07_Right.r3 (And.intro @neaptideref07_Right.r4 (And.intro @neaptideref07_Right.r5 (And.intro @neaptideref07_Right.r6 (And.intro @neaptideref07_Right.r7 (And.intro @neaptideref07_Right.r8 (@neaptideref07_Right.r9)))))))))
theorem neaptideref07_Right.runs {x0 : Value} {S S1 : AHeap} {e : AEx} {T : List Value} (h : vcodeV Try.prog O false neaptideref07_Right.code ([x0,undef,undef,undef,undef,undef,undef,undef,undef,undef,undef,undef,undef,undef,undef,undef,undef,undef,undef,undef,undef,undef,undef,undef,undef,undef,undef,undef,undef,undef,undef,undef,undef,undef,undef,undef,undef,undef,undef,undef,undef,undef,undef,undef,undef,undef,undef,undef,undef,undef,undef,undef,undef,undef,undef,undef,undef,undef,undef,undef,undef,undef,undef]) AHeap.empty = some (e, T, S1)) (he : e = .normal ∨ e = .ret) (hca : [x0].all (cleanN 16) = true) (hcv : cleanN 16 (T.getD 2 undef) = true) : vlim Try.prog O 18 [x0] S = some (T.getD 2 undef, S) :=
  vlim_pure rfl rfl Try.func18 (by decide) neaptideref07_Right.body (by exact h) he (vRes_one (a := T.getD 2 undef) ((show vResVals Try.prog T S1 Try.f18.results.toList = vResVals Try.prog T S1 [(ResultVar.tmp 2)] from by kernel_rfl).trans (by simp only [vResVals])) (by kernel_rfl)) hca hcv
end Go.Proofs.Ytgggklfbhmlapaa

namespace Go.Proofs.Ytgggklfbhmlapaa
open Go.Abs

/-- neaptide.block.Name -/
abbrev block_Name.id : FuncId := 15
noncomputable def block_Name.code : Code := (Code.seq (Code.region 0 (reg Try.f15 0) false) (Code.seq (Code.seq (Code.region 1 (reg Try.f15 1) false) (Code.cond (Operand.tmp 5) (Code.seq (Code.region 2 (reg Try.f15 2) false) Code.ret) Code.skip)) (Code.seq (Code.region 3 (reg Try.f15 3) false) Code.ret)))
theorem block_Name.body : Try.f15.body = some block_Name.code := by kernel_rfl
theorem block_Name.eta {T : List Value} (h : T.length = 16) : T = [T.getD 0 undef,T.getD 1 undef,T.getD 2 undef,T.getD 3 undef,T.getD 4 undef,T.getD 5 undef,T.getD 6 undef,T.getD 7 undef,T.getD 8 undef,T.getD 9 undef,T.getD 10 undef,T.getD 11 undef,T.getD 12 undef,T.getD 13 undef,T.getD 14 undef,T.getD 15 undef] := (list_getD T 16 h).trans (by kernel_rfl)
variable (x0 x1 x2 x3 x4 x5 x6 x7 x8 x9 x10 x11 x12 x13 x14 x15 : Value) (S : AHeap)
theorem block_Name.r0  : vOps Try.prog ⟨false, false, false⟩ (vlim Try.prog O) (reg Try.f15 0) (reg Try.f15 0).toList ([x0,x1,x2,x3,x4,x5,x6,x7,x8,x9,x10,x11,x12,x13,x14,x15]) S =
    (andK (aBox (dem x0) S) (fun v0 S1 => some ([x0,v0,Value.int IntKind.i64 0,x3,x4,x5,x6,x7,x8,x9,x10,x11,x12,x13,x14,x15], S1)) ()) := by
  refine sD Try.f15 0 0 (fun v0 S1 => ?_)
  refine sP Try.f15 0 1 (v := (Value.int IntKind.i64 0)) ?_
  kernel_rfl
theorem block_Name.r1  : vOps Try.prog ⟨false, false, false⟩ (vlim Try.prog O) (reg Try.f15 1) (reg Try.f15 1).toList ([x0,x1,x2,x3,x4,x5,x6,x7,x8,x9,x10,x11,x12,x13,x14,x15]) S =
    (andK (vLoad Try.prog false 29 x1 S) (fun v0 S1 => andK ((vlim Try.prog O) 14 [(dem v0)] S1) (fun v1 S2 => andK (aUn Try.prog UnOp.not v1 S2) (fun v2 S3 => some ([x0,x1,x2,v0,v1,v2,x6,x7,x8,x9,x10,x11,x12,x13,x14,x15], S3)) ()) ()) ()) := by
  refine sD Try.f15 1 0 (fun v0 S1 => ?_)
  refine sD Try.f15 1 1 (fun v1 S2 => ?_)
  refine sD Try.f15 1 2 (fun v2 S3 => ?_)
  kernel_rfl
theorem block_Name.r2  : vOps Try.prog ⟨false, false, false⟩ (vlim Try.prog O) (reg Try.f15 2) (reg Try.f15 2).toList ([x0,x1,x2,x3,x4,x5,x6,x7,x8,x9,x10,x11,x12,x13,x14,x15]) S =
    ( some ([x0,x1,Value.int IntKind.i64 0,x3,x4,x5,x6,x7,x8,x9,x10,x11,x12,x13,x14,x15], S)) := by
  refine sP Try.f15 2 0 (v := (Value.int IntKind.i64 0)) ?_
  kernel_rfl
theorem block_Name.r3  : vOps Try.prog ⟨false, false, false⟩ (vlim Try.prog O) (reg Try.f15 3) (reg Try.f15 3).toList ([x0,x1,x2,x3,x4,x5,x6,x7,x8,x9,x10,x11,x12,x13,x14,x15]) S =
    (andK (vFieldAddr Try.prog 29 x1 0 S) (fun v0 S1 => andK (vLoad Try.prog false 3 v0 S1) (fun v1 S2 => andK (vBin Try.prog BinOp.mul 3 v1 (Value.int IntKind.i64 65536) S2) (fun v2 S3 => andK (vFieldAddr Try.prog 29 x1 1 S3) (fun v3 S4 => andK (vLoad Try.prog false 3 v3 S4) (fun v4 S5 => andK (vBin Try.prog BinOp.mul 3 v4 (Value.int IntKind.i64 256) S5) (fun v5 S6 => andK (vBin Try.prog BinOp.add 3 v2 v5 S6) (fun v6 S7 => andK (vFieldAddr Try.prog 29 x1 2 S7) (fun v7 S8 => andK (vLoad Try.prog false 3 v7 S8) (fun v8 S9 => andK (vBin Try.prog BinOp.add 3 v6 v8 S9) (fun v9 S10 => some ([x0,x1,v9,x3,x4,x5,v0,v1,v2,v3,v4,v5,v6,v7,v8,dem v9], S10)) ()) ()) ()) ()) ()) ()) ()) ()) ()) ()) := by
  refine sD Try.f15 3 0 (fun v0 S1 => ?_)
  refine sD Try.f15 3 1 (fun v1 S2 => ?_)
  refine sD Try.f15 3 2 (fun v2 S3 => ?_)
  refine sD Try.f15 3 3 (fun v3 S4 => ?_)
  refine sD Try.f15 3 4 (fun v4 S5 => ?_)
  refine sD Try.f15 3 5 (fun v5 S6 => ?_)
  refine sD Try.f15 3 6 (fun v6 S7 => ?_)
  refine sD Try.f15 3 7 (fun v7 S8 => ?_)
  refine sD Try.f15 3 8 (fun v8 S9 => ?_)
  refine sD Try.f15 3 9 (fun v9 S10 => ?_)
  refine sP Try.f15 3 10 (v := v9) ?_
  kernel_rfl
theorem block_Name.rs : type_of% (And.intro @block_Name.r0 (And.intro @block_Name.r1 (And.intro @block_Name.r2 (@block_Name.r3)))) := And.intro @block_Name.r0 (And.intro @block_Name.r1 (And.intro @block_Name.r2 (@block_Name.r3)))
theorem block_Name.runs {x0 : Value} {S S1 : AHeap} {e : AEx} {T : List Value} (h : vcodeV Try.prog O false block_Name.code ([x0,undef,undef,undef,undef,undef,undef,undef,undef,undef,undef,undef,undef,undef,undef,undef]) AHeap.empty = some (e, T, S1)) (he : e = .normal ∨ e = .ret) (hca : [x0].all (cleanN 16) = true) (hcv : cleanN 16 (T.getD 2 undef) = true) : vlim Try.prog O 15 [x0] S = some (T.getD 2 undef, S) :=
  vlim_pure rfl rfl Try.func15 (by decide) block_Name.body (by exact h) he (vRes_one (a := T.getD 2 undef) ((show vResVals Try.prog T S1 Try.f15.results.toList = vResVals Try.prog T S1 [(ResultVar.tmp 2)] from by kernel_rfl).trans (by simp only [vResVals])) (by kernel_rfl)) hca hcv
end Go.Proofs.Ytgggklfbhmlapaa

namespace Go.Proofs.Ytgggklfbhmlapaa
open Go.Abs

/-- neaptide.neaptideref07.Name -/
abbrev neaptideref07_Name.id : FuncId := 19
noncomputable def neaptideref07_Name.code : Code := (Code.seq (Code.region 0 (reg Try.f19 0) false) (Code.seq (Code.seq (Code.region 1 (reg Try.f19 1) false) (Code.cond (Operand.tmp 5) (Code.seq (Code.region 2 (reg Try.f19 2) false) Code.ret) Code.skip)) (Code.seq (Code.region 3 (reg Try.f19 3) false) Code.ret)))
theorem neaptideref07_Name.body : Try.f19.body = some neaptideref07_Name.code := by kernel_rfl
theorem neaptideref07_Name.eta {T : List Value} (h : T.length = 16) : T = [T.getD 0 undef,T.getD 1 undef,T.getD 2 undef,T.getD 3 undef,T.getD 4 undef,T.getD 5 undef,T.getD 6 undef,T.getD 7 undef,T.getD 8 undef,T.getD 9 undef,T.getD 10 undef,T.getD 11 undef,T.getD 12 undef,T.getD 13 undef,T.getD 14 undef,T.getD 15 undef] := (list_getD T 16 h).trans (by kernel_rfl)
variable (x0 x1 x2 x3 x4 x5 x6 x7 x8 x9 x10 x11 x12 x13 x14 x15 : Value) (S : AHeap)
theorem neaptideref07_Name.r0  : vOps Try.prog ⟨false, false, false⟩ (vlim Try.prog O) (reg Try.f19 0) (reg Try.f19 0).toList ([x0,x1,x2,x3,x4,x5,x6,x7,x8,x9,x10,x11,x12,x13,x14,x15]) S =
    (andK (aBox (dem x0) S) (fun v0 S1 => some ([x0,v0,Value.int IntKind.i64 0,x3,x4,x5,x6,x7,x8,x9,x10,x11,x12,x13,x14,x15], S1)) ()) := by
  refine sD Try.f19 0 0 (fun v0 S1 => ?_)
  refine sP Try.f19 0 1 (v := (Value.int IntKind.i64 0)) ?_
  kernel_rfl
theorem neaptideref07_Name.r1  : vOps Try.prog ⟨false, false, false⟩ (vlim Try.prog O) (reg Try.f19 1) (reg Try.f19 1).toList ([x0,x1,x2,x3,x4,x5,x6,x7,x8,x9,x10,x11,x12,x13,x14,x15]) S =
    (andK (vLoad Try.prog false 29 x1 S) (fun v0 S1 => andK ((vlim Try.prog O) 18 [(dem v0)] S1) (fun v1 S2 => andK (aUn Try.prog UnOp.not v1 S2) (fun v2 S3 => some ([x0,x1,x2,v0,v1,v2,x6,x7,x8,x9,x10,x11,x12,x13,x14,x15], S3)) ()) ()) ()) := by
  refine sD Try.f19 1 0 (fun v0 S1 => ?_)
  refine sD Try.f19 1 1 (fun v1 S2 => ?_)
  refine sD Try.f19 1 2 (fun v2 S3 => ?_)
  kernel_rfl
theorem neaptideref07_Name.r2  : vOps Try.prog ⟨false, false, false⟩ (vlim Try.prog O) (reg Try.f19 2) (reg Try.f19 2).toList ([x0,x1,x2,x3,x4,x5,x6,x7,x8,x9,x10,x11,x12,x13,x14,x15]) S =
    ( some ([x0,x1,Value.int IntKind.i64 0,x3,x4,x5,x6,x7,x8,x9,x10,x11,x12,x13,x14,x15], S)) := by
  refine sP Try.f19 2 0 (v := (Value.int IntKind.i64 0)) ?_
  kernel_rfl
theorem neaptideref07_Name.r3  : vOps Try.prog ⟨false, false, false⟩ (vlim Try.prog O) (reg Try.f19 3) (reg Try.f19 3).toList ([x0,x1,x2,x3,x4,x5,x6,x7,x8,x9,x10,x11,x12,x13,x14,x15]) S =
    (andK (vFieldAddr Try.prog 29 x1 0 S) (fun v0 S1 => andK (vLoad Try.prog false 3 v0 S1) (fun v1 S2 => andK (vBin Try.prog BinOp.mul 3 v1 (Value.int IntKind.i64 256) S2) (fun v2 S3 => andK (vFieldAddr Try.prog 29 x1 1 S3) (fun v3 S4 => andK (vLoad Try.prog false 3 v3 S4) (fun v4 S5 => andK (vBin Try.prog BinOp.add 3 v2 v4 S5) (fun v5 S6 => andK (vBin Try.prog BinOp.mul 3 v5 (Value.int IntKind.i64 256) S6) (fun v6 S7 => andK (vFieldAddr Try.prog 29 x1 2 S7) (fun v7 S8 => andK (vLoad Try.prog false 3 v7 S8) (fun v8 S9 => andK (vBin Try.prog BinOp.add 3 v6 v8 S9) (fun v9 S10 => some ([x0,x1,v9,x3,x4,x5,v0,v1,v2,v3,v4,v5,v6,v7,v8,dem v9], S10)) ()) ()) ()) ()) ()) ()) ()) ()) ()) ()) := by
  refine sD Try.f19 3 0 (fun v0 S1 => ?_)
  refine sD Try.f19 3 1 (fun v1 S2 => ?_)
  refine sD Try.f19 3 2 (fun v2 S3 => ?_)
  refine sD Try.f19 3 3 (fun v3 S4 => ?_)
  refine sD Try.f19 3 4 (fun v4 S5 => ?_)
  refine sD Try.f19 3 5 (fun v5 S6 => ?_)
  refine sD Try.f19 3 6 (fun v6 S7 => ?_)
  refine sD Try.f19 3 7 (fun v7 S8 => ?_)
  refine sD Try.f19 3 8 (fun v8 S9 => ?_)
  refine sD Try.f19 3 9 (fun v9 S10 => ?_)
  refine sP Try.f19 3 10 (v := v9) ?_
  kernel_rfl
theorem neaptideref07_Name.rs : type_of% (And.intro @neaptideref07_Name.r0 (And.intro @neaptideref07_Name.r1 (And.intro @neaptideref07_Name.r2 (@neaptideref07_Name.r3)))) := And.intro @neaptideref07_Name.r0 (And.intro @neaptideref07_Name.r1 (And.intro @neaptideref07_Name.r2 (@neaptideref07_Name.r3)))
theorem neaptideref07_Name.runs {x0 : Value} {S S1 : AHeap} {e : AEx} {T : List Value} (h : vcodeV Try.prog O false neaptideref07_Name.code ([x0,undef,undef,undef,undef,undef,undef,undef,undef,undef,undef,undef,undef,undef,undef,undef]) AHeap.empty = some (e, T, S1)) (he : e = .normal ∨ e = .ret) (hca : [x0].all (cleanN 16) = true) (hcv : cleanN 16 (T.getD 2 undef) = true) : vlim Try.prog O 19 [x0] S = some (T.getD 2 undef, S) :=
  vlim_pure rfl rfl Try.func19 (by decide) neaptideref07_Name.body (by exact h) he (vRes_one (a := T.getD 2 undef) ((show vResVals Try.prog T S1 Try.f19.results.toList = vResVals Try.prog T S1 [(ResultVar.tmp 2)] from by kernel_rfl).trans (by simp only [vResVals])) (by kernel_rfl)) hca hcv
end Go.Proofs.Ytgggklfbhmlapaa

namespace Go.Proofs.Ytgggklfbhmlapaa
open Go.Abs

/-- neaptide.block.between -/
abbrev block_between.id : FuncId := 26
noncomputable def block_between.code : Code := (Code.seq (Code.region 0 (reg Try.f26 0) false) (Code.seq (Code.region 1 (reg Try.f26 1) false) Code.ret))
theorem block_between.body : Try.f26.body = some block_between.code := by kernel_rfl
theorem block_between.eta {T : List Value} (h : T.length = 15) : T = [T.getD 0 undef,T.getD 1 undef,T.getD 2 undef,T.getD 3 undef,T.getD 4 undef,T.getD 5 undef,T.getD 6 undef,T.getD 7 undef,T.getD 8 undef,T.getD 9 undef,T.getD 10 undef,T.getD 11 undef,T.getD 12 undef,T.getD 13 undef,T.getD 14 undef] := (list_getD T 15 h).trans (by kernel_rfl)
variable (x0 x1 x2 x3 x4 x5 x6 x7 x8 x9 x10 x11 x12 x13 x14 : Value) (S : AHeap)
theorem block_between.r0  : vOps Try.prog ⟨false, false, false⟩ (vlim Try.prog O) (reg Try.f26 0) (reg Try.f26 0).toList ([x0,x1,x2,x3,x4,x5,x6,x7,x8,x9,x10,x11,x12,x13,x14]) S =
    ( some ([x0,x1,x2,x3,x4,x5,Value.bool false,x7,x8,x9,x10,x11,x12,x13,x14], S)) := by
  refine sP Try.f26 0 0 (v := (Value.bool false)) ?_
  kernel_rfl
theorem block_between.r1  : vOps Try.prog ⟨false, false, false⟩ (vlim Try.prog O) (reg Try.f26 1) (reg Try.f26 1).toList ([x0,x1,x2,x3,x4,x5,x6,x7,x8,x9,x10,x11,x12,x13,x14]) S =
    (andK (vBin Try.prog BinOp.geq 3 (dem x0) (dem x1) S) (fun v2 S1 => gdK (dem v2) true (ret x0) S1 (fun v4 S2 => gdK (dem v2) true (ret x2) S2 (fun v5 S3 => gdK (dem v2) true (vBin Try.prog BinOp.leq 3 (dem v4) (dem v5)) S3 (fun v6 S4 => andK (vPick (dem v2) v6 (Value.bool false) S4) (fun v7 S5 => some ([x0,x1,x2,x3,x4,x5,v7,dem x0,dem x1,v2,dem v2,dem v4,dem v5,v6,dem v7], S5)) ()) ()) ()) ()) ()) := by
  refine sP Try.f26 1 0 (v := x0) ?_
  refine sP Try.f26 1 1 (v := x1) ?_
  refine sD Try.f26 1 2 (fun v2 S1 => ?_)
  refine sP Try.f26 1 3 (v := v2) ?_
  refine sG Try.f26 1 4 (j := 3) (fun v4 S2 => ?_)
  refine sG Try.f26 1 5 (j := 3) (fun v5 S3 => ?_)
  refine sG Try.f26 1 6 (j := 3) (fun v6 S4 => ?_)
  refine sD Try.f26 1 7 (fun v7 S5 => ?_)
  refine sP Try.f26 1 8 (v := v7) ?_
  kernel_rfl
theorem block_between.rs : type_of% (And.intro @block_between.r0 (@block_between.r1)) := And.intro @block_between.r0 (@block_between.r1)
theorem block_between.runs {x0 x1 x2 : Value} {S S1 : AHeap} {e : AEx} {T : List Value} (h : vcodeV Try.prog O false block_between.code ([x0,x1,x2,undef,undef,undef,undef,undef,undef,undef,undef,undef,undef,undef,undef]) S = some (e, T, S1)) (he : e = .normal ∨ e = .ret) : vlim Try.prog O 26 [x0, x1, x2] S = some (T.getD 6 undef, S1) :=
  vlim_code rfl rfl Try.func26 (by decide) block_between.body (by exact h) he (vRes_one (a := T.getD 6 undef) ((show vResVals Try.prog T S1 Try.f26.results.toList = vResVals Try.prog T S1 [(ResultVar.tmp 6)] from by kernel_rfl).trans (by simp only [vResVals])) (by kernel_rfl))
end Go.Proofs.Ytgggklfbhmlapaa

namespace Go.Proofs.Ytgggklfbhmlapaa
open Go.Abs

/-- neaptide.block.named -/
abbrev block_named.id : FuncId := 25
noncomputable def block_named.code : Code := (Code.seq (Code.region 0 (reg Try.f25 0) false) (Code.seq (Code.region 1 (reg Try.f25 1) false) Code.ret))
theorem block_named.body : Try.f25.body = some block_named.code := by kernel_rfl
theorem block_named.eta {T : List Value} (h : T.length = 11) : T = [T.getD 0 undef,T.getD 1 undef,T.getD 2 undef,T.getD 3 undef,T.getD 4 undef,T.getD 5 undef,T.getD 6 undef,T.getD 7 undef,T.getD 8 undef,T.getD 9 undef,T.getD 10 undef] := (list_getD T 11 h).trans (by kernel_rfl)
variable (x0 x1 x2 x3 x4 x5 x6 x7 x8 x9 x10 : Value) (S : AHeap)
theorem block_named.r0  : vOps Try.prog ⟨false, false, false⟩ (vlim Try.prog O) (reg Try.f25 0) (reg Try.f25 0).toList ([x0,x1,x2,x3,x4,x5,x6,x7,x8,x9,x10]) S =
    ( some ([x0,x1,Value.bool false,x3,x4,x5,x6,x7,x8,x9,x10], S)) := by
  refine sP Try.f25 0 0 (v := (Value.bool false)) ?_
  kernel_rfl
theorem block_named.r1  : vOps Try.prog ⟨false, false, false⟩ (vlim Try.prog O) (reg Try.f25 1) (reg Try.f25 1).toList ([x0,x1,x2,x3,x4,x5,x6,x7,x8,x9,x10]) S =
    (andK ((vlim Try.prog O) 26 [(dem (dem x0)), (Value.int IntKind.i64 65536), (Value.int IntKind.i64 268435455)] S) (fun v1 S1 => gdK (dem v1) true (ret x0) S1 (fun v3 S2 => gdK (dem v1) true (vBin Try.prog BinOp.rem 3 (dem v3) (Value.int IntKind.i64 65536)) S2 (fun v4 S3 => gdK (dem v1) true (vBin Try.prog BinOp.quo 3 v4 (Value.int IntKind.i64 256)) S3 (fun v5 S4 => gdK (dem v1) true (vBin Try.prog BinOp.lss 3 v5 (Value.int IntKind.i64 7)) S4 (fun v6 S5 => andK (vPick (dem v1) v6 (Value.bool false) S5) (fun v7 S6 => some ([x0,x1,v7,dem x0,v1,dem v1,dem v3,v4,v5,v6,dem v7], S6)) ()) ()) ()) ()) ()) ()) := by
  refine sP Try.f25 1 0 (v := x0) ?_
  refine sD Try.f25 1 1 (fun v1 S1 => ?_)
  refine sP Try.f25 1 2 (v := v1) ?_
  refine sG Try.f25 1 3 (j := 2) (fun v3 S2 => ?_)
  refine sG Try.f25 1 4 (j := 2) (fun v4 S3 => ?_)
  refine sG Try.f25 1 5 (j := 2) (fun v5 S4 => ?_)
  refine sG Try.f25 1 6 (j := 2) (fun v6 S5 => ?_)
  refine sD Try.f25 1 7 (fun v7 S6 => ?_)
  refine sP Try.f25 1 8 (v := v7) ?_
  kernel_rfl
theorem block_named.rs : type_of% (And.intro @block_named.r0 (@block_named.r1)) := And.intro @block_named.r0 (@block_named.r1)
theorem block_named.runs {x0 : Value} {S S1 : AHeap} {e : AEx} {T : List Value} (h : vcodeV Try.prog O false block_named.code ([x0,undef,undef,undef,undef,undef,undef,undef,undef,undef,undef]) S = some (e, T, S1)) (he : e = .normal ∨ e = .ret) : vlim Try.prog O 25 [x0] S = some (T.getD 2 undef, S1) :=
  vlim_code rfl rfl Try.func25 (by decide) block_named.body (by exact h) he (vRes_one (a := T.getD 2 undef) ((show vResVals Try.prog T S1 Try.f25.results.toList = vResVals Try.prog T S1 [(ResultVar.tmp 2)] from by kernel_rfl).trans (by simp only [vResVals])) (by kernel_rfl))
end Go.Proofs.Ytgggklfbhmlapaa

namespace Go.Proofs.Ytgggklfbhmlapaa
open Go.Abs

/-- neaptide.block.Slot -/
abbrev block_Slot.id : FuncId := 12
noncomputable def block_Slot.code : Code := (Code.seq (Code.region 0 (reg Try.f12 0) false) (Code.seq (Code.seq (Code.region 1 (reg Try.f12 1) false) (Code.cond (Operand.tmp 5) (Code.seq (Code.region 2 (reg Try.f12 2) false) Code.ret) Code.skip)) (Code.seq (Code.region 3 (reg Try.f12 3) false) Code.ret)))
theorem block_Slot.body : Try.f12.body = some block_Slot.code := by kernel_rfl
theorem block_Slot.eta {T : List Value} (h : T.length = 8) : T = [T.getD 0 undef,T.getD 1 undef,T.getD 2 undef,T.getD 3 undef,T.getD 4 undef,T.getD 5 undef,T.getD 6 undef,T.getD 7 undef] := (list_getD T 8 h).trans (by kernel_rfl)
variable (x0 x1 x2 x3 x4 x5 x6 x7 : Value) (S : AHeap)
theorem block_Slot.r0  : vOps Try.prog ⟨false, false, false⟩ (vlim Try.prog O) (reg Try.f12 0) (reg Try.f12 0).toList ([x0,x1,x2,x3,x4,x5,x6,x7]) S =
    ( some ([x0,x1,Value.int IntKind.i64 0,x3,x4,x5,x6,x7], S)) := by
  refine sP Try.f12 0 0 (v := (Value.int IntKind.i64 0)) ?_
  kernel_rfl
theorem block_Slot.r1  : vOps Try.prog ⟨false, false, false⟩ (vlim Try.prog O) (reg Try.f12 1) (reg Try.f12 1).toList ([x0,x1,x2,x3,x4,x5,x6,x7]) S =
    (andK ((vlim Try.prog O) 25 [(dem (dem x0))] S) (fun v1 S1 => andK (aUn Try.prog UnOp.not v1 S1) (fun v2 S2 => some ([x0,x1,x2,dem x0,v1,v2,x6,x7], S2)) ()) ()) := by
  refine sP Try.f12 1 0 (v := x0) ?_
  refine sD Try.f12 1 1 (fun v1 S1 => ?_)
  refine sD Try.f12 1 2 (fun v2 S2 => ?_)
  kernel_rfl
theorem block_Slot.r2  : vOps Try.prog ⟨false, false, false⟩ (vlim Try.prog O) (reg Try.f12 2) (reg Try.f12 2).toList ([x0,x1,x2,x3,x4,x5,x6,x7]) S =
    ( some ([x0,x1,Value.int IntKind.i64 0,x3,x4,x5,x6,x7], S)) := by
  refine sP Try.f12 2 0 (v := (Value.int IntKind.i64 0)) ?_
  kernel_rfl
theorem block_Slot.r3  : vOps Try.prog ⟨false, false, false⟩ (vlim Try.prog O) (reg Try.f12 3) (reg Try.f12 3).toList ([x0,x1,x2,x3,x4,x5,x6,x7]) S =
    (andK (vBin Try.prog BinOp.quo 3 (dem x0) (Value.int IntKind.i64 65536) S) (fun v1 S1 => some ([x0,x1,v1,x3,x4,x5,dem x0,dem v1], S1)) ()) := by
  refine sP Try.f12 3 0 (v := x0) ?_
  refine sD Try.f12 3 1 (fun v1 S1 => ?_)
  refine sP Try.f12 3 2 (v := v1) ?_
  kernel_rfl
theorem block_Slot.rs : type_of% (And.intro @block_Slot.r0 (And.intro @block_Slot.r1 (And.intro @block_Slot.r2 (@block_Slot.r3)))) := And.intro @block_Slot.r0 (And.intro @block_Slot.r1 (And.intro @block_Slot.r2 (@block_Slot.r3)))
theorem block_Slot.runs {x0 : Value} {S S1 : AHeap} {e : AEx} {T : List Value} (h : vcodeV Try.prog O false block_Slot.code ([x0,undef,undef,undef,undef,undef,undef,undef]) S = some (e, T, S1)) (he : e = .normal ∨ e = .ret) : vlim Try.prog O 12 [x0] S = some (T.getD 2 undef, S1) :=
  vlim_code rfl rfl Try.func12 (by decide) block_Slot.body (by exact h) he (vRes_one (a := T.getD 2 undef) ((show vResVals Try.prog T S1 Try.f12.results.toList = vResVals Try.prog T S1 [(ResultVar.tmp 2)] from by kernel_rfl).trans (by simp only [vResVals])) (by kernel_rfl))
end Go.Proofs.Ytgggklfbhmlapaa

namespace Go.Proofs.Ytgggklfbhmlapaa
open Go.Abs

/-- neaptide.block.Miner -/
abbrev block_Miner.id : FuncId := 13
noncomputable def block_Miner.code : Code := (Code.seq (Code.region 0 (reg Try.f13 0) false) (Code.seq (Code.seq (Code.region 1 (reg Try.f13 1) false) (Code.cond (Operand.tmp 5) (Code.seq (Code.region 2 (reg Try.f13 2) false) Code.ret) Code.skip)) (Code.seq (Code.region 3 (reg Try.f13 3) false) Code.ret)))
theorem block_Miner.body : Try.f13.body = some block_Miner.code := by kernel_rfl
theorem block_Miner.eta {T : List Value} (h : T.length = 9) : T = [T.getD 0 undef,T.getD 1 undef,T.getD 2 undef,T.getD 3 undef,T.getD 4 undef,T.getD 5 undef,T.getD 6 undef,T.getD 7 undef,T.getD 8 undef] := (list_getD T 9 h).trans (by kernel_rfl)
variable (x0 x1 x2 x3 x4 x5 x6 x7 x8 : Value) (S : AHeap)
theorem block_Miner.r0  : vOps Try.prog ⟨false, false, false⟩ (vlim Try.prog O) (reg Try.f13 0) (reg Try.f13 0).toList ([x0,x1,x2,x3,x4,x5,x6,x7,x8]) S =
    ( some ([x0,x1,Value.int IntKind.i64 0,x3,x4,x5,x6,x7,x8], S)) := by
  refine sP Try.f13 0 0 (v := (Value.int IntKind.i64 0)) ?_
  kernel_rfl
theorem block_Miner.r1  : vOps Try.prog ⟨false, false, false⟩ (vlim Try.prog O) (reg Try.f13 1) (reg Try.f13 1).toList ([x0,x1,x2,x3,x4,x5,x6,x7,x8]) S =
    (andK ((vlim Try.prog O) 25 [(dem (dem x0))] S) (fun v1 S1 => andK (aUn Try.prog UnOp.not v1 S1) (fun v2 S2 => some ([x0,x1,x2,dem x0,v1,v2,x6,x7,x8], S2)) ()) ()) := by
  refine sP Try.f13 1 0 (v := x0) ?_
  refine sD Try.f13 1 1 (fun v1 S1 => ?_)
  refine sD Try.f13 1 2 (fun v2 S2 => ?_)
  kernel_rfl
theorem block_Miner.r2  : vOps Try.prog ⟨false, false, false⟩ (vlim Try.prog O) (reg Try.f13 2) (reg Try.f13 2).toList ([x0,x1,x2,x3,x4,x5,x6,x7,x8]) S =
    ( some ([x0,x1,Value.int IntKind.i64 0,x3,x4,x5,x6,x7,x8], S)) := by
  refine sP Try.f13 2 0 (v := (Value.int IntKind.i64 0)) ?_
  kernel_rfl
theorem block_Miner.r3  : vOps Try.prog ⟨false, false, false⟩ (vlim Try.prog O) (reg Try.f13 3) (reg Try.f13 3).toList ([x0,x1,x2,x3,x4,x5,x6,x7,x8]) S =
    (andK (vBin Try.prog BinOp.rem 3 (dem x0) (Value.int IntKind.i64 65536) S) (fun v1 S1 => andK (vBin Try.prog BinOp.quo 3 v1 (Value.int IntKind.i64 256) S1) (fun v2 S2 => some ([x0,x1,v2,x3,x4,x5,dem x0,v1,dem v2], S2)) ()) ()) := by
  refine sP Try.f13 3 0 (v := x0) ?_
  refine sD Try.f13 3 1 (fun v1 S1 => ?_)
  refine sD Try.f13 3 2 (fun v2 S2 => ?_)
  refine sP Try.f13 3 3 (v := v2) ?_
  kernel_rfl
theorem block_Miner.rs : type_of% (And.intro @block_Miner.r0 (And.intro @block_Miner.r1 (And.intro @block_Miner.r2 (@block_Miner.r3)))) := And.intro @block_Miner.r0 (And.intro @block_Miner.r1 (And.intro @block_Miner.r2 (@block_Miner.r3)))
theorem block_Miner.runs {x0 : Value} {S S1 : AHeap} {e : AEx} {T : List Value} (h : vcodeV Try.prog O false block_Miner.code ([x0,undef,undef,undef,undef,undef,undef,undef,undef]) S = some (e, T, S1)) (he : e = .normal ∨ e = .ret) : vlim Try.prog O 13 [x0] S = some (T.getD 2 undef, S1) :=
  vlim_code rfl rfl Try.func13 (by decide) block_Miner.body (by exact h) he (vRes_one (a := T.getD 2 undef) ((show vResVals Try.prog T S1 Try.f13.results.toList = vResVals Try.prog T S1 [(ResultVar.tmp 2)] from by kernel_rfl).trans (by simp only [vResVals])) (by kernel_rfl))
end Go.Proofs.Ytgggklfbhmlapaa

namespace Go.Proofs.Ytgggklfbhmlapaa
open Go.Abs

/-- neaptide.neaptideref07.Parts -/
abbrev neaptideref07_Parts.id : FuncId := 10
noncomputable def neaptideref07_Parts.code : Code := (Code.seq (Code.region 0 (reg Try.f10 0) false) (Code.seq (Code.seq (Code.region 1 (reg Try.f10 1) false) (Code.cond (Operand.tmp 10) (Code.seq (Code.region 2 (reg Try.f10 2) false) Code.ret) Code.skip)) (Code.seq (Code.region 3 (reg Try.f10 3) false) (Code.seq (Code.region 4 (reg Try.f10 4) false) Code.ret))))
theorem neaptideref07_Parts.body : Try.f10.body = some neaptideref07_Parts.code := by kernel_rfl
theorem neaptideref07_Parts.eta {T : List Value} (h : T.length = 31) : T = [T.getD 0 undef,T.getD 1 undef,T.getD 2 undef,T.getD 3 undef,T.getD 4 undef,T.getD 5 undef,T.getD 6 undef,T.getD 7 undef,T.getD 8 undef,T.getD 9 undef,T.getD 10 undef,T.getD 11 undef,T.getD 12 undef,T.getD 13 undef,T.getD 14 undef,T.getD 15 undef,T.getD 16 undef,T.getD 17 undef,T.getD 18 undef,T.getD 19 undef,T.getD 20 undef,T.getD 21 undef,T.getD 22 undef,T.getD 23 undef,T.getD 24 undef,T.getD 25 undef,T.getD 26 undef,T.getD 27 undef,T.getD 28 undef,T.getD 29 undef,T.getD 30 undef] := (list_getD T 31 h).trans (by kernel_rfl)
variable (x0 x1 x2 x3 x4 x5 x6 x7 x8 x9 x10 x11 x12 x13 x14 x15 x16 x17 x18 x19 x20 x21 x22 x23 x24 x25 x26 x27 x28 x29 x30 : Value) (S : AHeap)
theorem neaptideref07_Parts.r0  : vOps Try.prog ⟨false, false, false⟩ (vlim Try.prog O) (reg Try.f10 0) (reg Try.f10 0).toList ([x0,x1,x2,x3,x4,x5,x6,x7,x8,x9,x10,x11,x12,x13,x14,x15,x16,x17,x18,x19,x20,x21,x22,x23,x24,x25,x26,x27,x28,x29,x30]) S =
    ( some ([x0,x1,Value.int IntKind.i64 0,Value.int IntKind.i64 0,Value.int IntKind.i64 0,Value.bool false,x6,x7,x8,x9,x10,x11,x12,x13,x14,x15,x16,x17,x18,x19,x20,x21,x22,x23,x24,x25,x26,x27,x28,x29,x30], S)) := by
  refine sP Try.f10 0 0 (v := (Value.int IntKind.i64 0)) ?_
  refine sP Try.f10 0 1 (v := (Value.int IntKind.i64 0)) ?_
  refine sP Try.f10 0 2 (v := (Value.int IntKind.i64 0)) ?_
  refine sP Try.f10 0 3 (v := (Value.bool false)) ?_
  kernel_rfl
theorem neaptideref07_Parts.r1  : vOps Try.prog ⟨false, false, false⟩ (vlim Try.prog O) (reg Try.f10 1) (reg Try.f10 1).toList ([x0,x1,x2,x3,x4,x5,x6,x7,x8,x9,x10,x11,x12,x13,x14,x15,x16,x17,x18,x19,x20,x21,x22,x23,x24,x25,x26,x27,x28,x29,x30]) S =
    (andK (vBin Try.prog BinOp.lss 3 (dem x0) (Value.int IntKind.i64 0) S) (fun v1 S1 => some ([x0,x1,x2,x3,x4,x5,x6,x7,x8,dem x0,v1,x11,x12,x13,x14,x15,x16,x17,x18,x19,x20,x21,x22,x23,x24,x25,x26,x27,x28,x29,x30], S1)) ()) := by
  refine sP Try.f10 1 0 (v := x0) ?_
  refine sD Try.f10 1 1 (fun v1 S1 => ?_)
  kernel_rfl
theorem neaptideref07_Parts.r2  : vOps Try.prog ⟨false, false, false⟩ (vlim Try.prog O) (reg Try.f10 2) (reg Try.f10 2).toList ([x0,x1,x2,x3,x4,x5,x6,x7,x8,x9,x10,x11,x12,x13,x14,x15,x16,x17,x18,x19,x20,x21,x22,x23,x24,x25,x26,x27,x28,x29,x30]) S =
    ( some ([x0,x1,Value.int IntKind.i64 0,Value.int IntKind.i64 0,Value.int IntKind.i64 0,Value.bool false,x6,x7,x8,x9,x10,x11,x12,x13,x14,x15,x16,x17,x18,x19,x20,x21,x22,x23,x24,x25,x26,x27,x28,x29,x30], S)) := by
  refine sP Try.f10 2 0 (v := (Value.int IntKind.i64 0)) ?_
  refine sP Try.f10 2 1 (v := (Value.int IntKind.i64 0)) ?_
  refine sP Try.f10 2 2 (v := (Value.int IntKind.i64 0)) ?_
  refine sP Try.f10 2 3 (v := (Value.bool false)) ?_
  kernel_rfl
theorem neaptideref07_Parts.r3  : vOps Try.prog ⟨false, false, false⟩ (vlim Try.prog O) (reg Try.f10 3) (reg Try.f10 3).toList ([x0,x1,x2,x3,x4,x5,x6,x7,x8,x9,x10,x11,x12,x13,x14,x15,x16,x17,x18,x19,x20,x21,x22,x23,x24,x25,x26,x27,x28,x29,x30]) S =
    (andK (vBin Try.prog BinOp.quo 3 (dem x0) (Value.int IntKind.i64 65536) S) (fun v1 S1 => andK (vBin Try.prog BinOp.quo 3 (dem x0) (Value.int IntKind.i64 256) S1) (fun v3 S2 => andK (vBin Try.prog BinOp.rem 3 v3 (Value.int IntKind.i64 256) S2) (fun v4 S3 => andK (vBin Try.prog BinOp.rem 3 (dem x0) (Value.int IntKind.i64 256) S3) (fun v6 S4 => some ([x0,x1,x2,x3,x4,x5,v1,v4,v6,x9,x10,dem x0,dem v1,dem x0,v3,dem v4,dem x0,dem v6,x18,x19,x20,x21,x22,x23,x24,x25,x26,x27,x28,x29,x30], S4)) ()) ()) ()) ()) := by
  refine sP Try.f10 3 0 (v := x0) ?_
  refine sD Try.f10 3 1 (fun v1 S1 => ?_)
  refine sP Try.f10 3 2 (v := x0) ?_
  refine sD Try.f10 3 3 (fun v3 S2 => ?_)
  refine sD Try.f10 3 4 (fun v4 S3 => ?_)
  refine sP Try.f10 3 5 (v := x0) ?_
  refine sD Try.f10 3 6 (fun v6 S4 => ?_)
  refine sP Try.f10 3 7 (v := v1) ?_
  refine sP Try.f10 3 8 (v := v4) ?_
  refine sP Try.f10 3 9 (v := v6) ?_
  kernel_rfl
theorem neaptideref07_Parts.r4  : vOps Try.prog ⟨false, false, false⟩ (vlim Try.prog O) (reg Try.f10 4) (reg Try.f10 4).toList ([x0,x1,x2,x3,x4,x5,x6,x7,x8,x9,x10,x11,x12,x13,x14,x15,x16,x17,x18,x19,x20,x21,x22,x23,x24,x25,x26,x27,x28,x29,x30]) S =
    (andK (vBin Try.prog BinOp.geq 3 (dem (dem x6)) (Value.int IntKind.i64 1) S) (fun v4 S1 => gdK (dem v4) true (ret (dem x6)) S1 (fun v6 S2 => gdK (dem v4) true (vBin Try.prog BinOp.leq 3 (dem v6) (Value.int IntKind.i64 4095)) S2 (fun v7 S3 => andK (vPick (dem v4) v7 (Value.bool false) S3) (fun v8 S4 => gdK (dem v8) true (ret (dem x7)) S4 (fun v10 S5 => gdK (dem v8) true (vBin Try.prog BinOp.leq 3 (dem v10) (Value.int IntKind.i64 6)) S5 (fun v11 S6 => andK (vPick (dem v8) v11 (Value.bool false) S6) (fun v12 S7 => some ([x0,x1,x6,x7,x8,v12,dem x6,dem x7,dem x8,x9,x10,x11,x12,x13,x14,x15,x16,x17,dem x6,dem x7,dem x8,dem (dem x6),v4,dem v4,dem v6,v7,v8,dem v8,dem v10,v11,dem v12], S7)) ()) ()) ()) ()) ()) ()) ()) := by
  refine sP Try.f10 4 0 (v := x6) ?_
  refine sP Try.f10 4 1 (v := x7) ?_
  refine sP Try.f10 4 2 (v := x8) ?_
  refine sP Try.f10 4 3 (v := (dem x6)) ?_
  refine sD Try.f10 4 4 (fun v4 S1 => ?_)
  refine sP Try.f10 4 5 (v := v4) ?_
  refine sG Try.f10 4 6 (j := 5) (fun v6 S2 => ?_)
  refine sG Try.f10 4 7 (j := 5) (fun v7 S3 => ?_)
  refine sD Try.f10 4 8 (fun v8 S4 => ?_)
  refine sP Try.f10 4 9 (v := v8) ?_
  refine sG Try.f10 4 10 (j := 9) (fun v10 S5 => ?_)
  refine sG Try.f10 4 11 (j := 9) (fun v11 S6 => ?_)
  refine sD Try.f10 4 12 (fun v12 S7 => ?_)
  refine sP Try.f10 4 13 (v := x6) ?_
  refine sP Try.f10 4 14 (v := x7) ?_
  refine sP Try.f10 4 15 (v := x8) ?_
  refine sP Try.f10 4 16 (v := v12) ?_
  kernel_rfl
theorem neaptideref07_Parts.rs : type_of% (And.intro @neaptideref07_Parts.r0 (And.intro @neaptideref07_Parts.r1 (And.intro @neaptideref07_Parts.r2 (And.intro @neaptideref07_Parts.r3 (@neaptideref07_Parts.r4))))) := And.intro @neaptideref07_Parts.r0 (And.intro @neaptideref07_Parts.r1 (And.intro @neaptideref07_Parts.r2 (And.intro @neaptideref07_Parts.r3 (@neaptideref07_Parts.r4))))
theorem neaptideref07_Parts.runs {x0 : Value} {S S1 : AHeap} {e : AEx} {T : List Value} (h : vcodeV Try.prog O false neaptideref07_Parts.code ([x0,undef,undef,undef,undef,undef,undef,undef,undef,undef,undef,undef,undef,undef,undef,undef,undef,undef,undef,undef,undef,undef,undef,undef,undef,undef,undef,undef,undef,undef,undef]) S = some (e, T, S1)) (he : e = .normal ∨ e = .ret)  (h0 : notTuple (T.getD 2 undef) = true) (h1 : notTuple (T.getD 3 undef) = true) (h2 : notTuple (T.getD 4 undef) = true) (h3 : notTuple (T.getD 5 undef) = true) : vlim Try.prog O 10 [x0] S = some (Value.tuple #[T.getD 2 undef, T.getD 3 undef, T.getD 4 undef, T.getD 5 undef], S1) :=
  vlim_code rfl rfl Try.func10 (by decide) neaptideref07_Parts.body (by exact h) he ((vRes_many ((show vResVals Try.prog T S1 Try.f10.results.toList = vResVals Try.prog T S1 [(ResultVar.tmp 2), (ResultVar.tmp 3), (ResultVar.tmp 4), (ResultVar.tmp 5)] from by kernel_rfl).trans (by simp only [vResVals])) (by kernel_rfl) (by simp only [List.all_cons, List.all_nil, h0, h1, h2, h3, Bool.and_true])).trans rfl)
end Go.Proofs.Ytgggklfbhmlapaa

namespace Go.Proofs.Ytgggklfbhmlapaa
open Go.Abs

theorem bz0 (S : AHeap) : vBuildSlice Try.prog 53 0 [] S = some (iz 2 [], S) := by rw [bs_L_int_0]; rfl
theorem iz2_1 (x : Int) : sv 2 1 1 [.int .i64 x] = iz 2 [x] := rfl
theorem iz_more {k : Nat} {l : List Int} {x : Int} {S : AHeap} (h : Okl k l) (hk : k ≠ 1) (hl : l.length ≤ 17592186044000) : vAppend Try.prog 53 53 (iz k l) (iz 2 [x]) S = some (iz 2 (l ++ [x]), S) := by
  rw [iz_append h hk Okl.own (by simp; omega), if_neg (fun h => by have := h.2; simp at this)]
end Go.Proofs.Ytgggklfbhmlapaa

namespace Go.Abs
open Go.RowKit

theorem in_slc {b : Nat} {e : Ty} {α : Type} (f : α → List Value) (Q : α → Prop) (h : ∀ x, e.Good x → ∃ y, e.vval x = f y ∧ Q y) (hf : ∀ y, (f y).length = e.sz) (x : (Ty.slc b e).Val) (hg : (Ty.slc b e).Good x) :
    ∃ k l, Okl k l ∧ k ≠ 2 ∧ (Ty.slc b e).vval x = [vs f e.sz k l] ∧ l.length * b ≤ 140737488351232 ∧ ∀ y ∈ l, Q y := by
  match x, hg with
  | none, _ => exact ⟨0, [], Okl.none, by decide, rfl, by simp, fun y hy => by cases hy⟩
  | some xs, hg =>
    obtain ⟨h1, h2, h3⟩ := hg
    have key : ∀ xs : List e.Val, (∀ n ∈ xs, e.Good n) → ∃ l : List α, xs.flatMap e.vval = l.flatMap f ∧ l.length = xs.length ∧ ∀ y ∈ l, Q y := by
      intro xs
      induction xs with
      | nil => intro _; exact ⟨[], rfl, rfl, fun y hy => by cases hy⟩
      | cons n xs ih =>
        intro hn
        obtain ⟨y, hy, hq⟩ := h n (hn n (by simp))
        obtain ⟨l, k1, k2, k3⟩ := ih (fun m hm => hn m (by simp [hm]))
        refine ⟨y :: l, by rw [List.flatMap_cons, List.flatMap_cons, hy, k1], by simp [k2], fun z hz => ?_⟩
        rcases List.mem_cons.1 hz with rfl | hz
        · exact hq
        · exact k3 z hz
    obtain ⟨l, k1, k2, k3⟩ := key xs h3
    refine ⟨1, l, Okl.read, by decide, ?_, by rw [k2]; exact h1, k3⟩
    show [SL 1 e.sz (List.length xs) (List.flatMap e.vval xs)] = [_]
    unfold vs
    rw [sv1, k1, k2]

theorem splice_all {cs xs : List Value} (h : cs.length = xs.length) : splice cs 0 xs = xs := by
  unfold splice
  rw [List.take_zero, List.nil_append, Nat.zero_add, ← h, List.drop_length, List.append_nil]
theorem one_sv {k e n : Nat} {cs : List Value} : (sv k e n cs).oneCell' = true := by unfold sv; split <;> rfl
theorem one_vs {α : Type} {f : α → List Value} {e k : Nat} {l : List α} : (vs f e k l).oneCell' = true := one_sv
theorem one_int {k : IntKind} {n : Int} : (Value.int k n).oneCell' = true := rfl
theorem one_bool {b : Bool} : (Value.bool b).oneCell' = true := rfl
theorem one_string {s : ByteArray} : (Value.string s).oneCell' = true := rfl
theorem one_slice {a : Option Addr} {n c : Nat} : (Value.slice a n c).oneCell' = true := rfl
theorem one_pointer {a : Option Addr} : (Value.pointer a).oneCell' = true := rfl
/-- A new object is filled. -/
theorem new_store {P : Program} {t : TypeId} {z xs : List Value} {x : Value} (S : AHeap) (hx : x.cells.toList = xs) (hs : szOf P t = some z.length) (hl : xs.length = z.length) (h1 : xs.all (·.oneCell') = true) :
    ∃ S2, vStore P t (.pointer (some ⟨S.next, 0, none⟩)) x (S.push (.cells z (.own []) 0)) = some (undef, S2) ∧ S2.get S.next = some (.cells xs (.own []) 0) ∧ Ext S S2 ∧ S.next < S2.next := by
  have hg : (S.push (.cells z (.own []) 0)).get S.next = some (.cells z (.own []) 0) := by rw [AHeap.get_push, if_pos rfl]
  refine ⟨_, store_mem hg hs (by rw [← Array.length_toList, hx, hl]) (by rw [hx]; exact h1) (by simp), ?_, (Ext.push S _).set (Nat.le_refl _) _, by simp [AHeap.kills]⟩
  rw [AHeap.get_set, if_pos rfl, hx, splice_all hl.symm]
/-- An object gets other cells. -/
theorem mem_store {P : Program} {t : TypeId} {q o n : Nat} {cs : List Value} {e : Nat} {x : Value} {S S0 : AHeap} (hg : S.get q = some (.cells cs (.own []) e)) (hs : szOf P t = some n) (hn : x.cells.size = n) (h1 : x.cells.toList.all (·.oneCell') = true) (hle : o + n ≤ cs.length) (hE : Ext S0 S) (hq : S0.next ≤ q) :
    ∃ S2, vStore P t (.pointer (some ⟨q, o, none⟩)) x S = some (undef, S2) ∧ S2.get q = some (.cells (splice cs o x.cells.toList) (.own []) e) ∧ Ext S0 S2 ∧ S2.next = S.next ∧ ∀ k, k ≠ q → S2.get k = S.get k := by
  exact ⟨_, store_mem hg hs hn h1 hle, by rw [AHeap.get_set, if_pos rfl], hE.set hq _, by simp [AHeap.kills], fun k hk => by rw [AHeap.get_set, if_neg hk]; rfl⟩
/-- A boxed value. -/
theorem box_at (x : Value) (S : AHeap) : ∃ S2, aBox x S = some (.pointer (some ⟨S.next, 0, none⟩), S2) ∧ S2.get S.next = some (.cells x.cells.toList (.own []) 0) ∧ Ext S S2 ∧ S.next < S2.next :=
  ⟨_, rfl, by rw [AHeap.get_push, if_pos rfl], Ext.push _ _, by simp⟩
end Go.Abs

namespace Go.Proofs.Ytgggklfbhmlapaa
open Go.Abs

def btw (n a b : Int) : Bool := decide (a ≤ n) && decide (n ≤ b)
theorem btw_iff {n a b : Int} : btw n a b = true ↔ a ≤ n ∧ n ≤ b := by simp [btw]
def namedB (n : Int) : Bool := btw n 65536 268435455 && decide (n % 65536 / 256 < 7)
theorem named_iff {n : Int} : namedB n = true ↔ 65536 ≤ n ∧ n ≤ 268435455 ∧ n % 65536 / 256 < 7 := by simp [namedB, btw, and_assoc]
def slotOf (n : Int) : Int := if namedB n = true then n / 65536 else 0
def minerOf (n : Int) : Int := if namedB n = true then n % 65536 / 256 else 0
theorem tmod_pos {n m : Int} (h : 0 ≤ n) : n.tmod m = n % m := Int.tmod_eq_emod_of_nonneg h
theorem tdiv_pos {n m : Int} (h : 0 ≤ n) : n.tdiv m = n / m := Int.tdiv_eq_ediv_of_nonneg h
theorem d65536 : (65536 : Int) ≠ 0 := by decide
theorem d256 : (256 : Int) ≠ 0 := by decide
theorem block_between.v (n a b : Int) (S : AHeap) : vlim Try.prog O block_between.id [.int .i64 n, .int .i64 a, .int .i64 b] S = some (.bool (btw n a b), S) := by
  obtain ⟨T, hTe⟩ : ∃ T, T = (.int .i64 n :: .int .i64 a :: .int .i64 b :: undef :: undef :: undef :: undef :: undef :: undef :: undef :: undef :: undef :: undef :: undef :: undef :: []) := ⟨_, rfl⟩
  have hr : vcodeV Try.prog O false block_between.code T S = vcodeV Try.prog O false block_between.code T S := rfl
  unfold btw
  by_cases h1 : a ≤ n
  · conv at hr =>
      rhs
      rw [hTe]
      simp only [block_between.code, block_between.rs, wk, List.getD_cons_succ, List.getD_cons_zero, if_true, if_false, List.getElem?_cons_succ, List.getElem?_cons_zero, Option.map_some, eq_self, reduceIte, Nat.reduceEqDiff, Int.reduceEq, Int.reduceLT, Int.reduceLE, decide_eq_true h1]
    rw [decide_eq_true h1, Bool.true_and]
    rw [hTe] at hr
    exact block_between.runs hr (.inr rfl)
  · conv at hr =>
      rhs
      rw [hTe]
      simp only [block_between.code, block_between.rs, wk, List.getD_cons_succ, List.getD_cons_zero, if_true, if_false, List.getElem?_cons_succ, List.getElem?_cons_zero, Option.map_some, eq_self, reduceIte, Nat.reduceEqDiff, Int.reduceEq, Int.reduceLT, Int.reduceLE, decide_eq_false h1]
    rw [decide_eq_false h1, Bool.false_and]
    rw [hTe] at hr
    exact block_between.runs hr (.inr rfl)
theorem block_named.v (n : Int) (S : AHeap) : vlim Try.prog O block_named.id [.int .i64 n] S = some (.bool (namedB n), S) := by
  obtain ⟨T, hTe⟩ : ∃ T, T = (.int .i64 n :: undef :: undef :: undef :: undef :: undef :: undef :: undef :: undef :: undef :: undef :: []) := ⟨_, rfl⟩
  have hr : vcodeV Try.prog O false block_named.code T S = vcodeV Try.prog O false block_named.code T S := rfl
  unfold namedB
  cases h1 : btw n 65536 268435455
  · conv at hr =>
      rhs
      rw [hTe]
      simp only [block_named.code, block_named.rs, wk, List.getD_cons_succ, List.getD_cons_zero, if_true, if_false, List.getElem?_cons_succ, List.getElem?_cons_zero, Option.map_some, eq_self, reduceIte, Nat.reduceEqDiff, Int.reduceEq, Int.reduceLT, Int.reduceLE, block_between.v, h1]
    rw [hTe] at hr
    exact block_named.runs hr (.inr rfl)
  · have hb := btw_iff.mp h1
    have q1 : IntKind.i64.wrap ((n.tmod 65536).tdiv 256) = n % 65536 / 256 := by
      rw [tmod_pos (by omega), tdiv_pos (by omega), wrap_i64 (by omega) (by omega)]
    conv at hr =>
      rhs
      rw [hTe]
      simp only [block_named.code, block_named.rs, wk, List.getD_cons_succ, List.getD_cons_zero, if_true, if_false, List.getElem?_cons_succ, List.getElem?_cons_zero, Option.map_some, eq_self, reduceIte, Nat.reduceEqDiff, Int.reduceEq, Int.reduceLT, Int.reduceLE, block_between.v, h1, aBin_rem _ _ _ d65536, aBin_quo _ _ _ d256, q1]
    rw [hTe] at hr
    rw [Bool.true_and]
    exact block_named.runs hr (.inr rfl)
theorem block_Slot.v (n : Int) (S : AHeap) : vlim Try.prog O block_Slot.id [.int .i64 n] S = some (.int .i64 (slotOf n), S) := by
  obtain ⟨T, hTe⟩ : ∃ T, T = (.int .i64 n :: undef :: undef :: undef :: undef :: undef :: undef :: undef :: []) := ⟨_, rfl⟩
  have hr : vcodeV Try.prog O false block_Slot.code T S = vcodeV Try.prog O false block_Slot.code T S := rfl
  unfold slotOf
  cases h1 : namedB n
  · conv at hr =>
      rhs
      rw [hTe]
      simp only [block_Slot.code, block_Slot.rs, wk, List.getD_cons_succ, List.getD_cons_zero, if_true, if_false, List.getElem?_cons_succ, List.getElem?_cons_zero, Option.map_some, eq_self, reduceIte, Nat.reduceEqDiff, Int.reduceEq, Int.reduceLT, Int.reduceLE, block_named.v, h1]
    rw [hTe] at hr
    exact block_Slot.runs hr (.inr rfl)
  · have hb := named_iff.mp h1
    have q1 : IntKind.i64.wrap (n.tdiv 65536) = n / 65536 := by
      rw [tdiv_pos (by omega), wrap_i64 (by omega) (by omega)]
    conv at hr =>
      rhs
      rw [hTe]
      simp only [block_Slot.code, block_Slot.rs, wk, List.getD_cons_succ, List.getD_cons_zero, if_true, if_false, List.getElem?_cons_succ, List.getElem?_cons_zero, Option.map_some, eq_self, reduceIte, Nat.reduceEqDiff, Int.reduceEq, Int.reduceLT, Int.reduceLE, block_named.v, h1, aBin_quo _ _ _ d65536, q1]
    rw [hTe] at hr
    exact block_Slot.runs hr (.inr rfl)
theorem block_Miner.v (n : Int) (S : AHeap) : vlim Try.prog O block_Miner.id [.int .i64 n] S = some (.int .i64 (minerOf n), S) := by
  obtain ⟨T, hTe⟩ : ∃ T, T = (.int .i64 n :: undef :: undef :: undef :: undef :: undef :: undef :: undef :: undef :: []) := ⟨_, rfl⟩
  have hr : vcodeV Try.prog O false block_Miner.code T S = vcodeV Try.prog O false block_Miner.code T S := rfl
  unfold minerOf
  cases h1 : namedB n
  · conv at hr =>
      rhs
      rw [hTe]
      simp only [block_Miner.code, block_Miner.rs, wk, List.getD_cons_succ, List.getD_cons_zero, if_true, if_false, List.getElem?_cons_succ, List.getElem?_cons_zero, Option.map_some, eq_self, reduceIte, Nat.reduceEqDiff, Int.reduceEq, Int.reduceLT, Int.reduceLE, block_named.v, h1]
    rw [hTe] at hr
    exact block_Miner.runs hr (.inr rfl)
  · have hb := named_iff.mp h1
    have q1 : IntKind.i64.wrap ((n.tmod 65536).tdiv 256) = n % 65536 / 256 := by
      rw [tmod_pos (by omega), tdiv_pos (by omega), wrap_i64 (by omega) (by omega)]
    conv at hr =>
      rhs
      rw [hTe]
      simp only [block_Miner.code, block_Miner.rs, wk, List.getD_cons_succ, List.getD_cons_zero, if_true, if_false, List.getElem?_cons_succ, List.getElem?_cons_zero, Option.map_some, eq_self, reduceIte, Nat.reduceEqDiff, Int.reduceEq, Int.reduceLT, Int.reduceLE, block_named.v, h1, aBin_rem _ _ _ d65536, aBin_quo _ _ _ d256, q1]
    rw [hTe] at hr
    exact block_Miner.runs hr (.inr rfl)
/-- What Parts answers. -/
def partsV (n : Int) : Value := if n < 0 then .tuple #[.int .i64 0, .int .i64 0, .int .i64 0, .bool false] else .tuple #[.int .i64 (n / 65536), .int .i64 (n / 256 % 256), .int .i64 (n % 256), .bool (namedB n)]
theorem neaptideref07_Parts.v (n : Int) (hn : n < 9223372036854775808) (S : AHeap) : vlim Try.prog O neaptideref07_Parts.id [.int .i64 n] S = some (partsV n, S) := by
  obtain ⟨T, hTe⟩ : ∃ T, T = (.int .i64 n :: undef :: undef :: undef :: undef :: undef :: undef :: undef :: undef :: undef :: undef :: undef :: undef :: undef :: undef :: undef :: undef :: undef :: undef :: undef :: undef :: undef :: undef :: undef :: undef :: undef :: undef :: undef :: undef :: undef :: undef :: []) := ⟨_, rfl⟩
  have hr : vcodeV Try.prog O false neaptideref07_Parts.code T S = vcodeV Try.prog O false neaptideref07_Parts.code T S := rfl
  unfold partsV
  by_cases h0 : n < 0
  · conv at hr =>
      rhs
      rw [hTe]
      simp only [neaptideref07_Parts.code, neaptideref07_Parts.rs, wk, List.getD_cons_succ, List.getD_cons_zero, if_true, if_false, List.getElem?_cons_succ, List.getElem?_cons_zero, Option.map_some, eq_self, reduceIte, Nat.reduceEqDiff, Int.reduceEq, Int.reduceLT, Int.reduceLE, decide_eq_true h0]
    rw [hTe] at hr
    rw [if_pos h0]
    exact neaptideref07_Parts.runs hr (.inr rfl) rfl rfl rfl rfl
  · have q1 : IntKind.i64.wrap (n.tdiv 65536) = n / 65536 := by
      rw [tdiv_pos (by omega), wrap_i64 (by omega) (by omega)]
    have q2 : (IntKind.i64.wrap (n.tdiv 256)).tmod 256 = n / 256 % 256 := by
      rw [tdiv_pos (by omega), wrap_i64 (by omega) (by omega), tmod_pos (by omega)]
    have q3 : n.tmod 256 = n % 256 := tmod_pos (by omega)
    rw [if_neg h0]
    by_cases h1 : 1 ≤ n / 65536
    · by_cases h2 : n / 65536 ≤ 4095
      · have e : namedB n = decide (n / 256 % 256 ≤ 6) := by
          rw [Bool.eq_iff_iff, named_iff]; simp; omega
        rw [e]
        conv at hr =>
          rhs
          rw [hTe]
          simp only [neaptideref07_Parts.code, neaptideref07_Parts.rs, wk, List.getD_cons_succ, List.getD_cons_zero, if_true, if_false, List.getElem?_cons_succ, List.getElem?_cons_zero, Option.map_some, eq_self, reduceIte, Nat.reduceEqDiff, Int.reduceEq, Int.reduceLT, Int.reduceLE, decide_eq_false h0, aBin_rem _ _ _ d256, aBin_quo _ _ _ d256, aBin_quo _ _ _ d65536, q1, q2, q3, decide_eq_true h1, decide_eq_true h2]
        rw [hTe] at hr
        exact neaptideref07_Parts.runs hr (.inr rfl) rfl rfl rfl rfl
      · have e : namedB n = false := by
          cases h : namedB n with
          | false => rfl
          | true => have := named_iff.mp h; omega
        rw [e]
        conv at hr =>
          rhs
          rw [hTe]
          simp only [neaptideref07_Parts.code, neaptideref07_Parts.rs, wk, List.getD_cons_succ, List.getD_cons_zero, if_true, if_false, List.getElem?_cons_succ, List.getElem?_cons_zero, Option.map_some, eq_self, reduceIte, Nat.reduceEqDiff, Int.reduceEq, Int.reduceLT, Int.reduceLE, decide_eq_false h0, aBin_rem _ _ _ d256, aBin_quo _ _ _ d256, aBin_quo _ _ _ d65536, q1, q2, q3, decide_eq_true h1, decide_eq_false h2]
        rw [hTe] at hr
        exact neaptideref07_Parts.runs hr (.inr rfl) rfl rfl rfl rfl
    · have e : namedB n = false := by
        cases h : namedB n with
        | false => rfl
        | true => have := named_iff.mp h; omega
      rw [e]
      conv at hr =>
        rhs
        rw [hTe]
        simp only [neaptideref07_Parts.code, neaptideref07_Parts.rs, wk, List.getD_cons_succ, List.getD_cons_zero, if_true, if_false, List.getElem?_cons_succ, List.getElem?_cons_zero, Option.map_some, eq_self, reduceIte, Nat.reduceEqDiff, Int.reduceEq, Int.reduceLT, Int.reduceLE, decide_eq_false h0, aBin_rem _ _ _ d256, aBin_quo _ _ _ d256, aBin_quo _ _ _ d65536, q1, q2, q3, decide_eq_false h1]
      rw [hTe] at hr
      exact neaptideref07_Parts.runs hr (.inr rfl) rfl rfl rfl rfl
end Go.Proofs.Ytgggklfbhmlapaa

namespace Go.Proofs.Ytgggklfbhmlapaa
open Go.Abs

/-- neaptide.tx.ReadList -/
abbrev tx_ReadList.id : FuncId := 34
noncomputable def tx_ReadList.loop1 : Code := (Code.seq (Code.region 6 (reg Try.f34 6) false) (Code.seq (Code.cond (Operand.tmp 35) Code.skip (Code.exit 0)) (Code.seq (Code.block 1 (Code.seq (Code.region 7 (reg Try.f34 7) false) (Code.seq (Code.seq (Code.region 8 (reg Try.f34 8) false) (Code.cond (Operand.tmp 43) (Code.seq (Code.region 9 (reg Try.f34 9) false) Code.ret) Code.skip)) (Code.seq (Code.region 10 (reg Try.f34 10) false) (Code.region 11 (reg Try.f34 11) false))))) (Code.region 12 (reg Try.f34 12) false))))
noncomputable def tx_ReadList.code : Code := (Code.seq (Code.region 0 (reg Try.f34 0) false) (Code.seq (Code.region 1 (reg Try.f34 1) false) (Code.seq (Code.seq (Code.region 2 (reg Try.f34 2) false) (Code.cond (Operand.tmp 30) (Code.seq (Code.region 3 (reg Try.f34 3) false) Code.ret) Code.skip)) (Code.seq (Code.region 4 (reg Try.f34 4) false) (Code.seq (Code.seq (Code.region 5 (reg Try.f34 5) false) (Code.block 0 (Code.loop tx_ReadList.loop1))) (Code.seq (Code.seq (Code.region 13 (reg Try.f34 13) false) (Code.cond (Operand.tmp 57) (Code.seq (Code.region 14 (reg Try.f34 14) false) Code.ret) Code.skip)) (Code.seq (Code.region 15 (reg Try.f34 15) false) Code.ret)))))))
theorem tx_ReadList.body : Try.f34.body = some tx_ReadList.code := by kernel_rfl
theorem tx_ReadList.eta {T : List Value} (h : T.length = 59) : T = [T.getD 0 undef,T.getD 1 undef,T.getD 2 undef,T.getD 3 undef,T.getD 4 undef,T.getD 5 undef,T.getD 6 undef,T.getD 7 undef,T.getD 8 undef,T.getD 9 undef,T.getD 10 undef,T.getD 11 undef,T.getD 12 undef,T.getD 13 undef,T.getD 14 undef,T.getD 15 undef,T.getD 16 undef,T.getD 17 undef,T.getD 18 undef,T.getD 19 undef,T.getD 20 undef,T.getD 21 undef,T.getD 22 undef,T.getD 23 undef,T.getD 24 undef,T.getD 25 undef,T.getD 26 undef,T.getD 27 undef,T.getD 28 undef,T.getD 29 undef,T.getD 30 undef,T.getD 31 undef,T.getD 32 undef,T.getD 33 undef,T.getD 34 undef,T.getD 35 undef,T.getD 36 undef,T.getD 37 undef,T.getD 38 undef,T.getD 39 undef,T.getD 40 undef,T.getD 41 undef,T.getD 42 undef,T.getD 43 undef,T.getD 44 undef,T.getD 45 undef,T.getD 46 undef,T.getD 47 undef,T.getD 48 undef,T.getD 49 undef,T.getD 50 undef,T.getD 51 undef,T.getD 52 undef,T.getD 53 undef,T.getD 54 undef,T.getD 55 undef,T.getD 56 undef,T.getD 57 undef,T.getD 58 undef] := (list_getD T 59 h).trans (by kernel_rfl)
theorem tx_ReadList.list {T : List Value} (h : T.length = 59) : ∃ x0 x1 x2 x3 x4 x5 x6 x7 x8 x9 x10 x11 x12 x13 x14 x15 x16 x17 x18 x19 x20 x21 x22 x23 x24 x25 x26 x27 x28 x29 x30 x31 x32 x33 x34 x35 x36 x37 x38 x39 x40 x41 x42 x43 x44 x45 x46 x47 x48 x49 x50 x51 x52 x53 x54 x55 x56 x57 x58, T = [x0,x1,x2,x3,x4,x5,x6,x7,x8,x9,x10,x11,x12,x13,x14,x15,x16,x17,x18,x19,x20,x21,x22,x23,x24,x25,x26,x27,x28,x29,x30,x31,x32,x33,x34,x35,x36,x37,x38,x39,x40,x41,x42,x43,x44,x45,x46,x47,x48,x49,x50,x51,x52,x53,x54,x55,x56,x57,x58] := ⟨_, _, _, _, _, _, _, _, _, _, _, _, _, _, _, _, _, _, _, _, _, _, _, _, _, _, _, _, _, _, _, _, _, _, _, _, _, _, _, _, _, _, _, _, _, _, _, _, _, _, _, _, _, _, _, _, _, _, _, tx_ReadList.eta h⟩
variable (x0 x1 x2 x3 x4 x5 x6 x7 x8 x9 x10 x11 x12 x13 x14 x15 x16 x17 x18 x19 x20 x21 x22 x23 x24 x25 x26 x27 x28 x29 x30 x31 x32 x33 x34 x35 x36 x37 x38 x39 x40 x41 x42 x43 x44 x45 x46 x47 x48 x49 x50 x51 x52 x53 x54 x55 x56 x57 x58 : Value) (S : AHeap)
theorem tx_ReadList.r0  : vOps Try.prog ⟨false, false, false⟩ (vlim Try.prog O) (reg Try.f34 0) (reg Try.f34 0).toList ([x0,x1,x2,x3,x4,x5,x6,x7,x8,x9,x10,x11,x12,x13,x14,x15,x16,x17,x18,x19,x20,x21,x22,x23,x24,x25,x26,x27,x28,x29,x30,x31,x32,x33,x34,x35,x36,x37,x38,x39,x40,x41,x42,x43,x44,x45,x46,x47,x48,x49,x50,x51,x52,x53,x54,x55,x56,x57,x58]) S =
    ( some ([x0,x1,Value.slice none 0 0,Value.int IntKind.i64 0,x4,x5,x6,x7,x8,x9,x10,x11,x12,x13,x14,x15,x16,x17,x18,x19,x20,x21,x22,x23,x24,x25,x26,x27,x28,x29,x30,x31,x32,x33,x34,x35,x36,x37,x38,x39,x40,x41,x42,x43,x44,x45,x46,x47,x48,x49,x50,x51,x52,x53,x54,x55,x56,x57,x58], S)) := by
  refine sP Try.f34 0 0 (v := (Value.slice none 0 0)) ?_
  refine sP Try.f34 0 1 (v := (Value.int IntKind.i64 0)) ?_
  kernel_rfl
theorem tx_ReadList.r1  : vOps Try.prog ⟨false, false, false⟩ (vlim Try.prog O) (reg Try.f34 1) (reg Try.f34 1).toList ([x0,x1,x2,x3,x4,x5,x6,x7,x8,x9,x10,x11,x12,x13,x14,x15,x16,x17,x18,x19,x20,x21,x22,x23,x24,x25,x26,x27,x28,x29,x30,x31,x32,x33,x34,x35,x36,x37,x38,x39,x40,x41,x42,x43,x44,x45,x46,x47,x48,x49,x50,x51,x52,x53,x54,x55,x56,x57,x58]) S =
    (andK ((vlim Try.prog O) 33 [(dem (dem x0)), (Value.int IntKind.i64 1)] S) (fun v1 S1 => andK (aExtract v1 0 S1) (fun v3 S2 => andK (aExtract (demPart 0 v1) 1 S2) (fun v4 S3 => andK (aExtract (demPart 1 (demPart 0 v1)) 2 S3) (fun v5 S4 => some ([x0,x1,x2,x3,v3,v4,v5,x7,x8,x9,x10,demPart 2 (demPart 1 (demPart 0 v1)),dem x0,dem v1,dem v3,dem v4,dem v5,x17,x18,x19,x20,x21,x22,x23,x24,x25,x26,x27,x28,x29,x30,x31,x32,x33,x34,x35,x36,x37,x38,x39,x40,x41,x42,x43,x44,x45,x46,x47,x48,x49,x50,x51,x52,x53,x54,x55,x56,x57,x58], S4)) ()) ()) ()) ()) := by
  refine sP Try.f34 1 0 (v := x0) ?_
  refine sD Try.f34 1 1 (fun v1 S1 => ?_)
  refine sP Try.f34 1 2 (v := v1) ?_
  refine sD Try.f34 1 3 (fun v3 S2 => ?_)
  refine sD Try.f34 1 4 (fun v4 S3 => ?_)
  refine sD Try.f34 1 5 (fun v5 S4 => ?_)
  refine sP Try.f34 1 6 (v := v3) ?_
  refine sP Try.f34 1 7 (v := v4) ?_
  refine sP Try.f34 1 8 (v := v5) ?_
  kernel_rfl
theorem tx_ReadList.r2  : vOps Try.prog ⟨false, false, false⟩ (vlim Try.prog O) (reg Try.f34 2) (reg Try.f34 2).toList ([x0,x1,x2,x3,x4,x5,x6,x7,x8,x9,x10,x11,x12,x13,x14,x15,x16,x17,x18,x19,x20,x21,x22,x23,x24,x25,x26,x27,x28,x29,x30,x31,x32,x33,x34,x35,x36,x37,x38,x39,x40,x41,x42,x43,x44,x45,x46,x47,x48,x49,x50,x51,x52,x53,x54,x55,x56,x57,x58]) S =
    (andK (vBin Try.prog BinOp.neq 34 (dem x6) (Value.int IntKind.i64 0) S) (fun v1 S1 => gdK (dem v1) false (ret x4) S1 (fun v3 S2 => gdK (dem v1) false (vIndexAddr Try.prog 53 (dem v3) (Value.int IntKind.i64 0)) S2 (fun v4 S3 => gdK (dem v1) false (vLoad Try.prog false 3 v4) S3 (fun v5 S4 => gdK (dem v1) false (vBin Try.prog BinOp.lss 3 v5 (Value.int IntKind.i64 0)) S4 (fun v6 S5 => andK (vPick (dem v1) (Value.bool true) v6 S5) (fun v7 S6 => gdK (dem v7) false (ret x4) S6 (fun v9 S7 => gdK (dem v7) false (vIndexAddr Try.prog 53 (dem v9) (Value.int IntKind.i64 0)) S7 (fun v10 S8 => gdK (dem v7) false (vLoad Try.prog false 3 v10) S8 (fun v11 S9 => gdK (dem v7) false (vBin Try.prog BinOp.gtr 3 v11 (Value.int IntKind.i64 3)) S9 (fun v12 S10 => andK (vPick (dem v7) (Value.bool true) v12 S10) (fun v13 S11 => some ([x0,x1,x2,x3,x4,x5,x6,x7,x8,x9,x10,x11,x12,x13,x14,x15,x16,dem x6,v1,dem v1,dem v3,v4,v5,v6,v7,dem v7,dem v9,v10,v11,v12,v13,x31,x32,x33,x34,x35,x36,x37,x38,x39,x40,x41,x42,x43,x44,x45,x46,x47,x48,x49,x50,x51,x52,x53,x54,x55,x56,x57,x58], S11)) ()) ()) ()) ()) ()) ()) ()) ()) ()) ()) ()) := by
  refine sP Try.f34 2 0 (v := x6) ?_
  refine sD Try.f34 2 1 (fun v1 S1 => ?_)
  refine sP Try.f34 2 2 (v := v1) ?_
  refine sG Try.f34 2 3 (j := 2) (fun v3 S2 => ?_)
  refine sG Try.f34 2 4 (j := 2) (fun v4 S3 => ?_)
  refine sG Try.f34 2 5 (j := 2) (fun v5 S4 => ?_)
  refine sG Try.f34 2 6 (j := 2) (fun v6 S5 => ?_)
  refine sD Try.f34 2 7 (fun v7 S6 => ?_)
  refine sP Try.f34 2 8 (v := v7) ?_
  refine sG Try.f34 2 9 (j := 8) (fun v9 S7 => ?_)
  refine sG Try.f34 2 10 (j := 8) (fun v10 S8 => ?_)
  refine sG Try.f34 2 11 (j := 8) (fun v11 S9 => ?_)
  refine sG Try.f34 2 12 (j := 8) (fun v12 S10 => ?_)
  refine sD Try.f34 2 13 (fun v13 S11 => ?_)
  kernel_rfl
theorem tx_ReadList.r3  : vOps Try.prog ⟨false, false, false⟩ (vlim Try.prog O) (reg Try.f34 3) (reg Try.f34 3).toList ([x0,x1,x2,x3,x4,x5,x6,x7,x8,x9,x10,x11,x12,x13,x14,x15,x16,x17,x18,x19,x20,x21,x22,x23,x24,x25,x26,x27,x28,x29,x30,x31,x32,x33,x34,x35,x36,x37,x38,x39,x40,x41,x42,x43,x44,x45,x46,x47,x48,x49,x50,x51,x52,x53,x54,x55,x56,x57,x58]) S =
    ( some ([x0,x1,Value.slice none 0 0,Value.int IntKind.i64 61,x4,x5,x6,x7,x8,x9,x10,x11,x12,x13,x14,x15,x16,x17,x18,x19,x20,x21,x22,x23,x24,x25,x26,x27,x28,x29,x30,x31,x32,x33,x34,x35,x36,x37,x38,x39,x40,x41,x42,x43,x44,x45,x46,x47,x48,x49,x50,x51,x52,x53,x54,x55,x56,x57,x58], S)) := by
  refine sP Try.f34 3 0 (v := (Value.slice none 0 0)) ?_
  refine sP Try.f34 3 1 (v := (Value.int IntKind.i64 61)) ?_
  kernel_rfl
theorem tx_ReadList.r4  : vOps Try.prog ⟨false, false, false⟩ (vlim Try.prog O) (reg Try.f34 4) (reg Try.f34 4).toList ([x0,x1,x2,x3,x4,x5,x6,x7,x8,x9,x10,x11,x12,x13,x14,x15,x16,x17,x18,x19,x20,x21,x22,x23,x24,x25,x26,x27,x28,x29,x30,x31,x32,x33,x34,x35,x36,x37,x38,x39,x40,x41,x42,x43,x44,x45,x46,x47,x48,x49,x50,x51,x52,x53,x54,x55,x56,x57,x58]) S =
    ( some ([x0,x1,x2,x3,x4,x5,x6,Value.slice none 0 0,x8,x9,x10,x11,x12,x13,x14,x15,x16,x17,x18,x19,x20,x21,x22,x23,x24,x25,x26,x27,x28,x29,x30,x31,x32,x33,x34,x35,x36,x37,x38,x39,x40,x41,x42,x43,x44,x45,x46,x47,x48,x49,x50,x51,x52,x53,x54,x55,x56,x57,x58], S)) := by
  refine sP Try.f34 4 0 (v := (Value.slice none 0 0)) ?_
  kernel_rfl
theorem tx_ReadList.r5  : vOps Try.prog ⟨false, false, false⟩ (vlim Try.prog O) (reg Try.f34 5) (reg Try.f34 5).toList ([x0,x1,x2,x3,x4,x5,x6,x7,x8,x9,x10,x11,x12,x13,x14,x15,x16,x17,x18,x19,x20,x21,x22,x23,x24,x25,x26,x27,x28,x29,x30,x31,x32,x33,x34,x35,x36,x37,x38,x39,x40,x41,x42,x43,x44,x45,x46,x47,x48,x49,x50,x51,x52,x53,x54,x55,x56,x57,x58]) S =
    (andK (vIndexAddr Try.prog 53 (dem x4) (Value.int IntKind.i64 0) S) (fun v1 S1 => andK (vLoad Try.prog false 3 v1 S1) (fun v2 S2 => some ([x0,x1,x2,x3,x4,x5,x6,x7,x8,x9,x10,x11,x12,x13,x14,x15,x16,x17,x18,x19,x20,x21,x22,x23,x24,x25,x26,x27,x28,x29,x30,dem x4,v1,v2,Value.int IntKind.i64 0,x35,x36,x37,x38,x39,x40,x41,x42,x43,x44,x45,x46,x47,x48,x49,x50,x51,x52,x53,x54,x55,x56,x57,x58], S2)) ()) ()) := by
  refine sP Try.f34 5 0 (v := x4) ?_
  refine sD Try.f34 5 1 (fun v1 S1 => ?_)
  refine sD Try.f34 5 2 (fun v2 S2 => ?_)
  refine sP Try.f34 5 3 (v := (Value.int IntKind.i64 0)) ?_
  kernel_rfl
theorem tx_ReadList.r6  : vOps Try.prog ⟨false, false, false⟩ (vlim Try.prog O) (reg Try.f34 6) (reg Try.f34 6).toList ([x0,x1,x2,x3,x4,x5,x6,x7,x8,x9,x10,x11,x12,x13,x14,x15,x16,x17,x18,x19,x20,x21,x22,x23,x24,x25,x26,x27,x28,x29,x30,x31,x32,x33,x34,x35,x36,x37,x38,x39,x40,x41,x42,x43,x44,x45,x46,x47,x48,x49,x50,x51,x52,x53,x54,x55,x56,x57,x58]) S =
    (andK (vBin Try.prog BinOp.lss 3 x34 x33 S) (fun v0 S1 => some ([x0,x1,x2,x3,x4,x5,x6,x7,x8,x9,x10,x11,x12,x13,x14,x15,x16,x17,x18,x19,x20,x21,x22,x23,x24,x25,x26,x27,x28,x29,x30,x31,x32,x33,x34,v0,x36,x37,x38,x39,x40,x41,x42,x43,x44,x45,x46,x47,x48,x49,x50,x51,x52,x53,x54,x55,x56,x57,x58], S1)) ()) := by
  refine sD Try.f34 6 0 (fun v0 S1 => ?_)
  kernel_rfl
theorem tx_ReadList.r7  : vOps Try.prog ⟨false, false, false⟩ (vlim Try.prog O) (reg Try.f34 7) (reg Try.f34 7).toList ([x0,x1,x2,x3,x4,x5,x6,x7,x8,x9,x10,x11,x12,x13,x14,x15,x16,x17,x18,x19,x20,x21,x22,x23,x24,x25,x26,x27,x28,x29,x30,x31,x32,x33,x34,x35,x36,x37,x38,x39,x40,x41,x42,x43,x44,x45,x46,x47,x48,x49,x50,x51,x52,x53,x54,x55,x56,x57,x58]) S =
    (andK ((vlim Try.prog O) 45 [(dem (dem x5))] S) (fun v1 S1 => andK (aExtract v1 0 S1) (fun v3 S2 => andK (aExtract (demPart 0 v1) 1 S2) (fun v4 S3 => andK (aExtract (demPart 1 (demPart 0 v1)) 2 S3) (fun v5 S4 => andK (aAlloc Try.prog 47 S4) (fun v6 S5 => andK (vStore Try.prog 47 v6 (dem v3) S5) (fun v7 S6 => some ([x0,x1,x2,x3,x4,x5,x6,x7,v6,v4,v5,x11,x12,x13,x14,x15,x16,x17,x18,x19,x20,x21,x22,x23,x24,x25,x26,x27,x28,x29,x30,x31,x32,x33,x34,x35,demPart 2 (demPart 1 (demPart 0 v1)),dem x5,dem v1,v3,dem v4,dem v5,x42,x43,x44,x45,x46,x47,x48,x49,x50,x51,x52,x53,x54,x55,x56,x57,x58], S6)) ()) ()) ()) ()) ()) ()) := by
  refine sP Try.f34 7 0 (v := x5) ?_
  refine sD Try.f34 7 1 (fun v1 S1 => ?_)
  refine sP Try.f34 7 2 (v := v1) ?_
  refine sD Try.f34 7 3 (fun v3 S2 => ?_)
  refine sD Try.f34 7 4 (fun v4 S3 => ?_)
  refine sD Try.f34 7 5 (fun v5 S4 => ?_)
  refine sD Try.f34 7 6 (fun v6 S5 => ?_)
  refine sD Try.f34 7 7 (fun v7 S6 => ?_)
  refine sP Try.f34 7 8 (v := v4) ?_
  refine sP Try.f34 7 9 (v := v5) ?_
  kernel_rfl
theorem tx_ReadList.r8  : vOps Try.prog ⟨false, false, false⟩ (vlim Try.prog O) (reg Try.f34 8) (reg Try.f34 8).toList ([x0,x1,x2,x3,x4,x5,x6,x7,x8,x9,x10,x11,x12,x13,x14,x15,x16,x17,x18,x19,x20,x21,x22,x23,x24,x25,x26,x27,x28,x29,x30,x31,x32,x33,x34,x35,x36,x37,x38,x39,x40,x41,x42,x43,x44,x45,x46,x47,x48,x49,x50,x51,x52,x53,x54,x55,x56,x57,x58]) S =
    (andK (aUn Try.prog UnOp.not (dem x10) S) (fun v1 S1 => some ([x0,x1,x2,x3,x4,x5,x6,x7,x8,x9,x10,x11,x12,x13,x14,x15,x16,x17,x18,x19,x20,x21,x22,x23,x24,x25,x26,x27,x28,x29,x30,x31,x32,x33,x34,x35,x36,x37,x38,x39,x40,x41,dem x10,v1,x44,x45,x46,x47,x48,x49,x50,x51,x52,x53,x54,x55,x56,x57,x58], S1)) ()) := by
  refine sP Try.f34 8 0 (v := x10) ?_
  refine sD Try.f34 8 1 (fun v1 S1 => ?_)
  kernel_rfl
theorem tx_ReadList.r9  : vOps Try.prog ⟨false, false, false⟩ (vlim Try.prog O) (reg Try.f34 9) (reg Try.f34 9).toList ([x0,x1,x2,x3,x4,x5,x6,x7,x8,x9,x10,x11,x12,x13,x14,x15,x16,x17,x18,x19,x20,x21,x22,x23,x24,x25,x26,x27,x28,x29,x30,x31,x32,x33,x34,x35,x36,x37,x38,x39,x40,x41,x42,x43,x44,x45,x46,x47,x48,x49,x50,x51,x52,x53,x54,x55,x56,x57,x58]) S =
    ( some ([x0,x1,Value.slice none 0 0,Value.int IntKind.i64 61,x4,x5,x6,x7,x8,x9,x10,x11,x12,x13,x14,x15,x16,x17,x18,x19,x20,x21,x22,x23,x24,x25,x26,x27,x28,x29,x30,x31,x32,x33,x34,x35,x36,x37,x38,x39,x40,x41,x42,x43,x44,x45,x46,x47,x48,x49,x50,x51,x52,x53,x54,x55,x56,x57,x58], S)) := by
  refine sP Try.f34 9 0 (v := (Value.slice none 0 0)) ?_
  refine sP Try.f34 9 1 (v := (Value.int IntKind.i64 61)) ?_
  kernel_rfl
theorem tx_ReadList.r10  : vOps Try.prog ⟨false, false, false⟩ (vlim Try.prog O) (reg Try.f34 10) (reg Try.f34 10).toList ([x0,x1,x2,x3,x4,x5,x6,x7,x8,x9,x10,x11,x12,x13,x14,x15,x16,x17,x18,x19,x20,x21,x22,x23,x24,x25,x26,x27,x28,x29,x30,x31,x32,x33,x34,x35,x36,x37,x38,x39,x40,x41,x42,x43,x44,x45,x46,x47,x48,x49,x50,x51,x52,x53,x54,x55,x56,x57,x58]) S =
    (andK (vLoad Try.prog false 47 x8 S) (fun v1 S1 => andK (vBuildSlice Try.prog 27 1 [(0, v1)] S1) (fun v2 S2 => andK (vAppend Try.prog 27 27 x7 v2 S2) (fun v3 S3 => some ([x0,x1,x2,x3,x4,x5,x6,v3,x8,x9,x10,x11,x12,x13,x14,x15,x16,x17,x18,x19,x20,x21,x22,x23,x24,x25,x26,x27,x28,x29,x30,x31,x32,x33,x34,x35,x36,x37,x38,x39,x40,x41,x42,x43,dem x7,v1,v2,dem v3,x48,x49,x50,x51,x52,x53,x54,x55,x56,x57,x58], S3)) ()) ()) ()) := by
  refine sP Try.f34 10 0 (v := x7) ?_
  refine sD Try.f34 10 1 (fun v1 S1 => ?_)
  refine sD Try.f34 10 2 (fun v2 S2 => ?_)
  refine sD Try.f34 10 3 (fun v3 S3 => ?_)
  refine sP Try.f34 10 4 (v := v3) ?_
  kernel_rfl
theorem tx_ReadList.r11  : vOps Try.prog ⟨false, false, false⟩ (vlim Try.prog O) (reg Try.f34 11) (reg Try.f34 11).toList ([x0,x1,x2,x3,x4,x5,x6,x7,x8,x9,x10,x11,x12,x13,x14,x15,x16,x17,x18,x19,x20,x21,x22,x23,x24,x25,x26,x27,x28,x29,x30,x31,x32,x33,x34,x35,x36,x37,x38,x39,x40,x41,x42,x43,x44,x45,x46,x47,x48,x49,x50,x51,x52,x53,x54,x55,x56,x57,x58]) S =
    ( some ([x0,x1,x2,x3,x4,x9,x6,x7,x8,dem x9,x10,x11,x12,x13,x14,x15,x16,x17,x18,x19,x20,x21,x22,x23,x24,x25,x26,x27,x28,x29,x30,x31,x32,x33,x34,x35,x36,x37,x38,x39,x40,x41,x42,x43,x44,x45,x46,x47,dem x9,x49,x50,x51,x52,x53,x54,x55,x56,x57,x58], S)) := by
  refine sP Try.f34 11 0 (v := x9) ?_
  refine sP Try.f34 11 1 (v := x9) ?_
  kernel_rfl
theorem tx_ReadList.r12  : vOps Try.prog ⟨false, false, false⟩ (vlim Try.prog O) (reg Try.f34 12) (reg Try.f34 12).toList ([x0,x1,x2,x3,x4,x5,x6,x7,x8,x9,x10,x11,x12,x13,x14,x15,x16,x17,x18,x19,x20,x21,x22,x23,x24,x25,x26,x27,x28,x29,x30,x31,x32,x33,x34,x35,x36,x37,x38,x39,x40,x41,x42,x43,x44,x45,x46,x47,x48,x49,x50,x51,x52,x53,x54,x55,x56,x57,x58]) S =
    (andK (vBin Try.prog BinOp.add 3 x34 (Value.int IntKind.i64 1) S) (fun v0 S1 => some ([x0,x1,x2,x3,x4,x5,x6,x7,x8,x9,x10,x11,x12,x13,x14,x15,x16,x17,x18,x19,x20,x21,x22,x23,x24,x25,x26,x27,x28,x29,x30,x31,x32,x33,dem v0,x35,x36,x37,x38,x39,x40,x41,x42,x43,x44,x45,x46,x47,x48,v0,x50,x51,x52,x53,x54,x55,x56,x57,x58], S1)) ()) := by
  refine sD Try.f34 12 0 (fun v0 S1 => ?_)
  refine sP Try.f34 12 1 (v := v0) ?_
  kernel_rfl
theorem tx_ReadList.r13  : vOps Try.prog ⟨false, false, false⟩ (vlim Try.prog O) (reg Try.f34 13) (reg Try.f34 13).toList ([x0,x1,x2,x3,x4,x5,x6,x7,x8,x9,x10,x11,x12,x13,x14,x15,x16,x17,x18,x19,x20,x21,x22,x23,x24,x25,x26,x27,x28,x29,x30,x31,x32,x33,x34,x35,x36,x37,x38,x39,x40,x41,x42,x43,x44,x45,x46,x47,x48,x49,x50,x51,x52,x53,x54,x55,x56,x57,x58]) S =
    (andK (vLen Try.prog 33 (dem x5) S) (fun v1 S1 => andK (vBin Try.prog BinOp.gtr 3 v1 (Value.int IntKind.i64 0) S1) (fun v2 S2 => gdK (dem v2) false (ret x7) S2 (fun v4 S3 => gdK (dem v2) false ((vlim Try.prog O) 38 [(dem (dem v4))]) S3 (fun v5 S4 => gdK (dem v2) false (aUn Try.prog UnOp.not v5) S4 (fun v6 S5 => andK (vPick (dem v2) (Value.bool true) v6 S5) (fun v7 S6 => some ([x0,x1,x2,x3,x4,x5,x6,x7,x8,x9,x10,x11,x12,x13,x14,x15,x16,x17,x18,x19,x20,x21,x22,x23,x24,x25,x26,x27,x28,x29,x30,x31,x32,x33,x34,x35,x36,x37,x38,x39,x40,x41,x42,x43,x44,x45,x46,x47,x48,x49,dem x5,v1,v2,dem v2,dem v4,v5,v6,v7,x58], S6)) ()) ()) ()) ()) ()) ()) := by
  refine sP Try.f34 13 0 (v := x5) ?_
  refine sD Try.f34 13 1 (fun v1 S1 => ?_)
  refine sD Try.f34 13 2 (fun v2 S2 => ?_)
  refine sP Try.f34 13 3 (v := v2) ?_
  refine sG Try.f34 13 4 (j := 3) (fun v4 S3 => ?_)
  refine sG Try.f34 13 5 (j := 3) (fun v5 S4 => ?_)
  refine sG Try.f34 13 6 (j := 3) (fun v6 S5 => ?_)
  refine sD Try.f34 13 7 (fun v7 S6 => ?_)
  kernel_rfl
theorem tx_ReadList.r14  : vOps Try.prog ⟨false, false, false⟩ (vlim Try.prog O) (reg Try.f34 14) (reg Try.f34 14).toList ([x0,x1,x2,x3,x4,x5,x6,x7,x8,x9,x10,x11,x12,x13,x14,x15,x16,x17,x18,x19,x20,x21,x22,x23,x24,x25,x26,x27,x28,x29,x30,x31,x32,x33,x34,x35,x36,x37,x38,x39,x40,x41,x42,x43,x44,x45,x46,x47,x48,x49,x50,x51,x52,x53,x54,x55,x56,x57,x58]) S =
    ( some ([x0,x1,Value.slice none 0 0,Value.int IntKind.i64 61,x4,x5,x6,x7,x8,x9,x10,x11,x12,x13,x14,x15,x16,x17,x18,x19,x20,x21,x22,x23,x24,x25,x26,x27,x28,x29,x30,x31,x32,x33,x34,x35,x36,x37,x38,x39,x40,x41,x42,x43,x44,x45,x46,x47,x48,x49,x50,x51,x52,x53,x54,x55,x56,x57,x58], S)) := by
  refine sP Try.f34 14 0 (v := (Value.slice none 0 0)) ?_
  refine sP Try.f34 14 1 (v := (Value.int IntKind.i64 61)) ?_
  kernel_rfl
theorem tx_ReadList.r15  : vOps Try.prog ⟨false, false, false⟩ (vlim Try.prog O) (reg Try.f34 15) (reg Try.f34 15).toList ([x0,x1,x2,x3,x4,x5,x6,x7,x8,x9,x10,x11,x12,x13,x14,x15,x16,x17,x18,x19,x20,x21,x22,x23,x24,x25,x26,x27,x28,x29,x30,x31,x32,x33,x34,x35,x36,x37,x38,x39,x40,x41,x42,x43,x44,x45,x46,x47,x48,x49,x50,x51,x52,x53,x54,x55,x56,x57,x58]) S =
    ( some ([x0,x1,x7,Value.int IntKind.i64 0,x4,x5,x6,dem x7,x8,x9,x10,x11,x12,x13,x14,x15,x16,x17,x18,x19,x20,x21,x22,x23,x24,x25,x26,x27,x28,x29,x30,x31,x32,x33,x34,x35,x36,x37,x38,x39,x40,x41,x42,x43,x44,x45,x46,x47,x48,x49,x50,x51,x52,x53,x54,x55,x56,x57,dem x7], S)) := by
  refine sP Try.f34 15 0 (v := x7) ?_
  refine sP Try.f34 15 1 (v := x7) ?_
  refine sP Try.f34 15 2 (v := (Value.int IntKind.i64 0)) ?_
  kernel_rfl
theorem tx_ReadList.rs : type_of% (And.intro @tx_ReadList.r0 (And.intro @tx_ReadList.r1 (And.intro @tx_ReadList.r2 (And.intro @tx_ReadList.r3 (And.intro @tx_ReadList.r4 (And.intro @tx_ReadList.r5 (And.intro @tx_ReadList.r6 (And.intro @tx_ReadList.r7 (And.intro @tx_ReadList.r8 (And.intro @tx_ReadList.r9 (And.intro @tx_ReadList.r10 (And.intro @tx_ReadList.r11 (And.intro @tx_ReadList.r12 (And.intro @tx_ReadList.r13 (And.intro @tx_ReadList.r14 (@tx_ReadList.r15)))))))))))))))) := And.intro @tx_ReadList.r0 (And.intro @tx_ReadList.r1 (And.intro @tx_ReadList.r2 (And.intro @tx_ReadList.r3 (And.intro @tx_ReadList.r4 (And.intro @tx_ReadList.r5 (And.intro @tx_ReadList.r6 (And.intro @tx_ReadList.r7 (And.intro @tx_ReadList.r8 (And.intro @tx_ReadList.r9 (And.intro @tx_ReadList.r10 (And.intro @tx_ReadList.r11 (And.intro @tx_ReadList.r12 (And.intro @tx_ReadList.r13 (And.intro @tx_ReadList.r14 (@tx_ReadList.r15)))))))))))))))
theorem tx_ReadList.runs {x0 : Value} {S S1 : AHeap} {e : AEx} {T : List Value} (h : vcodeV Try.prog O false tx_ReadList.code ([x0,undef,undef,undef,undef,undef,undef,undef,undef,undef,undef,undef,undef,undef,undef,undef,undef,undef,undef,undef,undef,undef,undef,undef,undef,undef,undef,undef,undef,undef,undef,undef,undef,undef,undef,undef,undef,undef,undef,undef,undef,undef,undef,undef,undef,undef,undef,undef,undef,undef,undef,undef,undef,undef,undef,undef,undef,undef,undef]) AHeap.empty = some (e, T, S1)) (he : e = .normal ∨ e = .ret)  (h0 : notTuple (T.getD 2 undef) = true) (h1 : notTuple (T.getD 3 undef) = true) (hca : [x0].all (cleanN 16) = true) (hcv : cleanN 16 (Value.tuple #[T.getD 2 undef, T.getD 3 undef]) = true) : vlim Try.prog O 34 [x0] S = some (Value.tuple #[T.getD 2 undef, T.getD 3 undef], S) :=
  vlim_pure rfl rfl Try.func34 (by decide) tx_ReadList.body (by exact h) he ((vRes_many ((show vResVals Try.prog T S1 Try.f34.results.toList = vResVals Try.prog T S1 [(ResultVar.tmp 2), (ResultVar.tmp 3)] from by kernel_rfl).trans (by simp only [vResVals])) (by kernel_rfl) (by simp only [List.all_cons, List.all_nil, h0, h1, Bool.and_true])).trans rfl) hca hcv
end Go.Proofs.Ytgggklfbhmlapaa

namespace Go.Proofs.Ytgggklfbhmlapaa
open Go.Abs

/-- neaptide.neaptideref06.ReadList -/
abbrev neaptideref06_ReadList.id : FuncId := 36
noncomputable def neaptideref06_ReadList.loop1 : Code := (Code.seq (Code.seq (Code.region 8 (reg Try.f36 8) false) (Code.cond (Operand.tmp 35) Code.skip (Code.exit 2))) (Code.seq (Code.block 3 (Code.region 10 (reg Try.f36 10) true)) (Code.region 9 (reg Try.f36 9) false)))
noncomputable def neaptideref06_ReadList.loop2 : Code := (Code.seq (Code.seq (Code.region 2 (reg Try.f36 2) false) (Code.cond (Operand.tmp 13) Code.skip (Code.exit 0))) (Code.seq (Code.block 1 (Code.seq (Code.region 4 (reg Try.f36 4) false) (Code.seq (Code.seq (Code.region 5 (reg Try.f36 5) false) (Code.cond (Operand.tmp 31) (Code.exit 1) Code.skip)) (Code.seq (Code.region 6 (reg Try.f36 6) false) (Code.seq (Code.seq (Code.region 7 (reg Try.f36 7) false) (Code.block 2 (Code.loop neaptideref06_ReadList.loop1))) (Code.seq (Code.region 11 (reg Try.f36 11) false) (Code.seq (Code.region 12 (reg Try.f36 12) false) (Code.cond (Operand.tmp 67) (Code.seq (Code.region 13 (reg Try.f36 13) false) Code.ret) Code.skip)))))))) (Code.region 3 (reg Try.f36 3) false)))
noncomputable def neaptideref06_ReadList.code : Code := (Code.seq (Code.region 0 (reg Try.f36 0) false) (Code.seq (Code.seq (Code.region 1 (reg Try.f36 1) false) (Code.block 0 (Code.loop neaptideref06_ReadList.loop2))) (Code.seq (Code.region 14 (reg Try.f36 14) false) Code.ret)))
theorem neaptideref06_ReadList.body : Try.f36.body = some neaptideref06_ReadList.code := by kernel_rfl
theorem neaptideref06_ReadList.eta {T : List Value} (h : T.length = 69) : T = [T.getD 0 undef,T.getD 1 undef,T.getD 2 undef,T.getD 3 undef,T.getD 4 undef,T.getD 5 undef,T.getD 6 undef,T.getD 7 undef,T.getD 8 undef,T.getD 9 undef,T.getD 10 undef,T.getD 11 undef,T.getD 12 undef,T.getD 13 undef,T.getD 14 undef,T.getD 15 undef,T.getD 16 undef,T.getD 17 undef,T.getD 18 undef,T.getD 19 undef,T.getD 20 undef,T.getD 21 undef,T.getD 22 undef,T.getD 23 undef,T.getD 24 undef,T.getD 25 undef,T.getD 26 undef,T.getD 27 undef,T.getD 28 undef,T.getD 29 undef,T.getD 30 undef,T.getD 31 undef,T.getD 32 undef,T.getD 33 undef,T.getD 34 undef,T.getD 35 undef,T.getD 36 undef,T.getD 37 undef,T.getD 38 undef,T.getD 39 undef,T.getD 40 undef,T.getD 41 undef,T.getD 42 undef,T.getD 43 undef,T.getD 44 undef,T.getD 45 undef,T.getD 46 undef,T.getD 47 undef,T.getD 48 undef,T.getD 49 undef,T.getD 50 undef,T.getD 51 undef,T.getD 52 undef,T.getD 53 undef,T.getD 54 undef,T.getD 55 undef,T.getD 56 undef,T.getD 57 undef,T.getD 58 undef,T.getD 59 undef,T.getD 60 undef,T.getD 61 undef,T.getD 62 undef,T.getD 63 undef,T.getD 64 undef,T.getD 65 undef,T.getD 66 undef,T.getD 67 undef,T.getD 68 undef] := (list_getD T 69 h).trans (by kernel_rfl)
theorem neaptideref06_ReadList.list {T : List Value} (h : T.length = 69) : ∃ x0 x1 x2 x3 x4 x5 x6 x7 x8 x9 x10 x11 x12 x13 x14 x15 x16 x17 x18 x19 x20 x21 x22 x23 x24 x25 x26 x27 x28 x29 x30 x31 x32 x33 x34 x35 x36 x37 x38 x39 x40 x41 x42 x43 x44 x45 x46 x47 x48 x49 x50 x51 x52 x53 x54 x55 x56 x57 x58 x59 x60 x61 x62 x63 x64 x65 x66 x67 x68, T = [x0,x1,x2,x3,x4,x5,x6,x7,x8,x9,x10,x11,x12,x13,x14,x15,x16,x17,x18,x19,x20,x21,x22,x23,x24,x25,x26,x27,x28,x29,x30,x31,x32,x33,x34,x35,x36,x37,x38,x39,x40,x41,x42,x43,x44,x45,x46,x47,x48,x49,x50,x51,x52,x53,x54,x55,x56,x57,x58,x59,x60,x61,x62,x63,x64,x65,x66,x67,x68] := ⟨_, _, _, _, _, _, _, _, _, _, _, _, _, _, _, _, _, _, _, _, _, _, _, _, _, _, _, _, _, _, _, _, _, _, _, _, _, _, _, _, _, _, _, _, _, _, _, _, _, _, _, _, _, _, _, _, _, _, _, _, _, _, _, _, _, _, _, _, _, neaptideref06_ReadList.eta h⟩
variable (x0 x1 x2 x3 x4 x5 x6 x7 x8 x9 x10 x11 x12 x13 x14 x15 x16 x17 x18 x19 x20 x21 x22 x23 x24 x25 x26 x27 x28 x29 x30 x31 x32 x33 x34 x35 x36 x37 x38 x39 x40 x41 x42 x43 x44 x45 x46 x47 x48 x49 x50 x51 x52 x53 x54 x55 x56 x57 x58 x59 x60 x61 x62 x63 x64 x65 x66 x67 x68 : Value) (S : AHeap)
theorem neaptideref06_ReadList.r0  : vOps Try.prog ⟨false, false, false⟩ (vlim Try.prog O) (reg Try.f36 0) (reg Try.f36 0).toList ([x0,x1,x2,x3,x4,x5,x6,x7,x8,x9,x10,x11,x12,x13,x14,x15,x16,x17,x18,x19,x20,x21,x22,x23,x24,x25,x26,x27,x28,x29,x30,x31,x32,x33,x34,x35,x36,x37,x38,x39,x40,x41,x42,x43,x44,x45,x46,x47,x48,x49,x50,x51,x52,x53,x54,x55,x56,x57,x58,x59,x60,x61,x62,x63,x64,x65,x66,x67,x68]) S =
    ( some ([x0,x1,Value.slice none 0 0,Value.int IntKind.i64 0,x4,x5,x6,x7,x8,x9,x10,x11,x12,x13,x14,x15,x16,x17,x18,x19,x20,x21,x22,x23,x24,x25,x26,x27,x28,x29,x30,x31,x32,x33,x34,x35,x36,x37,x38,x39,x40,x41,x42,x43,x44,x45,x46,x47,x48,x49,x50,x51,x52,x53,x54,x55,x56,x57,x58,x59,x60,x61,x62,x63,x64,x65,x66,x67,x68], S)) := by
  refine sP Try.f36 0 0 (v := (Value.slice none 0 0)) ?_
  refine sP Try.f36 0 1 (v := (Value.int IntKind.i64 0)) ?_
  kernel_rfl
theorem neaptideref06_ReadList.r1  : vOps Try.prog ⟨false, false, false⟩ (vlim Try.prog O) (reg Try.f36 1) (reg Try.f36 1).toList ([x0,x1,x2,x3,x4,x5,x6,x7,x8,x9,x10,x11,x12,x13,x14,x15,x16,x17,x18,x19,x20,x21,x22,x23,x24,x25,x26,x27,x28,x29,x30,x31,x32,x33,x34,x35,x36,x37,x38,x39,x40,x41,x42,x43,x44,x45,x46,x47,x48,x49,x50,x51,x52,x53,x54,x55,x56,x57,x58,x59,x60,x61,x62,x63,x64,x65,x66,x67,x68]) S =
    ( some ([x0,x1,x2,x3,Value.int IntKind.i64 0,x5,x6,x7,x8,x9,x10,x11,x12,x13,x14,x15,x16,x17,x18,x19,x20,x21,x22,x23,x24,x25,x26,x27,x28,x29,x30,x31,x32,x33,x34,x35,x36,x37,x38,x39,x40,x41,x42,x43,x44,x45,x46,x47,x48,x49,x50,x51,x52,x53,x54,x55,x56,x57,x58,x59,x60,x61,x62,x63,x64,x65,x66,x67,x68], S)) := by
  refine sP Try.f36 1 0 (v := (Value.int IntKind.i64 0)) ?_
  kernel_rfl
theorem neaptideref06_ReadList.r2  : vOps Try.prog ⟨false, false, false⟩ (vlim Try.prog O) (reg Try.f36 2) (reg Try.f36 2).toList ([x0,x1,x2,x3,x4,x5,x6,x7,x8,x9,x10,x11,x12,x13,x14,x15,x16,x17,x18,x19,x20,x21,x22,x23,x24,x25,x26,x27,x28,x29,x30,x31,x32,x33,x34,x35,x36,x37,x38,x39,x40,x41,x42,x43,x44,x45,x46,x47,x48,x49,x50,x51,x52,x53,x54,x55,x56,x57,x58,x59,x60,x61,x62,x63,x64,x65,x66,x67,x68]) S =
    (andK (vBin Try.prog BinOp.leq 3 (dem x4) (Value.int IntKind.i64 3) S) (fun v1 S1 => some ([x0,x1,x2,x3,x4,x5,x6,x7,x8,x9,x10,x11,dem x4,v1,x14,x15,x16,x17,x18,x19,x20,x21,x22,x23,x24,x25,x26,x27,x28,x29,x30,x31,x32,x33,x34,x35,x36,x37,x38,x39,x40,x41,x42,x43,x44,x45,x46,x47,x48,x49,x50,x51,x52,x53,x54,x55,x56,x57,x58,x59,x60,x61,x62,x63,x64,x65,x66,x67,x68], S1)) ()) := by
  refine sP Try.f36 2 0 (v := x4) ?_
  refine sD Try.f36 2 1 (fun v1 S1 => ?_)
  kernel_rfl
theorem neaptideref06_ReadList.r4  : vOps Try.prog ⟨false, false, false⟩ (vlim Try.prog O) (reg Try.f36 4) (reg Try.f36 4).toList ([x0,x1,x2,x3,x4,x5,x6,x7,x8,x9,x10,x11,x12,x13,x14,x15,x16,x17,x18,x19,x20,x21,x22,x23,x24,x25,x26,x27,x28,x29,x30,x31,x32,x33,x34,x35,x36,x37,x38,x39,x40,x41,x42,x43,x44,x45,x46,x47,x48,x49,x50,x51,x52,x53,x54,x55,x56,x57,x58,x59,x60,x61,x62,x63,x64,x65,x66,x67,x68]) S =
    (andK (vBin Try.prog BinOp.mul 3 (Value.int IntKind.i64 2) (dem x4) S) (fun v2 S1 => andK (vBin Try.prog BinOp.add 3 (Value.int IntKind.i64 1) v2 S1) (fun v3 S2 => andK ((vlim Try.prog O) 35 [(dem (dem x0)), (dem v3)] S2) (fun v4 S3 => andK (aExtract v4 0 S3) (fun v6 S4 => andK (aExtract (demPart 0 v4) 1 S4) (fun v7 S5 => andK (aExtract (demPart 1 (demPart 0 v4)) 2 S5) (fun v8 S6 => some ([x0,x1,x2,x3,x4,v6,v7,v8,x8,x9,x10,x11,x12,x13,x14,x15,demPart 2 (demPart 1 (demPart 0 v4)),dem x0,dem x4,v2,v3,dem v4,dem v6,dem v7,dem v8,x25,x26,x27,x28,x29,x30,x31,x32,x33,x34,x35,x36,x37,x38,x39,x40,x41,x42,x43,x44,x45,x46,x47,x48,x49,x50,x51,x52,x53,x54,x55,x56,x57,x58,x59,x60,x61,x62,x63,x64,x65,x66,x67,x68], S6)) ()) ()) ()) ()) ()) ()) := by
  refine sP Try.f36 4 0 (v := x0) ?_
  refine sP Try.f36 4 1 (v := x4) ?_
  refine sD Try.f36 4 2 (fun v2 S1 => ?_)
  refine sD Try.f36 4 3 (fun v3 S2 => ?_)
  refine sD Try.f36 4 4 (fun v4 S3 => ?_)
  refine sP Try.f36 4 5 (v := v4) ?_
  refine sD Try.f36 4 6 (fun v6 S4 => ?_)
  refine sD Try.f36 4 7 (fun v7 S5 => ?_)
  refine sD Try.f36 4 8 (fun v8 S6 => ?_)
  refine sP Try.f36 4 9 (v := v6) ?_
  refine sP Try.f36 4 10 (v := v7) ?_
  refine sP Try.f36 4 11 (v := v8) ?_
  kernel_rfl
theorem neaptideref06_ReadList.r5  : vOps Try.prog ⟨false, false, false⟩ (vlim Try.prog O) (reg Try.f36 5) (reg Try.f36 5).toList ([x0,x1,x2,x3,x4,x5,x6,x7,x8,x9,x10,x11,x12,x13,x14,x15,x16,x17,x18,x19,x20,x21,x22,x23,x24,x25,x26,x27,x28,x29,x30,x31,x32,x33,x34,x35,x36,x37,x38,x39,x40,x41,x42,x43,x44,x45,x46,x47,x48,x49,x50,x51,x52,x53,x54,x55,x56,x57,x58,x59,x60,x61,x62,x63,x64,x65,x66,x67,x68]) S =
    (andK (vBin Try.prog BinOp.neq 3 (dem x7) (Value.int IntKind.i64 0) S) (fun v1 S1 => gdK (dem v1) false (ret x6) S1 (fun v3 S2 => gdK (dem v1) false (vLen Try.prog 33 (dem v3)) S2 (fun v4 S3 => gdK (dem v1) false (vBin Try.prog BinOp.gtr 3 v4 (Value.int IntKind.i64 0)) S3 (fun v5 S4 => andK (vPick (dem v1) (Value.bool true) v5 S4) (fun v6 S5 => some ([x0,x1,x2,x3,x4,x5,x6,x7,x8,x9,x10,x11,x12,x13,x14,x15,x16,x17,x18,x19,x20,x21,x22,x23,x24,dem x7,v1,dem v1,dem v3,v4,v5,v6,x32,x33,x34,x35,x36,x37,x38,x39,x40,x41,x42,x43,x44,x45,x46,x47,x48,x49,x50,x51,x52,x53,x54,x55,x56,x57,x58,x59,x60,x61,x62,x63,x64,x65,x66,x67,x68], S5)) ()) ()) ()) ()) ()) := by
  refine sP Try.f36 5 0 (v := x7) ?_
  refine sD Try.f36 5 1 (fun v1 S1 => ?_)
  refine sP Try.f36 5 2 (v := v1) ?_
  refine sG Try.f36 5 3 (j := 2) (fun v3 S2 => ?_)
  refine sG Try.f36 5 4 (j := 2) (fun v4 S3 => ?_)
  refine sG Try.f36 5 5 (j := 2) (fun v5 S4 => ?_)
  refine sD Try.f36 5 6 (fun v6 S5 => ?_)
  kernel_rfl
theorem neaptideref06_ReadList.r6  : vOps Try.prog ⟨false, false, false⟩ (vlim Try.prog O) (reg Try.f36 6) (reg Try.f36 6).toList ([x0,x1,x2,x3,x4,x5,x6,x7,x8,x9,x10,x11,x12,x13,x14,x15,x16,x17,x18,x19,x20,x21,x22,x23,x24,x25,x26,x27,x28,x29,x30,x31,x32,x33,x34,x35,x36,x37,x38,x39,x40,x41,x42,x43,x44,x45,x46,x47,x48,x49,x50,x51,x52,x53,x54,x55,x56,x57,x58,x59,x60,x61,x62,x63,x64,x65,x66,x67,x68]) S =
    (andK (vBuildSlice Try.prog 27 0 [] S) (fun v0 S1 => some ([x0,x1,x2,x3,x4,x5,x6,x7,v0,x9,x10,x11,x12,x13,x14,x15,x16,x17,x18,x19,x20,x21,x22,x23,x24,x25,x26,x27,x28,x29,x30,x31,dem v0,x33,x34,x35,x36,x37,x38,x39,x40,x41,x42,x43,x44,x45,x46,x47,x48,x49,x50,x51,x52,x53,x54,x55,x56,x57,x58,x59,x60,x61,x62,x63,x64,x65,x66,x67,x68], S1)) ()) := by
  refine sD Try.f36 6 0 (fun v0 S1 => ?_)
  refine sP Try.f36 6 1 (v := v0) ?_
  kernel_rfl
theorem neaptideref06_ReadList.r7  : vOps Try.prog ⟨false, false, false⟩ (vlim Try.prog O) (reg Try.f36 7) (reg Try.f36 7).toList ([x0,x1,x2,x3,x4,x5,x6,x7,x8,x9,x10,x11,x12,x13,x14,x15,x16,x17,x18,x19,x20,x21,x22,x23,x24,x25,x26,x27,x28,x29,x30,x31,x32,x33,x34,x35,x36,x37,x38,x39,x40,x41,x42,x43,x44,x45,x46,x47,x48,x49,x50,x51,x52,x53,x54,x55,x56,x57,x58,x59,x60,x61,x62,x63,x64,x65,x66,x67,x68]) S =
    ( some ([x0,x1,x2,x3,x4,x5,x6,x7,x8,Value.int IntKind.i64 0,x10,x11,x12,x13,x14,x15,x16,x17,x18,x19,x20,x21,x22,x23,x24,x25,x26,x27,x28,x29,x30,x31,x32,x33,x34,x35,x36,x37,x38,x39,x40,x41,x42,x43,x44,x45,x46,x47,x48,x49,x50,x51,x52,x53,x54,x55,x56,x57,x58,x59,x60,x61,x62,x63,x64,x65,x66,x67,x68], S)) := by
  refine sP Try.f36 7 0 (v := (Value.int IntKind.i64 0)) ?_
  kernel_rfl
theorem neaptideref06_ReadList.r8  : vOps Try.prog ⟨false, false, false⟩ (vlim Try.prog O) (reg Try.f36 8) (reg Try.f36 8).toList ([x0,x1,x2,x3,x4,x5,x6,x7,x8,x9,x10,x11,x12,x13,x14,x15,x16,x17,x18,x19,x20,x21,x22,x23,x24,x25,x26,x27,x28,x29,x30,x31,x32,x33,x34,x35,x36,x37,x38,x39,x40,x41,x42,x43,x44,x45,x46,x47,x48,x49,x50,x51,x52,x53,x54,x55,x56,x57,x58,x59,x60,x61,x62,x63,x64,x65,x66,x67,x68]) S =
    (andK (vBin Try.prog BinOp.lss 3 (dem x9) (dem x4) S) (fun v2 S1 => some ([x0,x1,x2,x3,x4,x5,x6,x7,x8,x9,x10,x11,x12,x13,x14,x15,x16,x17,x18,x19,x20,x21,x22,x23,x24,x25,x26,x27,x28,x29,x30,x31,x32,dem x9,dem x4,v2,x36,x37,x38,x39,x40,x41,x42,x43,x44,x45,x46,x47,x48,x49,x50,x51,x52,x53,x54,x55,x56,x57,x58,x59,x60,x61,x62,x63,x64,x65,x66,x67,x68], S1)) ()) := by
  refine sP Try.f36 8 0 (v := x9) ?_
  refine sP Try.f36 8 1 (v := x4) ?_
  refine sD Try.f36 8 2 (fun v2 S1 => ?_)
  kernel_rfl
theorem neaptideref06_ReadList.d10 : drawnOk Try.prog (reg Try.f36 10) = true := by kernel_rfl
theorem neaptideref06_ReadList.ff10 : fixed Try.prog (reg Try.f36 10) = false := by kernel_rfl
theorem neaptideref06_ReadList.k10 : checked Try.prog (reg Try.f36 10) = [0] := by kernel_rfl
theorem neaptideref06_ReadList.g10 : again Try.prog (reg Try.f36 10) = [] := by kernel_rfl
theorem neaptideref06_ReadList.r10  : vcodeV Try.prog O false (.region 10 (reg Try.f36 10) true) ([x0,x1,x2,x3,x4,x5,x6,x7,x8,x9,x10,x11,x12,x13,x14,x15,x16,x17,x18,x19,x20,x21,x22,x23,x24,x25,x26,x27,x28,x29,x30,x31,x32,x33,x34,x35,x36,x37,x38,x39,x40,x41,x42,x43,x44,x45,x46,x47,x48,x49,x50,x51,x52,x53,x54,x55,x56,x57,x58,x59,x60,x61,x62,x63,x64,x65,x66,x67,x68]) S =
    regV (okK x8 ( andK (vBin Try.prog BinOp.mul 3 (Value.int IntKind.i64 2) (dem x9) S) (fun v3 S1 => andK (vBin Try.prog BinOp.add 3 (Value.int IntKind.i64 1) v3 S1) (fun v4 S2 => andK (vIndexAddr Try.prog 53 (dem x5) v4 S2) (fun v5 S3 => andK (vLoad Try.prog false 3 v5 S3) (fun v6 S4 => andK (vBin Try.prog BinOp.mul 3 (Value.int IntKind.i64 2) (dem x9) S4) (fun v9 S5 => andK (vBin Try.prog BinOp.add 3 (Value.int IntKind.i64 2) v9 S5) (fun v10 S6 => andK (vIndexAddr Try.prog 53 (dem x5) v10 S6) (fun v11 S7 => andK (vLoad Try.prog false 3 v11 S7) (fun v12 S8 => andK (aBuild Try.prog 47 [(0, (dem v6)), (1, (dem v12))] S8) (fun v13 S9 => andK (vBuildSlice Try.prog 27 1 [(0, v13)] S9) (fun v14 S10 => andK (vAppend Try.prog 27 27 x8 v14 S10) (fun v15 S11 => some ([x0,x1,x2,x3,x4,x5,x6,x7,v15,x9,x10,x11,x12,x13,x14,x15,x16,x17,x18,x19,x20,x21,x22,x23,x24,x25,x26,x27,x28,x29,x30,x31,x32,x33,x34,x35,x36,x37,dem x8,dem x5,dem x9,v3,v4,v5,v6,dem x5,dem x9,v9,v10,v11,v12,v13,v14,dem v15,x54,x55,x56,x57,x58,x59,x60,x61,x62,x63,x64,x65,x66,x67,x68], S11)) ()) ()) ()) ()) ()) ()) ()) ()) ()) ()) ()) ()) := by
  rw [vcodeV_drawn neaptideref06_ReadList.d10 neaptideref06_ReadList.ff10 neaptideref06_ReadList.k10 neaptideref06_ReadList.g10]
  refine congrArg regV ?_
  refine tPC Try.f36 10 0 (v := x8) ?_
  refine tP Try.f36 10 1 (v := x5) ?_
  refine tP Try.f36 10 2 (v := x9) ?_
  refine tD Try.f36 10 3 (fun v3 S1 => ?_)
  refine tD Try.f36 10 4 (fun v4 S2 => ?_)
  refine tD Try.f36 10 5 (fun v5 S3 => ?_)
  refine tD Try.f36 10 6 (fun v6 S4 => ?_)
  refine tP Try.f36 10 7 (v := x5) ?_
  refine tP Try.f36 10 8 (v := x9) ?_
  refine tD Try.f36 10 9 (fun v9 S5 => ?_)
  refine tD Try.f36 10 10 (fun v10 S6 => ?_)
  refine tD Try.f36 10 11 (fun v11 S7 => ?_)
  refine tD Try.f36 10 12 (fun v12 S8 => ?_)
  refine tD Try.f36 10 13 (fun v13 S9 => ?_)
  refine tD Try.f36 10 14 (fun v14 S10 => ?_)
  refine tD Try.f36 10 15 (fun v15 S11 => ?_)
  refine tP Try.f36 10 16 (v := v15) ?_
  kernel_rfl
theorem neaptideref06_ReadList.r9  : vOps Try.prog ⟨false, false, false⟩ (vlim Try.prog O) (reg Try.f36 9) (reg Try.f36 9).toList ([x0,x1,x2,x3,x4,x5,x6,x7,x8,x9,x10,x11,x12,x13,x14,x15,x16,x17,x18,x19,x20,x21,x22,x23,x24,x25,x26,x27,x28,x29,x30,x31,x32,x33,x34,x35,x36,x37,x38,x39,x40,x41,x42,x43,x44,x45,x46,x47,x48,x49,x50,x51,x52,x53,x54,x55,x56,x57,x58,x59,x60,x61,x62,x63,x64,x65,x66,x67,x68]) S =
    (andK (vBin Try.prog BinOp.add 3 (dem x9) (Value.int IntKind.i64 1) S) (fun v1 S1 => some ([x0,x1,x2,x3,x4,x5,x6,x7,x8,v1,x10,x11,x12,x13,x14,x15,x16,x17,x18,x19,x20,x21,x22,x23,x24,x25,x26,x27,x28,x29,x30,x31,x32,x33,x34,x35,dem x9,dem v1,x38,x39,x40,x41,x42,x43,x44,x45,x46,x47,x48,x49,x50,x51,x52,x53,x54,x55,x56,x57,x58,x59,x60,x61,x62,x63,x64,x65,x66,x67,x68], S1)) ()) := by
  refine sP Try.f36 9 0 (v := x9) ?_
  refine sD Try.f36 9 1 (fun v1 S1 => ?_)
  refine sP Try.f36 9 2 (v := v1) ?_
  kernel_rfl
theorem neaptideref06_ReadList.r11  : vOps Try.prog ⟨false, false, false⟩ (vlim Try.prog O) (reg Try.f36 11) (reg Try.f36 11).toList ([x0,x1,x2,x3,x4,x5,x6,x7,x8,x9,x10,x11,x12,x13,x14,x15,x16,x17,x18,x19,x20,x21,x22,x23,x24,x25,x26,x27,x28,x29,x30,x31,x32,x33,x34,x35,x36,x37,x38,x39,x40,x41,x42,x43,x44,x45,x46,x47,x48,x49,x50,x51,x52,x53,x54,x55,x56,x57,x58,x59,x60,x61,x62,x63,x64,x65,x66,x67,x68]) S =
    (andK ((vlim Try.prog O) 30 [(dem (dem x8))] S) (fun v1 S1 => andK (aExtract v1 0 S1) (fun v3 S2 => andK (aExtract (demPart 0 v1) 1 S2) (fun v4 S3 => some ([x0,x1,x2,x3,x4,x5,x6,x7,x8,x9,v3,v4,x12,x13,x14,x15,x16,x17,x18,x19,x20,x21,x22,x23,x24,x25,x26,x27,x28,x29,x30,x31,x32,x33,x34,x35,x36,x37,x38,x39,x40,x41,x42,x43,x44,x45,x46,x47,x48,x49,x50,x51,x52,x53,demPart 1 (demPart 0 v1),dem x8,dem v1,dem v3,dem v4,x59,x60,x61,x62,x63,x64,x65,x66,x67,x68], S3)) ()) ()) ()) := by
  refine sP Try.f36 11 0 (v := x8) ?_
  refine sD Try.f36 11 1 (fun v1 S1 => ?_)
  refine sP Try.f36 11 2 (v := v1) ?_
  refine sD Try.f36 11 3 (fun v3 S2 => ?_)
  refine sD Try.f36 11 4 (fun v4 S3 => ?_)
  refine sP Try.f36 11 5 (v := v3) ?_
  refine sP Try.f36 11 6 (v := v4) ?_
  kernel_rfl
theorem neaptideref06_ReadList.r12  : vOps Try.prog ⟨false, false, false⟩ (vlim Try.prog O) (reg Try.f36 12) (reg Try.f36 12).toList ([x0,x1,x2,x3,x4,x5,x6,x7,x8,x9,x10,x11,x12,x13,x14,x15,x16,x17,x18,x19,x20,x21,x22,x23,x24,x25,x26,x27,x28,x29,x30,x31,x32,x33,x34,x35,x36,x37,x38,x39,x40,x41,x42,x43,x44,x45,x46,x47,x48,x49,x50,x51,x52,x53,x54,x55,x56,x57,x58,x59,x60,x61,x62,x63,x64,x65,x66,x67,x68]) S =
    (andK (vBin Try.prog BinOp.eql 3 (dem x11) (Value.int IntKind.i64 0) S) (fun v1 S1 => gdK (dem v1) true (ret x10) S1 (fun v3 S2 => gdK (dem v1) true (vConvF Try.prog false false 33 9 (dem v3)) S2 (fun v4 S3 => gdK (dem v1) true (ret x0) S3 (fun v5 S4 => gdK (dem v1) true (vConvF Try.prog false false 33 9 (dem v5)) S4 (fun v6 S5 => gdK (dem v1) true (vBin Try.prog BinOp.eql 9 v4 v6) S5 (fun v7 S6 => andK (vPick (dem v1) v7 (Value.bool false) S6) (fun v8 S7 => some ([x0,x1,x2,x3,x4,x5,x6,x7,x8,x9,x10,x11,x12,x13,x14,x15,x16,x17,x18,x19,x20,x21,x22,x23,x24,x25,x26,x27,x28,x29,x30,x31,x32,x33,x34,x35,x36,x37,x38,x39,x40,x41,x42,x43,x44,x45,x46,x47,x48,x49,x50,x51,x52,x53,x54,x55,x56,x57,x58,dem x11,v1,dem v1,dem v3,v4,dem v5,v6,v7,v8,x68], S7)) ()) ()) ()) ()) ()) ()) ()) := by
  refine sP Try.f36 12 0 (v := x11) ?_
  refine sD Try.f36 12 1 (fun v1 S1 => ?_)
  refine sP Try.f36 12 2 (v := v1) ?_
  refine sG Try.f36 12 3 (j := 2) (fun v3 S2 => ?_)
  refine sG Try.f36 12 4 (j := 2) (fun v4 S3 => ?_)
  refine sG Try.f36 12 5 (j := 2) (fun v5 S4 => ?_)
  refine sG Try.f36 12 6 (j := 2) (fun v6 S5 => ?_)
  refine sG Try.f36 12 7 (j := 2) (fun v7 S6 => ?_)
  refine sD Try.f36 12 8 (fun v8 S7 => ?_)
  kernel_rfl
theorem neaptideref06_ReadList.r13  : vOps Try.prog ⟨false, false, false⟩ (vlim Try.prog O) (reg Try.f36 13) (reg Try.f36 13).toList ([x0,x1,x2,x3,x4,x5,x6,x7,x8,x9,x10,x11,x12,x13,x14,x15,x16,x17,x18,x19,x20,x21,x22,x23,x24,x25,x26,x27,x28,x29,x30,x31,x32,x33,x34,x35,x36,x37,x38,x39,x40,x41,x42,x43,x44,x45,x46,x47,x48,x49,x50,x51,x52,x53,x54,x55,x56,x57,x58,x59,x60,x61,x62,x63,x64,x65,x66,x67,x68]) S =
    ( some ([x0,x1,x8,Value.int IntKind.i64 0,x4,x5,x6,x7,dem x8,x9,x10,x11,x12,x13,x14,x15,x16,x17,x18,x19,x20,x21,x22,x23,x24,x25,x26,x27,x28,x29,x30,x31,x32,x33,x34,x35,x36,x37,x38,x39,x40,x41,x42,x43,x44,x45,x46,x47,x48,x49,x50,x51,x52,x53,x54,x55,x56,x57,x58,x59,x60,x61,x62,x63,x64,x65,x66,x67,dem x8], S)) := by
  refine sP Try.f36 13 0 (v := x8) ?_
  refine sP Try.f36 13 1 (v := x8) ?_
  refine sP Try.f36 13 2 (v := (Value.int IntKind.i64 0)) ?_
  kernel_rfl
theorem neaptideref06_ReadList.r3  : vOps Try.prog ⟨false, false, false⟩ (vlim Try.prog O) (reg Try.f36 3) (reg Try.f36 3).toList ([x0,x1,x2,x3,x4,x5,x6,x7,x8,x9,x10,x11,x12,x13,x14,x15,x16,x17,x18,x19,x20,x21,x22,x23,x24,x25,x26,x27,x28,x29,x30,x31,x32,x33,x34,x35,x36,x37,x38,x39,x40,x41,x42,x43,x44,x45,x46,x47,x48,x49,x50,x51,x52,x53,x54,x55,x56,x57,x58,x59,x60,x61,x62,x63,x64,x65,x66,x67,x68]) S =
    (andK (vBin Try.prog BinOp.add 3 (dem x4) (Value.int IntKind.i64 1) S) (fun v1 S1 => some ([x0,x1,x2,x3,v1,x5,x6,x7,x8,x9,x10,x11,x12,x13,dem x4,dem v1,x16,x17,x18,x19,x20,x21,x22,x23,x24,x25,x26,x27,x28,x29,x30,x31,x32,x33,x34,x35,x36,x37,x38,x39,x40,x41,x42,x43,x44,x45,x46,x47,x48,x49,x50,x51,x52,x53,x54,x55,x56,x57,x58,x59,x60,x61,x62,x63,x64,x65,x66,x67,x68], S1)) ()) := by
  refine sP Try.f36 3 0 (v := x4) ?_
  refine sD Try.f36 3 1 (fun v1 S1 => ?_)
  refine sP Try.f36 3 2 (v := v1) ?_
  kernel_rfl
theorem neaptideref06_ReadList.r14  : vOps Try.prog ⟨false, false, false⟩ (vlim Try.prog O) (reg Try.f36 14) (reg Try.f36 14).toList ([x0,x1,x2,x3,x4,x5,x6,x7,x8,x9,x10,x11,x12,x13,x14,x15,x16,x17,x18,x19,x20,x21,x22,x23,x24,x25,x26,x27,x28,x29,x30,x31,x32,x33,x34,x35,x36,x37,x38,x39,x40,x41,x42,x43,x44,x45,x46,x47,x48,x49,x50,x51,x52,x53,x54,x55,x56,x57,x58,x59,x60,x61,x62,x63,x64,x65,x66,x67,x68]) S =
    ( some ([x0,x1,Value.slice none 0 0,Value.int IntKind.i64 61,x4,x5,x6,x7,x8,x9,x10,x11,x12,x13,x14,x15,x16,x17,x18,x19,x20,x21,x22,x23,x24,x25,x26,x27,x28,x29,x30,x31,x32,x33,x34,x35,x36,x37,x38,x39,x40,x41,x42,x43,x44,x45,x46,x47,x48,x49,x50,x51,x52,x53,x54,x55,x56,x57,x58,x59,x60,x61,x62,x63,x64,x65,x66,x67,x68], S)) := by
  refine sP Try.f36 14 0 (v := (Value.slice none 0 0)) ?_
  refine sP Try.f36 14 1 (v := (Value.int IntKind.i64 61)) ?_
  kernel_rfl
theorem neaptideref06_ReadList.rs : type_of% (And.intro @neaptideref06_ReadList.r0 (And.intro @neaptideref06_ReadList.r1 (And.intro @neaptideref06_ReadList.r2 (And.intro @neaptideref06_ReadList.r4 (And.intro @neaptideref06_ReadList.r5 (And.intro @neaptideref06_ReadList.r6 (And.intro @neaptideref06_ReadList.r7 (And.intro @neaptideref06_ReadList.r8 (And.intro @neaptideref06_ReadList.r10 (And.intro @neaptideref06_ReadList.r9 (And.intro @neaptideref06_ReadList.r11 (And.intro @neaptideref06_ReadList.r12 (And.intro @neaptideref06_ReadList.r13 (And.intro @neaptideref06_ReadList.r3 (@neaptideref06_ReadList.r14))))))))))))))) := And.intro @neaptideref06_ReadList.r0 (And.intro @neaptideref06_ReadList.r1 (And.intro @neaptideref06_ReadList.r2 (And.intro @neaptideref06_ReadList.r4 (And.intro @neaptideref06_ReadList.r5 (And.intro @neaptideref06_ReadList.r6 (And.intro @neaptideref06_ReadList.r7 (And.intro @neaptideref06_ReadList.r8 (And.intro @neaptideref06_ReadList.r10 (And.intro @neaptideref06_ReadList.r9 (And.intro @neaptideref06_ReadList.r11 (And.intro @neaptideref06_ReadList.r12 (And.intro @neaptideref06_ReadList.r13 (And.intro @neaptideref06_ReadList.r3 (@neaptideref06_ReadList.r14))))))))))))))
theorem neaptideref06_ReadList.runs {x0 : Value} {S S1 : AHeap} {e : AEx} {T : List Value} (h : vcodeV Try.prog O false neaptideref06_ReadList.code ([x0,undef,undef,undef,undef,undef,undef,undef,undef,undef,undef,undef,undef,undef,undef,undef,undef,undef,undef,undef,undef,undef,undef,undef,undef,undef,undef,undef,undef,undef,undef,undef,undef,undef,undef,undef,undef,undef,undef,undef,undef,undef,undef,undef,undef,undef,undef,undef,undef,undef,undef,undef,undef,undef,undef,undef,undef,undef,undef,undef,undef,undef,undef,undef,undef,undef,undef,undef,undef]) S = some (e, T, S1)) (he : e = .normal ∨ e = .ret)  (h0 : notTuple (T.getD 2 undef) = true) (h1 : notTuple (T.getD 3 undef) = true) : vlim Try.prog O 36 [x0] S = some (Value.tuple #[T.getD 2 undef, T.getD 3 undef], S1) :=
  vlim_code rfl rfl Try.func36 (by decide) neaptideref06_ReadList.body (by exact h) he ((vRes_many ((show vResVals Try.prog T S1 Try.f36.results.toList = vResVals Try.prog T S1 [(ResultVar.tmp 2), (ResultVar.tmp 3)] from by kernel_rfl).trans (by simp only [vResVals])) (by kernel_rfl) (by simp only [List.all_cons, List.all_nil, h0, h1, Bool.and_true])).trans rfl)
end Go.Proofs.Ytgggklfbhmlapaa

namespace Go.Proofs.Ytgggklfbhmlapaa
open Go.Abs

/-- neaptide.neaptideref06.Same -/
abbrev neaptideref06_Same.id : FuncId := 32
noncomputable def neaptideref06_Same.loop1 : Code := (Code.seq (Code.region 4 (reg Try.f32 4) false) (Code.seq (Code.cond (Operand.tmp 14) Code.skip (Code.exit 0)) (Code.seq (Code.block 1 (Code.seq (Code.region 5 (reg Try.f32 5) false) (Code.seq (Code.region 6 (reg Try.f32 6) true) (Code.cond (Operand.tmp 24) (Code.seq (Code.region 7 (reg Try.f32 7) false) Code.ret) Code.skip)))) (Code.region 8 (reg Try.f32 8) false))))
noncomputable def neaptideref06_Same.code : Code := (Code.seq (Code.region 0 (reg Try.f32 0) false) (Code.seq (Code.seq (Code.region 1 (reg Try.f32 1) false) (Code.cond (Operand.tmp 10) (Code.seq (Code.region 2 (reg Try.f32 2) false) Code.ret) Code.skip)) (Code.seq (Code.seq (Code.region 3 (reg Try.f32 3) false) (Code.block 0 (Code.loop neaptideref06_Same.loop1))) (Code.seq (Code.region 9 (reg Try.f32 9) false) Code.ret))))
theorem neaptideref06_Same.body : Try.f32.body = some neaptideref06_Same.code := by kernel_rfl
theorem neaptideref06_Same.eta {T : List Value} (h : T.length = 26) : T = [T.getD 0 undef,T.getD 1 undef,T.getD 2 undef,T.getD 3 undef,T.getD 4 undef,T.getD 5 undef,T.getD 6 undef,T.getD 7 undef,T.getD 8 undef,T.getD 9 undef,T.getD 10 undef,T.getD 11 undef,T.getD 12 undef,T.getD 13 undef,T.getD 14 undef,T.getD 15 undef,T.getD 16 undef,T.getD 17 undef,T.getD 18 undef,T.getD 19 undef,T.getD 20 undef,T.getD 21 undef,T.getD 22 undef,T.getD 23 undef,T.getD 24 undef,T.getD 25 undef] := (list_getD T 26 h).trans (by kernel_rfl)
theorem neaptideref06_Same.list {T : List Value} (h : T.length = 26) : ∃ x0 x1 x2 x3 x4 x5 x6 x7 x8 x9 x10 x11 x12 x13 x14 x15 x16 x17 x18 x19 x20 x21 x22 x23 x24 x25, T = [x0,x1,x2,x3,x4,x5,x6,x7,x8,x9,x10,x11,x12,x13,x14,x15,x16,x17,x18,x19,x20,x21,x22,x23,x24,x25] := ⟨_, _, _, _, _, _, _, _, _, _, _, _, _, _, _, _, _, _, _, _, _, _, _, _, _, _, neaptideref06_Same.eta h⟩
variable (x0 x1 x2 x3 x4 x5 x6 x7 x8 x9 x10 x11 x12 x13 x14 x15 x16 x17 x18 x19 x20 x21 x22 x23 x24 x25 : Value) (S : AHeap)
theorem neaptideref06_Same.r0  : vOps Try.prog ⟨false, false, false⟩ (vlim Try.prog O) (reg Try.f32 0) (reg Try.f32 0).toList ([x0,x1,x2,x3,x4,x5,x6,x7,x8,x9,x10,x11,x12,x13,x14,x15,x16,x17,x18,x19,x20,x21,x22,x23,x24,x25]) S =
    ( some ([x0,x1,x2,x3,Value.bool false,x5,x6,x7,x8,x9,x10,x11,x12,x13,x14,x15,x16,x17,x18,x19,x20,x21,x22,x23,x24,x25], S)) := by
  refine sP Try.f32 0 0 (v := (Value.bool false)) ?_
  kernel_rfl
theorem neaptideref06_Same.r1  : vOps Try.prog ⟨false, false, false⟩ (vlim Try.prog O) (reg Try.f32 1) (reg Try.f32 1).toList ([x0,x1,x2,x3,x4,x5,x6,x7,x8,x9,x10,x11,x12,x13,x14,x15,x16,x17,x18,x19,x20,x21,x22,x23,x24,x25]) S =
    (andK (vLen Try.prog 27 (dem x0) S) (fun v1 S1 => andK (vLen Try.prog 27 (dem x1) S1) (fun v3 S2 => andK (vBin Try.prog BinOp.neq 3 v1 v3 S2) (fun v4 S3 => some ([x0,x1,x2,x3,x4,x5,dem x0,v1,dem x1,v3,v4,x11,x12,x13,x14,x15,x16,x17,x18,x19,x20,x21,x22,x23,x24,x25], S3)) ()) ()) ()) := by
  refine sP Try.f32 1 0 (v := x0) ?_
  refine sD Try.f32 1 1 (fun v1 S1 => ?_)
  refine sP Try.f32 1 2 (v := x1) ?_
  refine sD Try.f32 1 3 (fun v3 S2 => ?_)
  refine sD Try.f32 1 4 (fun v4 S3 => ?_)
  kernel_rfl
theorem neaptideref06_Same.r2  : vOps Try.prog ⟨false, false, false⟩ (vlim Try.prog O) (reg Try.f32 2) (reg Try.f32 2).toList ([x0,x1,x2,x3,x4,x5,x6,x7,x8,x9,x10,x11,x12,x13,x14,x15,x16,x17,x18,x19,x20,x21,x22,x23,x24,x25]) S =
    ( some ([x0,x1,x2,x3,Value.bool false,x5,x6,x7,x8,x9,x10,x11,x12,x13,x14,x15,x16,x17,x18,x19,x20,x21,x22,x23,x24,x25], S)) := by
  refine sP Try.f32 2 0 (v := (Value.bool false)) ?_
  kernel_rfl
theorem neaptideref06_Same.r3  : vOps Try.prog ⟨false, false, false⟩ (vlim Try.prog O) (reg Try.f32 3) (reg Try.f32 3).toList ([x0,x1,x2,x3,x4,x5,x6,x7,x8,x9,x10,x11,x12,x13,x14,x15,x16,x17,x18,x19,x20,x21,x22,x23,x24,x25]) S =
    (andK (vLen Try.prog 27 (dem x0) S) (fun v1 S1 => some ([x0,x1,x2,x3,x4,x5,x6,x7,x8,x9,x10,dem x0,v1,Value.int IntKind.i64 0,x14,x15,x16,x17,x18,x19,x20,x21,x22,x23,x24,x25], S1)) ()) := by
  refine sP Try.f32 3 0 (v := x0) ?_
  refine sD Try.f32 3 1 (fun v1 S1 => ?_)
  refine sP Try.f32 3 2 (v := (Value.int IntKind.i64 0)) ?_
  kernel_rfl
theorem neaptideref06_Same.r4  : vOps Try.prog ⟨false, false, false⟩ (vlim Try.prog O) (reg Try.f32 4) (reg Try.f32 4).toList ([x0,x1,x2,x3,x4,x5,x6,x7,x8,x9,x10,x11,x12,x13,x14,x15,x16,x17,x18,x19,x20,x21,x22,x23,x24,x25]) S =
    (andK (vBin Try.prog BinOp.lss 3 x13 x12 S) (fun v0 S1 => some ([x0,x1,x2,x3,x4,x5,x6,x7,x8,x9,x10,x11,x12,x13,v0,x15,x16,x17,x18,x19,x20,x21,x22,x23,x24,x25], S1)) ()) := by
  refine sD Try.f32 4 0 (fun v0 S1 => ?_)
  kernel_rfl
theorem neaptideref06_Same.r5  : vOps Try.prog ⟨false, false, false⟩ (vlim Try.prog O) (reg Try.f32 5) (reg Try.f32 5).toList ([x0,x1,x2,x3,x4,x5,x6,x7,x8,x9,x10,x11,x12,x13,x14,x15,x16,x17,x18,x19,x20,x21,x22,x23,x24,x25]) S =
    ( some ([x0,x1,x2,x3,x4,x13,x6,x7,x8,x9,x10,x11,x12,dem x13,x14,dem x13,x16,x17,x18,x19,x20,x21,x22,x23,x24,x25], S)) := by
  refine sP Try.f32 5 0 (v := x13) ?_
  refine sP Try.f32 5 1 (v := x13) ?_
  kernel_rfl
theorem neaptideref06_Same.d6 : drawnOk Try.prog (reg Try.f32 6) = true := by kernel_rfl
theorem neaptideref06_Same.ff6 : fixed Try.prog (reg Try.f32 6) = false := by kernel_rfl
theorem neaptideref06_Same.k6 : checked Try.prog (reg Try.f32 6) = [] := by kernel_rfl
theorem neaptideref06_Same.g6 : again Try.prog (reg Try.f32 6) = [] := by kernel_rfl
theorem neaptideref06_Same.r6  : vcodeV Try.prog O false (.region 6 (reg Try.f32 6) true) ([x0,x1,x2,x3,x4,x5,x6,x7,x8,x9,x10,x11,x12,x13,x14,x15,x16,x17,x18,x19,x20,x21,x22,x23,x24,x25]) S =
    regV (andK (vIndexAddr Try.prog 27 (dem x0) (dem x5) S) (fun v2 S1 => andK (vLoad Try.prog false 47 v2 S1) (fun v3 S2 => andK (vIndexAddr Try.prog 27 (dem x1) (dem x5) S2) (fun v6 S3 => andK (vLoad Try.prog false 47 v6 S3) (fun v7 S4 => andK (vBin Try.prog BinOp.neq 47 v3 v7 S4) (fun v8 S5 => some ([x0,x1,x2,x3,x4,x5,x6,x7,x8,x9,x10,x11,x12,x13,x14,x15,dem x0,dem x5,v2,v3,dem x1,dem x5,v6,v7,v8,x25], S5)) ()) ()) ()) ()) ()) := by
  rw [vcodeV_drawn neaptideref06_Same.d6 neaptideref06_Same.ff6 neaptideref06_Same.k6 neaptideref06_Same.g6]
  refine congrArg regV ?_
  refine tP Try.f32 6 0 (v := x0) ?_
  refine tP Try.f32 6 1 (v := x5) ?_
  refine tD Try.f32 6 2 (fun v2 S1 => ?_)
  refine tD Try.f32 6 3 (fun v3 S2 => ?_)
  refine tP Try.f32 6 4 (v := x1) ?_
  refine tP Try.f32 6 5 (v := x5) ?_
  refine tD Try.f32 6 6 (fun v6 S3 => ?_)
  refine tD Try.f32 6 7 (fun v7 S4 => ?_)
  refine tD Try.f32 6 8 (fun v8 S5 => ?_)
  kernel_rfl
theorem neaptideref06_Same.r7  : vOps Try.prog ⟨false, false, false⟩ (vlim Try.prog O) (reg Try.f32 7) (reg Try.f32 7).toList ([x0,x1,x2,x3,x4,x5,x6,x7,x8,x9,x10,x11,x12,x13,x14,x15,x16,x17,x18,x19,x20,x21,x22,x23,x24,x25]) S =
    ( some ([x0,x1,x2,x3,Value.bool false,x5,x6,x7,x8,x9,x10,x11,x12,x13,x14,x15,x16,x17,x18,x19,x20,x21,x22,x23,x24,x25], S)) := by
  refine sP Try.f32 7 0 (v := (Value.bool false)) ?_
  kernel_rfl
theorem neaptideref06_Same.r8  : vOps Try.prog ⟨false, false, false⟩ (vlim Try.prog O) (reg Try.f32 8) (reg Try.f32 8).toList ([x0,x1,x2,x3,x4,x5,x6,x7,x8,x9,x10,x11,x12,x13,x14,x15,x16,x17,x18,x19,x20,x21,x22,x23,x24,x25]) S =
    (andK (vBin Try.prog BinOp.add 3 x13 (Value.int IntKind.i64 1) S) (fun v0 S1 => some ([x0,x1,x2,x3,x4,x5,x6,x7,x8,x9,x10,x11,x12,dem v0,x14,x15,x16,x17,x18,x19,x20,x21,x22,x23,x24,v0], S1)) ()) := by
  refine sD Try.f32 8 0 (fun v0 S1 => ?_)
  refine sP Try.f32 8 1 (v := v0) ?_
  kernel_rfl
theorem neaptideref06_Same.r9  : vOps Try.prog ⟨false, false, false⟩ (vlim Try.prog O) (reg Try.f32 9) (reg Try.f32 9).toList ([x0,x1,x2,x3,x4,x5,x6,x7,x8,x9,x10,x11,x12,x13,x14,x15,x16,x17,x18,x19,x20,x21,x22,x23,x24,x25]) S =
    ( some ([x0,x1,x2,x3,Value.bool true,x5,x6,x7,x8,x9,x10,x11,x12,x13,x14,x15,x16,x17,x18,x19,x20,x21,x22,x23,x24,x25], S)) := by
  refine sP Try.f32 9 0 (v := (Value.bool true)) ?_
  kernel_rfl
theorem neaptideref06_Same.rs : type_of% (And.intro @neaptideref06_Same.r0 (And.intro @neaptideref06_Same.r1 (And.intro @neaptideref06_Same.r2 (And.intro @neaptideref06_Same.r3 (And.intro @neaptideref06_Same.r4 (And.intro @neaptideref06_Same.r5 (And.intro @neaptideref06_Same.r6 (And.intro @neaptideref06_Same.r7 (And.intro @neaptideref06_Same.r8 (@neaptideref06_Same.r9)))))))))) := And.intro @neaptideref06_Same.r0 (And.intro @neaptideref06_Same.r1 (And.intro @neaptideref06_Same.r2 (And.intro @neaptideref06_Same.r3 (And.intro @neaptideref06_Same.r4 (And.intro @neaptideref06_Same.r5 (And.intro @neaptideref06_Same.r6 (And.intro @neaptideref06_Same.r7 (And.intro @neaptideref06_Same.r8 (@neaptideref06_Same.r9)))))))))
theorem neaptideref06_Same.runs {x0 x1 : Value} {S S1 : AHeap} {e : AEx} {T : List Value} (h : vcodeV Try.prog O false neaptideref06_Same.code ([x0,x1,undef,undef,undef,undef,undef,undef,undef,undef,undef,undef,undef,undef,undef,undef,undef,undef,undef,undef,undef,undef,undef,undef,undef,undef]) S = some (e, T, S1)) (he : e = .normal ∨ e = .ret) : vlim Try.prog O 32 [x0, x1] S = some (T.getD 4 undef, S1) :=
  vlim_code rfl rfl Try.func32 (by decide) neaptideref06_Same.body (by exact h) he (vRes_one (a := T.getD 4 undef) ((show vResVals Try.prog T S1 Try.f32.results.toList = vResVals Try.prog T S1 [(ResultVar.tmp 4)] from by kernel_rfl).trans (by simp only [vResVals])) (by kernel_rfl))
end Go.Proofs.Ytgggklfbhmlapaa

namespace Go.Proofs.Ytgggklfbhmlapaa
open Go.Abs

/-- slices.Equal[[]neaptide.api.Tx,neaptide.api.Tx] -/
abbrev slices_Equal.id : FuncId := 31
noncomputable def slices_Equal.loop1 : Code := (Code.seq (Code.region 4 (reg Try.f31 4) false) (Code.seq (Code.cond (Operand.tmp 14) Code.skip (Code.exit 0)) (Code.seq (Code.block 1 (Code.seq (Code.region 5 (reg Try.f31 5) false) (Code.seq (Code.region 6 (reg Try.f31 6) true) (Code.cond (Operand.tmp 24) (Code.seq (Code.region 7 (reg Try.f31 7) false) Code.ret) Code.skip)))) (Code.region 8 (reg Try.f31 8) false))))
noncomputable def slices_Equal.code : Code := (Code.seq (Code.region 0 (reg Try.f31 0) false) (Code.seq (Code.seq (Code.region 1 (reg Try.f31 1) false) (Code.cond (Operand.tmp 10) (Code.seq (Code.region 2 (reg Try.f31 2) false) Code.ret) Code.skip)) (Code.seq (Code.seq (Code.region 3 (reg Try.f31 3) false) (Code.block 0 (Code.loop slices_Equal.loop1))) (Code.seq (Code.region 9 (reg Try.f31 9) false) Code.ret))))
theorem slices_Equal.body : Try.f31.body = some slices_Equal.code := by kernel_rfl
theorem slices_Equal.eta {T : List Value} (h : T.length = 26) : T = [T.getD 0 undef,T.getD 1 undef,T.getD 2 undef,T.getD 3 undef,T.getD 4 undef,T.getD 5 undef,T.getD 6 undef,T.getD 7 undef,T.getD 8 undef,T.getD 9 undef,T.getD 10 undef,T.getD 11 undef,T.getD 12 undef,T.getD 13 undef,T.getD 14 undef,T.getD 15 undef,T.getD 16 undef,T.getD 17 undef,T.getD 18 undef,T.getD 19 undef,T.getD 20 undef,T.getD 21 undef,T.getD 22 undef,T.getD 23 undef,T.getD 24 undef,T.getD 25 undef] := (list_getD T 26 h).trans (by kernel_rfl)
theorem slices_Equal.list {T : List Value} (h : T.length = 26) : ∃ x0 x1 x2 x3 x4 x5 x6 x7 x8 x9 x10 x11 x12 x13 x14 x15 x16 x17 x18 x19 x20 x21 x22 x23 x24 x25, T = [x0,x1,x2,x3,x4,x5,x6,x7,x8,x9,x10,x11,x12,x13,x14,x15,x16,x17,x18,x19,x20,x21,x22,x23,x24,x25] := ⟨_, _, _, _, _, _, _, _, _, _, _, _, _, _, _, _, _, _, _, _, _, _, _, _, _, _, slices_Equal.eta h⟩
variable (x0 x1 x2 x3 x4 x5 x6 x7 x8 x9 x10 x11 x12 x13 x14 x15 x16 x17 x18 x19 x20 x21 x22 x23 x24 x25 : Value) (S : AHeap)
theorem slices_Equal.r0  : vOps Try.prog ⟨false, false, false⟩ (vlim Try.prog O) (reg Try.f31 0) (reg Try.f31 0).toList ([x0,x1,x2,x3,x4,x5,x6,x7,x8,x9,x10,x11,x12,x13,x14,x15,x16,x17,x18,x19,x20,x21,x22,x23,x24,x25]) S =
    ( some ([x0,x1,x2,x3,Value.bool false,x5,x6,x7,x8,x9,x10,x11,x12,x13,x14,x15,x16,x17,x18,x19,x20,x21,x22,x23,x24,x25], S)) := by
  refine sP Try.f31 0 0 (v := (Value.bool false)) ?_
  kernel_rfl
theorem slices_Equal.r1  : vOps Try.prog ⟨false, false, false⟩ (vlim Try.prog O) (reg Try.f31 1) (reg Try.f31 1).toList ([x0,x1,x2,x3,x4,x5,x6,x7,x8,x9,x10,x11,x12,x13,x14,x15,x16,x17,x18,x19,x20,x21,x22,x23,x24,x25]) S =
    (andK (vLen Try.prog 27 (dem x0) S) (fun v1 S1 => andK (vLen Try.prog 27 (dem x1) S1) (fun v3 S2 => andK (vBin Try.prog BinOp.neq 3 v1 v3 S2) (fun v4 S3 => some ([x0,x1,x2,x3,x4,x5,dem x0,v1,dem x1,v3,v4,x11,x12,x13,x14,x15,x16,x17,x18,x19,x20,x21,x22,x23,x24,x25], S3)) ()) ()) ()) := by
  refine sP Try.f31 1 0 (v := x0) ?_
  refine sD Try.f31 1 1 (fun v1 S1 => ?_)
  refine sP Try.f31 1 2 (v := x1) ?_
  refine sD Try.f31 1 3 (fun v3 S2 => ?_)
  refine sD Try.f31 1 4 (fun v4 S3 => ?_)
  kernel_rfl
theorem slices_Equal.r2  : vOps Try.prog ⟨false, false, false⟩ (vlim Try.prog O) (reg Try.f31 2) (reg Try.f31 2).toList ([x0,x1,x2,x3,x4,x5,x6,x7,x8,x9,x10,x11,x12,x13,x14,x15,x16,x17,x18,x19,x20,x21,x22,x23,x24,x25]) S =
    ( some ([x0,x1,x2,x3,Value.bool false,x5,x6,x7,x8,x9,x10,x11,x12,x13,x14,x15,x16,x17,x18,x19,x20,x21,x22,x23,x24,x25], S)) := by
  refine sP Try.f31 2 0 (v := (Value.bool false)) ?_
  kernel_rfl
theorem slices_Equal.r3  : vOps Try.prog ⟨false, false, false⟩ (vlim Try.prog O) (reg Try.f31 3) (reg Try.f31 3).toList ([x0,x1,x2,x3,x4,x5,x6,x7,x8,x9,x10,x11,x12,x13,x14,x15,x16,x17,x18,x19,x20,x21,x22,x23,x24,x25]) S =
    (andK (vLen Try.prog 27 (dem x0) S) (fun v1 S1 => some ([x0,x1,x2,x3,x4,x5,x6,x7,x8,x9,x10,dem x0,v1,Value.int IntKind.i64 0,x14,x15,x16,x17,x18,x19,x20,x21,x22,x23,x24,x25], S1)) ()) := by
  refine sP Try.f31 3 0 (v := x0) ?_
  refine sD Try.f31 3 1 (fun v1 S1 => ?_)
  refine sP Try.f31 3 2 (v := (Value.int IntKind.i64 0)) ?_
  kernel_rfl
theorem slices_Equal.r4  : vOps Try.prog ⟨false, false, false⟩ (vlim Try.prog O) (reg Try.f31 4) (reg Try.f31 4).toList ([x0,x1,x2,x3,x4,x5,x6,x7,x8,x9,x10,x11,x12,x13,x14,x15,x16,x17,x18,x19,x20,x21,x22,x23,x24,x25]) S =
    (andK (vBin Try.prog BinOp.lss 3 x13 x12 S) (fun v0 S1 => some ([x0,x1,x2,x3,x4,x5,x6,x7,x8,x9,x10,x11,x12,x13,v0,x15,x16,x17,x18,x19,x20,x21,x22,x23,x24,x25], S1)) ()) := by
  refine sD Try.f31 4 0 (fun v0 S1 => ?_)
  kernel_rfl
theorem slices_Equal.r5  : vOps Try.prog ⟨false, false, false⟩ (vlim Try.prog O) (reg Try.f31 5) (reg Try.f31 5).toList ([x0,x1,x2,x3,x4,x5,x6,x7,x8,x9,x10,x11,x12,x13,x14,x15,x16,x17,x18,x19,x20,x21,x22,x23,x24,x25]) S =
    ( some ([x0,x1,x2,x3,x4,x13,x6,x7,x8,x9,x10,x11,x12,dem x13,x14,dem x13,x16,x17,x18,x19,x20,x21,x22,x23,x24,x25], S)) := by
  refine sP Try.f31 5 0 (v := x13) ?_
  refine sP Try.f31 5 1 (v := x13) ?_
  kernel_rfl
theorem slices_Equal.d6 : drawnOk Try.prog (reg Try.f31 6) = true := by kernel_rfl
theorem slices_Equal.ff6 : fixed Try.prog (reg Try.f31 6) = false := by kernel_rfl
theorem slices_Equal.k6 : checked Try.prog (reg Try.f31 6) = [] := by kernel_rfl
theorem slices_Equal.g6 : again Try.prog (reg Try.f31 6) = [] := by kernel_rfl
theorem slices_Equal.r6  : vcodeV Try.prog O false (.region 6 (reg Try.f31 6) true) ([x0,x1,x2,x3,x4,x5,x6,x7,x8,x9,x10,x11,x12,x13,x14,x15,x16,x17,x18,x19,x20,x21,x22,x23,x24,x25]) S =
    regV (andK (vIndexAddr Try.prog 27 (dem x0) (dem x5) S) (fun v2 S1 => andK (vLoad Try.prog false 47 v2 S1) (fun v3 S2 => andK (vIndexAddr Try.prog 27 (dem x1) (dem x5) S2) (fun v6 S3 => andK (vLoad Try.prog false 47 v6 S3) (fun v7 S4 => andK (vBin Try.prog BinOp.neq 47 v3 v7 S4) (fun v8 S5 => some ([x0,x1,x2,x3,x4,x5,x6,x7,x8,x9,x10,x11,x12,x13,x14,x15,dem x0,dem x5,v2,v3,dem x1,dem x5,v6,v7,v8,x25], S5)) ()) ()) ()) ()) ()) := by
  rw [vcodeV_drawn slices_Equal.d6 slices_Equal.ff6 slices_Equal.k6 slices_Equal.g6]
  refine congrArg regV ?_
  refine tP Try.f31 6 0 (v := x0) ?_
  refine tP Try.f31 6 1 (v := x5) ?_
  refine tD Try.f31 6 2 (fun v2 S1 => ?_)
  refine tD Try.f31 6 3 (fun v3 S2 => ?_)
  refine tP Try.f31 6 4 (v := x1) ?_
  refine tP Try.f31 6 5 (v := x5) ?_
  refine tD Try.f31 6 6 (fun v6 S3 => ?_)
  refine tD Try.f31 6 7 (fun v7 S4 => ?_)
  refine tD Try.f31 6 8 (fun v8 S5 => ?_)
  kernel_rfl
theorem slices_Equal.r7  : vOps Try.prog ⟨false, false, false⟩ (vlim Try.prog O) (reg Try.f31 7) (reg Try.f31 7).toList ([x0,x1,x2,x3,x4,x5,x6,x7,x8,x9,x10,x11,x12,x13,x14,x15,x16,x17,x18,x19,x20,x21,x22,x23,x24,x25]) S =
    ( some ([x0,x1,x2,x3,Value.bool false,x5,x6,x7,x8,x9,x10,x11,x12,x13,x14,x15,x16,x17,x18,x19,x20,x21,x22,x23,x24,x25], S)) := by
  refine sP Try.f31 7 0 (v := (Value.bool false)) ?_
  kernel_rfl
theorem slices_Equal.r8  : vOps Try.prog ⟨false, false, false⟩ (vlim Try.prog O) (reg Try.f31 8) (reg Try.f31 8).toList ([x0,x1,x2,x3,x4,x5,x6,x7,x8,x9,x10,x11,x12,x13,x14,x15,x16,x17,x18,x19,x20,x21,x22,x23,x24,x25]) S =
    (andK (vBin Try.prog BinOp.add 3 x13 (Value.int IntKind.i64 1) S) (fun v0 S1 => some ([x0,x1,x2,x3,x4,x5,x6,x7,x8,x9,x10,x11,x12,dem v0,x14,x15,x16,x17,x18,x19,x20,x21,x22,x23,x24,v0], S1)) ()) := by
  refine sD Try.f31 8 0 (fun v0 S1 => ?_)
  refine sP Try.f31 8 1 (v := v0) ?_
  kernel_rfl
theorem slices_Equal.r9  : vOps Try.prog ⟨false, false, false⟩ (vlim Try.prog O) (reg Try.f31 9) (reg Try.f31 9).toList ([x0,x1,x2,x3,x4,x5,x6,x7,x8,x9,x10,x11,x12,x13,x14,x15,x16,x17,x18,x19,x20,x21,x22,x23,x24,x25]) S =
    ( some ([x0,x1,x2,x3,Value.bool true,x5,x6,x7,x8,x9,x10,x11,x12,x13,x14,x15,x16,x17,x18,x19,x20,x21,x22,x23,x24,x25], S)) := by
  refine sP Try.f31 9 0 (v := (Value.bool true)) ?_
  kernel_rfl
theorem slices_Equal.rs : type_of% (And.intro @slices_Equal.r0 (And.intro @slices_Equal.r1 (And.intro @slices_Equal.r2 (And.intro @slices_Equal.r3 (And.intro @slices_Equal.r4 (And.intro @slices_Equal.r5 (And.intro @slices_Equal.r6 (And.intro @slices_Equal.r7 (And.intro @slices_Equal.r8 (@slices_Equal.r9)))))))))) := And.intro @slices_Equal.r0 (And.intro @slices_Equal.r1 (And.intro @slices_Equal.r2 (And.intro @slices_Equal.r3 (And.intro @slices_Equal.r4 (And.intro @slices_Equal.r5 (And.intro @slices_Equal.r6 (And.intro @slices_Equal.r7 (And.intro @slices_Equal.r8 (@slices_Equal.r9)))))))))
theorem slices_Equal.runs {x0 x1 : Value} {S S1 : AHeap} {e : AEx} {T : List Value} (h : vcodeV Try.prog O false slices_Equal.code ([x0,x1,undef,undef,undef,undef,undef,undef,undef,undef,undef,undef,undef,undef,undef,undef,undef,undef,undef,undef,undef,undef,undef,undef,undef,undef]) S = some (e, T, S1)) (he : e = .normal ∨ e = .ret) : vlim Try.prog O 31 [x0, x1] S = some (T.getD 4 undef, S1) :=
  vlim_code rfl rfl Try.func31 (by decide) slices_Equal.body (by exact h) he (vRes_one (a := T.getD 4 undef) ((show vResVals Try.prog T S1 Try.f31.results.toList = vResVals Try.prog T S1 [(ResultVar.tmp 4)] from by kernel_rfl).trans (by simp only [vResVals])) (by kernel_rfl))
end Go.Proofs.Ytgggklfbhmlapaa

namespace Go.Proofs.Ytgggklfbhmlapaa
open Go.Abs

/-- neaptide.tx.unlike -/
abbrev tx_unlike.id : FuncId := 38
noncomputable def tx_unlike.loop1 : Code := (Code.seq (Code.region 3 (reg Try.f38 3) false) (Code.seq (Code.cond (Operand.tmp 10) Code.skip (Code.exit 0)) (Code.seq (Code.block 1 (Code.seq (Code.region 4 (reg Try.f38 4) false) (Code.seq (Code.seq (Code.region 5 (reg Try.f38 5) false) (Code.cond (Operand.tmp 16) (Code.seq (Code.region 6 (reg Try.f38 6) false) Code.ret) Code.skip)) (Code.region 7 (reg Try.f38 7) false)))) (Code.region 8 (reg Try.f38 8) false))))
noncomputable def tx_unlike.code : Code := (Code.seq (Code.region 0 (reg Try.f38 0) false) (Code.seq (Code.region 1 (reg Try.f38 1) false) (Code.seq (Code.seq (Code.region 2 (reg Try.f38 2) false) (Code.block 0 (Code.loop tx_unlike.loop1))) (Code.seq (Code.region 9 (reg Try.f38 9) false) Code.ret))))
theorem tx_unlike.body : Try.f38.body = some tx_unlike.code := by kernel_rfl
theorem tx_unlike.eta {T : List Value} (h : T.length = 24) : T = [T.getD 0 undef,T.getD 1 undef,T.getD 2 undef,T.getD 3 undef,T.getD 4 undef,T.getD 5 undef,T.getD 6 undef,T.getD 7 undef,T.getD 8 undef,T.getD 9 undef,T.getD 10 undef,T.getD 11 undef,T.getD 12 undef,T.getD 13 undef,T.getD 14 undef,T.getD 15 undef,T.getD 16 undef,T.getD 17 undef,T.getD 18 undef,T.getD 19 undef,T.getD 20 undef,T.getD 21 undef,T.getD 22 undef,T.getD 23 undef] := (list_getD T 24 h).trans (by kernel_rfl)
theorem tx_unlike.list {T : List Value} (h : T.length = 24) : ∃ x0 x1 x2 x3 x4 x5 x6 x7 x8 x9 x10 x11 x12 x13 x14 x15 x16 x17 x18 x19 x20 x21 x22 x23, T = [x0,x1,x2,x3,x4,x5,x6,x7,x8,x9,x10,x11,x12,x13,x14,x15,x16,x17,x18,x19,x20,x21,x22,x23] := ⟨_, _, _, _, _, _, _, _, _, _, _, _, _, _, _, _, _, _, _, _, _, _, _, _, tx_unlike.eta h⟩
variable (x0 x1 x2 x3 x4 x5 x6 x7 x8 x9 x10 x11 x12 x13 x14 x15 x16 x17 x18 x19 x20 x21 x22 x23 : Value) (S : AHeap)
theorem tx_unlike.r0  : vOps Try.prog ⟨false, false, false⟩ (vlim Try.prog O) (reg Try.f38 0) (reg Try.f38 0).toList ([x0,x1,x2,x3,x4,x5,x6,x7,x8,x9,x10,x11,x12,x13,x14,x15,x16,x17,x18,x19,x20,x21,x22,x23]) S =
    ( some ([x0,x1,Value.bool false,x3,x4,x5,x6,x7,x8,x9,x10,x11,x12,x13,x14,x15,x16,x17,x18,x19,x20,x21,x22,x23], S)) := by
  refine sP Try.f38 0 0 (v := (Value.bool false)) ?_
  kernel_rfl
theorem tx_unlike.r1  : vOps Try.prog ⟨false, false, false⟩ (vlim Try.prog O) (reg Try.f38 1) (reg Try.f38 1).toList ([x0,x1,x2,x3,x4,x5,x6,x7,x8,x9,x10,x11,x12,x13,x14,x15,x16,x17,x18,x19,x20,x21,x22,x23]) S =
    (andK (aMakeMap Try.prog 77 none S) (fun v0 S1 => some ([x0,x1,x2,v0,x4,x5,dem v0,x7,x8,x9,x10,x11,x12,x13,x14,x15,x16,x17,x18,x19,x20,x21,x22,x23], S1)) ()) := by
  refine sD Try.f38 1 0 (fun v0 S1 => ?_)
  refine sP Try.f38 1 1 (v := v0) ?_
  kernel_rfl
theorem tx_unlike.r2  : vOps Try.prog ⟨false, false, false⟩ (vlim Try.prog O) (reg Try.f38 2) (reg Try.f38 2).toList ([x0,x1,x2,x3,x4,x5,x6,x7,x8,x9,x10,x11,x12,x13,x14,x15,x16,x17,x18,x19,x20,x21,x22,x23]) S =
    (andK (vLen Try.prog 27 (dem x0) S) (fun v1 S1 => some ([x0,x1,x2,x3,x4,x5,x6,dem x0,v1,Value.int IntKind.i64 0,x10,x11,x12,x13,x14,x15,x16,x17,x18,x19,x20,x21,x22,x23], S1)) ()) := by
  refine sP Try.f38 2 0 (v := x0) ?_
  refine sD Try.f38 2 1 (fun v1 S1 => ?_)
  refine sP Try.f38 2 2 (v := (Value.int IntKind.i64 0)) ?_
  kernel_rfl
theorem tx_unlike.r3  : vOps Try.prog ⟨false, false, false⟩ (vlim Try.prog O) (reg Try.f38 3) (reg Try.f38 3).toList ([x0,x1,x2,x3,x4,x5,x6,x7,x8,x9,x10,x11,x12,x13,x14,x15,x16,x17,x18,x19,x20,x21,x22,x23]) S =
    (andK (vBin Try.prog BinOp.lss 3 x9 x8 S) (fun v0 S1 => some ([x0,x1,x2,x3,x4,x5,x6,x7,x8,x9,v0,x11,x12,x13,x14,x15,x16,x17,x18,x19,x20,x21,x22,x23], S1)) ()) := by
  refine sD Try.f38 3 0 (fun v0 S1 => ?_)
  kernel_rfl
theorem tx_unlike.r4  : vOps Try.prog ⟨false, false, false⟩ (vlim Try.prog O) (reg Try.f38 4) (reg Try.f38 4).toList ([x0,x1,x2,x3,x4,x5,x6,x7,x8,x9,x10,x11,x12,x13,x14,x15,x16,x17,x18,x19,x20,x21,x22,x23]) S =
    (andK (vIndexAddr Try.prog 27 x7 x9 S) (fun v0 S1 => andK (vLoad Try.prog false 47 v0 S1) (fun v1 S2 => andK (aAlloc Try.prog 47 S2) (fun v2 S3 => andK (vStore Try.prog 47 v2 (dem v1) S3) (fun v3 S4 => some ([x0,x1,x2,x3,x4,v2,x6,x7,x8,x9,x10,v0,v1,x13,x14,x15,x16,x17,x18,x19,x20,x21,x22,x23], S4)) ()) ()) ()) ()) := by
  refine sD Try.f38 4 0 (fun v0 S1 => ?_)
  refine sD Try.f38 4 1 (fun v1 S2 => ?_)
  refine sD Try.f38 4 2 (fun v2 S3 => ?_)
  refine sD Try.f38 4 3 (fun v3 S4 => ?_)
  kernel_rfl
theorem tx_unlike.r5  : vOps Try.prog ⟨false, false, false⟩ (vlim Try.prog O) (reg Try.f38 5) (reg Try.f38 5).toList ([x0,x1,x2,x3,x4,x5,x6,x7,x8,x9,x10,x11,x12,x13,x14,x15,x16,x17,x18,x19,x20,x21,x22,x23]) S =
    (andK (vFieldAddr Try.prog 47 x5 0 S) (fun v1 S1 => andK (vLoad Try.prog false 3 v1 S1) (fun v2 S2 => andK (vLookup Try.prog false 77 (dem x3) v2 false S2) (fun v3 S3 => some ([x0,x1,x2,x3,x4,x5,x6,x7,x8,x9,x10,x11,x12,dem x3,v1,v2,v3,x17,x18,x19,x20,x21,x22,x23], S3)) ()) ()) ()) := by
  refine sP Try.f38 5 0 (v := x3) ?_
  refine sD Try.f38 5 1 (fun v1 S1 => ?_)
  refine sD Try.f38 5 2 (fun v2 S2 => ?_)
  refine sD Try.f38 5 3 (fun v3 S3 => ?_)
  kernel_rfl
theorem tx_unlike.r6  : vOps Try.prog ⟨false, false, false⟩ (vlim Try.prog O) (reg Try.f38 6) (reg Try.f38 6).toList ([x0,x1,x2,x3,x4,x5,x6,x7,x8,x9,x10,x11,x12,x13,x14,x15,x16,x17,x18,x19,x20,x21,x22,x23]) S =
    ( some ([x0,x1,Value.bool false,x3,x4,x5,x6,x7,x8,x9,x10,x11,x12,x13,x14,x15,x16,x17,x18,x19,x20,x21,x22,x23], S)) := by
  refine sP Try.f38 6 0 (v := (Value.bool false)) ?_
  kernel_rfl
theorem tx_unlike.r7  : vOps Try.prog ⟨false, false, false⟩ (vlim Try.prog O) (reg Try.f38 7) (reg Try.f38 7).toList ([x0,x1,x2,x3,x4,x5,x6,x7,x8,x9,x10,x11,x12,x13,x14,x15,x16,x17,x18,x19,x20,x21,x22,x23]) S =
    (andK (vFieldAddr Try.prog 47 x5 0 S) (fun v1 S1 => andK (vLoad Try.prog false 3 v1 S1) (fun v2 S2 => andK (aMapUpdate Try.prog 77 (dem x3) v2 (Value.bool true) S2) (fun v3 S3 => some ([x0,x1,x2,x3,x4,x5,x6,x7,x8,x9,x10,x11,x12,x13,x14,x15,x16,dem x3,v1,v2,x20,x21,x22,x23], S3)) ()) ()) ()) := by
  refine sP Try.f38 7 0 (v := x3) ?_
  refine sD Try.f38 7 1 (fun v1 S1 => ?_)
  refine sD Try.f38 7 2 (fun v2 S2 => ?_)
  refine sD Try.f38 7 3 (fun v3 S3 => ?_)
  kernel_rfl
theorem tx_unlike.r8  : vOps Try.prog ⟨false, false, false⟩ (vlim Try.prog O) (reg Try.f38 8) (reg Try.f38 8).toList ([x0,x1,x2,x3,x4,x5,x6,x7,x8,x9,x10,x11,x12,x13,x14,x15,x16,x17,x18,x19,x20,x21,x22,x23]) S =
    (andK (vBin Try.prog BinOp.add 3 x9 (Value.int IntKind.i64 1) S) (fun v0 S1 => some ([x0,x1,x2,x3,x4,x5,x6,x7,x8,dem v0,x10,x11,x12,x13,x14,x15,x16,x17,x18,x19,v0,x21,x22,x23], S1)) ()) := by
  refine sD Try.f38 8 0 (fun v0 S1 => ?_)
  refine sP Try.f38 8 1 (v := v0) ?_
  kernel_rfl
theorem tx_unlike.r9  : vOps Try.prog ⟨false, false, false⟩ (vlim Try.prog O) (reg Try.f38 9) (reg Try.f38 9).toList ([x0,x1,x2,x3,x4,x5,x6,x7,x8,x9,x10,x11,x12,x13,x14,x15,x16,x17,x18,x19,x20,x21,x22,x23]) S =
    (andK (vLen Try.prog 27 (dem x0) S) (fun v1 S1 => andK (vBin Try.prog BinOp.leq 3 v1 (Value.int IntKind.i64 3) S1) (fun v2 S2 => some ([x0,x1,v2,x3,x4,x5,x6,x7,x8,x9,x10,x11,x12,x13,x14,x15,x16,x17,x18,x19,x20,dem x0,v1,dem v2], S2)) ()) ()) := by
  refine sP Try.f38 9 0 (v := x0) ?_
  refine sD Try.f38 9 1 (fun v1 S1 => ?_)
  refine sD Try.f38 9 2 (fun v2 S2 => ?_)
  refine sP Try.f38 9 3 (v := v2) ?_
  kernel_rfl
theorem tx_unlike.rs : type_of% (And.intro @tx_unlike.r0 (And.intro @tx_unlike.r1 (And.intro @tx_unlike.r2 (And.intro @tx_unlike.r3 (And.intro @tx_unlike.r4 (And.intro @tx_unlike.r5 (And.intro @tx_unlike.r6 (And.intro @tx_unlike.r7 (And.intro @tx_unlike.r8 (@tx_unlike.r9)))))))))) := And.intro @tx_unlike.r0 (And.intro @tx_unlike.r1 (And.intro @tx_unlike.r2 (And.intro @tx_unlike.r3 (And.intro @tx_unlike.r4 (And.intro @tx_unlike.r5 (And.intro @tx_unlike.r6 (And.intro @tx_unlike.r7 (And.intro @tx_unlike.r8 (@tx_unlike.r9)))))))))
theorem tx_unlike.runs {x0 : Value} {S S1 : AHeap} {e : AEx} {T : List Value} (h : vcodeV Try.prog O false tx_unlike.code ([x0,undef,undef,undef,undef,undef,undef,undef,undef,undef,undef,undef,undef,undef,undef,undef,undef,undef,undef,undef,undef,undef,undef,undef]) AHeap.empty = some (e, T, S1)) (he : e = .normal ∨ e = .ret) (hca : [x0].all (cleanN 16) = true) (hcv : cleanN 16 (T.getD 2 undef) = true) : vlim Try.prog O 38 [x0] S = some (T.getD 2 undef, S) :=
  vlim_pure rfl rfl Try.func38 (by decide) tx_unlike.body (by exact h) he (vRes_one (a := T.getD 2 undef) ((show vResVals Try.prog T S1 Try.f38.results.toList = vResVals Try.prog T S1 [(ResultVar.tmp 2)] from by kernel_rfl).trans (by simp only [vResVals])) (by kernel_rfl)) hca hcv
end Go.Proofs.Ytgggklfbhmlapaa

namespace Go.Proofs.Ytgggklfbhmlapaa
open Go.Abs

/-- neaptide.tx.List -/
abbrev tx_List.id : FuncId := 27
noncomputable def tx_List.loop1 : Code := (Code.seq (Code.region 5 (reg Try.f27 5) false) (Code.seq (Code.cond (Operand.tmp 23) Code.skip (Code.exit 0)) (Code.seq (Code.block 1 (Code.seq (Code.region 6 (reg Try.f27 6) false) (Code.seq (Code.region 7 (reg Try.f27 7) false) (Code.seq (Code.seq (Code.region 8 (reg Try.f27 8) false) (Code.cond (Operand.tmp 32) (Code.seq (Code.region 9 (reg Try.f27 9) false) Code.ret) Code.skip)) (Code.region 10 (reg Try.f27 10) false))))) (Code.region 11 (reg Try.f27 11) false))))
noncomputable def tx_List.code : Code := (Code.seq (Code.region 0 (reg Try.f27 0) false) (Code.seq (Code.seq (Code.region 1 (reg Try.f27 1) false) (Code.cond (Operand.tmp 12) (Code.seq (Code.region 2 (reg Try.f27 2) false) Code.ret) Code.skip)) (Code.seq (Code.region 3 (reg Try.f27 3) false) (Code.seq (Code.seq (Code.region 4 (reg Try.f27 4) false) (Code.block 0 (Code.loop tx_List.loop1))) (Code.seq (Code.region 12 (reg Try.f27 12) false) Code.ret)))))
theorem tx_List.body : Try.f27.body = some tx_List.code := by kernel_rfl
theorem tx_List.eta {T : List Value} (h : T.length = 39) : T = [T.getD 0 undef,T.getD 1 undef,T.getD 2 undef,T.getD 3 undef,T.getD 4 undef,T.getD 5 undef,T.getD 6 undef,T.getD 7 undef,T.getD 8 undef,T.getD 9 undef,T.getD 10 undef,T.getD 11 undef,T.getD 12 undef,T.getD 13 undef,T.getD 14 undef,T.getD 15 undef,T.getD 16 undef,T.getD 17 undef,T.getD 18 undef,T.getD 19 undef,T.getD 20 undef,T.getD 21 undef,T.getD 22 undef,T.getD 23 undef,T.getD 24 undef,T.getD 25 undef,T.getD 26 undef,T.getD 27 undef,T.getD 28 undef,T.getD 29 undef,T.getD 30 undef,T.getD 31 undef,T.getD 32 undef,T.getD 33 undef,T.getD 34 undef,T.getD 35 undef,T.getD 36 undef,T.getD 37 undef,T.getD 38 undef] := (list_getD T 39 h).trans (by kernel_rfl)
theorem tx_List.list {T : List Value} (h : T.length = 39) : ∃ x0 x1 x2 x3 x4 x5 x6 x7 x8 x9 x10 x11 x12 x13 x14 x15 x16 x17 x18 x19 x20 x21 x22 x23 x24 x25 x26 x27 x28 x29 x30 x31 x32 x33 x34 x35 x36 x37 x38, T = [x0,x1,x2,x3,x4,x5,x6,x7,x8,x9,x10,x11,x12,x13,x14,x15,x16,x17,x18,x19,x20,x21,x22,x23,x24,x25,x26,x27,x28,x29,x30,x31,x32,x33,x34,x35,x36,x37,x38] := ⟨_, _, _, _, _, _, _, _, _, _, _, _, _, _, _, _, _, _, _, _, _, _, _, _, _, _, _, _, _, _, _, _, _, _, _, _, _, _, _, tx_List.eta h⟩
variable (x0 x1 x2 x3 x4 x5 x6 x7 x8 x9 x10 x11 x12 x13 x14 x15 x16 x17 x18 x19 x20 x21 x22 x23 x24 x25 x26 x27 x28 x29 x30 x31 x32 x33 x34 x35 x36 x37 x38 : Value) (S : AHeap)
theorem tx_List.r0  : vOps Try.prog ⟨false, false, false⟩ (vlim Try.prog O) (reg Try.f27 0) (reg Try.f27 0).toList ([x0,x1,x2,x3,x4,x5,x6,x7,x8,x9,x10,x11,x12,x13,x14,x15,x16,x17,x18,x19,x20,x21,x22,x23,x24,x25,x26,x27,x28,x29,x30,x31,x32,x33,x34,x35,x36,x37,x38]) S =
    ( some ([x0,x1,Value.slice none 0 0,Value.int IntKind.i64 0,x4,x5,x6,x7,x8,x9,x10,x11,x12,x13,x14,x15,x16,x17,x18,x19,x20,x21,x22,x23,x24,x25,x26,x27,x28,x29,x30,x31,x32,x33,x34,x35,x36,x37,x38], S)) := by
  refine sP Try.f27 0 0 (v := (Value.slice none 0 0)) ?_
  refine sP Try.f27 0 1 (v := (Value.int IntKind.i64 0)) ?_
  kernel_rfl
theorem tx_List.r1  : vOps Try.prog ⟨false, false, false⟩ (vlim Try.prog O) (reg Try.f27 1) (reg Try.f27 1).toList ([x0,x1,x2,x3,x4,x5,x6,x7,x8,x9,x10,x11,x12,x13,x14,x15,x16,x17,x18,x19,x20,x21,x22,x23,x24,x25,x26,x27,x28,x29,x30,x31,x32,x33,x34,x35,x36,x37,x38]) S =
    (andK ((vlim Try.prog O) 38 [(dem (dem x0))] S) (fun v1 S1 => andK (aUn Try.prog UnOp.not v1 S1) (fun v2 S2 => some ([x0,x1,x2,x3,x4,x5,x6,x7,x8,x9,dem x0,v1,v2,x13,x14,x15,x16,x17,x18,x19,x20,x21,x22,x23,x24,x25,x26,x27,x28,x29,x30,x31,x32,x33,x34,x35,x36,x37,x38], S2)) ()) ()) := by
  refine sP Try.f27 1 0 (v := x0) ?_
  refine sD Try.f27 1 1 (fun v1 S1 => ?_)
  refine sD Try.f27 1 2 (fun v2 S2 => ?_)
  kernel_rfl
theorem tx_List.r2  : vOps Try.prog ⟨false, false, false⟩ (vlim Try.prog O) (reg Try.f27 2) (reg Try.f27 2).toList ([x0,x1,x2,x3,x4,x5,x6,x7,x8,x9,x10,x11,x12,x13,x14,x15,x16,x17,x18,x19,x20,x21,x22,x23,x24,x25,x26,x27,x28,x29,x30,x31,x32,x33,x34,x35,x36,x37,x38]) S =
    ( some ([x0,x1,Value.slice none 0 0,Value.int IntKind.i64 61,x4,x5,x6,x7,x8,x9,x10,x11,x12,x13,x14,x15,x16,x17,x18,x19,x20,x21,x22,x23,x24,x25,x26,x27,x28,x29,x30,x31,x32,x33,x34,x35,x36,x37,x38], S)) := by
  refine sP Try.f27 2 0 (v := (Value.slice none 0 0)) ?_
  refine sP Try.f27 2 1 (v := (Value.int IntKind.i64 61)) ?_
  kernel_rfl
theorem tx_List.r3  : vOps Try.prog ⟨false, false, false⟩ (vlim Try.prog O) (reg Try.f27 3) (reg Try.f27 3).toList ([x0,x1,x2,x3,x4,x5,x6,x7,x8,x9,x10,x11,x12,x13,x14,x15,x16,x17,x18,x19,x20,x21,x22,x23,x24,x25,x26,x27,x28,x29,x30,x31,x32,x33,x34,x35,x36,x37,x38]) S =
    (andK (vLen Try.prog 27 (dem x0) S) (fun v1 S1 => andK (vBuildSlice Try.prog 53 1 [(0, v1)] S1) (fun v2 S2 => andK ((vlim Try.prog O) 28 [(dem v2)] S2) (fun v3 S3 => andK (aExtract v3 0 S3) (fun v5 S4 => andK (aExtract (demPart 0 v3) 1 S4) (fun v6 S5 => some ([x0,x1,x2,x3,v5,v6,x6,x7,x8,x9,x10,x11,x12,demPart 1 (demPart 0 v3),dem x0,v1,v2,dem v3,dem v5,dem v6,x20,x21,x22,x23,x24,x25,x26,x27,x28,x29,x30,x31,x32,x33,x34,x35,x36,x37,x38], S5)) ()) ()) ()) ()) ()) := by
  refine sP Try.f27 3 0 (v := x0) ?_
  refine sD Try.f27 3 1 (fun v1 S1 => ?_)
  refine sD Try.f27 3 2 (fun v2 S2 => ?_)
  refine sD Try.f27 3 3 (fun v3 S3 => ?_)
  refine sP Try.f27 3 4 (v := v3) ?_
  refine sD Try.f27 3 5 (fun v5 S4 => ?_)
  refine sD Try.f27 3 6 (fun v6 S5 => ?_)
  refine sP Try.f27 3 7 (v := v5) ?_
  refine sP Try.f27 3 8 (v := v6) ?_
  kernel_rfl
theorem tx_List.r4  : vOps Try.prog ⟨false, false, false⟩ (vlim Try.prog O) (reg Try.f27 4) (reg Try.f27 4).toList ([x0,x1,x2,x3,x4,x5,x6,x7,x8,x9,x10,x11,x12,x13,x14,x15,x16,x17,x18,x19,x20,x21,x22,x23,x24,x25,x26,x27,x28,x29,x30,x31,x32,x33,x34,x35,x36,x37,x38]) S =
    (andK (vLen Try.prog 27 (dem x0) S) (fun v1 S1 => some ([x0,x1,x2,x3,x4,x5,x6,x7,x8,x9,x10,x11,x12,x13,x14,x15,x16,x17,x18,x19,dem x0,v1,Value.int IntKind.i64 0,x23,x24,x25,x26,x27,x28,x29,x30,x31,x32,x33,x34,x35,x36,x37,x38], S1)) ()) := by
  refine sP Try.f27 4 0 (v := x0) ?_
  refine sD Try.f27 4 1 (fun v1 S1 => ?_)
  refine sP Try.f27 4 2 (v := (Value.int IntKind.i64 0)) ?_
  kernel_rfl
theorem tx_List.r5  : vOps Try.prog ⟨false, false, false⟩ (vlim Try.prog O) (reg Try.f27 5) (reg Try.f27 5).toList ([x0,x1,x2,x3,x4,x5,x6,x7,x8,x9,x10,x11,x12,x13,x14,x15,x16,x17,x18,x19,x20,x21,x22,x23,x24,x25,x26,x27,x28,x29,x30,x31,x32,x33,x34,x35,x36,x37,x38]) S =
    (andK (vBin Try.prog BinOp.lss 3 x22 x21 S) (fun v0 S1 => some ([x0,x1,x2,x3,x4,x5,x6,x7,x8,x9,x10,x11,x12,x13,x14,x15,x16,x17,x18,x19,x20,x21,x22,v0,x24,x25,x26,x27,x28,x29,x30,x31,x32,x33,x34,x35,x36,x37,x38], S1)) ()) := by
  refine sD Try.f27 5 0 (fun v0 S1 => ?_)
  kernel_rfl
theorem tx_List.r6  : vOps Try.prog ⟨false, false, false⟩ (vlim Try.prog O) (reg Try.f27 6) (reg Try.f27 6).toList ([x0,x1,x2,x3,x4,x5,x6,x7,x8,x9,x10,x11,x12,x13,x14,x15,x16,x17,x18,x19,x20,x21,x22,x23,x24,x25,x26,x27,x28,x29,x30,x31,x32,x33,x34,x35,x36,x37,x38]) S =
    (andK (vIndexAddr Try.prog 27 x20 x22 S) (fun v0 S1 => andK (vLoad Try.prog false 47 v0 S1) (fun v1 S2 => andK (aAlloc Try.prog 47 S2) (fun v2 S3 => andK (vStore Try.prog 47 v2 (dem v1) S3) (fun v3 S4 => some ([x0,x1,x2,x3,x4,x5,x6,v2,x8,x9,x10,x11,x12,x13,x14,x15,x16,x17,x18,x19,x20,x21,x22,x23,v0,v1,x26,x27,x28,x29,x30,x31,x32,x33,x34,x35,x36,x37,x38], S4)) ()) ()) ()) ()) := by
  refine sD Try.f27 6 0 (fun v0 S1 => ?_)
  refine sD Try.f27 6 1 (fun v1 S2 => ?_)
  refine sD Try.f27 6 2 (fun v2 S3 => ?_)
  refine sD Try.f27 6 3 (fun v3 S4 => ?_)
  kernel_rfl
theorem tx_List.r7  : vOps Try.prog ⟨false, false, false⟩ (vlim Try.prog O) (reg Try.f27 7) (reg Try.f27 7).toList ([x0,x1,x2,x3,x4,x5,x6,x7,x8,x9,x10,x11,x12,x13,x14,x15,x16,x17,x18,x19,x20,x21,x22,x23,x24,x25,x26,x27,x28,x29,x30,x31,x32,x33,x34,x35,x36,x37,x38]) S =
    (andK (vLoad Try.prog false 47 x7 S) (fun v0 S1 => andK ((vlim Try.prog O) 39 [(dem v0)] S1) (fun v1 S2 => andK (aExtract v1 0 S2) (fun v3 S3 => andK (aExtract (demPart 0 v1) 1 S3) (fun v4 S4 => some ([x0,x1,x2,x3,x4,x5,x6,x7,v3,v4,x10,x11,x12,x13,x14,x15,x16,x17,x18,x19,x20,x21,x22,x23,x24,x25,demPart 1 (demPart 0 v1),v0,dem v1,dem v3,dem v4,x31,x32,x33,x34,x35,x36,x37,x38], S4)) ()) ()) ()) ()) := by
  refine sD Try.f27 7 0 (fun v0 S1 => ?_)
  refine sD Try.f27 7 1 (fun v1 S2 => ?_)
  refine sP Try.f27 7 2 (v := v1) ?_
  refine sD Try.f27 7 3 (fun v3 S3 => ?_)
  refine sD Try.f27 7 4 (fun v4 S4 => ?_)
  refine sP Try.f27 7 5 (v := v3) ?_
  refine sP Try.f27 7 6 (v := v4) ?_
  kernel_rfl
theorem tx_List.r8  : vOps Try.prog ⟨false, false, false⟩ (vlim Try.prog O) (reg Try.f27 8) (reg Try.f27 8).toList ([x0,x1,x2,x3,x4,x5,x6,x7,x8,x9,x10,x11,x12,x13,x14,x15,x16,x17,x18,x19,x20,x21,x22,x23,x24,x25,x26,x27,x28,x29,x30,x31,x32,x33,x34,x35,x36,x37,x38]) S =
    (andK (vBin Try.prog BinOp.neq 34 (dem x9) (Value.int IntKind.i64 0) S) (fun v1 S1 => some ([x0,x1,x2,x3,x4,x5,x6,x7,x8,x9,x10,x11,x12,x13,x14,x15,x16,x17,x18,x19,x20,x21,x22,x23,x24,x25,x26,x27,x28,x29,x30,dem x9,v1,x33,x34,x35,x36,x37,x38], S1)) ()) := by
  refine sP Try.f27 8 0 (v := x9) ?_
  refine sD Try.f27 8 1 (fun v1 S1 => ?_)
  kernel_rfl
theorem tx_List.r9  : vOps Try.prog ⟨false, false, false⟩ (vlim Try.prog O) (reg Try.f27 9) (reg Try.f27 9).toList ([x0,x1,x2,x3,x4,x5,x6,x7,x8,x9,x10,x11,x12,x13,x14,x15,x16,x17,x18,x19,x20,x21,x22,x23,x24,x25,x26,x27,x28,x29,x30,x31,x32,x33,x34,x35,x36,x37,x38]) S =
    ( some ([x0,x1,Value.slice none 0 0,x9,x4,x5,x6,x7,x8,dem x9,x10,x11,x12,x13,x14,x15,x16,x17,x18,x19,x20,x21,x22,x23,x24,x25,x26,x27,x28,x29,x30,x31,x32,dem x9,x34,x35,x36,x37,x38], S)) := by
  refine sP Try.f27 9 0 (v := x9) ?_
  refine sP Try.f27 9 1 (v := (Value.slice none 0 0)) ?_
  refine sP Try.f27 9 2 (v := x9) ?_
  kernel_rfl
theorem tx_List.r10  : vOps Try.prog ⟨false, false, false⟩ (vlim Try.prog O) (reg Try.f27 10) (reg Try.f27 10).toList ([x0,x1,x2,x3,x4,x5,x6,x7,x8,x9,x10,x11,x12,x13,x14,x15,x16,x17,x18,x19,x20,x21,x22,x23,x24,x25,x26,x27,x28,x29,x30,x31,x32,x33,x34,x35,x36,x37,x38]) S =
    (andK (vAppend Try.prog 33 33 x4 (dem x8) S) (fun v2 S1 => some ([x0,x1,x2,x3,v2,x5,x6,x7,x8,x9,x10,x11,x12,x13,x14,x15,x16,x17,x18,x19,x20,x21,x22,x23,x24,x25,x26,x27,x28,x29,x30,x31,x32,x33,dem x4,dem x8,dem v2,x37,x38], S1)) ()) := by
  refine sP Try.f27 10 0 (v := x4) ?_
  refine sP Try.f27 10 1 (v := x8) ?_
  refine sD Try.f27 10 2 (fun v2 S1 => ?_)
  refine sP Try.f27 10 3 (v := v2) ?_
  kernel_rfl
theorem tx_List.r11  : vOps Try.prog ⟨false, false, false⟩ (vlim Try.prog O) (reg Try.f27 11) (reg Try.f27 11).toList ([x0,x1,x2,x3,x4,x5,x6,x7,x8,x9,x10,x11,x12,x13,x14,x15,x16,x17,x18,x19,x20,x21,x22,x23,x24,x25,x26,x27,x28,x29,x30,x31,x32,x33,x34,x35,x36,x37,x38]) S =
    (andK (vBin Try.prog BinOp.add 3 x22 (Value.int IntKind.i64 1) S) (fun v0 S1 => some ([x0,x1,x2,x3,x4,x5,x6,x7,x8,x9,x10,x11,x12,x13,x14,x15,x16,x17,x18,x19,x20,x21,dem v0,x23,x24,x25,x26,x27,x28,x29,x30,x31,x32,x33,x34,x35,x36,v0,x38], S1)) ()) := by
  refine sD Try.f27 11 0 (fun v0 S1 => ?_)
  refine sP Try.f27 11 1 (v := v0) ?_
  kernel_rfl
theorem tx_List.r12  : vOps Try.prog ⟨false, false, false⟩ (vlim Try.prog O) (reg Try.f27 12) (reg Try.f27 12).toList ([x0,x1,x2,x3,x4,x5,x6,x7,x8,x9,x10,x11,x12,x13,x14,x15,x16,x17,x18,x19,x20,x21,x22,x23,x24,x25,x26,x27,x28,x29,x30,x31,x32,x33,x34,x35,x36,x37,x38]) S =
    ( some ([x0,x1,x4,Value.int IntKind.i64 0,dem x4,x5,x6,x7,x8,x9,x10,x11,x12,x13,x14,x15,x16,x17,x18,x19,x20,x21,x22,x23,x24,x25,x26,x27,x28,x29,x30,x31,x32,x33,x34,x35,x36,x37,dem x4], S)) := by
  refine sP Try.f27 12 0 (v := x4) ?_
  refine sP Try.f27 12 1 (v := x4) ?_
  refine sP Try.f27 12 2 (v := (Value.int IntKind.i64 0)) ?_
  kernel_rfl
theorem tx_List.rs : type_of% (And.intro @tx_List.r0 (And.intro @tx_List.r1 (And.intro @tx_List.r2 (And.intro @tx_List.r3 (And.intro @tx_List.r4 (And.intro @tx_List.r5 (And.intro @tx_List.r6 (And.intro @tx_List.r7 (And.intro @tx_List.r8 (And.intro @tx_List.r9 (And.intro @tx_List.r10 (And.intro @tx_List.r11 (@tx_List.r12))))))))))))) := And.intro @tx_List.r0 (And.intro @tx_List.r1 (And.intro @tx_List.r2 (And.intro @tx_List.r3 (And.intro @tx_List.r4 (And.intro @tx_List.r5 (And.intro @tx_List.r6 (And.intro @tx_List.r7 (And.intro @tx_List.r8 (And.intro @tx_List.r9 (And.intro @tx_List.r10 (And.intro @tx_List.r11 (@tx_List.r12))))))))))))
theorem tx_List.runs {x0 : Value} {S S1 : AHeap} {e : AEx} {T : List Value} (h : vcodeV Try.prog O false tx_List.code ([x0,undef,undef,undef,undef,undef,undef,undef,undef,undef,undef,undef,undef,undef,undef,undef,undef,undef,undef,undef,undef,undef,undef,undef,undef,undef,undef,undef,undef,undef,undef,undef,undef,undef,undef,undef,undef,undef,undef]) AHeap.empty = some (e, T, S1)) (he : e = .normal ∨ e = .ret)  (h0 : notTuple (T.getD 2 undef) = true) (h1 : notTuple (T.getD 3 undef) = true) (hca : [x0].all (cleanN 16) = true) (hcv : cleanN 16 (Value.tuple #[T.getD 2 undef, T.getD 3 undef]) = true) : vlim Try.prog O 27 [x0] S = some (Value.tuple #[T.getD 2 undef, T.getD 3 undef], S) :=
  vlim_pure rfl rfl Try.func27 (by decide) tx_List.body (by exact h) he ((vRes_many ((show vResVals Try.prog T S1 Try.f27.results.toList = vResVals Try.prog T S1 [(ResultVar.tmp 2), (ResultVar.tmp 3)] from by kernel_rfl).trans (by simp only [vResVals])) (by kernel_rfl) (by simp only [List.all_cons, List.all_nil, h0, h1, Bool.and_true])).trans rfl) hca hcv
end Go.Proofs.Ytgggklfbhmlapaa
