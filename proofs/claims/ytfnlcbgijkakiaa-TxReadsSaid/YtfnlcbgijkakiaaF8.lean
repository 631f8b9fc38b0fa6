/-
The seat's functions in a shallow form: each region as a chain of the interpreter's operations. Printed by a program; Lean checks each row.
-/
import Derived.Test.YtfnlcbgijkakiaaChecked
import Derived.Test.YtfnlcbgijkakiaaOra
import Derived.KernelRfl
set_option linter.unusedVariables false
set_option maxRecDepth 100000
namespace Go.Proofs.Ytfnlcbgijkakiaa
open Go.Abs

/-- neaptide.neaptidelaw06.TxReads -/
abbrev neaptidelaw06_TxReads.id : FuncId := 8
noncomputable def neaptidelaw06_TxReads.code : Code := (Code.seq (Code.region 0 (reg Try.f8 0) false) (Code.seq (Code.region 1 (reg Try.f8 1) false) (Code.seq (Code.region 2 (reg Try.f8 2) false) (Code.seq (Code.region 3 (reg Try.f8 3) false) (Code.seq (Code.region 4 (reg Try.f8 4) false) (Code.seq (Code.region 5 (reg Try.f8 5) false) Code.ret))))))
theorem neaptidelaw06_TxReads.body : Try.f8.body = some neaptidelaw06_TxReads.code := by kernel_rfl
theorem neaptidelaw06_TxReads.eta {T : List Value} (h : T.length = 56) : T = [T.getD 0 undef,T.getD 1 undef,T.getD 2 undef,T.getD 3 undef,T.getD 4 undef,T.getD 5 undef,T.getD 6 undef,T.getD 7 undef,T.getD 8 undef,T.getD 9 undef,T.getD 10 undef,T.getD 11 undef,T.getD 12 undef,T.getD 13 undef,T.getD 14 undef,T.getD 15 undef,T.getD 16 undef,T.getD 17 undef,T.getD 18 undef,T.getD 19 undef,T.getD 20 undef,T.getD 21 undef,T.getD 22 undef,T.getD 23 undef,T.getD 24 undef,T.getD 25 undef,T.getD 26 undef,T.getD 27 undef,T.getD 28 undef,T.getD 29 undef,T.getD 30 undef,T.getD 31 undef,T.getD 32 undef,T.getD 33 undef,T.getD 34 undef,T.getD 35 undef,T.getD 36 undef,T.getD 37 undef,T.getD 38 undef,T.getD 39 undef,T.getD 40 undef,T.getD 41 undef,T.getD 42 undef,T.getD 43 undef,T.getD 44 undef,T.getD 45 undef,T.getD 46 undef,T.getD 47 undef,T.getD 48 undef,T.getD 49 undef,T.getD 50 undef,T.getD 51 undef,T.getD 52 undef,T.getD 53 undef,T.getD 54 undef,T.getD 55 undef] := (list_getD T 56 h).trans (by kernel_rfl)
variable (x0 x1 x2 x3 x4 x5 x6 x7 x8 x9 x10 x11 x12 x13 x14 x15 x16 x17 x18 x19 x20 x21 x22 x23 x24 x25 x26 x27 x28 x29 x30 x31 x32 x33 x34 x35 x36 x37 x38 x39 x40 x41 x42 x43 x44 x45 x46 x47 x48 x49 x50 x51 x52 x53 x54 x55 : Value) (S : AHeap)
theorem neaptidelaw06_TxReads.r0  : vOps Try.prog ⟨false, false, false⟩ (vlim Try.prog O) (reg Try.f8 0) (reg Try.f8 0).toList ([x0,x1,x2,x3,x4,x5,x6,x7,x8,x9,x10,x11,x12,x13,x14,x15,x16,x17,x18,x19,x20,x21,x22,x23,x24,x25,x26,x27,x28,x29,x30,x31,x32,x33,x34,x35,x36,x37,x38,x39,x40,x41,x42,x43,x44,x45,x46,x47,x48,x49,x50,x51,x52,x53,x54,x55]) S =
    ( some ([x0,x1,Value.bool false,x3,x4,x5,x6,x7,x8,x9,x10,x11,x12,x13,x14,x15,x16,x17,x18,x19,x20,x21,x22,x23,x24,x25,x26,x27,x28,x29,x30,x31,x32,x33,x34,x35,x36,x37,x38,x39,x40,x41,x42,x43,x44,x45,x46,x47,x48,x49,x50,x51,x52,x53,x54,x55], S)) := by
  refine sP Try.f8 0 0 (v := (Value.bool false)) ?_
  kernel_rfl
theorem neaptidelaw06_TxReads.r1  : vOps Try.prog ⟨false, false, false⟩ (vlim Try.prog O) (reg Try.f8 1) (reg Try.f8 1).toList ([x0,x1,x2,x3,x4,x5,x6,x7,x8,x9,x10,x11,x12,x13,x14,x15,x16,x17,x18,x19,x20,x21,x22,x23,x24,x25,x26,x27,x28,x29,x30,x31,x32,x33,x34,x35,x36,x37,x38,x39,x40,x41,x42,x43,x44,x45,x46,x47,x48,x49,x50,x51,x52,x53,x54,x55]) S =
    (andK (vBuildSlice Try.prog 24 0 [] S) (fun v0 S1 => andK (vAppend Try.prog 24 24 v0 (dem x0) S1) (fun v2 S2 => andK ((vlim Try.prog O) 19 [(dem v2)] S2) (fun v3 S3 => andK (aExtract v3 0 S3) (fun v5 S4 => andK (aExtract (demPart 0 v3) 1 S4) (fun v6 S5 => andK (aAlloc Try.prog 23 S5) (fun v7 S6 => andK (vStore Try.prog 23 v7 (dem v5) S6) (fun v8 S7 => some ([x0,x1,x2,v7,v6,x5,x6,x7,x8,x9,x10,demPart 1 (demPart 0 v3),dem v0,dem x0,v2,dem v3,v5,dem v6,x18,x19,x20,x21,x22,x23,x24,x25,x26,x27,x28,x29,x30,x31,x32,x33,x34,x35,x36,x37,x38,x39,x40,x41,x42,x43,x44,x45,x46,x47,x48,x49,x50,x51,x52,x53,x54,x55], S7)) ()) ()) ()) ()) ()) ()) ()) := by
  refine sD Try.f8 1 0 (fun v0 S1 => ?_)
  refine sP Try.f8 1 1 (v := x0) ?_
  refine sD Try.f8 1 2 (fun v2 S2 => ?_)
  refine sD Try.f8 1 3 (fun v3 S3 => ?_)
  refine sP Try.f8 1 4 (v := v3) ?_
  refine sD Try.f8 1 5 (fun v5 S4 => ?_)
  refine sD Try.f8 1 6 (fun v6 S5 => ?_)
  refine sD Try.f8 1 7 (fun v7 S6 => ?_)
  refine sD Try.f8 1 8 (fun v8 S7 => ?_)
  refine sP Try.f8 1 9 (v := v6) ?_
  kernel_rfl
theorem neaptidelaw06_TxReads.r2  : vOps Try.prog ⟨false, false, false⟩ (vlim Try.prog O) (reg Try.f8 2) (reg Try.f8 2).toList ([x0,x1,x2,x3,x4,x5,x6,x7,x8,x9,x10,x11,x12,x13,x14,x15,x16,x17,x18,x19,x20,x21,x22,x23,x24,x25,x26,x27,x28,x29,x30,x31,x32,x33,x34,x35,x36,x37,x38,x39,x40,x41,x42,x43,x44,x45,x46,x47,x48,x49,x50,x51,x52,x53,x54,x55]) S =
    (andK ((vlim Try.prog O) 21 [(dem (dem x0))] S) (fun v1 S1 => andK (aExtract v1 0 S1) (fun v3 S2 => andK (aExtract (demPart 0 v1) 1 S2) (fun v4 S3 => andK (aAlloc Try.prog 23 S3) (fun v5 S4 => andK (vStore Try.prog 23 v5 (dem v3) S4) (fun v6 S5 => some ([x0,x1,x2,x3,x4,v5,v4,x7,x8,x9,x10,x11,x12,x13,x14,x15,x16,x17,demPart 1 (demPart 0 v1),dem x0,dem v1,v3,dem v4,x23,x24,x25,x26,x27,x28,x29,x30,x31,x32,x33,x34,x35,x36,x37,x38,x39,x40,x41,x42,x43,x44,x45,x46,x47,x48,x49,x50,x51,x52,x53,x54,x55], S5)) ()) ()) ()) ()) ()) := by
  refine sP Try.f8 2 0 (v := x0) ?_
  refine sD Try.f8 2 1 (fun v1 S1 => ?_)
  refine sP Try.f8 2 2 (v := v1) ?_
  refine sD Try.f8 2 3 (fun v3 S2 => ?_)
  refine sD Try.f8 2 4 (fun v4 S3 => ?_)
  refine sD Try.f8 2 5 (fun v5 S4 => ?_)
  refine sD Try.f8 2 6 (fun v6 S5 => ?_)
  refine sP Try.f8 2 7 (v := v4) ?_
  kernel_rfl
theorem neaptidelaw06_TxReads.r3  : vOps Try.prog ⟨false, false, false⟩ (vlim Try.prog O) (reg Try.f8 3) (reg Try.f8 3).toList ([x0,x1,x2,x3,x4,x5,x6,x7,x8,x9,x10,x11,x12,x13,x14,x15,x16,x17,x18,x19,x20,x21,x22,x23,x24,x25,x26,x27,x28,x29,x30,x31,x32,x33,x34,x35,x36,x37,x38,x39,x40,x41,x42,x43,x44,x45,x46,x47,x48,x49,x50,x51,x52,x53,x54,x55]) S =
    (andK (vBuildSlice Try.prog 24 0 [] S) (fun v0 S1 => andK (vAppend Try.prog 24 24 v0 (dem x0) S1) (fun v2 S2 => andK ((vlim Try.prog O) 22 [(dem v2)] S2) (fun v3 S3 => andK (aExtract v3 0 S3) (fun v5 S4 => andK (aExtract (demPart 0 v3) 1 S4) (fun v6 S5 => some ([x0,x1,x2,x3,x4,x5,x6,v5,v6,x9,x10,x11,x12,x13,x14,x15,x16,x17,x18,x19,x20,x21,x22,demPart 1 (demPart 0 v3),dem v0,dem x0,v2,dem v3,dem v5,dem v6,x30,x31,x32,x33,x34,x35,x36,x37,x38,x39,x40,x41,x42,x43,x44,x45,x46,x47,x48,x49,x50,x51,x52,x53,x54,x55], S5)) ()) ()) ()) ()) ()) := by
  refine sD Try.f8 3 0 (fun v0 S1 => ?_)
  refine sP Try.f8 3 1 (v := x0) ?_
  refine sD Try.f8 3 2 (fun v2 S2 => ?_)
  refine sD Try.f8 3 3 (fun v3 S3 => ?_)
  refine sP Try.f8 3 4 (v := v3) ?_
  refine sD Try.f8 3 5 (fun v5 S4 => ?_)
  refine sD Try.f8 3 6 (fun v6 S5 => ?_)
  refine sP Try.f8 3 7 (v := v5) ?_
  refine sP Try.f8 3 8 (v := v6) ?_
  kernel_rfl
theorem neaptidelaw06_TxReads.r4  : vOps Try.prog ⟨false, false, false⟩ (vlim Try.prog O) (reg Try.f8 4) (reg Try.f8 4).toList ([x0,x1,x2,x3,x4,x5,x6,x7,x8,x9,x10,x11,x12,x13,x14,x15,x16,x17,x18,x19,x20,x21,x22,x23,x24,x25,x26,x27,x28,x29,x30,x31,x32,x33,x34,x35,x36,x37,x38,x39,x40,x41,x42,x43,x44,x45,x46,x47,x48,x49,x50,x51,x52,x53,x54,x55]) S =
    (andK ((vlim Try.prog O) 23 [(dem (dem x0))] S) (fun v1 S1 => andK (aExtract v1 0 S1) (fun v3 S2 => andK (aExtract (demPart 0 v1) 1 S2) (fun v4 S3 => some ([x0,x1,x2,x3,x4,x5,x6,x7,x8,v3,v4,x11,x12,x13,x14,x15,x16,x17,x18,x19,x20,x21,x22,x23,x24,x25,x26,x27,x28,x29,demPart 1 (demPart 0 v1),dem x0,dem v1,dem v3,dem v4,x35,x36,x37,x38,x39,x40,x41,x42,x43,x44,x45,x46,x47,x48,x49,x50,x51,x52,x53,x54,x55], S3)) ()) ()) ()) := by
  refine sP Try.f8 4 0 (v := x0) ?_
  refine sD Try.f8 4 1 (fun v1 S1 => ?_)
  refine sP Try.f8 4 2 (v := v1) ?_
  refine sD Try.f8 4 3 (fun v3 S2 => ?_)
  refine sD Try.f8 4 4 (fun v4 S3 => ?_)
  refine sP Try.f8 4 5 (v := v3) ?_
  refine sP Try.f8 4 6 (v := v4) ?_
  kernel_rfl
theorem neaptidelaw06_TxReads.r5  : vOps Try.prog ⟨false, false, false⟩ (vlim Try.prog O) (reg Try.f8 5) (reg Try.f8 5).toList ([x0,x1,x2,x3,x4,x5,x6,x7,x8,x9,x10,x11,x12,x13,x14,x15,x16,x17,x18,x19,x20,x21,x22,x23,x24,x25,x26,x27,x28,x29,x30,x31,x32,x33,x34,x35,x36,x37,x38,x39,x40,x41,x42,x43,x44,x45,x46,x47,x48,x49,x50,x51,x52,x53,x54,x55]) S =
    (andK ((vlim Try.prog O) 12 [] S) (fun v0 S1 => gdK (dem v0) true (vLoad Try.prog false 23 x3) S1 (fun v2 S2 => gdK (dem v0) true (vLoad Try.prog false 23 x5) S2 (fun v3 S3 => gdK (dem v0) true (vBin Try.prog BinOp.eql 23 v2 v3) S3 (fun v4 S4 => andK (vPick (dem v0) v4 (Value.bool false) S4) (fun v5 S5 => gdK (dem v5) true (ret x4) S5 (fun v7 S6 => gdK (dem v5) true (ret x6) S6 (fun v8 S7 => gdK (dem v5) true (vBin Try.prog BinOp.eql 3 (dem v7) (dem v8)) S7 (fun v9 S8 => andK (vPick (dem v5) v9 (Value.bool false) S8) (fun v10 S9 => gdK (dem v10) true (ret x7) S9 (fun v12 S10 => gdK (dem v10) true (ret x9) S10 (fun v13 S11 => gdK (dem v10) true ((vlim Try.prog O) 20 [(dem (dem v12)), (dem (dem v13))]) S11 (fun v14 S12 => andK (vPick (dem v10) v14 (Value.bool false) S12) (fun v15 S13 => gdK (dem v15) true (ret x8) S13 (fun v17 S14 => gdK (dem v15) true (ret x10) S14 (fun v18 S15 => gdK (dem v15) true (vBin Try.prog BinOp.eql 3 (dem v17) (dem v18)) S15 (fun v19 S16 => andK (vPick (dem v15) v19 (Value.bool false) S16) (fun v20 S17 => some ([x0,x1,v20,x3,x4,x5,x6,x7,x8,x9,x10,x11,x12,x13,x14,x15,x16,x17,x18,x19,x20,x21,x22,x23,x24,x25,x26,x27,x28,x29,x30,x31,x32,x33,x34,v0,dem v0,v2,v3,v4,v5,dem v5,dem v7,dem v8,v9,v10,dem v10,dem v12,dem v13,v14,v15,dem v15,dem v17,dem v18,v19,dem v20], S17)) ()) ()) ()) ()) ()) ()) ()) ()) ()) ()) ()) ()) ()) ()) ()) ()) ()) := by
  refine sD Try.f8 5 0 (fun v0 S1 => ?_)
  refine sP Try.f8 5 1 (v := v0) ?_
  refine sG Try.f8 5 2 (j := 1) (fun v2 S2 => ?_)
  refine sG Try.f8 5 3 (j := 1) (fun v3 S3 => ?_)
  refine sG Try.f8 5 4 (j := 1) (fun v4 S4 => ?_)
  refine sD Try.f8 5 5 (fun v5 S5 => ?_)
  refine sP Try.f8 5 6 (v := v5) ?_
  refine sG Try.f8 5 7 (j := 6) (fun v7 S6 => ?_)
  refine sG Try.f8 5 8 (j := 6) (fun v8 S7 => ?_)
  refine sG Try.f8 5 9 (j := 6) (fun v9 S8 => ?_)
  refine sD Try.f8 5 10 (fun v10 S9 => ?_)
  refine sP Try.f8 5 11 (v := v10) ?_
  refine sG Try.f8 5 12 (j := 11) (fun v12 S10 => ?_)
  refine sG Try.f8 5 13 (j := 11) (fun v13 S11 => ?_)
  refine sG Try.f8 5 14 (j := 11) (fun v14 S12 => ?_)
  refine sD Try.f8 5 15 (fun v15 S13 => ?_)
  refine sP Try.f8 5 16 (v := v15) ?_
  refine sG Try.f8 5 17 (j := 16) (fun v17 S14 => ?_)
  refine sG Try.f8 5 18 (j := 16) (fun v18 S15 => ?_)
  refine sG Try.f8 5 19 (j := 16) (fun v19 S16 => ?_)
  refine sD Try.f8 5 20 (fun v20 S17 => ?_)
  refine sP Try.f8 5 21 (v := v20) ?_
  kernel_rfl
theorem neaptidelaw06_TxReads.rs : type_of% (And.intro @neaptidelaw06_TxReads.r0 (And.intro @neaptidelaw06_TxReads.r1 (And.intro @neaptidelaw06_TxReads.r2 (And.intro @neaptidelaw06_TxReads.r3 (And.intro @neaptidelaw06_TxReads.r4 (@neaptidelaw06_TxReads.r5)))))) := And.intro @neaptidelaw06_TxReads.r0 (And.intro @neaptidelaw06_TxReads.r1 (And.intro @neaptidelaw06_TxReads.r2 (And.intro @neaptidelaw06_TxReads.r3 (And.intro @neaptidelaw06_TxReads.r4 (@neaptidelaw06_TxReads.r5)))))
theorem neaptidelaw06_TxReads.runs {x0 : Value} {S S1 : AHeap} {e : AEx} {T : List Value} (h : vcodeV Try.prog O false neaptidelaw06_TxReads.code ([x0,undef,undef,undef,undef,undef,undef,undef,undef,undef,undef,undef,undef,undef,undef,undef,undef,undef,undef,undef,undef,undef,undef,undef,undef,undef,undef,undef,undef,undef,undef,undef,undef,undef,undef,undef,undef,undef,undef,undef,undef,undef,undef,undef,undef,undef,undef,undef,undef,undef,undef,undef,undef,undef,undef,undef]) S = some (e, T, S1)) (he : e = .normal ∨ e = .ret) : vlim Try.prog O 8 [x0] S = some (T.getD 2 undef, S1) :=
  vlim_code rfl rfl Try.func8 (by decide) neaptidelaw06_TxReads.body (by exact h) he (vRes_one (a := T.getD 2 undef) ((show vResVals Try.prog T S1 Try.f8.results.toList = vResVals Try.prog T S1 [(ResultVar.tmp 2)] from by kernel_rfl).trans (by simp only [vResVals])) (by kernel_rfl))
end Go.Proofs.Ytfnlcbgijkakiaa
