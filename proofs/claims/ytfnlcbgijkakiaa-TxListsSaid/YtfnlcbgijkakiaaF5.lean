/-
The seat's functions in a shallow form: each region as a chain of the interpreter's operations. Printed by a program; Lean checks each row.
-/
import Derived.Test.YtfnlcbgijkakiaaChecked
import Derived.Test.YtfnlcbgijkakiaaOra
import Derived.KernelRfl
set_option linter.unusedVariables false
set_option maxRecDepth 100000
namespace Go.Proofs.Ytfnlcbgijkakiaa
open Go.Abs

/-- neaptide.neaptidelaw06.TxLists -/
abbrev neaptidelaw06_TxLists.id : FuncId := 5
noncomputable def neaptidelaw06_TxLists.code : Code := (Code.seq (Code.region 0 (reg Try.f5 0) false) (Code.seq (Code.region 1 (reg Try.f5 1) false) (Code.seq (Code.region 2 (reg Try.f5 2) false) (Code.seq (Code.region 3 (reg Try.f5 3) false) Code.ret))))
theorem neaptidelaw06_TxLists.body : Try.f5.body = some neaptidelaw06_TxLists.code := by kernel_rfl
theorem neaptidelaw06_TxLists.eta {T : List Value} (h : T.length = 32) : T = [T.getD 0 undef,T.getD 1 undef,T.getD 2 undef,T.getD 3 undef,T.getD 4 undef,T.getD 5 undef,T.getD 6 undef,T.getD 7 undef,T.getD 8 undef,T.getD 9 undef,T.getD 10 undef,T.getD 11 undef,T.getD 12 undef,T.getD 13 undef,T.getD 14 undef,T.getD 15 undef,T.getD 16 undef,T.getD 17 undef,T.getD 18 undef,T.getD 19 undef,T.getD 20 undef,T.getD 21 undef,T.getD 22 undef,T.getD 23 undef,T.getD 24 undef,T.getD 25 undef,T.getD 26 undef,T.getD 27 undef,T.getD 28 undef,T.getD 29 undef,T.getD 30 undef,T.getD 31 undef] := (list_getD T 32 h).trans (by kernel_rfl)
variable (x0 x1 x2 x3 x4 x5 x6 x7 x8 x9 x10 x11 x12 x13 x14 x15 x16 x17 x18 x19 x20 x21 x22 x23 x24 x25 x26 x27 x28 x29 x30 x31 : Value) (S : AHeap)
theorem neaptidelaw06_TxLists.r0  : vOps Try.prog ⟨false, false, false⟩ (vlim Try.prog O) (reg Try.f5 0) (reg Try.f5 0).toList ([x0,x1,x2,x3,x4,x5,x6,x7,x8,x9,x10,x11,x12,x13,x14,x15,x16,x17,x18,x19,x20,x21,x22,x23,x24,x25,x26,x27,x28,x29,x30,x31]) S =
    ( some ([x0,x1,Value.bool false,x3,x4,x5,x6,x7,x8,x9,x10,x11,x12,x13,x14,x15,x16,x17,x18,x19,x20,x21,x22,x23,x24,x25,x26,x27,x28,x29,x30,x31], S)) := by
  refine sP Try.f5 0 0 (v := (Value.bool false)) ?_
  kernel_rfl
theorem neaptidelaw06_TxLists.r1  : vOps Try.prog ⟨false, false, false⟩ (vlim Try.prog O) (reg Try.f5 1) (reg Try.f5 1).toList ([x0,x1,x2,x3,x4,x5,x6,x7,x8,x9,x10,x11,x12,x13,x14,x15,x16,x17,x18,x19,x20,x21,x22,x23,x24,x25,x26,x27,x28,x29,x30,x31]) S =
    (andK (vBuildSlice Try.prog 34 0 [] S) (fun v0 S1 => andK (vAppend Try.prog 34 34 v0 (dem x0) S1) (fun v2 S2 => andK ((vlim Try.prog O) 17 [(dem v2)] S2) (fun v3 S3 => andK (aExtract v3 0 S3) (fun v5 S4 => andK (aExtract (demPart 0 v3) 1 S4) (fun v6 S5 => some ([x0,x1,x2,v5,v6,x5,x6,demPart 1 (demPart 0 v3),dem v0,dem x0,v2,dem v3,dem v5,dem v6,x14,x15,x16,x17,x18,x19,x20,x21,x22,x23,x24,x25,x26,x27,x28,x29,x30,x31], S5)) ()) ()) ()) ()) ()) := by
  refine sD Try.f5 1 0 (fun v0 S1 => ?_)
  refine sP Try.f5 1 1 (v := x0) ?_
  refine sD Try.f5 1 2 (fun v2 S2 => ?_)
  refine sD Try.f5 1 3 (fun v3 S3 => ?_)
  refine sP Try.f5 1 4 (v := v3) ?_
  refine sD Try.f5 1 5 (fun v5 S4 => ?_)
  refine sD Try.f5 1 6 (fun v6 S5 => ?_)
  refine sP Try.f5 1 7 (v := v5) ?_
  refine sP Try.f5 1 8 (v := v6) ?_
  kernel_rfl
theorem neaptidelaw06_TxLists.r2  : vOps Try.prog ⟨false, false, false⟩ (vlim Try.prog O) (reg Try.f5 2) (reg Try.f5 2).toList ([x0,x1,x2,x3,x4,x5,x6,x7,x8,x9,x10,x11,x12,x13,x14,x15,x16,x17,x18,x19,x20,x21,x22,x23,x24,x25,x26,x27,x28,x29,x30,x31]) S =
    (andK ((vlim Try.prog O) 18 [(dem (dem x0))] S) (fun v1 S1 => andK (aExtract v1 0 S1) (fun v3 S2 => andK (aExtract (demPart 0 v1) 1 S2) (fun v4 S3 => some ([x0,x1,x2,x3,x4,v3,v4,x7,x8,x9,x10,x11,x12,x13,demPart 1 (demPart 0 v1),dem x0,dem v1,dem v3,dem v4,x19,x20,x21,x22,x23,x24,x25,x26,x27,x28,x29,x30,x31], S3)) ()) ()) ()) := by
  refine sP Try.f5 2 0 (v := x0) ?_
  refine sD Try.f5 2 1 (fun v1 S1 => ?_)
  refine sP Try.f5 2 2 (v := v1) ?_
  refine sD Try.f5 2 3 (fun v3 S2 => ?_)
  refine sD Try.f5 2 4 (fun v4 S3 => ?_)
  refine sP Try.f5 2 5 (v := v3) ?_
  refine sP Try.f5 2 6 (v := v4) ?_
  kernel_rfl
theorem neaptidelaw06_TxLists.r3  : vOps Try.prog ⟨false, false, false⟩ (vlim Try.prog O) (reg Try.f5 3) (reg Try.f5 3).toList ([x0,x1,x2,x3,x4,x5,x6,x7,x8,x9,x10,x11,x12,x13,x14,x15,x16,x17,x18,x19,x20,x21,x22,x23,x24,x25,x26,x27,x28,x29,x30,x31]) S =
    (andK ((vlim Try.prog O) 12 [] S) (fun v0 S1 => gdK (dem v0) true (ret x3) S1 (fun v2 S2 => gdK (dem v0) true (vConvF Try.prog false false 24 9 (dem v2)) S2 (fun v3 S3 => gdK (dem v0) true (ret x5) S3 (fun v4 S4 => gdK (dem v0) true (vConvF Try.prog false false 24 9 (dem v4)) S4 (fun v5 S5 => gdK (dem v0) true (vBin Try.prog BinOp.eql 9 v3 v5) S5 (fun v6 S6 => andK (vPick (dem v0) v6 (Value.bool false) S6) (fun v7 S7 => gdK (dem v7) true (ret x4) S7 (fun v9 S8 => gdK (dem v7) true (ret x6) S8 (fun v10 S9 => gdK (dem v7) true (vBin Try.prog BinOp.eql 3 (dem v9) (dem v10)) S9 (fun v11 S10 => andK (vPick (dem v7) v11 (Value.bool false) S10) (fun v12 S11 => some ([x0,x1,v12,x3,x4,x5,x6,x7,x8,x9,x10,x11,x12,x13,x14,x15,x16,x17,x18,v0,dem v0,dem v2,v3,dem v4,v5,v6,v7,dem v7,dem v9,dem v10,v11,dem v12], S11)) ()) ()) ()) ()) ()) ()) ()) ()) ()) ()) ()) := by
  refine sD Try.f5 3 0 (fun v0 S1 => ?_)
  refine sP Try.f5 3 1 (v := v0) ?_
  refine sG Try.f5 3 2 (j := 1) (fun v2 S2 => ?_)
  refine sG Try.f5 3 3 (j := 1) (fun v3 S3 => ?_)
  refine sG Try.f5 3 4 (j := 1) (fun v4 S4 => ?_)
  refine sG Try.f5 3 5 (j := 1) (fun v5 S5 => ?_)
  refine sG Try.f5 3 6 (j := 1) (fun v6 S6 => ?_)
  refine sD Try.f5 3 7 (fun v7 S7 => ?_)
  refine sP Try.f5 3 8 (v := v7) ?_
  refine sG Try.f5 3 9 (j := 8) (fun v9 S8 => ?_)
  refine sG Try.f5 3 10 (j := 8) (fun v10 S9 => ?_)
  refine sG Try.f5 3 11 (j := 8) (fun v11 S10 => ?_)
  refine sD Try.f5 3 12 (fun v12 S11 => ?_)
  refine sP Try.f5 3 13 (v := v12) ?_
  kernel_rfl
theorem neaptidelaw06_TxLists.rs : type_of% (And.intro @neaptidelaw06_TxLists.r0 (And.intro @neaptidelaw06_TxLists.r1 (And.intro @neaptidelaw06_TxLists.r2 (@neaptidelaw06_TxLists.r3)))) := And.intro @neaptidelaw06_TxLists.r0 (And.intro @neaptidelaw06_TxLists.r1 (And.intro @neaptidelaw06_TxLists.r2 (@neaptidelaw06_TxLists.r3)))
theorem neaptidelaw06_TxLists.runs {x0 : Value} {S S1 : AHeap} {e : AEx} {T : List Value} (h : vcodeV Try.prog O false neaptidelaw06_TxLists.code ([x0,undef,undef,undef,undef,undef,undef,undef,undef,undef,undef,undef,undef,undef,undef,undef,undef,undef,undef,undef,undef,undef,undef,undef,undef,undef,undef,undef,undef,undef,undef,undef]) S = some (e, T, S1)) (he : e = .normal ∨ e = .ret) : vlim Try.prog O 5 [x0] S = some (T.getD 2 undef, S1) :=
  vlim_code rfl rfl Try.func5 (by decide) neaptidelaw06_TxLists.body (by exact h) he (vRes_one (a := T.getD 2 undef) ((show vResVals Try.prog T S1 Try.f5.results.toList = vResVals Try.prog T S1 [(ResultVar.tmp 2)] from by kernel_rfl).trans (by simp only [vResVals])) (by kernel_rfl))
end Go.Proofs.Ytfnlcbgijkakiaa
