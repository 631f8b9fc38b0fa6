/-
The seat's functions in a shallow form: each region as a chain of the interpreter's operations. Printed by a program; Lean checks each row.
-/
import Derived.Test.YtgggklfbhmlapaaChecked
import Derived.Test.YtgggklfbhmlapaaOra
import Derived.KernelRfl
set_option linter.unusedVariables false
set_option maxRecDepth 100000
namespace Go.Proofs.Ytgggklfbhmlapaa
open Go.Abs

/-- neaptide.neaptidelaw07.BlockReads -/
abbrev neaptidelaw07_BlockReads.id : FuncId := 7
noncomputable def neaptidelaw07_BlockReads.code : Code := (Code.seq (Code.region 0 (reg Try.f7 0) false) (Code.seq (Code.region 1 (reg Try.f7 1) false) (Code.seq (Code.region 2 (reg Try.f7 2) false) (Code.seq (Code.region 3 (reg Try.f7 3) false) Code.ret))))
theorem neaptidelaw07_BlockReads.body : Try.f7.body = some neaptidelaw07_BlockReads.code := by kernel_rfl
theorem neaptidelaw07_BlockReads.eta {T : List Value} (h : T.length = 30) : T = [T.getD 0 undef,T.getD 1 undef,T.getD 2 undef,T.getD 3 undef,T.getD 4 undef,T.getD 5 undef,T.getD 6 undef,T.getD 7 undef,T.getD 8 undef,T.getD 9 undef,T.getD 10 undef,T.getD 11 undef,T.getD 12 undef,T.getD 13 undef,T.getD 14 undef,T.getD 15 undef,T.getD 16 undef,T.getD 17 undef,T.getD 18 undef,T.getD 19 undef,T.getD 20 undef,T.getD 21 undef,T.getD 22 undef,T.getD 23 undef,T.getD 24 undef,T.getD 25 undef,T.getD 26 undef,T.getD 27 undef,T.getD 28 undef,T.getD 29 undef] := (list_getD T 30 h).trans (by kernel_rfl)
variable (x0 x1 x2 x3 x4 x5 x6 x7 x8 x9 x10 x11 x12 x13 x14 x15 x16 x17 x18 x19 x20 x21 x22 x23 x24 x25 x26 x27 x28 x29 : Value) (S : AHeap)
theorem neaptidelaw07_BlockReads.r0  : vOps Try.prog ⟨false, false, false⟩ (vlim Try.prog O) (reg Try.f7 0) (reg Try.f7 0).toList ([x0,x1,x2,x3,x4,x5,x6,x7,x8,x9,x10,x11,x12,x13,x14,x15,x16,x17,x18,x19,x20,x21,x22,x23,x24,x25,x26,x27,x28,x29]) S =
    ( some ([x0,x1,Value.bool false,x3,x4,x5,x6,x7,x8,x9,x10,x11,x12,x13,x14,x15,x16,x17,x18,x19,x20,x21,x22,x23,x24,x25,x26,x27,x28,x29], S)) := by
  refine sP Try.f7 0 0 (v := (Value.bool false)) ?_
  kernel_rfl
theorem neaptidelaw07_BlockReads.r1  : vOps Try.prog ⟨false, false, false⟩ (vlim Try.prog O) (reg Try.f7 1) (reg Try.f7 1).toList ([x0,x1,x2,x3,x4,x5,x6,x7,x8,x9,x10,x11,x12,x13,x14,x15,x16,x17,x18,x19,x20,x21,x22,x23,x24,x25,x26,x27,x28,x29]) S =
    (andK (vBuildSlice Try.prog 33 0 [] S) (fun v0 S1 => andK (vAppend Try.prog 33 33 v0 (dem x0) S1) (fun v2 S2 => andK ((vlim Try.prog O) 22 [(dem v2)] S2) (fun v3 S3 => andK (aExtract v3 0 S3) (fun v5 S4 => andK (aExtract (demPart 0 v3) 1 S4) (fun v6 S5 => andK (aAlloc Try.prog 29 S5) (fun v7 S6 => andK (vStore Try.prog 29 v7 (dem v5) S6) (fun v8 S7 => some ([x0,x1,x2,v7,v6,x5,x6,demPart 1 (demPart 0 v3),dem v0,dem x0,v2,dem v3,v5,dem v6,x14,x15,x16,x17,x18,x19,x20,x21,x22,x23,x24,x25,x26,x27,x28,x29], S7)) ()) ()) ()) ()) ()) ()) ()) := by
  refine sD Try.f7 1 0 (fun v0 S1 => ?_)
  refine sP Try.f7 1 1 (v := x0) ?_
  refine sD Try.f7 1 2 (fun v2 S2 => ?_)
  refine sD Try.f7 1 3 (fun v3 S3 => ?_)
  refine sP Try.f7 1 4 (v := v3) ?_
  refine sD Try.f7 1 5 (fun v5 S4 => ?_)
  refine sD Try.f7 1 6 (fun v6 S5 => ?_)
  refine sD Try.f7 1 7 (fun v7 S6 => ?_)
  refine sD Try.f7 1 8 (fun v8 S7 => ?_)
  refine sP Try.f7 1 9 (v := v6) ?_
  kernel_rfl
theorem neaptidelaw07_BlockReads.r2  : vOps Try.prog ⟨false, false, false⟩ (vlim Try.prog O) (reg Try.f7 2) (reg Try.f7 2).toList ([x0,x1,x2,x3,x4,x5,x6,x7,x8,x9,x10,x11,x12,x13,x14,x15,x16,x17,x18,x19,x20,x21,x22,x23,x24,x25,x26,x27,x28,x29]) S =
    (andK ((vlim Try.prog O) 23 [(dem (dem x0))] S) (fun v1 S1 => andK (aExtract v1 0 S1) (fun v3 S2 => andK (aExtract (demPart 0 v1) 1 S2) (fun v4 S3 => andK (aAlloc Try.prog 29 S3) (fun v5 S4 => andK (vStore Try.prog 29 v5 (dem v3) S4) (fun v6 S5 => some ([x0,x1,x2,x3,x4,v5,v4,x7,x8,x9,x10,x11,x12,x13,demPart 1 (demPart 0 v1),dem x0,dem v1,v3,dem v4,x19,x20,x21,x22,x23,x24,x25,x26,x27,x28,x29], S5)) ()) ()) ()) ()) ()) := by
  refine sP Try.f7 2 0 (v := x0) ?_
  refine sD Try.f7 2 1 (fun v1 S1 => ?_)
  refine sP Try.f7 2 2 (v := v1) ?_
  refine sD Try.f7 2 3 (fun v3 S2 => ?_)
  refine sD Try.f7 2 4 (fun v4 S3 => ?_)
  refine sD Try.f7 2 5 (fun v5 S4 => ?_)
  refine sD Try.f7 2 6 (fun v6 S5 => ?_)
  refine sP Try.f7 2 7 (v := v4) ?_
  kernel_rfl
theorem neaptidelaw07_BlockReads.r3  : vOps Try.prog ⟨false, false, false⟩ (vlim Try.prog O) (reg Try.f7 3) (reg Try.f7 3).toList ([x0,x1,x2,x3,x4,x5,x6,x7,x8,x9,x10,x11,x12,x13,x14,x15,x16,x17,x18,x19,x20,x21,x22,x23,x24,x25,x26,x27,x28,x29]) S =
    (andK ((vlim Try.prog O) 11 [] S) (fun v0 S1 => gdK (dem v0) true (vLoad Try.prog false 29 x3) S1 (fun v2 S2 => gdK (dem v0) true (vLoad Try.prog false 29 x5) S2 (fun v3 S3 => gdK (dem v0) true ((vlim Try.prog O) 21 [(dem v2), (dem v3)]) S3 (fun v4 S4 => andK (vPick (dem v0) v4 (Value.bool false) S4) (fun v5 S5 => gdK (dem v5) true (ret x4) S5 (fun v7 S6 => gdK (dem v5) true (ret x6) S6 (fun v8 S7 => gdK (dem v5) true (vBin Try.prog BinOp.eql 3 (dem v7) (dem v8)) S7 (fun v9 S8 => andK (vPick (dem v5) v9 (Value.bool false) S8) (fun v10 S9 => some ([x0,x1,v10,x3,x4,x5,x6,x7,x8,x9,x10,x11,x12,x13,x14,x15,x16,x17,x18,v0,dem v0,v2,v3,v4,v5,dem v5,dem v7,dem v8,v9,dem v10], S9)) ()) ()) ()) ()) ()) ()) ()) ()) ()) := by
  refine sD Try.f7 3 0 (fun v0 S1 => ?_)
  refine sP Try.f7 3 1 (v := v0) ?_
  refine sG Try.f7 3 2 (j := 1) (fun v2 S2 => ?_)
  refine sG Try.f7 3 3 (j := 1) (fun v3 S3 => ?_)
  refine sG Try.f7 3 4 (j := 1) (fun v4 S4 => ?_)
  refine sD Try.f7 3 5 (fun v5 S5 => ?_)
  refine sP Try.f7 3 6 (v := v5) ?_
  refine sG Try.f7 3 7 (j := 6) (fun v7 S6 => ?_)
  refine sG Try.f7 3 8 (j := 6) (fun v8 S7 => ?_)
  refine sG Try.f7 3 9 (j := 6) (fun v9 S8 => ?_)
  refine sD Try.f7 3 10 (fun v10 S9 => ?_)
  refine sP Try.f7 3 11 (v := v10) ?_
  kernel_rfl
theorem neaptidelaw07_BlockReads.rs : type_of% (And.intro @neaptidelaw07_BlockReads.r0 (And.intro @neaptidelaw07_BlockReads.r1 (And.intro @neaptidelaw07_BlockReads.r2 (@neaptidelaw07_BlockReads.r3)))) := And.intro @neaptidelaw07_BlockReads.r0 (And.intro @neaptidelaw07_BlockReads.r1 (And.intro @neaptidelaw07_BlockReads.r2 (@neaptidelaw07_BlockReads.r3)))
theorem neaptidelaw07_BlockReads.runs {x0 : Value} {S S1 : AHeap} {e : AEx} {T : List Value} (h : vcodeV Try.prog O false neaptidelaw07_BlockReads.code ([x0,undef,undef,undef,undef,undef,undef,undef,undef,undef,undef,undef,undef,undef,undef,undef,undef,undef,undef,undef,undef,undef,undef,undef,undef,undef,undef,undef,undef,undef]) S = some (e, T, S1)) (he : e = .normal ∨ e = .ret) : vlim Try.prog O 7 [x0] S = some (T.getD 2 undef, S1) :=
  vlim_code rfl rfl Try.func7 (by decide) neaptidelaw07_BlockReads.body (by exact h) he (vRes_one (a := T.getD 2 undef) ((show vResVals Try.prog T S1 Try.f7.results.toList = vResVals Try.prog T S1 [(ResultVar.tmp 2)] from by kernel_rfl).trans (by simp only [vResVals])) (by kernel_rfl))
end Go.Proofs.Ytgggklfbhmlapaa
