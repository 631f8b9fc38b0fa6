/-
The seat's functions in a shallow form: each region as a chain of the interpreter's operations. Printed by a program; Lean checks each row.
-/
import Derived.Test.YtgggklfbhmlapaaChecked
import Derived.Test.YtgggklfbhmlapaaOra
import Derived.KernelRfl
set_option linter.unusedVariables false
set_option maxRecDepth 100000
namespace Go.Proofs.Ytgggklfbhmlapaa
open Go.Abs

/-- neaptide.neaptidelaw07.BlockParts -/
abbrev neaptidelaw07_BlockParts.id : FuncId := 3
noncomputable def neaptidelaw07_BlockParts.code : Code := (Code.seq (Code.region 0 (reg Try.f3 0) false) (Code.seq (Code.region 1 (reg Try.f3 1) false) (Code.seq (Code.seq (Code.region 2 (reg Try.f3 2) false) (Code.cond (Operand.tmp 15) (Code.region 3 (reg Try.f3 3) false) Code.skip)) (Code.seq (Code.region 4 (reg Try.f3 4) false) Code.ret))))
theorem neaptidelaw07_BlockParts.body : Try.f3.body = some neaptidelaw07_BlockParts.code := by kernel_rfl
theorem neaptidelaw07_BlockParts.eta {T : List Value} (h : T.length = 29) : T = [T.getD 0 undef,T.getD 1 undef,T.getD 2 undef,T.getD 3 undef,T.getD 4 undef,T.getD 5 undef,T.getD 6 undef,T.getD 7 undef,T.getD 8 undef,T.getD 9 undef,T.getD 10 undef,T.getD 11 undef,T.getD 12 undef,T.getD 13 undef,T.getD 14 undef,T.getD 15 undef,T.getD 16 undef,T.getD 17 undef,T.getD 18 undef,T.getD 19 undef,T.getD 20 undef,T.getD 21 undef,T.getD 22 undef,T.getD 23 undef,T.getD 24 undef,T.getD 25 undef,T.getD 26 undef,T.getD 27 undef,T.getD 28 undef] := (list_getD T 29 h).trans (by kernel_rfl)
variable (x0 x1 x2 x3 x4 x5 x6 x7 x8 x9 x10 x11 x12 x13 x14 x15 x16 x17 x18 x19 x20 x21 x22 x23 x24 x25 x26 x27 x28 : Value) (S : AHeap)
theorem neaptidelaw07_BlockParts.r0  : vOps Try.prog ⟨false, false, false⟩ (vlim Try.prog O) (reg Try.f3 0) (reg Try.f3 0).toList ([x0,x1,x2,x3,x4,x5,x6,x7,x8,x9,x10,x11,x12,x13,x14,x15,x16,x17,x18,x19,x20,x21,x22,x23,x24,x25,x26,x27,x28]) S =
    ( some ([x0,x1,Value.bool false,x3,x4,x5,x6,x7,x8,x9,x10,x11,x12,x13,x14,x15,x16,x17,x18,x19,x20,x21,x22,x23,x24,x25,x26,x27,x28], S)) := by
  refine sP Try.f3 0 0 (v := (Value.bool false)) ?_
  kernel_rfl
theorem neaptidelaw07_BlockParts.r1  : vOps Try.prog ⟨false, false, false⟩ (vlim Try.prog O) (reg Try.f3 1) (reg Try.f3 1).toList ([x0,x1,x2,x3,x4,x5,x6,x7,x8,x9,x10,x11,x12,x13,x14,x15,x16,x17,x18,x19,x20,x21,x22,x23,x24,x25,x26,x27,x28]) S =
    (andK ((vlim Try.prog O) 10 [(dem (dem x0))] S) (fun v1 S1 => andK (aExtract v1 0 S1) (fun v3 S2 => andK (aExtract (demPart 0 v1) 1 S2) (fun v4 S3 => andK (aExtract (demPart 1 (demPart 0 v1)) 2 S3) (fun v5 S4 => andK (aExtract (demPart 2 (demPart 1 (demPart 0 v1))) 3 S4) (fun v6 S5 => some ([x0,x1,x2,v3,v4,v5,v6,demPart 3 (demPart 2 (demPart 1 (demPart 0 v1))),dem x0,dem v1,dem v3,dem v4,dem v5,dem v6,x14,x15,x16,x17,x18,x19,x20,x21,x22,x23,x24,x25,x26,x27,x28], S5)) ()) ()) ()) ()) ()) := by
  refine sP Try.f3 1 0 (v := x0) ?_
  refine sD Try.f3 1 1 (fun v1 S1 => ?_)
  refine sP Try.f3 1 2 (v := v1) ?_
  refine sD Try.f3 1 3 (fun v3 S2 => ?_)
  refine sD Try.f3 1 4 (fun v4 S3 => ?_)
  refine sD Try.f3 1 5 (fun v5 S4 => ?_)
  refine sD Try.f3 1 6 (fun v6 S5 => ?_)
  refine sP Try.f3 1 7 (v := v3) ?_
  refine sP Try.f3 1 8 (v := v4) ?_
  refine sP Try.f3 1 9 (v := v5) ?_
  refine sP Try.f3 1 10 (v := v6) ?_
  kernel_rfl
theorem neaptidelaw07_BlockParts.r2  : vOps Try.prog ⟨false, false, false⟩ (vlim Try.prog O) (reg Try.f3 2) (reg Try.f3 2).toList ([x0,x1,x2,x3,x4,x5,x6,x7,x8,x9,x10,x11,x12,x13,x14,x15,x16,x17,x18,x19,x20,x21,x22,x23,x24,x25,x26,x27,x28]) S =
    (andK (aUn Try.prog UnOp.not (dem x6) S) (fun v1 S1 => some ([x0,x1,x2,x3,x4,x5,x6,x7,x8,x9,x10,x11,x12,x13,dem x6,v1,x16,x17,x18,x19,x20,x21,x22,x23,x24,x25,x26,x27,x28], S1)) ()) := by
  refine sP Try.f3 2 0 (v := x6) ?_
  refine sD Try.f3 2 1 (fun v1 S1 => ?_)
  kernel_rfl
theorem neaptidelaw07_BlockParts.r3  : vOps Try.prog ⟨false, false, false⟩ (vlim Try.prog O) (reg Try.f3 3) (reg Try.f3 3).toList ([x0,x1,x2,x3,x4,x5,x6,x7,x8,x9,x10,x11,x12,x13,x14,x15,x16,x17,x18,x19,x20,x21,x22,x23,x24,x25,x26,x27,x28]) S =
    ( some ([x0,x1,x2,Value.int IntKind.i64 0,Value.int IntKind.i64 0,x5,x6,x7,x8,x9,x10,x11,x12,x13,x14,x15,x16,x17,x18,x19,x20,x21,x22,x23,x24,x25,x26,x27,x28], S)) := by
  refine sP Try.f3 3 0 (v := (Value.int IntKind.i64 0)) ?_
  refine sP Try.f3 3 1 (v := (Value.int IntKind.i64 0)) ?_
  kernel_rfl
theorem neaptidelaw07_BlockParts.r4  : vOps Try.prog ⟨false, false, false⟩ (vlim Try.prog O) (reg Try.f3 4) (reg Try.f3 4).toList ([x0,x1,x2,x3,x4,x5,x6,x7,x8,x9,x10,x11,x12,x13,x14,x15,x16,x17,x18,x19,x20,x21,x22,x23,x24,x25,x26,x27,x28]) S =
    (andK ((vlim Try.prog O) 11 [] S) (fun v0 S1 => gdK (dem v0) true (ret x0) S1 (fun v2 S2 => gdK (dem v0) true ((vlim Try.prog O) 12 [(dem (dem v2))]) S2 (fun v3 S3 => gdK (dem v0) true (ret x3) S3 (fun v4 S4 => gdK (dem v0) true (vBin Try.prog BinOp.eql 3 v3 (dem v4)) S4 (fun v5 S5 => andK (vPick (dem v0) v5 (Value.bool false) S5) (fun v6 S6 => gdK (dem v6) true (ret x0) S6 (fun v8 S7 => gdK (dem v6) true ((vlim Try.prog O) 13 [(dem (dem v8))]) S7 (fun v9 S8 => gdK (dem v6) true (ret x4) S8 (fun v10 S9 => gdK (dem v6) true (vBin Try.prog BinOp.eql 3 v9 (dem v10)) S9 (fun v11 S10 => andK (vPick (dem v6) v11 (Value.bool false) S10) (fun v12 S11 => some ([x0,x1,v12,x3,x4,x5,x6,x7,x8,x9,x10,x11,x12,x13,x14,x15,v0,dem v0,dem v2,v3,dem v4,v5,v6,dem v6,dem v8,v9,dem v10,v11,dem v12], S11)) ()) ()) ()) ()) ()) ()) ()) ()) ()) ()) ()) := by
  refine sD Try.f3 4 0 (fun v0 S1 => ?_)
  refine sP Try.f3 4 1 (v := v0) ?_
  refine sG Try.f3 4 2 (j := 1) (fun v2 S2 => ?_)
  refine sG Try.f3 4 3 (j := 1) (fun v3 S3 => ?_)
  refine sG Try.f3 4 4 (j := 1) (fun v4 S4 => ?_)
  refine sG Try.f3 4 5 (j := 1) (fun v5 S5 => ?_)
  refine sD Try.f3 4 6 (fun v6 S6 => ?_)
  refine sP Try.f3 4 7 (v := v6) ?_
  refine sG Try.f3 4 8 (j := 7) (fun v8 S7 => ?_)
  refine sG Try.f3 4 9 (j := 7) (fun v9 S8 => ?_)
  refine sG Try.f3 4 10 (j := 7) (fun v10 S9 => ?_)
  refine sG Try.f3 4 11 (j := 7) (fun v11 S10 => ?_)
  refine sD Try.f3 4 12 (fun v12 S11 => ?_)
  refine sP Try.f3 4 13 (v := v12) ?_
  kernel_rfl
theorem neaptidelaw07_BlockParts.rs : type_of% (And.intro @neaptidelaw07_BlockParts.r0 (And.intro @neaptidelaw07_BlockParts.r1 (And.intro @neaptidelaw07_BlockParts.r2 (And.intro @neaptidelaw07_BlockParts.r3 (@neaptidelaw07_BlockParts.r4))))) := And.intro @neaptidelaw07_BlockParts.r0 (And.intro @neaptidelaw07_BlockParts.r1 (And.intro @neaptidelaw07_BlockParts.r2 (And.intro @neaptidelaw07_BlockParts.r3 (@neaptidelaw07_BlockParts.r4))))
theorem neaptidelaw07_BlockParts.runs {x0 : Value} {S S1 : AHeap} {e : AEx} {T : List Value} (h : vcodeV Try.prog O false neaptidelaw07_BlockParts.code ([x0,undef,undef,undef,undef,undef,undef,undef,undef,undef,undef,undef,undef,undef,undef,undef,undef,undef,undef,undef,undef,undef,undef,undef,undef,undef,undef,undef,undef]) S = some (e, T, S1)) (he : e = .normal ∨ e = .ret) : vlim Try.prog O 3 [x0] S = some (T.getD 2 undef, S1) :=
  vlim_code rfl rfl Try.func3 (by decide) neaptidelaw07_BlockParts.body (by exact h) he (vRes_one (a := T.getD 2 undef) ((show vResVals Try.prog T S1 Try.f3.results.toList = vResVals Try.prog T S1 [(ResultVar.tmp 2)] from by kernel_rfl).trans (by simp only [vResVals])) (by kernel_rfl))
end Go.Proofs.Ytgggklfbhmlapaa
