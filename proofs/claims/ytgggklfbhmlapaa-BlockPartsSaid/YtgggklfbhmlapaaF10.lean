/-
The seat's functions in a shallow form: each region as a chain of the interpreter's operations. Printed by a program; Lean checks each row.
-/
import Derived.Test.YtgggklfbhmlapaaChecked
import Derived.Test.YtgggklfbhmlapaaOra
import Derived.KernelRfl
set_option linter.unusedVariables false
set_option maxRecDepth 100000
namespace Go.Proofs.Ytgggklfbhmlapaa
open Go.Abs

/-- neaptide.neaptideref07.Parts -/
abbrev neaptideref07_Parts.id : FuncId := 10
noncomputable def neaptideref07_Parts.code : Code := (Code.seq (Code.region 0 (reg Try.f10 0) false) (Code.seq (Code.seq (Code.region 1 (reg Try.f10 1) false) (Code.cond (Operand.tmp 10) (Code.seq (Code.region 2 (reg Try.f10 2) false) Code.ret) Code.skip)) (Code.seq (Code.region 3 (reg Try.f10 3) false) (Code.seq (Code.region 4 (reg Try.f10 4) false) Code.ret))))
theorem neaptideref07_Parts.body : Try.f10.body = some neaptideref07_Parts.code := by kernel_rfl
theorem neaptideref07_Parts.eta {T : List Value} (h : T.length = 31) : T = [T.getD 0 undef,T.getD 1 undef,T.getD 2 undef,T.getD 3 undef,T.getD 4 undef,T.getD 5 undef,T.getD 6 undef,T.getD 7 undef,T.getD 8 undef,T.getD 9 undef,T.getD 10 undef,T.getD 11 undef,T.getD 12 undef,T.getD 13 undef,T.getD 14 undef,T.getD 15 undef,T.getD 16 undef,T.getD 17 undef,T.getD 18 undef,T.getD 19 undef,T.getD 20 undef,T.getD 21 undef,T.getD 22 undef,T.getD 23 undef,T.getD 24 undef,T.getD 25 undef,T.getD 26 undef,T.getD 27 undef,T.getD 28 undef,T.getD 29 undef,T.getD 30 undef] := (list_getD T 31 h).trans (by kernel_rfl)
variable (x0 x1 x2 x3 x4 x5 x6 x7 x8 x9 x10 x11 x12 x13 x14 x15 x16 x17 x18 x19 x20 x21 x22 x23 x24 x25 x26 x27 x28 x29 x30 : Value) (S : AHeap)
theorem neaptideref07_Parts.r0  : vOps Try.prog ⟨false, false, false⟩ (vlim Try.prog O) (reg Try.f10 0) (reg Try.f10 0).toList ([x0,x1,x2,x3,x4,x5,x6,x7,x8,x9,x10,x11,x12,x13,x14,x15,x16,x17,x18,x19,x20,x21,x22,x23,x24,x25,x26,x27,x28,x29,x30]) S =
    ( some ([x0,x1,Value.int IntKind.i64 0,Value.int IntKind.i64 0,Value.int IntKind.i64 0,Value.bool false,x6,x7,x8,x9,x10,x11,x12,x13,x14,x15,x16,x17,x18,x19,x20,x21,x22,x23,x24,x25,x26,x27,x28,x29,x30], S)) := by
  refine sP Try.f10 0 0 (v := (Value.int IntKind.i64 0)) ?_
  refine sP Try.f10 0 1 (v := (Value.int IntKind.i64 0)) ?_
  refine sP Try.f10 0 2 (v := (Value.int IntKind.i64 0)) ?_
  refine sP Try.f10 0 3 (v := (Value.bool false)) ?_
  kernel_rfl
theorem neaptideref07_Parts.r1  : vOps Try.prog ⟨false, false, false⟩ (vlim Try.prog O) (reg Try.f10 1) (reg Try.f10 1).toList ([x0,x1,x2,x3,x4,x5,x6,x7,x8,x9,x10,x11,x12,x13,x14,x15,x16,x17,x18,x19,x20,x21,x22,x23,x24,x25,x26,x27,x28,x29,x30]) S =
    (andK (vBin Try.prog BinOp.lss 3 (dem x0) (Value.int IntKind.i64 0) S) (fun v1 S1 => some ([x0,x1,x2,x3,x4,x5,x6,x7,x8,dem x0,v1,x11,x12,x13,x14,x15,x16,x17,x18,x19,x20,x21,x22,x23,x24,x25,x26,x27,x28,x29,x30], S1)) ()) := by
  refine sP Try.f10 1 0 (v := x0) ?_
  refine sD Try.f10 1 1 (fun v1 S1 => ?_)
  kernel_rfl
theorem neaptideref07_Parts.r2  : vOps Try.prog ⟨false, false, false⟩ (vlim Try.prog O) (reg Try.f10 2) (reg Try.f10 2).toList ([x0,x1,x2,x3,x4,x5,x6,x7,x8,x9,x10,x11,x12,x13,x14,x15,x16,x17,x18,x19,x20,x21,x22,x23,x24,x25,x26,x27,x28,x29,x30]) S =
    ( some ([x0,x1,Value.int IntKind.i64 0,Value.int IntKind.i64 0,Value.int IntKind.i64 0,Value.bool false,x6,x7,x8,x9,x10,x11,x12,x13,x14,x15,x16,x17,x18,x19,x20,x21,x22,x23,x24,x25,x26,x27,x28,x29,x30], S)) := by
  refine sP Try.f10 2 0 (v := (Value.int IntKind.i64 0)) ?_
  refine sP Try.f10 2 1 (v := (Value.int IntKind.i64 0)) ?_
  refine sP Try.f10 2 2 (v := (Value.int IntKind.i64 0)) ?_
  refine sP Try.f10 2 3 (v := (Value.bool false)) ?_
  kernel_rfl
theorem neaptideref07_Parts.r3  : vOps Try.prog ⟨false, false, false⟩ (vlim Try.prog O) (reg Try.f10 3) (reg Try.f10 3).toList ([x0,x1,x2,x3,x4,x5,x6,x7,x8,x9,x10,x11,x12,x13,x14,x15,x16,x17,x18,x19,x20,x21,x22,x23,x24,x25,x26,x27,x28,x29,x30]) S =
    (andK (vBin Try.prog BinOp.quo 3 (dem x0) (Value.int IntKind.i64 65536) S) (fun v1 S1 => andK (vBin Try.prog BinOp.quo 3 (dem x0) (Value.int IntKind.i64 256) S1) (fun v3 S2 => andK (vBin Try.prog BinOp.rem 3 v3 (Value.int IntKind.i64 256) S2) (fun v4 S3 => andK (vBin Try.prog BinOp.rem 3 (dem x0) (Value.int IntKind.i64 256) S3) (fun v6 S4 => some ([x0,x1,x2,x3,x4,x5,v1,v4,v6,x9,x10,dem x0,dem v1,dem x0,v3,dem v4,dem x0,dem v6,x18,x19,x20,x21,x22,x23,x24,x25,x26,x27,x28,x29,x30], S4)) ()) ()) ()) ()) := by
  refine sP Try.f10 3 0 (v := x0) ?_
  refine sD Try.f10 3 1 (fun v1 S1 => ?_)
  refine sP Try.f10 3 2 (v := x0) ?_
  refine sD Try.f10 3 3 (fun v3 S2 => ?_)
  refine sD Try.f10 3 4 (fun v4 S3 => ?_)
  refine sP Try.f10 3 5 (v := x0) ?_
  refine sD Try.f10 3 6 (fun v6 S4 => ?_)
  refine sP Try.f10 3 7 (v := v1) ?_
  refine sP Try.f10 3 8 (v := v4) ?_
  refine sP Try.f10 3 9 (v := v6) ?_
  kernel_rfl
theorem neaptideref07_Parts.r4  : vOps Try.prog ⟨false, false, false⟩ (vlim Try.prog O) (reg Try.f10 4) (reg Try.f10 4).toList ([x0,x1,x2,x3,x4,x5,x6,x7,x8,x9,x10,x11,x12,x13,x14,x15,x16,x17,x18,x19,x20,x21,x22,x23,x24,x25,x26,x27,x28,x29,x30]) S =
    (andK (vBin Try.prog BinOp.geq 3 (dem (dem x6)) (Value.int IntKind.i64 1) S) (fun v4 S1 => gdK (dem v4) true (ret (dem x6)) S1 (fun v6 S2 => gdK (dem v4) true (vBin Try.prog BinOp.leq 3 (dem v6) (Value.int IntKind.i64 4095)) S2 (fun v7 S3 => andK (vPick (dem v4) v7 (Value.bool false) S3) (fun v8 S4 => gdK (dem v8) true (ret (dem x7)) S4 (fun v10 S5 => gdK (dem v8) true (vBin Try.prog BinOp.leq 3 (dem v10) (Value.int IntKind.i64 6)) S5 (fun v11 S6 => andK (vPick (dem v8) v11 (Value.bool false) S6) (fun v12 S7 => some ([x0,x1,x6,x7,x8,v12,dem x6,dem x7,dem x8,x9,x10,x11,x12,x13,x14,x15,x16,x17,dem x6,dem x7,dem x8,dem (dem x6),v4,dem v4,dem v6,v7,v8,dem v8,dem v10,v11,dem v12], S7)) ()) ()) ()) ()) ()) ()) ()) := by
  refine sP Try.f10 4 0 (v := x6) ?_
  refine sP Try.f10 4 1 (v := x7) ?_
  refine sP Try.f10 4 2 (v := x8) ?_
  refine sP Try.f10 4 3 (v := (dem x6)) ?_
  refine sD Try.f10 4 4 (fun v4 S1 => ?_)
  refine sP Try.f10 4 5 (v := v4) ?_
  refine sG Try.f10 4 6 (j := 5) (fun v6 S2 => ?_)
  refine sG Try.f10 4 7 (j := 5) (fun v7 S3 => ?_)
  refine sD Try.f10 4 8 (fun v8 S4 => ?_)
  refine sP Try.f10 4 9 (v := v8) ?_
  refine sG Try.f10 4 10 (j := 9) (fun v10 S5 => ?_)
  refine sG Try.f10 4 11 (j := 9) (fun v11 S6 => ?_)
  refine sD Try.f10 4 12 (fun v12 S7 => ?_)
  refine sP Try.f10 4 13 (v := x6) ?_
  refine sP Try.f10 4 14 (v := x7) ?_
  refine sP Try.f10 4 15 (v := x8) ?_
  refine sP Try.f10 4 16 (v := v12) ?_
  kernel_rfl
theorem neaptideref07_Parts.rs : type_of% (And.intro @neaptideref07_Parts.r0 (And.intro @neaptideref07_Parts.r1 (And.intro @neaptideref07_Parts.r2 (And.intro @neaptideref07_Parts.r3 (@neaptideref07_Parts.r4))))) := And.intro @neaptideref07_Parts.r0 (And.intro @neaptideref07_Parts.r1 (And.intro @neaptideref07_Parts.r2 (And.intro @neaptideref07_Parts.r3 (@neaptideref07_Parts.r4))))
theorem neaptideref07_Parts.runs {x0 : Value} {S S1 : AHeap} {e : AEx} {T : List Value} (h : vcodeV Try.prog O false neaptideref07_Parts.code ([x0,undef,undef,undef,undef,undef,undef,undef,undef,undef,undef,undef,undef,undef,undef,undef,undef,undef,undef,undef,undef,undef,undef,undef,undef,undef,undef,undef,undef,undef,undef]) S = some (e, T, S1)) (he : e = .normal ∨ e = .ret)  (h0 : notTuple (T.getD 2 undef) = true) (h1 : notTuple (T.getD 3 undef) = true) (h2 : notTuple (T.getD 4 undef) = true) (h3 : notTuple (T.getD 5 undef) = true) : vlim Try.prog O 10 [x0] S = some (Value.tuple #[T.getD 2 undef, T.getD 3 undef, T.getD 4 undef, T.getD 5 undef], S1) :=
  vlim_code rfl rfl Try.func10 (by decide) neaptideref07_Parts.body (by exact h) he ((vRes_many ((show vResVals Try.prog T S1 Try.f10.results.toList = vResVals Try.prog T S1 [(ResultVar.tmp 2), (ResultVar.tmp 3), (ResultVar.tmp 4), (ResultVar.tmp 5)] from by kernel_rfl).trans (by simp only [vResVals])) (by kernel_rfl) (by simp only [List.all_cons, List.all_nil, h0, h1, h2, h3, Bool.and_true])).trans rfl)
end Go.Proofs.Ytgggklfbhmlapaa
