/-
The seat's functions in a shallow form: each region as a chain of the interpreter's operations. Printed by a program; Lean checks each row.
-/
import Derived.Test.YtooljmmlekmkeaaChecked
import Derived.Test.YtooljmmlekmkeaaOra
import Derived.KernelRfl
set_option linter.unusedVariables false
set_option maxRecDepth 100000
namespace Go.Proofs.Ytooljmmlekmkeaa
open Go.Abs

/-- neaptide.neaptideref10.Wins -/
abbrev neaptideref10_Wins.id : FuncId := 14
noncomputable def neaptideref10_Wins.code : Code := (Code.seq (Code.region 0 (reg Try.f14 0) false) (Code.seq (Code.seq (Code.region 1 (reg Try.f14 1) false) (Code.cond (Operand.tmp 23) (Code.seq (Code.region 2 (reg Try.f14 2) false) Code.ret) Code.skip)) (Code.seq (Code.region 3 (reg Try.f14 3) false) (Code.seq (Code.region 4 (reg Try.f14 4) false) Code.ret))))
theorem neaptideref10_Wins.body : Try.f14.body = some neaptideref10_Wins.code := by kernel_rfl
theorem neaptideref10_Wins.eta {T : List Value} (h : T.length = 36) : T = [T.getD 0 undef,T.getD 1 undef,T.getD 2 undef,T.getD 3 undef,T.getD 4 undef,T.getD 5 undef,T.getD 6 undef,T.getD 7 undef,T.getD 8 undef,T.getD 9 undef,T.getD 10 undef,T.getD 11 undef,T.getD 12 undef,T.getD 13 undef,T.getD 14 undef,T.getD 15 undef,T.getD 16 undef,T.getD 17 undef,T.getD 18 undef,T.getD 19 undef,T.getD 20 undef,T.getD 21 undef,T.getD 22 undef,T.getD 23 undef,T.getD 24 undef,T.getD 25 undef,T.getD 26 undef,T.getD 27 undef,T.getD 28 undef,T.getD 29 undef,T.getD 30 undef,T.getD 31 undef,T.getD 32 undef,T.getD 33 undef,T.getD 34 undef,T.getD 35 undef] := (list_getD T 36 h).trans (by kernel_rfl)
variable (x0 x1 x2 x3 x4 x5 x6 x7 x8 x9 x10 x11 x12 x13 x14 x15 x16 x17 x18 x19 x20 x21 x22 x23 x24 x25 x26 x27 x28 x29 x30 x31 x32 x33 x34 x35 : Value) (S : AHeap)
theorem neaptideref10_Wins.r0  : vOps Try.prog ⟨false, false, false⟩ (vlim Try.prog O) (reg Try.f14 0) (reg Try.f14 0).toList ([x0,x1,x2,x3,x4,x5,x6,x7,x8,x9,x10,x11,x12,x13,x14,x15,x16,x17,x18,x19,x20,x21,x22,x23,x24,x25,x26,x27,x28,x29,x30,x31,x32,x33,x34,x35]) S =
    ( some ([x0,x1,x2,x3,x4,x5,Value.bool false,x7,x8,x9,x10,x11,x12,x13,x14,x15,x16,x17,x18,x19,x20,x21,x22,x23,x24,x25,x26,x27,x28,x29,x30,x31,x32,x33,x34,x35], S)) := by
  refine sP Try.f14 0 0 (v := (Value.bool false)) ?_
  kernel_rfl
theorem neaptideref10_Wins.r1  : vOps Try.prog ⟨false, false, false⟩ (vlim Try.prog O) (reg Try.f14 1) (reg Try.f14 1).toList ([x0,x1,x2,x3,x4,x5,x6,x7,x8,x9,x10,x11,x12,x13,x14,x15,x16,x17,x18,x19,x20,x21,x22,x23,x24,x25,x26,x27,x28,x29,x30,x31,x32,x33,x34,x35]) S =
    (andK (vBin Try.prog BinOp.lss 3 (dem x1) (Value.int IntKind.i64 1) S) (fun v1 S1 => gdK (dem v1) false (ret x1) S1 (fun v3 S2 => gdK (dem v1) false (ret x0) S2 (fun v4 S3 => gdK (dem v1) false (vLen Try.prog 22 (dem v4)) S3 (fun v5 S4 => gdK (dem v1) false (vBin Try.prog BinOp.gtr 3 (dem v3) v5) S4 (fun v6 S5 => andK (vPick (dem v1) (Value.bool true) v6 S5) (fun v7 S6 => gdK (dem v7) false (ret x2) S6 (fun v9 S7 => gdK (dem v7) false (vBin Try.prog BinOp.lss 3 (dem v9) (Value.int IntKind.i64 0)) S7 (fun v10 S8 => andK (vPick (dem v7) (Value.bool true) v10 S8) (fun v11 S9 => gdK (dem v11) false (ret x2) S9 (fun v13 S10 => gdK (dem v11) false (vBin Try.prog BinOp.gtr 3 (dem v13) (Value.int IntKind.i64 6)) S10 (fun v14 S11 => andK (vPick (dem v11) (Value.bool true) v14 S11) (fun v15 S12 => some ([x0,x1,x2,x3,x4,x5,x6,x7,dem x1,v1,dem v1,dem v3,dem v4,v5,v6,v7,dem v7,dem v9,v10,v11,dem v11,dem v13,v14,v15,x24,x25,x26,x27,x28,x29,x30,x31,x32,x33,x34,x35], S12)) ()) ()) ()) ()) ()) ()) ()) ()) ()) ()) ()) ()) := by
  refine sP Try.f14 1 0 (v := x1) ?_
  refine sD Try.f14 1 1 (fun v1 S1 => ?_)
  refine sP Try.f14 1 2 (v := v1) ?_
  refine sG Try.f14 1 3 (j := 2) (fun v3 S2 => ?_)
  refine sG Try.f14 1 4 (j := 2) (fun v4 S3 => ?_)
  refine sG Try.f14 1 5 (j := 2) (fun v5 S4 => ?_)
  refine sG Try.f14 1 6 (j := 2) (fun v6 S5 => ?_)
  refine sD Try.f14 1 7 (fun v7 S6 => ?_)
  refine sP Try.f14 1 8 (v := v7) ?_
  refine sG Try.f14 1 9 (j := 8) (fun v9 S7 => ?_)
  refine sG Try.f14 1 10 (j := 8) (fun v10 S8 => ?_)
  refine sD Try.f14 1 11 (fun v11 S9 => ?_)
  refine sP Try.f14 1 12 (v := v11) ?_
  refine sG Try.f14 1 13 (j := 12) (fun v13 S10 => ?_)
  refine sG Try.f14 1 14 (j := 12) (fun v14 S11 => ?_)
  refine sD Try.f14 1 15 (fun v15 S12 => ?_)
  kernel_rfl
theorem neaptideref10_Wins.r2  : vOps Try.prog ⟨false, false, false⟩ (vlim Try.prog O) (reg Try.f14 2) (reg Try.f14 2).toList ([x0,x1,x2,x3,x4,x5,x6,x7,x8,x9,x10,x11,x12,x13,x14,x15,x16,x17,x18,x19,x20,x21,x22,x23,x24,x25,x26,x27,x28,x29,x30,x31,x32,x33,x34,x35]) S =
    ( some ([x0,x1,x2,x3,x4,x5,Value.bool false,x7,x8,x9,x10,x11,x12,x13,x14,x15,x16,x17,x18,x19,x20,x21,x22,x23,x24,x25,x26,x27,x28,x29,x30,x31,x32,x33,x34,x35], S)) := by
  refine sP Try.f14 2 0 (v := (Value.bool false)) ?_
  kernel_rfl
theorem neaptideref10_Wins.r3  : vOps Try.prog ⟨false, false, false⟩ (vlim Try.prog O) (reg Try.f14 3) (reg Try.f14 3).toList ([x0,x1,x2,x3,x4,x5,x6,x7,x8,x9,x10,x11,x12,x13,x14,x15,x16,x17,x18,x19,x20,x21,x22,x23,x24,x25,x26,x27,x28,x29,x30,x31,x32,x33,x34,x35]) S =
    (andK (aBuild Try.prog 35 [(0, (Value.int IntKind.i64 1)), (1, (Value.int IntKind.i64 2)), (2, (Value.int IntKind.i64 4)), (3, (Value.int IntKind.i64 8)), (4, (Value.int IntKind.i64 16)), (5, (Value.int IntKind.i64 32)), (6, (Value.int IntKind.i64 64))] S) (fun v0 S1 => andK (aIndex Try.prog 35 v0 (dem x2) S1) (fun v2 S2 => some ([x0,x1,x2,x3,x4,x5,x6,v2,x8,x9,x10,x11,x12,x13,x14,x15,x16,x17,x18,x19,x20,x21,x22,x23,v0,dem x2,dem v2,x27,x28,x29,x30,x31,x32,x33,x34,x35], S2)) ()) ()) := by
  refine sD Try.f14 3 0 (fun v0 S1 => ?_)
  refine sP Try.f14 3 1 (v := x2) ?_
  refine sD Try.f14 3 2 (fun v2 S2 => ?_)
  refine sP Try.f14 3 3 (v := v2) ?_
  kernel_rfl
theorem neaptideref10_Wins.r4  : vOps Try.prog ⟨false, false, false⟩ (vlim Try.prog O) (reg Try.f14 4) (reg Try.f14 4).toList ([x0,x1,x2,x3,x4,x5,x6,x7,x8,x9,x10,x11,x12,x13,x14,x15,x16,x17,x18,x19,x20,x21,x22,x23,x24,x25,x26,x27,x28,x29,x30,x31,x32,x33,x34,x35]) S =
    (andK (vBin Try.prog BinOp.sub 3 (dem x1) (Value.int IntKind.i64 1) S) (fun v2 S1 => andK (vIndexAddr Try.prog 22 (dem x0) v2 S1) (fun v3 S2 => andK (vLoad Try.prog false 3 v3 S2) (fun v4 S3 => andK (vBin Try.prog BinOp.quo 3 v4 (dem x7) S3) (fun v6 S4 => andK (vBin Try.prog BinOp.rem 3 v6 (Value.int IntKind.i64 2) S4) (fun v7 S5 => andK (vBin Try.prog BinOp.eql 3 v7 (Value.int IntKind.i64 1) S5) (fun v8 S6 => some ([x0,x1,x2,x3,x4,x5,v8,x7,x8,x9,x10,x11,x12,x13,x14,x15,x16,x17,x18,x19,x20,x21,x22,x23,x24,x25,x26,dem x0,dem x1,v2,v3,v4,dem x7,v6,v7,dem v8], S6)) ()) ()) ()) ()) ()) ()) := by
  refine sP Try.f14 4 0 (v := x0) ?_
  refine sP Try.f14 4 1 (v := x1) ?_
  refine sD Try.f14 4 2 (fun v2 S1 => ?_)
  refine sD Try.f14 4 3 (fun v3 S2 => ?_)
  refine sD Try.f14 4 4 (fun v4 S3 => ?_)
  refine sP Try.f14 4 5 (v := x7) ?_
  refine sD Try.f14 4 6 (fun v6 S4 => ?_)
  refine sD Try.f14 4 7 (fun v7 S5 => ?_)
  refine sD Try.f14 4 8 (fun v8 S6 => ?_)
  refine sP Try.f14 4 9 (v := v8) ?_
  kernel_rfl
theorem neaptideref10_Wins.rs : type_of% (And.intro @neaptideref10_Wins.r0 (And.intro @neaptideref10_Wins.r1 (And.intro @neaptideref10_Wins.r2 (And.intro @neaptideref10_Wins.r3 (@neaptideref10_Wins.r4))))) := And.intro @neaptideref10_Wins.r0 (And.intro @neaptideref10_Wins.r1 (And.intro @neaptideref10_Wins.r2 (And.intro @neaptideref10_Wins.r3 (@neaptideref10_Wins.r4))))
theorem neaptideref10_Wins.runs {x0 x1 x2 : Value} {S S1 : AHeap} {e : AEx} {T : List Value} (h : vcodeV Try.prog O false neaptideref10_Wins.code ([x0,x1,x2,undef,undef,undef,undef,undef,undef,undef,undef,undef,undef,undef,undef,undef,undef,undef,undef,undef,undef,undef,undef,undef,undef,undef,undef,undef,undef,undef,undef,undef,undef,undef,undef,undef]) S = some (e, T, S1)) (he : e = .normal ∨ e = .ret) : vlim Try.prog O 14 [x0, x1, x2] S = some (T.getD 6 undef, S1) :=
  vlim_code rfl rfl Try.func14 (by decide) neaptideref10_Wins.body (by exact h) he (vRes_one (a := T.getD 6 undef) ((show vResVals Try.prog T S1 Try.f14.results.toList = vResVals Try.prog T S1 [(ResultVar.tmp 6)] from by kernel_rfl).trans (by simp only [vResVals])) (by kernel_rfl))
end Go.Proofs.Ytooljmmlekmkeaa
