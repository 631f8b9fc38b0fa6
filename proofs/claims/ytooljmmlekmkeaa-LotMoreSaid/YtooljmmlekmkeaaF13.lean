/-
The seat's functions in a shallow form: each region as a chain of the interpreter's operations. Printed by a program; Lean checks each row.
-/
import Derived.Test.YtooljmmlekmkeaaChecked
import Derived.Test.YtooljmmlekmkeaaOra
import Derived.KernelRfl
set_option linter.unusedVariables false
set_option maxRecDepth 100000
namespace Go.Proofs.Ytooljmmlekmkeaa
open Go.Abs

/-- neaptide.lot.Wins -/
abbrev lot_Wins.id : FuncId := 13
noncomputable def lot_Wins.code : Code := (Code.seq (Code.region 0 (reg Try.f13 0) false) (Code.seq (Code.region 1 (reg Try.f13 1) false) Code.ret))
theorem lot_Wins.body : Try.f13.body = some lot_Wins.code := by kernel_rfl
theorem lot_Wins.eta {T : List Value} (h : T.length = 34) : T = [T.getD 0 undef,T.getD 1 undef,T.getD 2 undef,T.getD 3 undef,T.getD 4 undef,T.getD 5 undef,T.getD 6 undef,T.getD 7 undef,T.getD 8 undef,T.getD 9 undef,T.getD 10 undef,T.getD 11 undef,T.getD 12 undef,T.getD 13 undef,T.getD 14 undef,T.getD 15 undef,T.getD 16 undef,T.getD 17 undef,T.getD 18 undef,T.getD 19 undef,T.getD 20 undef,T.getD 21 undef,T.getD 22 undef,T.getD 23 undef,T.getD 24 undef,T.getD 25 undef,T.getD 26 undef,T.getD 27 undef,T.getD 28 undef,T.getD 29 undef,T.getD 30 undef,T.getD 31 undef,T.getD 32 undef,T.getD 33 undef] := (list_getD T 34 h).trans (by kernel_rfl)
variable (x0 x1 x2 x3 x4 x5 x6 x7 x8 x9 x10 x11 x12 x13 x14 x15 x16 x17 x18 x19 x20 x21 x22 x23 x24 x25 x26 x27 x28 x29 x30 x31 x32 x33 : Value) (S : AHeap)
theorem lot_Wins.r0  : vOps Try.prog ⟨false, false, false⟩ (vlim Try.prog O) (reg Try.f13 0) (reg Try.f13 0).toList ([x0,x1,x2,x3,x4,x5,x6,x7,x8,x9,x10,x11,x12,x13,x14,x15,x16,x17,x18,x19,x20,x21,x22,x23,x24,x25,x26,x27,x28,x29,x30,x31,x32,x33]) S =
    ( some ([x0,x1,x2,x3,x4,x5,Value.bool false,x7,x8,x9,x10,x11,x12,x13,x14,x15,x16,x17,x18,x19,x20,x21,x22,x23,x24,x25,x26,x27,x28,x29,x30,x31,x32,x33], S)) := by
  refine sP Try.f13 0 0 (v := (Value.bool false)) ?_
  kernel_rfl
theorem lot_Wins.r1  : vOps Try.prog ⟨false, false, false⟩ (vlim Try.prog O) (reg Try.f13 1) (reg Try.f13 1).toList ([x0,x1,x2,x3,x4,x5,x6,x7,x8,x9,x10,x11,x12,x13,x14,x15,x16,x17,x18,x19,x20,x21,x22,x23,x24,x25,x26,x27,x28,x29,x30,x31,x32,x33]) S =
    (andK (vBin Try.prog BinOp.geq 3 (dem x1) (Value.int IntKind.i64 1) S) (fun v1 S1 => gdK (dem v1) true (ret x1) S1 (fun v3 S2 => gdK (dem v1) true (ret x0) S2 (fun v4 S3 => gdK (dem v1) true (vLen Try.prog 22 (dem v4)) S3 (fun v5 S4 => gdK (dem v1) true (vBin Try.prog BinOp.leq 3 (dem v3) v5) S4 (fun v6 S5 => andK (vPick (dem v1) v6 (Value.bool false) S5) (fun v7 S6 => gdK (dem v7) true (ret x2) S6 (fun v9 S7 => gdK (dem v7) true (vBin Try.prog BinOp.geq 3 (dem v9) (Value.int IntKind.i64 0)) S7 (fun v10 S8 => andK (vPick (dem v7) v10 (Value.bool false) S8) (fun v11 S9 => gdK (dem v11) true (ret x2) S9 (fun v13 S10 => gdK (dem v11) true (vBin Try.prog BinOp.lss 3 (dem v13) (Value.int IntKind.i64 7)) S10 (fun v14 S11 => andK (vPick (dem v11) v14 (Value.bool false) S11) (fun v15 S12 => gdK (dem v15) true (ret x0) S12 (fun v17 S13 => gdK (dem v15) true (ret x1) S13 (fun v18 S14 => gdK (dem v15) true (vBin Try.prog BinOp.sub 3 (dem v18) (Value.int IntKind.i64 1)) S14 (fun v19 S15 => gdK (dem v15) true (vIndexAddr Try.prog 22 (dem v17) v19) S15 (fun v20 S16 => gdK (dem v15) true (vLoad Try.prog false 3 v20) S16 (fun v21 S17 => gdK (dem v15) true (ret x2) S17 (fun v22 S18 => gdK (dem v15) true (vBin Try.prog BinOp.shr 3 v21 (dem v22)) S18 (fun v23 S19 => gdK (dem v15) true (vBin Try.prog BinOp.and 3 v23 (Value.int IntKind.i64 1)) S19 (fun v24 S20 => gdK (dem v15) true (vBin Try.prog BinOp.eql 3 v24 (Value.int IntKind.i64 1)) S20 (fun v25 S21 => andK (vPick (dem v15) v25 (Value.bool false) S21) (fun v26 S22 => some ([x0,x1,x2,x3,x4,x5,v26,dem x1,v1,dem v1,dem v3,dem v4,v5,v6,v7,dem v7,dem v9,v10,v11,dem v11,dem v13,v14,v15,dem v15,dem v17,dem v18,v19,v20,v21,dem v22,v23,v24,v25,dem v26], S22)) ()) ()) ()) ()) ()) ()) ()) ()) ()) ()) ()) ()) ()) ()) ()) ()) ()) ()) ()) ()) ()) ()) := by
  refine sP Try.f13 1 0 (v := x1) ?_
  refine sD Try.f13 1 1 (fun v1 S1 => ?_)
  refine sP Try.f13 1 2 (v := v1) ?_
  refine sG Try.f13 1 3 (j := 2) (fun v3 S2 => ?_)
  refine sG Try.f13 1 4 (j := 2) (fun v4 S3 => ?_)
  refine sG Try.f13 1 5 (j := 2) (fun v5 S4 => ?_)
  refine sG Try.f13 1 6 (j := 2) (fun v6 S5 => ?_)
  refine sD Try.f13 1 7 (fun v7 S6 => ?_)
  refine sP Try.f13 1 8 (v := v7) ?_
  refine sG Try.f13 1 9 (j := 8) (fun v9 S7 => ?_)
  refine sG Try.f13 1 10 (j := 8) (fun v10 S8 => ?_)
  refine sD Try.f13 1 11 (fun v11 S9 => ?_)
  refine sP Try.f13 1 12 (v := v11) ?_
  refine sG Try.f13 1 13 (j := 12) (fun v13 S10 => ?_)
  refine sG Try.f13 1 14 (j := 12) (fun v14 S11 => ?_)
  refine sD Try.f13 1 15 (fun v15 S12 => ?_)
  refine sP Try.f13 1 16 (v := v15) ?_
  refine sG Try.f13 1 17 (j := 16) (fun v17 S13 => ?_)
  refine sG Try.f13 1 18 (j := 16) (fun v18 S14 => ?_)
  refine sG Try.f13 1 19 (j := 16) (fun v19 S15 => ?_)
  refine sG Try.f13 1 20 (j := 16) (fun v20 S16 => ?_)
  refine sG Try.f13 1 21 (j := 16) (fun v21 S17 => ?_)
  refine sG Try.f13 1 22 (j := 16) (fun v22 S18 => ?_)
  refine sG Try.f13 1 23 (j := 16) (fun v23 S19 => ?_)
  refine sG Try.f13 1 24 (j := 16) (fun v24 S20 => ?_)
  refine sG Try.f13 1 25 (j := 16) (fun v25 S21 => ?_)
  refine sD Try.f13 1 26 (fun v26 S22 => ?_)
  refine sP Try.f13 1 27 (v := v26) ?_
  kernel_rfl
theorem lot_Wins.rs : type_of% (And.intro @lot_Wins.r0 (@lot_Wins.r1)) := And.intro @lot_Wins.r0 (@lot_Wins.r1)
theorem lot_Wins.runs {x0 x1 x2 : Value} {S S1 : AHeap} {e : AEx} {T : List Value} (h : vcodeV Try.prog O false lot_Wins.code ([x0,x1,x2,undef,undef,undef,undef,undef,undef,undef,undef,undef,undef,undef,undef,undef,undef,undef,undef,undef,undef,undef,undef,undef,undef,undef,undef,undef,undef,undef,undef,undef,undef,undef]) S = some (e, T, S1)) (he : e = .normal ∨ e = .ret) : vlim Try.prog O 13 [x0, x1, x2] S = some (T.getD 6 undef, S1) :=
  vlim_code rfl rfl Try.func13 (by decide) lot_Wins.body (by exact h) he (vRes_one (a := T.getD 6 undef) ((show vResVals Try.prog T S1 Try.f13.results.toList = vResVals Try.prog T S1 [(ResultVar.tmp 6)] from by kernel_rfl).trans (by simp only [vResVals])) (by kernel_rfl))
end Go.Proofs.Ytooljmmlekmkeaa
