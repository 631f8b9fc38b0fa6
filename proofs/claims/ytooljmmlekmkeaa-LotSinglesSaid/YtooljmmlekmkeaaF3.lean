/-
The seat's functions in a shallow form: each region as a chain of the interpreter's operations. Printed by a program; Lean checks each row.
-/
import Derived.Test.YtooljmmlekmkeaaChecked
import Derived.Test.YtooljmmlekmkeaaOra
import Derived.KernelRfl
set_option linter.unusedVariables false
set_option maxRecDepth 100000
namespace Go.Proofs.Ytooljmmlekmkeaa
open Go.Abs

/-- neaptide.neaptidelaw10.LotSingles -/
abbrev neaptidelaw10_LotSingles.id : FuncId := 3
noncomputable def neaptidelaw10_LotSingles.code : Code := (Code.seq (Code.region 0 (reg Try.f3 0) false) (Code.seq (Code.seq (Code.region 1 (reg Try.f3 1) false) (Code.cond (Operand.tmp 6) (Code.seq (Code.region 2 (reg Try.f3 2) false) Code.ret) Code.skip)) (Code.seq (Code.seq (Code.region 3 (reg Try.f3 3) false) (Code.cond (Operand.tmp 9) (Code.seq (Code.region 4 (reg Try.f3 4) false) Code.ret) Code.skip)) (Code.seq (Code.region 5 (reg Try.f3 5) false) Code.ret))))
theorem neaptidelaw10_LotSingles.body : Try.f3.body = some neaptidelaw10_LotSingles.code := by kernel_rfl
theorem neaptidelaw10_LotSingles.eta {T : List Value} (h : T.length = 17) : T = [T.getD 0 undef,T.getD 1 undef,T.getD 2 undef,T.getD 3 undef,T.getD 4 undef,T.getD 5 undef,T.getD 6 undef,T.getD 7 undef,T.getD 8 undef,T.getD 9 undef,T.getD 10 undef,T.getD 11 undef,T.getD 12 undef,T.getD 13 undef,T.getD 14 undef,T.getD 15 undef,T.getD 16 undef] := (list_getD T 17 h).trans (by kernel_rfl)
theorem neaptidelaw10_LotSingles.r0 (x0 x1 x2 x3 x4 x5 x6 x7 x8 x9 x10 x11 x12 x13 x14 x15 x16 : Value) (S : AHeap) : vOps Try.prog ⟨false, false, false⟩ (vlim Try.prog O) (reg Try.f3 0) (reg Try.f3 0).toList ([x0,x1,x2,x3,x4,x5,x6,x7,x8,x9,x10,x11,x12,x13,x14,x15,x16]) S =
    ( some ([x0,x1,x2,x3,Value.bool false,x5,x6,x7,x8,x9,x10,x11,x12,x13,x14,x15,x16], S)) := by
  refine vOps_pure (v := (Value.bool false)) (o := opAt Try.f3 0 0) (rest := (reg Try.f3 0).toList.drop 1) (by kernel_rfl) (by kernel_rfl) (fun _ => rfl) (by kernel_rfl) ?_
  kernel_rfl
theorem neaptidelaw10_LotSingles.r1 (x0 x1 x2 x3 x4 x5 x6 x7 x8 x9 x10 x11 x12 x13 x14 x15 x16 : Value) (S : AHeap) : vOps Try.prog ⟨false, false, false⟩ (vlim Try.prog O) (reg Try.f3 1) (reg Try.f3 1).toList ([x0,x1,x2,x3,x4,x5,x6,x7,x8,x9,x10,x11,x12,x13,x14,x15,x16]) S =
    (andK ((vlim Try.prog O) 8 [] S) (fun v0 S1 => andK (aUn Try.prog UnOp.not v0 S1) (fun v1 S2 => some ([x0,x1,x2,x3,x4,v0,v1,x7,x8,x9,x10,x11,x12,x13,x14,x15,x16], S2)) ()) ()) := by
  refine vOps_do (o := opAt Try.f3 1 0) (rest := (reg Try.f3 1).toList.drop 1) (by kernel_rfl) (by kernel_rfl) (fun _ => rfl) (by kernel_rfl) (fun v0 S1 => ?_)
  refine vOps_do (o := opAt Try.f3 1 1) (rest := (reg Try.f3 1).toList.drop 2) (by kernel_rfl) (by kernel_rfl) (fun _ => rfl) (by kernel_rfl) (fun v1 S2 => ?_)
  kernel_rfl
theorem neaptidelaw10_LotSingles.r2 (x0 x1 x2 x3 x4 x5 x6 x7 x8 x9 x10 x11 x12 x13 x14 x15 x16 : Value) (S : AHeap) : vOps Try.prog ⟨false, false, false⟩ (vlim Try.prog O) (reg Try.f3 2) (reg Try.f3 2).toList ([x0,x1,x2,x3,x4,x5,x6,x7,x8,x9,x10,x11,x12,x13,x14,x15,x16]) S =
    ( some ([x0,x1,x2,x3,Value.bool false,x5,x6,x7,x8,x9,x10,x11,x12,x13,x14,x15,x16], S)) := by
  refine vOps_pure (v := (Value.bool false)) (o := opAt Try.f3 2 0) (rest := (reg Try.f3 2).toList.drop 1) (by kernel_rfl) (by kernel_rfl) (fun _ => rfl) (by kernel_rfl) ?_
  kernel_rfl
theorem neaptidelaw10_LotSingles.r3 (x0 x1 x2 x3 x4 x5 x6 x7 x8 x9 x10 x11 x12 x13 x14 x15 x16 : Value) (S : AHeap) : vOps Try.prog ⟨false, false, false⟩ (vlim Try.prog O) (reg Try.f3 3) (reg Try.f3 3).toList ([x0,x1,x2,x3,x4,x5,x6,x7,x8,x9,x10,x11,x12,x13,x14,x15,x16]) S =
    (andK ((vlim Try.prog O) 9 [(dem (dem x0))] S) (fun v1 S1 => andK (vBin Try.prog BinOp.neq 3 v1 (Value.int IntKind.i64 0) S1) (fun v2 S2 => some ([x0,x1,x2,x3,x4,x5,x6,dem x0,v1,v2,x10,x11,x12,x13,x14,x15,x16], S2)) ()) ()) := by
  refine vOps_pure (v := x0) (o := opAt Try.f3 3 0) (rest := (reg Try.f3 3).toList.drop 1) (by kernel_rfl) (by kernel_rfl) (fun _ => rfl) (by kernel_rfl) ?_
  refine vOps_do (o := opAt Try.f3 3 1) (rest := (reg Try.f3 3).toList.drop 2) (by kernel_rfl) (by kernel_rfl) (fun _ => rfl) (by kernel_rfl) (fun v1 S1 => ?_)
  refine vOps_do (o := opAt Try.f3 3 2) (rest := (reg Try.f3 3).toList.drop 3) (by kernel_rfl) (by kernel_rfl) (fun _ => rfl) (by kernel_rfl) (fun v2 S2 => ?_)
  kernel_rfl
theorem neaptidelaw10_LotSingles.r4 (x0 x1 x2 x3 x4 x5 x6 x7 x8 x9 x10 x11 x12 x13 x14 x15 x16 : Value) (S : AHeap) : vOps Try.prog ⟨false, false, false⟩ (vlim Try.prog O) (reg Try.f3 4) (reg Try.f3 4).toList ([x0,x1,x2,x3,x4,x5,x6,x7,x8,x9,x10,x11,x12,x13,x14,x15,x16]) S =
    ( some ([x0,x1,x2,x3,Value.bool true,x5,x6,x7,x8,x9,x10,x11,x12,x13,x14,x15,x16], S)) := by
  refine vOps_pure (v := (Value.bool true)) (o := opAt Try.f3 4 0) (rest := (reg Try.f3 4).toList.drop 1) (by kernel_rfl) (by kernel_rfl) (fun _ => rfl) (by kernel_rfl) ?_
  kernel_rfl
theorem neaptidelaw10_LotSingles.r5 (x0 x1 x2 x3 x4 x5 x6 x7 x8 x9 x10 x11 x12 x13 x14 x15 x16 : Value) (S : AHeap) : vOps Try.prog ⟨false, false, false⟩ (vlim Try.prog O) (reg Try.f3 5) (reg Try.f3 5).toList ([x0,x1,x2,x3,x4,x5,x6,x7,x8,x9,x10,x11,x12,x13,x14,x15,x16]) S =
    (andK ((vlim Try.prog O) 10 [(dem (dem x0)), (dem (dem x1))] S) (fun v2 S1 => andK ((vlim Try.prog O) 11 [(dem (dem x0)), (dem (dem x1))] S1) (fun v5 S2 => andK (vBin Try.prog BinOp.eql 4 v2 v5 S2) (fun v6 S3 => some ([x0,x1,x2,x3,v6,x5,x6,x7,x8,x9,dem x0,dem x1,v2,dem x0,dem x1,v5,dem v6], S3)) ()) ()) ()) := by
  refine vOps_pure (v := x0) (o := opAt Try.f3 5 0) (rest := (reg Try.f3 5).toList.drop 1) (by kernel_rfl) (by kernel_rfl) (fun _ => rfl) (by kernel_rfl) ?_
  refine vOps_pure (v := x1) (o := opAt Try.f3 5 1) (rest := (reg Try.f3 5).toList.drop 2) (by kernel_rfl) (by kernel_rfl) (fun _ => rfl) (by kernel_rfl) ?_
  refine vOps_do (o := opAt Try.f3 5 2) (rest := (reg Try.f3 5).toList.drop 3) (by kernel_rfl) (by kernel_rfl) (fun _ => rfl) (by kernel_rfl) (fun v2 S1 => ?_)
  refine vOps_pure (v := x0) (o := opAt Try.f3 5 3) (rest := (reg Try.f3 5).toList.drop 4) (by kernel_rfl) (by kernel_rfl) (fun _ => rfl) (by kernel_rfl) ?_
  refine vOps_pure (v := x1) (o := opAt Try.f3 5 4) (rest := (reg Try.f3 5).toList.drop 5) (by kernel_rfl) (by kernel_rfl) (fun _ => rfl) (by kernel_rfl) ?_
  refine vOps_do (o := opAt Try.f3 5 5) (rest := (reg Try.f3 5).toList.drop 6) (by kernel_rfl) (by kernel_rfl) (fun _ => rfl) (by kernel_rfl) (fun v5 S2 => ?_)
  refine vOps_do (o := opAt Try.f3 5 6) (rest := (reg Try.f3 5).toList.drop 7) (by kernel_rfl) (by kernel_rfl) (fun _ => rfl) (by kernel_rfl) (fun v6 S3 => ?_)
  refine vOps_pure (v := v6) (o := opAt Try.f3 5 7) (rest := (reg Try.f3 5).toList.drop 8) (by kernel_rfl) (by kernel_rfl) (fun _ => rfl) (by kernel_rfl) ?_
  kernel_rfl
theorem neaptidelaw10_LotSingles.runs {x0 x1 : Value} {S S1 : AHeap} {e : AEx} {T : List Value} (h : vcodeV Try.prog O false neaptidelaw10_LotSingles.code ([x0,x1,undef,undef,undef,undef,undef,undef,undef,undef,undef,undef,undef,undef,undef,undef,undef]) S = some (e, T, S1)) (he : e = .normal ∨ e = .ret) : vlim Try.prog O 3 [x0, x1] S = some (T.getD 4 undef, S1) :=
  vlim_code rfl Try.func3 (by decide) neaptidelaw10_LotSingles.body (by exact h) he rfl
end Go.Proofs.Ytooljmmlekmkeaa
