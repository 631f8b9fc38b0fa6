/-
The seat's functions in a shallow form: each region as a chain of the interpreter's operations. Printed by a program; Lean checks each row.
-/
import Derived.Test.YtooljmmlekmkeaaChecked
import Derived.Test.YtooljmmlekmkeaaOra
import Derived.KernelRfl
set_option linter.unusedVariables false
set_option maxRecDepth 100000
namespace Go.Proofs.Ytooljmmlekmkeaa
open Go.Abs

/-- neaptide.lot.Single -/
abbrev lot_Single.id : FuncId := 10
noncomputable def lot_Single.loop1 : Code := (Code.seq (Code.region 2 (reg Try.f10 2) false) (Code.seq (Code.cond (Operand.tmp 10) Code.skip (Code.exit 0)) (Code.seq (Code.block 1 (Code.seq (Code.region 3 (reg Try.f10 3) false) (Code.seq (Code.region 4 (reg Try.f10 4) false) (Code.seq (Code.region 5 (reg Try.f10 5) false) (Code.cond (Operand.tmp 31) (Code.seq (Code.region 6 (reg Try.f10 6) false) Code.ret) Code.skip))))) (Code.region 7 (reg Try.f10 7) false))))
noncomputable def lot_Single.code : Code := (Code.seq (Code.region 0 (reg Try.f10 0) false) (Code.seq (Code.seq (Code.region 1 (reg Try.f10 1) false) (Code.block 0 (Code.loop lot_Single.loop1))) (Code.seq (Code.region 8 (reg Try.f10 8) false) Code.ret)))
theorem lot_Single.body : Try.f10.body = some lot_Single.code := by kernel_rfl
theorem lot_Single.eta {T : List Value} (h : T.length = 33) : T = [T.getD 0 undef,T.getD 1 undef,T.getD 2 undef,T.getD 3 undef,T.getD 4 undef,T.getD 5 undef,T.getD 6 undef,T.getD 7 undef,T.getD 8 undef,T.getD 9 undef,T.getD 10 undef,T.getD 11 undef,T.getD 12 undef,T.getD 13 undef,T.getD 14 undef,T.getD 15 undef,T.getD 16 undef,T.getD 17 undef,T.getD 18 undef,T.getD 19 undef,T.getD 20 undef,T.getD 21 undef,T.getD 22 undef,T.getD 23 undef,T.getD 24 undef,T.getD 25 undef,T.getD 26 undef,T.getD 27 undef,T.getD 28 undef,T.getD 29 undef,T.getD 30 undef,T.getD 31 undef,T.getD 32 undef] := (list_getD T 33 h).trans (by kernel_rfl)
theorem lot_Single.list {T : List Value} (h : T.length = 33) : ∃ x0 x1 x2 x3 x4 x5 x6 x7 x8 x9 x10 x11 x12 x13 x14 x15 x16 x17 x18 x19 x20 x21 x22 x23 x24 x25 x26 x27 x28 x29 x30 x31 x32, T = [x0,x1,x2,x3,x4,x5,x6,x7,x8,x9,x10,x11,x12,x13,x14,x15,x16,x17,x18,x19,x20,x21,x22,x23,x24,x25,x26,x27,x28,x29,x30,x31,x32] := ⟨_, _, _, _, _, _, _, _, _, _, _, _, _, _, _, _, _, _, _, _, _, _, _, _, _, _, _, _, _, _, _, _, _, lot_Single.eta h⟩
variable (x0 x1 x2 x3 x4 x5 x6 x7 x8 x9 x10 x11 x12 x13 x14 x15 x16 x17 x18 x19 x20 x21 x22 x23 x24 x25 x26 x27 x28 x29 x30 x31 x32 : Value) (S : AHeap)
theorem lot_Single.r0  : vOps Try.prog ⟨false, false, false⟩ (vlim Try.prog O) (reg Try.f10 0) (reg Try.f10 0).toList ([x0,x1,x2,x3,x4,x5,x6,x7,x8,x9,x10,x11,x12,x13,x14,x15,x16,x17,x18,x19,x20,x21,x22,x23,x24,x25,x26,x27,x28,x29,x30,x31,x32]) S =
    ( some ([x0,x1,x2,x3,Value.bool false,x5,x6,x7,x8,x9,x10,x11,x12,x13,x14,x15,x16,x17,x18,x19,x20,x21,x22,x23,x24,x25,x26,x27,x28,x29,x30,x31,x32], S)) := by
  refine sP Try.f10 0 0 (v := (Value.bool false)) ?_
  kernel_rfl
theorem lot_Single.r1  : vOps Try.prog ⟨false, false, false⟩ (vlim Try.prog O) (reg Try.f10 1) (reg Try.f10 1).toList ([x0,x1,x2,x3,x4,x5,x6,x7,x8,x9,x10,x11,x12,x13,x14,x15,x16,x17,x18,x19,x20,x21,x22,x23,x24,x25,x26,x27,x28,x29,x30,x31,x32]) S =
    (andK (vLen Try.prog 22 (dem x0) S) (fun v1 S1 => some ([x0,x1,x2,x3,x4,x5,x6,dem x0,v1,Value.int IntKind.i64 0,x10,x11,x12,x13,x14,x15,x16,x17,x18,x19,x20,x21,x22,x23,x24,x25,x26,x27,x28,x29,x30,x31,x32], S1)) ()) := by
  refine sP Try.f10 1 0 (v := x0) ?_
  refine sD Try.f10 1 1 (fun v1 S1 => ?_)
  refine sP Try.f10 1 2 (v := (Value.int IntKind.i64 0)) ?_
  kernel_rfl
theorem lot_Single.r2  : vOps Try.prog ⟨false, false, false⟩ (vlim Try.prog O) (reg Try.f10 2) (reg Try.f10 2).toList ([x0,x1,x2,x3,x4,x5,x6,x7,x8,x9,x10,x11,x12,x13,x14,x15,x16,x17,x18,x19,x20,x21,x22,x23,x24,x25,x26,x27,x28,x29,x30,x31,x32]) S =
    (andK (vBin Try.prog BinOp.lss 3 x9 x8 S) (fun v0 S1 => some ([x0,x1,x2,x3,x4,x5,x6,x7,x8,x9,v0,x11,x12,x13,x14,x15,x16,x17,x18,x19,x20,x21,x22,x23,x24,x25,x26,x27,x28,x29,x30,x31,x32], S1)) ()) := by
  refine sD Try.f10 2 0 (fun v0 S1 => ?_)
  kernel_rfl
theorem lot_Single.r3  : vOps Try.prog ⟨false, false, false⟩ (vlim Try.prog O) (reg Try.f10 3) (reg Try.f10 3).toList ([x0,x1,x2,x3,x4,x5,x6,x7,x8,x9,x10,x11,x12,x13,x14,x15,x16,x17,x18,x19,x20,x21,x22,x23,x24,x25,x26,x27,x28,x29,x30,x31,x32]) S =
    ( some ([x0,x1,x2,x3,x4,x9,x6,x7,x8,dem x9,x10,dem x9,x12,x13,x14,x15,x16,x17,x18,x19,x20,x21,x22,x23,x24,x25,x26,x27,x28,x29,x30,x31,x32], S)) := by
  refine sP Try.f10 3 0 (v := x9) ?_
  refine sP Try.f10 3 1 (v := x9) ?_
  kernel_rfl
theorem lot_Single.r4  : vOps Try.prog ⟨false, false, false⟩ (vlim Try.prog O) (reg Try.f10 4) (reg Try.f10 4).toList ([x0,x1,x2,x3,x4,x5,x6,x7,x8,x9,x10,x11,x12,x13,x14,x15,x16,x17,x18,x19,x20,x21,x22,x23,x24,x25,x26,x27,x28,x29,x30,x31,x32]) S =
    (andK (vBin Try.prog BinOp.add 3 (dem x5) (Value.int IntKind.i64 1) S) (fun v2 S1 => andK ((vlim Try.prog O) 16 [(dem (dem x0)), (dem v2)] S1) (fun v3 S2 => some ([x0,x1,x2,x3,x4,x5,v3,x7,x8,x9,x10,x11,dem x0,dem x5,v2,dem v3,x16,x17,x18,x19,x20,x21,x22,x23,x24,x25,x26,x27,x28,x29,x30,x31,x32], S2)) ()) ()) := by
  refine sP Try.f10 4 0 (v := x0) ?_
  refine sP Try.f10 4 1 (v := x5) ?_
  refine sD Try.f10 4 2 (fun v2 S1 => ?_)
  refine sD Try.f10 4 3 (fun v3 S2 => ?_)
  refine sP Try.f10 4 4 (v := v3) ?_
  kernel_rfl
theorem lot_Single.r5  : vOps Try.prog ⟨false, false, false⟩ (vlim Try.prog O) (reg Try.f10 5) (reg Try.f10 5).toList ([x0,x1,x2,x3,x4,x5,x6,x7,x8,x9,x10,x11,x12,x13,x14,x15,x16,x17,x18,x19,x20,x21,x22,x23,x24,x25,x26,x27,x28,x29,x30,x31,x32]) S =
    (andK (vLen Try.prog 22 (dem x6) S) (fun v1 S1 => andK (vBin Try.prog BinOp.gtr 3 v1 (Value.int IntKind.i64 1) S1) (fun v2 S2 => gdK (dem v2) false (ret x6) S2 (fun v4 S3 => gdK (dem v2) false (vLen Try.prog 22 (dem v4)) S3 (fun v5 S4 => gdK (dem v2) false (vBin Try.prog BinOp.eql 3 v5 (Value.int IntKind.i64 1)) S4 (fun v6 S5 => gdK (dem v2) false (ret v6) S5 (fun v7 S6 => gdK (dem v7) true (ret x1) S6 (fun v8 S7 => gdK (dem v7) true (ret x6) S7 (fun v9 S8 => gdK (dem v7) true (vIndexAddr Try.prog 22 (dem v9) (Value.int IntKind.i64 0)) S8 (fun v10 S9 => gdK (dem v7) true (vLoad Try.prog false 3 v10) S9 (fun v11 S10 => gdK (dem v7) true ((vlim Try.prog O) 20 [(dem (dem v8)), (dem v11)]) S10 (fun v12 S11 => gdK (dem v7) true (aUn Try.prog UnOp.not v12) S11 (fun v13 S12 => gdK (dem v2) false (vPick (dem v7) v13 (Value.bool false)) S12 (fun v14 S13 => andK (vPick (dem v2) (Value.bool true) v14 S13) (fun v15 S14 => some ([x0,x1,x2,x3,x4,x5,x6,x7,x8,x9,x10,x11,x12,x13,x14,x15,dem x6,v1,v2,dem v2,dem v4,v5,v6,dem v7,dem v8,dem v9,v10,v11,v12,v13,v14,v15,x32], S14)) ()) ()) ()) ()) ()) ()) ()) ()) ()) ()) ()) ()) ()) ()) := by
  refine sP Try.f10 5 0 (v := x6) ?_
  refine sD Try.f10 5 1 (fun v1 S1 => ?_)
  refine sD Try.f10 5 2 (fun v2 S2 => ?_)
  refine sP Try.f10 5 3 (v := v2) ?_
  refine sG Try.f10 5 4 (j := 3) (fun v4 S3 => ?_)
  refine sG Try.f10 5 5 (j := 3) (fun v5 S4 => ?_)
  refine sG Try.f10 5 6 (j := 3) (fun v6 S5 => ?_)
  refine sG Try.f10 5 7 (j := 3) (fun v7 S6 => ?_)
  refine sG Try.f10 5 8 (j := 7) (fun v8 S7 => ?_)
  refine sG Try.f10 5 9 (j := 7) (fun v9 S8 => ?_)
  refine sG Try.f10 5 10 (j := 7) (fun v10 S9 => ?_)
  refine sG Try.f10 5 11 (j := 7) (fun v11 S10 => ?_)
  refine sG Try.f10 5 12 (j := 7) (fun v12 S11 => ?_)
  refine sG Try.f10 5 13 (j := 7) (fun v13 S12 => ?_)
  refine sG Try.f10 5 14 (j := 3) (fun v14 S13 => ?_)
  refine sD Try.f10 5 15 (fun v15 S14 => ?_)
  kernel_rfl
theorem lot_Single.r6  : vOps Try.prog ⟨false, false, false⟩ (vlim Try.prog O) (reg Try.f10 6) (reg Try.f10 6).toList ([x0,x1,x2,x3,x4,x5,x6,x7,x8,x9,x10,x11,x12,x13,x14,x15,x16,x17,x18,x19,x20,x21,x22,x23,x24,x25,x26,x27,x28,x29,x30,x31,x32]) S =
    ( some ([x0,x1,x2,x3,Value.bool false,x5,x6,x7,x8,x9,x10,x11,x12,x13,x14,x15,x16,x17,x18,x19,x20,x21,x22,x23,x24,x25,x26,x27,x28,x29,x30,x31,x32], S)) := by
  refine sP Try.f10 6 0 (v := (Value.bool false)) ?_
  kernel_rfl
theorem lot_Single.r7  : vOps Try.prog ⟨false, false, false⟩ (vlim Try.prog O) (reg Try.f10 7) (reg Try.f10 7).toList ([x0,x1,x2,x3,x4,x5,x6,x7,x8,x9,x10,x11,x12,x13,x14,x15,x16,x17,x18,x19,x20,x21,x22,x23,x24,x25,x26,x27,x28,x29,x30,x31,x32]) S =
    (andK (vBin Try.prog BinOp.add 3 x9 (Value.int IntKind.i64 1) S) (fun v0 S1 => some ([x0,x1,x2,x3,x4,x5,x6,x7,x8,dem v0,x10,x11,x12,x13,x14,x15,x16,x17,x18,x19,x20,x21,x22,x23,x24,x25,x26,x27,x28,x29,x30,x31,v0], S1)) ()) := by
  refine sD Try.f10 7 0 (fun v0 S1 => ?_)
  refine sP Try.f10 7 1 (v := v0) ?_
  kernel_rfl
theorem lot_Single.r8  : vOps Try.prog ⟨false, false, false⟩ (vlim Try.prog O) (reg Try.f10 8) (reg Try.f10 8).toList ([x0,x1,x2,x3,x4,x5,x6,x7,x8,x9,x10,x11,x12,x13,x14,x15,x16,x17,x18,x19,x20,x21,x22,x23,x24,x25,x26,x27,x28,x29,x30,x31,x32]) S =
    ( some ([x0,x1,x2,x3,Value.bool true,x5,x6,x7,x8,x9,x10,x11,x12,x13,x14,x15,x16,x17,x18,x19,x20,x21,x22,x23,x24,x25,x26,x27,x28,x29,x30,x31,x32], S)) := by
  refine sP Try.f10 8 0 (v := (Value.bool true)) ?_
  kernel_rfl
theorem lot_Single.rs : type_of% (And.intro @lot_Single.r0 (And.intro @lot_Single.r1 (And.intro @lot_Single.r2 (And.intro @lot_Single.r3 (And.intro @lot_Single.r4 (And.intro @lot_Single.r5 (And.intro @lot_Single.r6 (And.intro @lot_Single.r7 (@lot_Single.r8))))))))) := And.intro @lot_Single.r0 (And.intro @lot_Single.r1 (And.intro @lot_Single.r2 (And.intro @lot_Single.r3 (And.intro @lot_Single.r4 (And.intro @lot_Single.r5 (And.intro @lot_Single.r6 (And.intro @lot_Single.r7 (@lot_Single.r8))))))))
theorem lot_Single.runs {x0 x1 : Value} {S S1 : AHeap} {e : AEx} {T : List Value} (h : vcodeV Try.prog O false lot_Single.code ([x0,x1,undef,undef,undef,undef,undef,undef,undef,undef,undef,undef,undef,undef,undef,undef,undef,undef,undef,undef,undef,undef,undef,undef,undef,undef,undef,undef,undef,undef,undef,undef,undef]) S = some (e, T, S1)) (he : e = .normal ∨ e = .ret) : vlim Try.prog O 10 [x0, x1] S = some (T.getD 4 undef, S1) :=
  vlim_code rfl rfl Try.func10 (by decide) lot_Single.body (by exact h) he (vRes_one (a := T.getD 4 undef) ((show vResVals Try.prog T S1 Try.f10.results.toList = vResVals Try.prog T S1 [(ResultVar.tmp 4)] from by kernel_rfl).trans (by simp only [vResVals])) (by kernel_rfl))
end Go.Proofs.Ytooljmmlekmkeaa
