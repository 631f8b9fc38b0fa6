/-
The seat's functions in a shallow form: each region as a chain of the interpreter's operations. Printed by a program; Lean checks each row.
-/
import Derived.Test.YtgggklfbhmlapaaChecked
import Derived.Test.YtgggklfbhmlapaaOra
import Derived.KernelRfl
set_option linter.unusedVariables false
set_option maxRecDepth 100000
namespace Go.Proofs.Ytgggklfbhmlapaa
open Go.Abs

/-- neaptide.block.between -/
abbrev block_between.id : FuncId := 26
noncomputable def block_between.code : Code := (Code.seq (Code.region 0 (reg Try.f26 0) false) (Code.seq (Code.region 1 (reg Try.f26 1) false) Code.ret))
theorem block_between.body : Try.f26.body = some block_between.code := by kernel_rfl
theorem block_between.eta {T : List Value} (h : T.length = 15) : T = [T.getD 0 undef,T.getD 1 undef,T.getD 2 undef,T.getD 3 undef,T.getD 4 undef,T.getD 5 undef,T.getD 6 undef,T.getD 7 undef,T.getD 8 undef,T.getD 9 undef,T.getD 10 undef,T.getD 11 undef,T.getD 12 undef,T.getD 13 undef,T.getD 14 undef] := (list_getD T 15 h).trans (by kernel_rfl)
variable (x0 x1 x2 x3 x4 x5 x6 x7 x8 x9 x10 x11 x12 x13 x14 : Value) (S : AHeap)
theorem block_between.r0  : vOps Try.prog ⟨false, false, false⟩ (vlim Try.prog O) (reg Try.f26 0) (reg Try.f26 0).toList ([x0,x1,x2,x3,x4,x5,x6,x7,x8,x9,x10,x11,x12,x13,x14]) S =
    ( some ([x0,x1,x2,x3,x4,x5,Value.bool false,x7,x8,x9,x10,x11,x12,x13,x14], S)) := by
  refine sP Try.f26 0 0 (v := (Value.bool false)) ?_
  kernel_rfl
theorem block_between.r1  : vOps Try.prog ⟨false, false, false⟩ (vlim Try.prog O) (reg Try.f26 1) (reg Try.f26 1).toList ([x0,x1,x2,x3,x4,x5,x6,x7,x8,x9,x10,x11,x12,x13,x14]) S =
    (andK (vBin Try.prog BinOp.geq 3 (dem x0) (dem x1) S) (fun v2 S1 => gdK (dem v2) true (ret x0) S1 (fun v4 S2 => gdK (dem v2) true (ret x2) S2 (fun v5 S3 => gdK (dem v2) true (vBin Try.prog BinOp.leq 3 (dem v4) (dem v5)) S3 (fun v6 S4 => andK (vPick (dem v2) v6 (Value.bool false) S4) (fun v7 S5 => some ([x0,x1,x2,x3,x4,x5,v7,dem x0,dem x1,v2,dem v2,dem v4,dem v5,v6,dem v7], S5)) ()) ()) ()) ()) ()) := by
  refine sP Try.f26 1 0 (v := x0) ?_
  refine sP Try.f26 1 1 (v := x1) ?_
  refine sD Try.f26 1 2 (fun v2 S1 => ?_)
  refine sP Try.f26 1 3 (v := v2) ?_
  refine sG Try.f26 1 4 (j := 3) (fun v4 S2 => ?_)
  refine sG Try.f26 1 5 (j := 3) (fun v5 S3 => ?_)
  refine sG Try.f26 1 6 (j := 3) (fun v6 S4 => ?_)
  refine sD Try.f26 1 7 (fun v7 S5 => ?_)
  refine sP Try.f26 1 8 (v := v7) ?_
  kernel_rfl
theorem block_between.rs : type_of% (And.intro @block_between.r0 (@block_between.r1)) := And.intro @block_between.r0 (@block_between.r1)
theorem block_between.runs {x0 x1 x2 : Value} {S S1 : AHeap} {e : AEx} {T : List Value} (h : vcodeV Try.prog O false block_between.code ([x0,x1,x2,undef,undef,undef,undef,undef,undef,undef,undef,undef,undef,undef,undef]) S = some (e, T, S1)) (he : e = .normal ∨ e = .ret) : vlim Try.prog O 26 [x0, x1, x2] S = some (T.getD 6 undef, S1) :=
  vlim_code rfl rfl Try.func26 (by decide) block_between.body (by exact h) he (vRes_one (a := T.getD 6 undef) ((show vResVals Try.prog T S1 Try.f26.results.toList = vResVals Try.prog T S1 [(ResultVar.tmp 6)] from by kernel_rfl).trans (by simp only [vResVals])) (by kernel_rfl))
end Go.Proofs.Ytgggklfbhmlapaa
