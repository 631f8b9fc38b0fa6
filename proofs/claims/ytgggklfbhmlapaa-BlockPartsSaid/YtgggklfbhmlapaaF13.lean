/-
The seat's functions in a shallow form: each region as a chain of the interpreter's operations. Printed by a program; Lean checks each row.
-/
import Derived.Test.YtgggklfbhmlapaaChecked
import Derived.Test.YtgggklfbhmlapaaOra
import Derived.KernelRfl
set_option linter.unusedVariables false
set_option maxRecDepth 100000
namespace Go.Proofs.Ytgggklfbhmlapaa
open Go.Abs

/-- neaptide.block.Miner -/
abbrev block_Miner.id : FuncId := 13
noncomputable def block_Miner.code : Code := (Code.seq (Code.region 0 (reg Try.f13 0) false) (Code.seq (Code.seq (Code.region 1 (reg Try.f13 1) false) (Code.cond (Operand.tmp 5) (Code.seq (Code.region 2 (reg Try.f13 2) false) Code.ret) Code.skip)) (Code.seq (Code.region 3 (reg Try.f13 3) false) Code.ret)))
theorem block_Miner.body : Try.f13.body = some block_Miner.code := by kernel_rfl
theorem block_Miner.eta {T : List Value} (h : T.length = 9) : T = [T.getD 0 undef,T.getD 1 undef,T.getD 2 undef,T.getD 3 undef,T.getD 4 undef,T.getD 5 undef,T.getD 6 undef,T.getD 7 undef,T.getD 8 undef] := (list_getD T 9 h).trans (by kernel_rfl)
variable (x0 x1 x2 x3 x4 x5 x6 x7 x8 : Value) (S : AHeap)
theorem block_Miner.r0  : vOps Try.prog ⟨false, false, false⟩ (vlim Try.prog O) (reg Try.f13 0) (reg Try.f13 0).toList ([x0,x1,x2,x3,x4,x5,x6,x7,x8]) S =
    ( some ([x0,x1,Value.int IntKind.i64 0,x3,x4,x5,x6,x7,x8], S)) := by
  refine sP Try.f13 0 0 (v := (Value.int IntKind.i64 0)) ?_
  kernel_rfl
theorem block_Miner.r1  : vOps Try.prog ⟨false, false, false⟩ (vlim Try.prog O) (reg Try.f13 1) (reg Try.f13 1).toList ([x0,x1,x2,x3,x4,x5,x6,x7,x8]) S =
    (andK ((vlim Try.prog O) 25 [(dem (dem x0))] S) (fun v1 S1 => andK (aUn Try.prog UnOp.not v1 S1) (fun v2 S2 => some ([x0,x1,x2,dem x0,v1,v2,x6,x7,x8], S2)) ()) ()) := by
  refine sP Try.f13 1 0 (v := x0) ?_
  refine sD Try.f13 1 1 (fun v1 S1 => ?_)
  refine sD Try.f13 1 2 (fun v2 S2 => ?_)
  kernel_rfl
theorem block_Miner.r2  : vOps Try.prog ⟨false, false, false⟩ (vlim Try.prog O) (reg Try.f13 2) (reg Try.f13 2).toList ([x0,x1,x2,x3,x4,x5,x6,x7,x8]) S =
    ( some ([x0,x1,Value.int IntKind.i64 0,x3,x4,x5,x6,x7,x8], S)) := by
  refine sP Try.f13 2 0 (v := (Value.int IntKind.i64 0)) ?_
  kernel_rfl
theorem block_Miner.r3  : vOps Try.prog ⟨false, false, false⟩ (vlim Try.prog O) (reg Try.f13 3) (reg Try.f13 3).toList ([x0,x1,x2,x3,x4,x5,x6,x7,x8]) S =
    (andK (vBin Try.prog BinOp.rem 3 (dem x0) (Value.int IntKind.i64 65536) S) (fun v1 S1 => andK (vBin Try.prog BinOp.quo 3 v1 (Value.int IntKind.i64 256) S1) (fun v2 S2 => some ([x0,x1,v2,x3,x4,x5,dem x0,v1,dem v2], S2)) ()) ()) := by
  refine sP Try.f13 3 0 (v := x0) ?_
  refine sD Try.f13 3 1 (fun v1 S1 => ?_)
  refine sD Try.f13 3 2 (fun v2 S2 => ?_)
  refine sP Try.f13 3 3 (v := v2) ?_
  kernel_rfl
theorem block_Miner.rs : type_of% (And.intro @block_Miner.r0 (And.intro @block_Miner.r1 (And.intro @block_Miner.r2 (@block_Miner.r3)))) := And.intro @block_Miner.r0 (And.intro @block_Miner.r1 (And.intro @block_Miner.r2 (@block_Miner.r3)))
theorem block_Miner.runs {x0 : Value} {S S1 : AHeap} {e : AEx} {T : List Value} (h : vcodeV Try.prog O false block_Miner.code ([x0,undef,undef,undef,undef,undef,undef,undef,undef]) S = some (e, T, S1)) (he : e = .normal ∨ e = .ret) : vlim Try.prog O 13 [x0] S = some (T.getD 2 undef, S1) :=
  vlim_code rfl rfl Try.func13 (by decide) block_Miner.body (by exact h) he (vRes_one (a := T.getD 2 undef) ((show vResVals Try.prog T S1 Try.f13.results.toList = vResVals Try.prog T S1 [(ResultVar.tmp 2)] from by kernel_rfl).trans (by simp only [vResVals])) (by kernel_rfl))
end Go.Proofs.Ytgggklfbhmlapaa
