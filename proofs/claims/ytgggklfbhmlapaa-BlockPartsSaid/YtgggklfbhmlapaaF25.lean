/-
The seat's functions in a shallow form: each region as a chain of the interpreter's operations. Printed by a program; Lean checks each row.
-/
import Derived.Test.YtgggklfbhmlapaaChecked
import Derived.Test.YtgggklfbhmlapaaOra
import Derived.KernelRfl
set_option linter.unusedVariables false
set_option maxRecDepth 100000
namespace Go.Proofs.Ytgggklfbhmlapaa
open Go.Abs

/-- neaptide.block.named -/
abbrev block_named.id : FuncId := 25
noncomputable def block_named.code : Code := (Code.seq (Code.region 0 (reg Try.f25 0) false) (Code.seq (Code.region 1 (reg Try.f25 1) false) Code.ret))
theorem block_named.body : Try.f25.body = some block_named.code := by kernel_rfl
theorem block_named.eta {T : List Value} (h : T.length = 11) : T = [T.getD 0 undef,T.getD 1 undef,T.getD 2 undef,T.getD 3 undef,T.getD 4 undef,T.getD 5 undef,T.getD 6 undef,T.getD 7 undef,T.getD 8 undef,T.getD 9 undef,T.getD 10 undef] := (list_getD T 11 h).trans (by kernel_rfl)
variable (x0 x1 x2 x3 x4 x5 x6 x7 x8 x9 x10 : Value) (S : AHeap)
theorem block_named.r0  : vOps Try.prog ⟨false, false, false⟩ (vlim Try.prog O) (reg Try.f25 0) (reg Try.f25 0).toList ([x0,x1,x2,x3,x4,x5,x6,x7,x8,x9,x10]) S =
    ( some ([x0,x1,Value.bool false,x3,x4,x5,x6,x7,x8,x9,x10], S)) := by
  refine sP Try.f25 0 0 (v := (Value.bool false)) ?_
  kernel_rfl
theorem block_named.r1  : vOps Try.prog ⟨false, false, false⟩ (vlim Try.prog O) (reg Try.f25 1) (reg Try.f25 1).toList ([x0,x1,x2,x3,x4,x5,x6,x7,x8,x9,x10]) S =
    (andK ((vlim Try.prog O) 26 [(dem (dem x0)), (Value.int IntKind.i64 65536), (Value.int IntKind.i64 268435455)] S) (fun v1 S1 => gdK (dem v1) true (ret x0) S1 (fun v3 S2 => gdK (dem v1) true (vBin Try.prog BinOp.rem 3 (dem v3) (Value.int IntKind.i64 65536)) S2 (fun v4 S3 => gdK (dem v1) true (vBin Try.prog BinOp.quo 3 v4 (Value.int IntKind.i64 256)) S3 (fun v5 S4 => gdK (dem v1) true (vBin Try.prog BinOp.lss 3 v5 (Value.int IntKind.i64 7)) S4 (fun v6 S5 => andK (vPick (dem v1) v6 (Value.bool false) S5) (fun v7 S6 => some ([x0,x1,v7,dem x0,v1,dem v1,dem v3,v4,v5,v6,dem v7], S6)) ()) ()) ()) ()) ()) ()) := by
  refine sP Try.f25 1 0 (v := x0) ?_
  refine sD Try.f25 1 1 (fun v1 S1 => ?_)
  refine sP Try.f25 1 2 (v := v1) ?_
  refine sG Try.f25 1 3 (j := 2) (fun v3 S2 => ?_)
  refine sG Try.f25 1 4 (j := 2) (fun v4 S3 => ?_)
  refine sG Try.f25 1 5 (j := 2) (fun v5 S4 => ?_)
  refine sG Try.f25 1 6 (j := 2) (fun v6 S5 => ?_)
  refine sD Try.f25 1 7 (fun v7 S6 => ?_)
  refine sP Try.f25 1 8 (v := v7) ?_
  kernel_rfl
theorem block_named.rs : type_of% (And.intro @block_named.r0 (@block_named.r1)) := And.intro @block_named.r0 (@block_named.r1)
theorem block_named.runs {x0 : Value} {S S1 : AHeap} {e : AEx} {T : List Value} (h : vcodeV Try.prog O false block_named.code ([x0,undef,undef,undef,undef,undef,undef,undef,undef,undef,undef]) S = some (e, T, S1)) (he : e = .normal ∨ e = .ret) : vlim Try.prog O 25 [x0] S = some (T.getD 2 undef, S1) :=
  vlim_code rfl rfl Try.func25 (by decide) block_named.body (by exact h) he (vRes_one (a := T.getD 2 undef) ((show vResVals Try.prog T S1 Try.f25.results.toList = vResVals Try.prog T S1 [(ResultVar.tmp 2)] from by kernel_rfl).trans (by simp only [vResVals])) (by kernel_rfl))
end Go.Proofs.Ytgggklfbhmlapaa
