/-
The seat's functions in a shallow form: each region as a chain of the interpreter's operations. Printed by a program; Lean checks each row.
-/
import Derived.Test.YtjlhjebmbllkiaaChecked
import Derived.Test.YtjlhjebmbllkiaaOra
import Derived.KernelRfl
set_option linter.unusedVariables false
set_option maxRecDepth 100000
namespace Go.Proofs.Ytjlhjebmbllkiaa
open Go.Abs

/-- slices.Clone[[]byte,byte] -/
abbrev slices_Clone.id : FuncId := 25
noncomputable def slices_Clone.code : Code := (Code.seq (Code.region 0 (reg Try.f25 0) false) (Code.seq (Code.seq (Code.region 1 (reg Try.f25 1) false) (Code.cond (Operand.tmp 4) (Code.seq (Code.region 2 (reg Try.f25 2) false) Code.ret) Code.skip)) (Code.seq (Code.region 3 (reg Try.f25 3) false) Code.ret)))
theorem slices_Clone.body : Try.f25.body = some slices_Clone.code := by kernel_rfl
theorem slices_Clone.eta {T : List Value} (h : T.length = 8) : T = [T.getD 0 undef,T.getD 1 undef,T.getD 2 undef,T.getD 3 undef,T.getD 4 undef,T.getD 5 undef,T.getD 6 undef,T.getD 7 undef] := (list_getD T 8 h).trans (by kernel_rfl)
theorem slices_Clone.r0 (x0 x1 x2 x3 x4 x5 x6 x7 : Value) (S : AHeap) : vOps Try.prog false (vlim Try.prog O) (reg Try.f25 0) (reg Try.f25 0).toList ([x0,x1,x2,x3,x4,x5,x6,x7]) S =
    ( some ([x0,x1,Value.slice none 0 0,x3,x4,x5,x6,x7], S)) := by
  refine vOps_pure (v := (Value.slice none 0 0)) (o := opAt Try.f25 0 0) (rest := (reg Try.f25 0).toList.drop 1) (by kernel_rfl) (by kernel_rfl) (fun _ => rfl) (by kernel_rfl) ?_
  kernel_rfl
theorem slices_Clone.r1 (x0 x1 x2 x3 x4 x5 x6 x7 : Value) (S : AHeap) : vOps Try.prog false (vlim Try.prog O) (reg Try.f25 1) (reg Try.f25 1).toList ([x0,x1,x2,x3,x4,x5,x6,x7]) S =
    (andK (vBin Try.prog BinOp.eql 23 (dem x0) (Value.slice none 0 0) S) (fun v1 S1 => some ([x0,x1,x2,dem x0,v1,x5,x6,x7], S1)) ()) := by
  refine vOps_pure (v := x0) (o := opAt Try.f25 1 0) (rest := (reg Try.f25 1).toList.drop 1) (by kernel_rfl) (by kernel_rfl) (fun _ => rfl) (by kernel_rfl) ?_
  refine vOps_do (o := opAt Try.f25 1 1) (rest := (reg Try.f25 1).toList.drop 2) (by kernel_rfl) (by kernel_rfl) (fun _ => rfl) (by kernel_rfl) (fun v1 S1 => ?_)
  kernel_rfl
theorem slices_Clone.r2 (x0 x1 x2 x3 x4 x5 x6 x7 : Value) (S : AHeap) : vOps Try.prog false (vlim Try.prog O) (reg Try.f25 2) (reg Try.f25 2).toList ([x0,x1,x2,x3,x4,x5,x6,x7]) S =
    ( some ([x0,x1,Value.slice none 0 0,x3,x4,x5,x6,x7], S)) := by
  refine vOps_pure (v := (Value.slice none 0 0)) (o := opAt Try.f25 2 0) (rest := (reg Try.f25 2).toList.drop 1) (by kernel_rfl) (by kernel_rfl) (fun _ => rfl) (by kernel_rfl) ?_
  kernel_rfl
theorem slices_Clone.r3 (x0 x1 x2 x3 x4 x5 x6 x7 : Value) (S : AHeap) : vOps Try.prog false (vlim Try.prog O) (reg Try.f25 3) (reg Try.f25 3).toList ([x0,x1,x2,x3,x4,x5,x6,x7]) S =
    (andK (vBuildSlice Try.prog 23 0 [] S) (fun v0 S1 => andK (vAppend Try.prog 23 23 v0 (dem x0) S1) (fun v2 S2 => some ([x0,x1,v2,x3,x4,dem v0,dem x0,dem v2], S2)) ()) ()) := by
  refine vOps_do (o := opAt Try.f25 3 0) (rest := (reg Try.f25 3).toList.drop 1) (by kernel_rfl) (by kernel_rfl) (fun _ => rfl) (by kernel_rfl) (fun v0 S1 => ?_)
  refine vOps_pure (v := x0) (o := opAt Try.f25 3 1) (rest := (reg Try.f25 3).toList.drop 2) (by kernel_rfl) (by kernel_rfl) (fun _ => rfl) (by kernel_rfl) ?_
  refine vOps_do (o := opAt Try.f25 3 2) (rest := (reg Try.f25 3).toList.drop 3) (by kernel_rfl) (by kernel_rfl) (fun _ => rfl) (by kernel_rfl) (fun v2 S2 => ?_)
  refine vOps_pure (v := v2) (o := opAt Try.f25 3 3) (rest := (reg Try.f25 3).toList.drop 4) (by kernel_rfl) (by kernel_rfl) (fun _ => rfl) (by kernel_rfl) ?_
  kernel_rfl
theorem slices_Clone.runs {x0 : Value} {S S1 : AHeap} {e : AEx} {T : List Value} (h : vcodeV Try.prog O slices_Clone.code ([x0,undef,undef,undef,undef,undef,undef,undef]) S = some (e, T, S1)) (he : e = .normal ∨ e = .ret) : vlim Try.prog O 25 [x0] S = some (T.getD 2 undef, S1) :=
  vlim_code rfl Try.func25 (by decide) slices_Clone.body (by exact h) he rfl
end Go.Proofs.Ytjlhjebmbllkiaa
