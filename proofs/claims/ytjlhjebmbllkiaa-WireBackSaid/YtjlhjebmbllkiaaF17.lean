/-
The seat's functions in a shallow form: each region as a chain of the interpreter's operations. Printed by a program; Lean checks each row.
-/
import Derived.Test.YtjlhjebmbllkiaaChecked
import Derived.Test.YtjlhjebmbllkiaaOra
import Derived.KernelRfl
set_option linter.unusedVariables false
set_option maxRecDepth 100000
namespace Go.Proofs.Ytjlhjebmbllkiaa
open Go.Abs

/-- neaptide.neaptideref01.Text -/
abbrev neaptideref01_Text.id : FuncId := 17
noncomputable def neaptideref01_Text.code : Code := (Code.seq (Code.region 0 (reg Try.f17 0) false) (Code.seq (Code.seq (Code.region 1 (reg Try.f17 1) false) (Code.cond (Operand.tmp 6) (Code.seq (Code.region 2 (reg Try.f17 2) false) Code.ret) Code.skip)) (Code.seq (Code.region 3 (reg Try.f17 3) false) Code.ret)))
theorem neaptideref01_Text.body : Try.f17.body = some neaptideref01_Text.code := by kernel_rfl
theorem neaptideref01_Text.eta {T : List Value} (h : T.length = 13) : T = [T.getD 0 undef,T.getD 1 undef,T.getD 2 undef,T.getD 3 undef,T.getD 4 undef,T.getD 5 undef,T.getD 6 undef,T.getD 7 undef,T.getD 8 undef,T.getD 9 undef,T.getD 10 undef,T.getD 11 undef,T.getD 12 undef] := (list_getD T 13 h).trans (by kernel_rfl)
theorem neaptideref01_Text.r0 (x0 x1 x2 x3 x4 x5 x6 x7 x8 x9 x10 x11 x12 : Value) (S : AHeap) : vOps Try.prog false (vlim Try.prog O) (reg Try.f17 0) (reg Try.f17 0).toList ([x0,x1,x2,x3,x4,x5,x6,x7,x8,x9,x10,x11,x12]) S =
    ( some ([x0,x1,Value.slice none 0 0,Value.int IntKind.i64 0,x4,x5,x6,x7,x8,x9,x10,x11,x12], S)) := by
  refine vOps_pure (v := (Value.slice none 0 0)) (o := opAt Try.f17 0 0) (rest := (reg Try.f17 0).toList.drop 1) (by kernel_rfl) (by kernel_rfl) (fun _ => rfl) (by kernel_rfl) ?_
  refine vOps_pure (v := (Value.int IntKind.i64 0)) (o := opAt Try.f17 0 1) (rest := (reg Try.f17 0).toList.drop 2) (by kernel_rfl) (by kernel_rfl) (fun _ => rfl) (by kernel_rfl) ?_
  kernel_rfl
theorem neaptideref01_Text.r1 (x0 x1 x2 x3 x4 x5 x6 x7 x8 x9 x10 x11 x12 : Value) (S : AHeap) : vOps Try.prog false (vlim Try.prog O) (reg Try.f17 1) (reg Try.f17 1).toList ([x0,x1,x2,x3,x4,x5,x6,x7,x8,x9,x10,x11,x12]) S =
    (andK (vLen Try.prog 23 (dem x0) S) (fun v1 S1 => andK (vBin Try.prog BinOp.gtr 3 v1 (Value.int IntKind.i64 4096) S1) (fun v2 S2 => some ([x0,x1,x2,x3,dem x0,v1,v2,x7,x8,x9,x10,x11,x12], S2)) ()) ()) := by
  refine vOps_pure (v := x0) (o := opAt Try.f17 1 0) (rest := (reg Try.f17 1).toList.drop 1) (by kernel_rfl) (by kernel_rfl) (fun _ => rfl) (by kernel_rfl) ?_
  refine vOps_do (o := opAt Try.f17 1 1) (rest := (reg Try.f17 1).toList.drop 2) (by kernel_rfl) (by kernel_rfl) (fun _ => rfl) (by kernel_rfl) (fun v1 S1 => ?_)
  refine vOps_do (o := opAt Try.f17 1 2) (rest := (reg Try.f17 1).toList.drop 3) (by kernel_rfl) (by kernel_rfl) (fun _ => rfl) (by kernel_rfl) (fun v2 S2 => ?_)
  kernel_rfl
theorem neaptideref01_Text.r2 (x0 x1 x2 x3 x4 x5 x6 x7 x8 x9 x10 x11 x12 : Value) (S : AHeap) : vOps Try.prog false (vlim Try.prog O) (reg Try.f17 2) (reg Try.f17 2).toList ([x0,x1,x2,x3,x4,x5,x6,x7,x8,x9,x10,x11,x12]) S =
    ( some ([x0,x1,Value.slice none 0 0,Value.int IntKind.i64 11,x4,x5,x6,x7,x8,x9,x10,x11,x12], S)) := by
  refine vOps_pure (v := (Value.slice none 0 0)) (o := opAt Try.f17 2 0) (rest := (reg Try.f17 2).toList.drop 1) (by kernel_rfl) (by kernel_rfl) (fun _ => rfl) (by kernel_rfl) ?_
  refine vOps_pure (v := (Value.int IntKind.i64 11)) (o := opAt Try.f17 2 1) (rest := (reg Try.f17 2).toList.drop 2) (by kernel_rfl) (by kernel_rfl) (fun _ => rfl) (by kernel_rfl) ?_
  kernel_rfl
theorem neaptideref01_Text.r3 (x0 x1 x2 x3 x4 x5 x6 x7 x8 x9 x10 x11 x12 : Value) (S : AHeap) : vOps Try.prog false (vlim Try.prog O) (reg Try.f17 3) (reg Try.f17 3).toList ([x0,x1,x2,x3,x4,x5,x6,x7,x8,x9,x10,x11,x12]) S =
    (andK (vLen Try.prog 23 (dem x0) S) (fun v1 S1 => andK (vConv Try.prog 3 22 v1 S1) (fun v2 S2 => andK ((vlim Try.prog O) 15 [(dem v2)] S2) (fun v3 S3 => andK (vAppend Try.prog 23 23 v3 (dem x0) S3) (fun v5 S4 => some ([x0,x1,v5,Value.int IntKind.i64 0,x4,x5,x6,dem x0,v1,v2,dem v3,dem x0,dem v5], S4)) ()) ()) ()) ()) := by
  refine vOps_pure (v := x0) (o := opAt Try.f17 3 0) (rest := (reg Try.f17 3).toList.drop 1) (by kernel_rfl) (by kernel_rfl) (fun _ => rfl) (by kernel_rfl) ?_
  refine vOps_do (o := opAt Try.f17 3 1) (rest := (reg Try.f17 3).toList.drop 2) (by kernel_rfl) (by kernel_rfl) (fun _ => rfl) (by kernel_rfl) (fun v1 S1 => ?_)
  refine vOps_do (o := opAt Try.f17 3 2) (rest := (reg Try.f17 3).toList.drop 3) (by kernel_rfl) (by kernel_rfl) (fun _ => rfl) (by kernel_rfl) (fun v2 S2 => ?_)
  refine vOps_do (o := opAt Try.f17 3 3) (rest := (reg Try.f17 3).toList.drop 4) (by kernel_rfl) (by kernel_rfl) (fun _ => rfl) (by kernel_rfl) (fun v3 S3 => ?_)
  refine vOps_pure (v := x0) (o := opAt Try.f17 3 4) (rest := (reg Try.f17 3).toList.drop 5) (by kernel_rfl) (by kernel_rfl) (fun _ => rfl) (by kernel_rfl) ?_
  refine vOps_do (o := opAt Try.f17 3 5) (rest := (reg Try.f17 3).toList.drop 6) (by kernel_rfl) (by kernel_rfl) (fun _ => rfl) (by kernel_rfl) (fun v5 S4 => ?_)
  refine vOps_pure (v := v5) (o := opAt Try.f17 3 6) (rest := (reg Try.f17 3).toList.drop 7) (by kernel_rfl) (by kernel_rfl) (fun _ => rfl) (by kernel_rfl) ?_
  refine vOps_pure (v := (Value.int IntKind.i64 0)) (o := opAt Try.f17 3 7) (rest := (reg Try.f17 3).toList.drop 8) (by kernel_rfl) (by kernel_rfl) (fun _ => rfl) (by kernel_rfl) ?_
  kernel_rfl
theorem neaptideref01_Text.runs {x0 : Value} {S S1 : AHeap} {e : AEx} {T : List Value} (h : vcodeV Try.prog O neaptideref01_Text.code ([x0,undef,undef,undef,undef,undef,undef,undef,undef,undef,undef,undef,undef]) S = some (e, T, S1)) (he : e = .normal ∨ e = .ret) (h0 : notTuple (T.getD 2 undef) = true) (h1 : notTuple (T.getD 3 undef) = true) : vlim Try.prog O 17 [x0] S = some (Value.tuple #[T.getD 2 undef, T.getD 3 undef], S1) :=
  vlim_code rfl Try.func17 (by decide) neaptideref01_Text.body (by exact h) he ((vRes_many (by kernel_rfl : resSlots Try.f17.results.toList = some [2, 3]) (by decide) (by simp only [List.all_cons, List.all_nil, h0, h1, Bool.and_true])).trans rfl)
end Go.Proofs.Ytjlhjebmbllkiaa
