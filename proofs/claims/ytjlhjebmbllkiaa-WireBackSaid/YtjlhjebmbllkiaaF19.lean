/-
The seat's functions in a shallow form: each region as a chain of the interpreter's operations. Printed by a program; Lean checks each row.
-/
import Derived.Test.YtjlhjebmbllkiaaChecked
import Derived.Test.YtjlhjebmbllkiaaOra
import Derived.KernelRfl
set_option linter.unusedVariables false
set_option maxRecDepth 100000
namespace Go.Proofs.Ytjlhjebmbllkiaa
open Go.Abs

/-- neaptide.neaptideref01.ReadText -/
abbrev neaptideref01_ReadText.id : FuncId := 19
noncomputable def neaptideref01_ReadText.code : Code := (Code.seq (Code.region 0 (reg Try.f19 0) false) (Code.seq (Code.region 1 (reg Try.f19 1) false) (Code.seq (Code.seq (Code.region 2 (reg Try.f19 2) false) (Code.cond (Operand.tmp 26) (Code.seq (Code.region 3 (reg Try.f19 3) false) Code.ret) Code.skip)) (Code.seq (Code.region 4 (reg Try.f19 4) true) Code.ret))))
theorem neaptideref01_ReadText.body : Try.f19.body = some neaptideref01_ReadText.code := by kernel_rfl
theorem neaptideref01_ReadText.eta {T : List Value} (h : T.length = 33) : T = [T.getD 0 undef,T.getD 1 undef,T.getD 2 undef,T.getD 3 undef,T.getD 4 undef,T.getD 5 undef,T.getD 6 undef,T.getD 7 undef,T.getD 8 undef,T.getD 9 undef,T.getD 10 undef,T.getD 11 undef,T.getD 12 undef,T.getD 13 undef,T.getD 14 undef,T.getD 15 undef,T.getD 16 undef,T.getD 17 undef,T.getD 18 undef,T.getD 19 undef,T.getD 20 undef,T.getD 21 undef,T.getD 22 undef,T.getD 23 undef,T.getD 24 undef,T.getD 25 undef,T.getD 26 undef,T.getD 27 undef,T.getD 28 undef,T.getD 29 undef,T.getD 30 undef,T.getD 31 undef,T.getD 32 undef] := (list_getD T 33 h).trans (by kernel_rfl)
theorem neaptideref01_ReadText.r0 (x0 x1 x2 x3 x4 x5 x6 x7 x8 x9 x10 x11 x12 x13 x14 x15 x16 x17 x18 x19 x20 x21 x22 x23 x24 x25 x26 x27 x28 x29 x30 x31 x32 : Value) (S : AHeap) : vOps Try.prog false (vlim Try.prog O) (reg Try.f19 0) (reg Try.f19 0).toList ([x0,x1,x2,x3,x4,x5,x6,x7,x8,x9,x10,x11,x12,x13,x14,x15,x16,x17,x18,x19,x20,x21,x22,x23,x24,x25,x26,x27,x28,x29,x30,x31,x32]) S =
    ( some ([x0,x1,Value.slice none 0 0,Value.slice none 0 0,Value.int IntKind.i64 0,x5,x6,x7,x8,x9,x10,x11,x12,x13,x14,x15,x16,x17,x18,x19,x20,x21,x22,x23,x24,x25,x26,x27,x28,x29,x30,x31,x32], S)) := by
  refine vOps_pure (v := (Value.slice none 0 0)) (o := opAt Try.f19 0 0) (rest := (reg Try.f19 0).toList.drop 1) (by kernel_rfl) (by kernel_rfl) (fun _ => rfl) (by kernel_rfl) ?_
  refine vOps_pure (v := (Value.slice none 0 0)) (o := opAt Try.f19 0 1) (rest := (reg Try.f19 0).toList.drop 2) (by kernel_rfl) (by kernel_rfl) (fun _ => rfl) (by kernel_rfl) ?_
  refine vOps_pure (v := (Value.int IntKind.i64 0)) (o := opAt Try.f19 0 2) (rest := (reg Try.f19 0).toList.drop 3) (by kernel_rfl) (by kernel_rfl) (fun _ => rfl) (by kernel_rfl) ?_
  kernel_rfl
theorem neaptideref01_ReadText.r1 (x0 x1 x2 x3 x4 x5 x6 x7 x8 x9 x10 x11 x12 x13 x14 x15 x16 x17 x18 x19 x20 x21 x22 x23 x24 x25 x26 x27 x28 x29 x30 x31 x32 : Value) (S : AHeap) : vOps Try.prog false (vlim Try.prog O) (reg Try.f19 1) (reg Try.f19 1).toList ([x0,x1,x2,x3,x4,x5,x6,x7,x8,x9,x10,x11,x12,x13,x14,x15,x16,x17,x18,x19,x20,x21,x22,x23,x24,x25,x26,x27,x28,x29,x30,x31,x32]) S =
    (andK ((vlim Try.prog O) 13 [(dem (dem x0))] S) (fun v1 S1 => andK (aExtract v1 0 S1) (fun v3 S2 => andK (aExtract (demPart 0 v1) 1 S2) (fun v4 S3 => andK (aExtract (demPart 1 (demPart 0 v1)) 2 S3) (fun v5 S4 => some ([x0,x1,x2,x3,x4,v3,v4,v5,demPart 2 (demPart 1 (demPart 0 v1)),dem x0,dem v1,dem v3,dem v4,dem v5,x14,x15,x16,x17,x18,x19,x20,x21,x22,x23,x24,x25,x26,x27,x28,x29,x30,x31,x32], S4)) ()) ()) ()) ()) := by
  refine vOps_pure (v := x0) (o := opAt Try.f19 1 0) (rest := (reg Try.f19 1).toList.drop 1) (by kernel_rfl) (by kernel_rfl) (fun _ => rfl) (by kernel_rfl) ?_
  refine vOps_do (o := opAt Try.f19 1 1) (rest := (reg Try.f19 1).toList.drop 2) (by kernel_rfl) (by kernel_rfl) (fun _ => rfl) (by kernel_rfl) (fun v1 S1 => ?_)
  refine vOps_pure (v := v1) (o := opAt Try.f19 1 2) (rest := (reg Try.f19 1).toList.drop 3) (by kernel_rfl) (by kernel_rfl) (fun _ => rfl) (by kernel_rfl) ?_
  refine vOps_do (o := opAt Try.f19 1 3) (rest := (reg Try.f19 1).toList.drop 4) (by kernel_rfl) (by kernel_rfl) (fun _ => rfl) (by kernel_rfl) (fun v3 S2 => ?_)
  refine vOps_do (o := opAt Try.f19 1 4) (rest := (reg Try.f19 1).toList.drop 5) (by kernel_rfl) (by kernel_rfl) (fun _ => rfl) (by kernel_rfl) (fun v4 S3 => ?_)
  refine vOps_do (o := opAt Try.f19 1 5) (rest := (reg Try.f19 1).toList.drop 6) (by kernel_rfl) (by kernel_rfl) (fun _ => rfl) (by kernel_rfl) (fun v5 S4 => ?_)
  refine vOps_pure (v := v3) (o := opAt Try.f19 1 6) (rest := (reg Try.f19 1).toList.drop 7) (by kernel_rfl) (by kernel_rfl) (fun _ => rfl) (by kernel_rfl) ?_
  refine vOps_pure (v := v4) (o := opAt Try.f19 1 7) (rest := (reg Try.f19 1).toList.drop 8) (by kernel_rfl) (by kernel_rfl) (fun _ => rfl) (by kernel_rfl) ?_
  refine vOps_pure (v := v5) (o := opAt Try.f19 1 8) (rest := (reg Try.f19 1).toList.drop 9) (by kernel_rfl) (by kernel_rfl) (fun _ => rfl) (by kernel_rfl) ?_
  kernel_rfl
theorem neaptideref01_ReadText.r2 (x0 x1 x2 x3 x4 x5 x6 x7 x8 x9 x10 x11 x12 x13 x14 x15 x16 x17 x18 x19 x20 x21 x22 x23 x24 x25 x26 x27 x28 x29 x30 x31 x32 : Value) (S : AHeap) : vOps Try.prog false (vlim Try.prog O) (reg Try.f19 2) (reg Try.f19 2).toList ([x0,x1,x2,x3,x4,x5,x6,x7,x8,x9,x10,x11,x12,x13,x14,x15,x16,x17,x18,x19,x20,x21,x22,x23,x24,x25,x26,x27,x28,x29,x30,x31,x32]) S =
    (andK (vBin Try.prog BinOp.neq 3 (dem x7) (Value.int IntKind.i64 0) S) (fun v1 S1 => gdK (dem v1) false (ret x5) S1 (fun v3 S2 => gdK (dem v1) false (vBin Try.prog BinOp.gtr 22 (dem v3) (Value.int IntKind.u64 4096)) S2 (fun v4 S3 => andK (vPick (dem v1) (Value.bool true) v4 S3) (fun v5 S4 => gdK (dem v5) false (ret x5) S4 (fun v7 S5 => gdK (dem v5) false (vConv Try.prog 22 3 (dem v7)) S5 (fun v8 S6 => gdK (dem v5) false (ret x6) S6 (fun v9 S7 => gdK (dem v5) false (vLen Try.prog 23 (dem v9)) S7 (fun v10 S8 => gdK (dem v5) false (vBin Try.prog BinOp.gtr 3 v8 v10) S8 (fun v11 S9 => andK (vPick (dem v5) (Value.bool true) v11 S9) (fun v12 S10 => some ([x0,x1,x2,x3,x4,x5,x6,x7,x8,x9,x10,x11,x12,x13,dem x7,v1,dem v1,dem v3,v4,v5,dem v5,dem v7,v8,dem v9,v10,v11,v12,x27,x28,x29,x30,x31,x32], S10)) ()) ()) ()) ()) ()) ()) ()) ()) ()) ()) := by
  refine vOps_pure (v := x7) (o := opAt Try.f19 2 0) (rest := (reg Try.f19 2).toList.drop 1) (by kernel_rfl) (by kernel_rfl) (fun _ => rfl) (by kernel_rfl) ?_
  refine vOps_do (o := opAt Try.f19 2 1) (rest := (reg Try.f19 2).toList.drop 2) (by kernel_rfl) (by kernel_rfl) (fun _ => rfl) (by kernel_rfl) (fun v1 S1 => ?_)
  refine vOps_pure (v := v1) (o := opAt Try.f19 2 2) (rest := (reg Try.f19 2).toList.drop 3) (by kernel_rfl) (by kernel_rfl) (fun _ => rfl) (by kernel_rfl) ?_
  refine vOps_gd (j := 2) (o := opAt Try.f19 2 3) (rest := (reg Try.f19 2).toList.drop 4) (by kernel_rfl) (by kernel_rfl) (fun _ => rfl) (by kernel_rfl) (by kernel_rfl) (fun v3 S2 => ?_)
  refine vOps_gd (j := 2) (o := opAt Try.f19 2 4) (rest := (reg Try.f19 2).toList.drop 5) (by kernel_rfl) (by kernel_rfl) (fun _ => rfl) (by kernel_rfl) (by kernel_rfl) (fun v4 S3 => ?_)
  refine vOps_do (o := opAt Try.f19 2 5) (rest := (reg Try.f19 2).toList.drop 6) (by kernel_rfl) (by kernel_rfl) (fun _ => rfl) (by kernel_rfl) (fun v5 S4 => ?_)
  refine vOps_pure (v := v5) (o := opAt Try.f19 2 6) (rest := (reg Try.f19 2).toList.drop 7) (by kernel_rfl) (by kernel_rfl) (fun _ => rfl) (by kernel_rfl) ?_
  refine vOps_gd (j := 6) (o := opAt Try.f19 2 7) (rest := (reg Try.f19 2).toList.drop 8) (by kernel_rfl) (by kernel_rfl) (fun _ => rfl) (by kernel_rfl) (by kernel_rfl) (fun v7 S5 => ?_)
  refine vOps_gd (j := 6) (o := opAt Try.f19 2 8) (rest := (reg Try.f19 2).toList.drop 9) (by kernel_rfl) (by kernel_rfl) (fun _ => rfl) (by kernel_rfl) (by kernel_rfl) (fun v8 S6 => ?_)
  refine vOps_gd (j := 6) (o := opAt Try.f19 2 9) (rest := (reg Try.f19 2).toList.drop 10) (by kernel_rfl) (by kernel_rfl) (fun _ => rfl) (by kernel_rfl) (by kernel_rfl) (fun v9 S7 => ?_)
  refine vOps_gd (j := 6) (o := opAt Try.f19 2 10) (rest := (reg Try.f19 2).toList.drop 11) (by kernel_rfl) (by kernel_rfl) (fun _ => rfl) (by kernel_rfl) (by kernel_rfl) (fun v10 S8 => ?_)
  refine vOps_gd (j := 6) (o := opAt Try.f19 2 11) (rest := (reg Try.f19 2).toList.drop 12) (by kernel_rfl) (by kernel_rfl) (fun _ => rfl) (by kernel_rfl) (by kernel_rfl) (fun v11 S9 => ?_)
  refine vOps_do (o := opAt Try.f19 2 12) (rest := (reg Try.f19 2).toList.drop 13) (by kernel_rfl) (by kernel_rfl) (fun _ => rfl) (by kernel_rfl) (fun v12 S10 => ?_)
  kernel_rfl
theorem neaptideref01_ReadText.r3 (x0 x1 x2 x3 x4 x5 x6 x7 x8 x9 x10 x11 x12 x13 x14 x15 x16 x17 x18 x19 x20 x21 x22 x23 x24 x25 x26 x27 x28 x29 x30 x31 x32 : Value) (S : AHeap) : vOps Try.prog false (vlim Try.prog O) (reg Try.f19 3) (reg Try.f19 3).toList ([x0,x1,x2,x3,x4,x5,x6,x7,x8,x9,x10,x11,x12,x13,x14,x15,x16,x17,x18,x19,x20,x21,x22,x23,x24,x25,x26,x27,x28,x29,x30,x31,x32]) S =
    ( some ([x0,x1,Value.slice none 0 0,Value.slice none 0 0,Value.int IntKind.i64 11,x5,x6,x7,x8,x9,x10,x11,x12,x13,x14,x15,x16,x17,x18,x19,x20,x21,x22,x23,x24,x25,x26,x27,x28,x29,x30,x31,x32], S)) := by
  refine vOps_pure (v := (Value.slice none 0 0)) (o := opAt Try.f19 3 0) (rest := (reg Try.f19 3).toList.drop 1) (by kernel_rfl) (by kernel_rfl) (fun _ => rfl) (by kernel_rfl) ?_
  refine vOps_pure (v := (Value.slice none 0 0)) (o := opAt Try.f19 3 1) (rest := (reg Try.f19 3).toList.drop 2) (by kernel_rfl) (by kernel_rfl) (fun _ => rfl) (by kernel_rfl) ?_
  refine vOps_pure (v := (Value.int IntKind.i64 11)) (o := opAt Try.f19 3 2) (rest := (reg Try.f19 3).toList.drop 3) (by kernel_rfl) (by kernel_rfl) (fun _ => rfl) (by kernel_rfl) ?_
  kernel_rfl
theorem neaptideref01_ReadText.d4 : drawnOk Try.prog (reg Try.f19 4) = true := by kernel_rfl
theorem neaptideref01_ReadText.x4 : fixed Try.prog (reg Try.f19 4) = false := by kernel_rfl
theorem neaptideref01_ReadText.k4 : checked Try.prog (reg Try.f19 4) = [] := by kernel_rfl
theorem neaptideref01_ReadText.r4 (x0 x1 x2 x3 x4 x5 x6 x7 x8 x9 x10 x11 x12 x13 x14 x15 x16 x17 x18 x19 x20 x21 x22 x23 x24 x25 x26 x27 x28 x29 x30 x31 x32 : Value) (S : AHeap) : vcodeV Try.prog O (.region 4 (reg Try.f19 4) true) ([x0,x1,x2,x3,x4,x5,x6,x7,x8,x9,x10,x11,x12,x13,x14,x15,x16,x17,x18,x19,x20,x21,x22,x23,x24,x25,x26,x27,x28,x29,x30,x31,x32]) S =
    regV (andK (vSlice Try.prog 23 (dem x6) none (some (dem x5)) S) (fun v2 S1 => andK (vSlice Try.prog 23 (dem x6) (some (dem x5)) none S1) (fun v5 S2 => some ([x0,x1,v2,v5,Value.int IntKind.i64 0,x5,x6,x7,x8,x9,x10,x11,x12,x13,x14,x15,x16,x17,x18,x19,x20,x21,x22,x23,x24,x25,x26,dem x6,dem x5,dem v2,dem x6,dem x5,dem v5], S2)) ()) ()) := by
  rw [vcodeV_drawn neaptideref01_ReadText.d4 neaptideref01_ReadText.x4 neaptideref01_ReadText.k4]
  refine congrArg regV ?_
  refine vOpsD_pure (v := x6) (o := opAt Try.f19 4 0) (rest := (reg Try.f19 4).toList.drop 1) (by kernel_rfl) (by kernel_rfl) (by kernel_rfl) (fun _ => rfl) (by kernel_rfl) ?_
  refine vOpsD_pure (v := x5) (o := opAt Try.f19 4 1) (rest := (reg Try.f19 4).toList.drop 2) (by kernel_rfl) (by kernel_rfl) (by kernel_rfl) (fun _ => rfl) (by kernel_rfl) ?_
  refine vOpsD_do (o := opAt Try.f19 4 2) (rest := (reg Try.f19 4).toList.drop 3) (by kernel_rfl) (by kernel_rfl) (by kernel_rfl) (fun _ => rfl) (by kernel_rfl) (fun v2 S1 => ?_)
  refine vOpsD_pure (v := x6) (o := opAt Try.f19 4 3) (rest := (reg Try.f19 4).toList.drop 4) (by kernel_rfl) (by kernel_rfl) (by kernel_rfl) (fun _ => rfl) (by kernel_rfl) ?_
  refine vOpsD_pure (v := x5) (o := opAt Try.f19 4 4) (rest := (reg Try.f19 4).toList.drop 5) (by kernel_rfl) (by kernel_rfl) (by kernel_rfl) (fun _ => rfl) (by kernel_rfl) ?_
  refine vOpsD_do (o := opAt Try.f19 4 5) (rest := (reg Try.f19 4).toList.drop 6) (by kernel_rfl) (by kernel_rfl) (by kernel_rfl) (fun _ => rfl) (by kernel_rfl) (fun v5 S2 => ?_)
  refine vOpsD_pure (v := v2) (o := opAt Try.f19 4 6) (rest := (reg Try.f19 4).toList.drop 7) (by kernel_rfl) (by kernel_rfl) (by kernel_rfl) (fun _ => rfl) (by kernel_rfl) ?_
  refine vOpsD_pure (v := v5) (o := opAt Try.f19 4 7) (rest := (reg Try.f19 4).toList.drop 8) (by kernel_rfl) (by kernel_rfl) (by kernel_rfl) (fun _ => rfl) (by kernel_rfl) ?_
  refine vOpsD_pure (v := (Value.int IntKind.i64 0)) (o := opAt Try.f19 4 8) (rest := (reg Try.f19 4).toList.drop 9) (by kernel_rfl) (by kernel_rfl) (by kernel_rfl) (fun _ => rfl) (by kernel_rfl) ?_
  kernel_rfl
theorem neaptideref01_ReadText.runs {x0 : Value} {S S1 : AHeap} {e : AEx} {T : List Value} (h : vcodeV Try.prog O neaptideref01_ReadText.code ([x0,undef,undef,undef,undef,undef,undef,undef,undef,undef,undef,undef,undef,undef,undef,undef,undef,undef,undef,undef,undef,undef,undef,undef,undef,undef,undef,undef,undef,undef,undef,undef,undef]) S = some (e, T, S1)) (he : e = .normal ∨ e = .ret) (h0 : notTuple (T.getD 2 undef) = true) (h1 : notTuple (T.getD 3 undef) = true) (h2 : notTuple (T.getD 4 undef) = true) : vlim Try.prog O 19 [x0] S = some (Value.tuple #[T.getD 2 undef, T.getD 3 undef, T.getD 4 undef], S1) :=
  vlim_code rfl Try.func19 (by decide) neaptideref01_ReadText.body (by exact h) he ((vRes_many (by kernel_rfl : resSlots Try.f19.results.toList = some [2, 3, 4]) (by decide) (by simp only [List.all_cons, List.all_nil, h0, h1, h2, Bool.and_true])).trans rfl)
end Go.Proofs.Ytjlhjebmbllkiaa
