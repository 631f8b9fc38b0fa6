/-
The seat's functions in a shallow form: each region as a chain of the interpreter's operations. Printed by a program; Lean checks each row.
-/
import Derived.Test.YtfnlcbgijkakiaaChecked
import Derived.Test.YtfnlcbgijkakiaaOra
import Derived.KernelRfl
set_option linter.unusedVariables false
set_option maxRecDepth 100000
namespace Go.Proofs.Ytfnlcbgijkakiaa
open Go.Abs

/-- neaptide.neaptidelaw06.TxTells -/
abbrev neaptidelaw06_TxTells.id : FuncId := 3
noncomputable def neaptidelaw06_TxTells.code : Code := (Code.seq (Code.region 0 (reg Try.f3 0) false) (Code.seq (Code.region 1 (reg Try.f3 1) false) (Code.seq (Code.region 2 (reg Try.f3 2) false) (Code.seq (Code.region 3 (reg Try.f3 3) true) Code.ret))))
theorem neaptidelaw06_TxTells.body : Try.f3.body = some neaptidelaw06_TxTells.code := by kernel_rfl
theorem neaptidelaw06_TxTells.eta {T : List Value} (h : T.length = 48) : T = [T.getD 0 undef,T.getD 1 undef,T.getD 2 undef,T.getD 3 undef,T.getD 4 undef,T.getD 5 undef,T.getD 6 undef,T.getD 7 undef,T.getD 8 undef,T.getD 9 undef,T.getD 10 undef,T.getD 11 undef,T.getD 12 undef,T.getD 13 undef,T.getD 14 undef,T.getD 15 undef,T.getD 16 undef,T.getD 17 undef,T.getD 18 undef,T.getD 19 undef,T.getD 20 undef,T.getD 21 undef,T.getD 22 undef,T.getD 23 undef,T.getD 24 undef,T.getD 25 undef,T.getD 26 undef,T.getD 27 undef,T.getD 28 undef,T.getD 29 undef,T.getD 30 undef,T.getD 31 undef,T.getD 32 undef,T.getD 33 undef,T.getD 34 undef,T.getD 35 undef,T.getD 36 undef,T.getD 37 undef,T.getD 38 undef,T.getD 39 undef,T.getD 40 undef,T.getD 41 undef,T.getD 42 undef,T.getD 43 undef,T.getD 44 undef,T.getD 45 undef,T.getD 46 undef,T.getD 47 undef] := (list_getD T 48 h).trans (by kernel_rfl)
variable (x0 x1 x2 x3 x4 x5 x6 x7 x8 x9 x10 x11 x12 x13 x14 x15 x16 x17 x18 x19 x20 x21 x22 x23 x24 x25 x26 x27 x28 x29 x30 x31 x32 x33 x34 x35 x36 x37 x38 x39 x40 x41 x42 x43 x44 x45 x46 x47 : Value) (S : AHeap)
theorem neaptidelaw06_TxTells.r0  : vOps Try.prog ⟨false, false, false⟩ (vlim Try.prog O) (reg Try.f3 0) (reg Try.f3 0).toList ([x0,x1,x2,x3,x4,x5,x6,x7,x8,x9,x10,x11,x12,x13,x14,x15,x16,x17,x18,x19,x20,x21,x22,x23,x24,x25,x26,x27,x28,x29,x30,x31,x32,x33,x34,x35,x36,x37,x38,x39,x40,x41,x42,x43,x44,x45,x46,x47]) S =
    (andK (aBox (dem x0) S) (fun v0 S1 => andK (aBox (dem x1) S1) (fun v1 S2 => some ([x0,x1,v0,v1,Value.bool false,x5,x6,x7,x8,x9,x10,x11,x12,x13,x14,x15,x16,x17,x18,x19,x20,x21,x22,x23,x24,x25,x26,x27,x28,x29,x30,x31,x32,x33,x34,x35,x36,x37,x38,x39,x40,x41,x42,x43,x44,x45,x46,x47], S2)) ()) ()) := by
  refine sD Try.f3 0 0 (fun v0 S1 => ?_)
  refine sD Try.f3 0 1 (fun v1 S2 => ?_)
  refine sP Try.f3 0 2 (v := (Value.bool false)) ?_
  kernel_rfl
theorem neaptidelaw06_TxTells.r1  : vOps Try.prog ⟨false, false, false⟩ (vlim Try.prog O) (reg Try.f3 1) (reg Try.f3 1).toList ([x0,x1,x2,x3,x4,x5,x6,x7,x8,x9,x10,x11,x12,x13,x14,x15,x16,x17,x18,x19,x20,x21,x22,x23,x24,x25,x26,x27,x28,x29,x30,x31,x32,x33,x34,x35,x36,x37,x38,x39,x40,x41,x42,x43,x44,x45,x46,x47]) S =
    (andK (vLoad Try.prog false 23 x2 S) (fun v0 S1 => andK ((vlim Try.prog O) 10 [(dem v0)] S1) (fun v1 S2 => andK (aExtract v1 0 S2) (fun v3 S3 => andK (aExtract (demPart 0 v1) 1 S3) (fun v4 S4 => some ([x0,x1,x2,x3,x4,v3,v4,x7,x8,demPart 1 (demPart 0 v1),v0,dem v1,dem v3,dem v4,x14,x15,x16,x17,x18,x19,x20,x21,x22,x23,x24,x25,x26,x27,x28,x29,x30,x31,x32,x33,x34,x35,x36,x37,x38,x39,x40,x41,x42,x43,x44,x45,x46,x47], S4)) ()) ()) ()) ()) := by
  refine sD Try.f3 1 0 (fun v0 S1 => ?_)
  refine sD Try.f3 1 1 (fun v1 S2 => ?_)
  refine sP Try.f3 1 2 (v := v1) ?_
  refine sD Try.f3 1 3 (fun v3 S3 => ?_)
  refine sD Try.f3 1 4 (fun v4 S4 => ?_)
  refine sP Try.f3 1 5 (v := v3) ?_
  refine sP Try.f3 1 6 (v := v4) ?_
  kernel_rfl
theorem neaptidelaw06_TxTells.r2  : vOps Try.prog ⟨false, false, false⟩ (vlim Try.prog O) (reg Try.f3 2) (reg Try.f3 2).toList ([x0,x1,x2,x3,x4,x5,x6,x7,x8,x9,x10,x11,x12,x13,x14,x15,x16,x17,x18,x19,x20,x21,x22,x23,x24,x25,x26,x27,x28,x29,x30,x31,x32,x33,x34,x35,x36,x37,x38,x39,x40,x41,x42,x43,x44,x45,x46,x47]) S =
    (andK (vLoad Try.prog false 23 x2 S) (fun v0 S1 => andK ((vlim Try.prog O) 11 [(dem v0)] S1) (fun v1 S2 => andK (aExtract v1 0 S2) (fun v3 S3 => andK (aExtract (demPart 0 v1) 1 S3) (fun v4 S4 => some ([x0,x1,x2,x3,x4,x5,x6,v3,v4,x9,x10,x11,x12,x13,demPart 1 (demPart 0 v1),v0,dem v1,dem v3,dem v4,x19,x20,x21,x22,x23,x24,x25,x26,x27,x28,x29,x30,x31,x32,x33,x34,x35,x36,x37,x38,x39,x40,x41,x42,x43,x44,x45,x46,x47], S4)) ()) ()) ()) ()) := by
  refine sD Try.f3 2 0 (fun v0 S1 => ?_)
  refine sD Try.f3 2 1 (fun v1 S2 => ?_)
  refine sP Try.f3 2 2 (v := v1) ?_
  refine sD Try.f3 2 3 (fun v3 S3 => ?_)
  refine sD Try.f3 2 4 (fun v4 S4 => ?_)
  refine sP Try.f3 2 5 (v := v3) ?_
  refine sP Try.f3 2 6 (v := v4) ?_
  kernel_rfl
theorem neaptidelaw06_TxTells.d3 : drawnOk Try.prog (reg Try.f3 3) = true := by kernel_rfl
theorem neaptidelaw06_TxTells.ff3 : fixed Try.prog (reg Try.f3 3) = false := by kernel_rfl
theorem neaptidelaw06_TxTells.k3 : checked Try.prog (reg Try.f3 3) = [4, 24, 25] := by kernel_rfl
theorem neaptidelaw06_TxTells.g3 : again Try.prog (reg Try.f3 3) = [(4, 3), (24, 23), (25, 23)] := by kernel_rfl
theorem neaptidelaw06_TxTells.r3  : vcodeV Try.prog O false (.region 3 (reg Try.f3 3) true) ([x0,x1,x2,x3,x4,x5,x6,x7,x8,x9,x10,x11,x12,x13,x14,x15,x16,x17,x18,x19,x20,x21,x22,x23,x24,x25,x26,x27,x28,x29,x30,x31,x32,x33,x34,x35,x36,x37,x38,x39,x40,x41,x42,x43,x44,x45,x46,x47]) S =
    regV (andK ((vlim Try.prog O) 12 [] S) (fun v0 S1 => gdK (dem v0) true (vLoad Try.prog false 23 x2) S1 (fun v2 S2 => gdK (dem v0) true ((vlim Try.prog O) 13 [(dem v2)]) S2 (fun v3 S3 => gdCK (dem v0) true (vLoad Try.prog false 23 x2) S3 (fun v4 S4 => gdK (dem v0) true ((vlim Try.prog O) 14 [(dem v4)]) S4 (fun v5 S5 => gdK (dem v0) true (vBin Try.prog BinOp.eql 4 v3 v5) S5 (fun v6 S6 => andK (vPick (dem v0) v6 (Value.bool false) S6) (fun v7 S7 => gdK (dem v7) true (ret x5) S7 (fun v9 S8 => gdK (dem v7) true (vConvF Try.prog false true 24 9 (dem v9)) S8 (fun v10 S9 => gdK (dem v7) true (ret x7) S9 (fun v11 S10 => gdK (dem v7) true (vConvF Try.prog false true 24 9 (dem v11)) S10 (fun v12 S11 => gdK (dem v7) true (vBin Try.prog BinOp.eql 9 v10 v12) S11 (fun v13 S12 => andK (vPick (dem v7) v13 (Value.bool false) S12) (fun v14 S13 => gdK (dem v14) true (ret x6) S13 (fun v16 S14 => gdK (dem v14) true (ret x8) S14 (fun v17 S15 => gdK (dem v14) true (vBin Try.prog BinOp.eql 3 (dem v16) (dem v17)) S15 (fun v18 S16 => andK (vPick (dem v14) v18 (Value.bool false) S16) (fun v19 S17 => gdK (dem v19) true (vLoad Try.prog false 23 x2) S17 (fun v21 S18 => gdK (dem v19) true (vLoad Try.prog false 23 x3) S18 (fun v22 S19 => gdK (dem v19) true ((vlim Try.prog O) 15 [(dem v21), (dem v22)]) S19 (fun v23 S20 => gdCK (dem v19) true (vLoad Try.prog false 23 x2) S20 (fun v24 S21 => gdCK (dem v19) true (vLoad Try.prog false 23 x3) S21 (fun v25 S22 => gdK (dem v19) true ((vlim Try.prog O) 16 [(dem v24), (dem v25)]) S22 (fun v26 S23 => gdK (dem v19) true (vBin Try.prog BinOp.eql 4 v23 v26) S23 (fun v27 S24 => andK (vPick (dem v19) v27 (Value.bool false) S24) (fun v28 S25 => ckK (stillQ x2 S2 S3 && (stillQ x2 S19 S20 && (stillQ x3 S19 S21 && (true)))) (some ([x0,x1,x2,x3,v28,x5,x6,x7,x8,x9,x10,x11,x12,x13,x14,x15,x16,x17,x18,v0,dem v0,v2,v3,v4,v5,v6,v7,dem v7,dem v9,v10,dem v11,v12,v13,v14,dem v14,dem v16,dem v17,v18,v19,dem v19,v21,v22,v23,v24,v25,v26,v27,dem v28], S25)) ()) ()) ()) ()) ()) ()) ()) ()) ()) ()) ()) ()) ()) ()) ()) ()) ()) ()) ()) ()) ()) ()) ()) ()) ()) ()) := by
  rw [vcodeV_drawn neaptidelaw06_TxTells.d3 neaptidelaw06_TxTells.ff3 neaptidelaw06_TxTells.k3 neaptidelaw06_TxTells.g3]
  refine congrArg regV ?_
  refine uD Try.f3 3 0 (pe := undef) (fun v0 S1 => ?_)
  refine uP Try.f3 3 1 (v := v0) (pe := undef) ?_
  refine uG Try.f3 3 2 (j := 1) (pe := x2) (fun v2 S2 => ?_)
  refine uG Try.f3 3 3 (j := 1) (pe := undef) (fun v3 S3 => ?_)
  refine uGC Try.f3 3 4 (j := 1) (pe := x2) (fun v4 S4 => ?_)
  refine uG Try.f3 3 5 (j := 1) (pe := undef) (fun v5 S5 => ?_)
  refine uG Try.f3 3 6 (j := 1) (pe := undef) (fun v6 S6 => ?_)
  refine uD Try.f3 3 7 (pe := undef) (fun v7 S7 => ?_)
  refine uP Try.f3 3 8 (v := v7) (pe := undef) ?_
  refine uG Try.f3 3 9 (j := 8) (pe := undef) (fun v9 S8 => ?_)
  refine uG Try.f3 3 10 (j := 8) (pe := undef) (fun v10 S9 => ?_)
  refine uG Try.f3 3 11 (j := 8) (pe := undef) (fun v11 S10 => ?_)
  refine uG Try.f3 3 12 (j := 8) (pe := undef) (fun v12 S11 => ?_)
  refine uG Try.f3 3 13 (j := 8) (pe := undef) (fun v13 S12 => ?_)
  refine uD Try.f3 3 14 (pe := undef) (fun v14 S13 => ?_)
  refine uP Try.f3 3 15 (v := v14) (pe := undef) ?_
  refine uG Try.f3 3 16 (j := 15) (pe := undef) (fun v16 S14 => ?_)
  refine uG Try.f3 3 17 (j := 15) (pe := undef) (fun v17 S15 => ?_)
  refine uG Try.f3 3 18 (j := 15) (pe := undef) (fun v18 S16 => ?_)
  refine uD Try.f3 3 19 (pe := undef) (fun v19 S17 => ?_)
  refine uP Try.f3 3 20 (v := v19) (pe := undef) ?_
  refine uG Try.f3 3 21 (j := 20) (pe := x2) (fun v21 S18 => ?_)
  refine uG Try.f3 3 22 (j := 20) (pe := x3) (fun v22 S19 => ?_)
  refine uG Try.f3 3 23 (j := 20) (pe := undef) (fun v23 S20 => ?_)
  refine uGC Try.f3 3 24 (j := 20) (pe := x2) (fun v24 S21 => ?_)
  refine uGC Try.f3 3 25 (j := 20) (pe := x3) (fun v25 S22 => ?_)
  refine uG Try.f3 3 26 (j := 20) (pe := undef) (fun v26 S23 => ?_)
  refine uG Try.f3 3 27 (j := 20) (pe := undef) (fun v27 S24 => ?_)
  refine uD Try.f3 3 28 (pe := undef) (fun v28 S25 => ?_)
  refine uP Try.f3 3 29 (v := v28) (pe := undef) ?_
  kernel_rfl
theorem neaptidelaw06_TxTells.rs : type_of% (And.intro @neaptidelaw06_TxTells.r0 (And.intro @neaptidelaw06_TxTells.r1 (And.intro @neaptidelaw06_TxTells.r2 (@neaptidelaw06_TxTells.r3)))) := And.intro @neaptidelaw06_TxTells.r0 (And.intro @neaptidelaw06_TxTells.r1 (And.intro @neaptidelaw06_TxTells.r2 (@neaptidelaw06_TxTells.r3)))
theorem neaptidelaw06_TxTells.runs {x0 x1 : Value} {S S1 : AHeap} {e : AEx} {T : List Value} (h : vcodeV Try.prog O false neaptidelaw06_TxTells.code ([x0,x1,undef,undef,undef,undef,undef,undef,undef,undef,undef,undef,undef,undef,undef,undef,undef,undef,undef,undef,undef,undef,undef,undef,undef,undef,undef,undef,undef,undef,undef,undef,undef,undef,undef,undef,undef,undef,undef,undef,undef,undef,undef,undef,undef,undef,undef,undef]) S = some (e, T, S1)) (he : e = .normal ∨ e = .ret) : vlim Try.prog O 3 [x0, x1] S = some (T.getD 4 undef, S1) :=
  vlim_code rfl rfl Try.func3 (by decide) neaptidelaw06_TxTells.body (by exact h) he (vRes_one (a := T.getD 4 undef) ((show vResVals Try.prog T S1 Try.f3.results.toList = vResVals Try.prog T S1 [(ResultVar.tmp 4)] from by kernel_rfl).trans (by simp only [vResVals])) (by kernel_rfl))
end Go.Proofs.Ytfnlcbgijkakiaa
