/-
The seat's functions in a shallow form: each region as a chain of the interpreter's operations. Printed by a program; Lean checks each row.
-/
import Derived.Test.YtgggklfbhmlapaaChecked
import Derived.Test.YtgggklfbhmlapaaOra
import Derived.KernelRfl
set_option linter.unusedVariables false
set_option maxRecDepth 100000
namespace Go.Proofs.Ytgggklfbhmlapaa
open Go.Abs

/-- neaptide.neaptidelaw07.BlockTells -/
abbrev neaptidelaw07_BlockTells.id : FuncId := 5
noncomputable def neaptidelaw07_BlockTells.code : Code := (Code.seq (Code.region 0 (reg Try.f5 0) false) (Code.seq (Code.region 1 (reg Try.f5 1) false) (Code.seq (Code.region 2 (reg Try.f5 2) false) (Code.seq (Code.region 3 (reg Try.f5 3) true) Code.ret))))
theorem neaptidelaw07_BlockTells.body : Try.f5.body = some neaptidelaw07_BlockTells.code := by kernel_rfl
theorem neaptidelaw07_BlockTells.eta {T : List Value} (h : T.length = 55) : T = [T.getD 0 undef,T.getD 1 undef,T.getD 2 undef,T.getD 3 undef,T.getD 4 undef,T.getD 5 undef,T.getD 6 undef,T.getD 7 undef,T.getD 8 undef,T.getD 9 undef,T.getD 10 undef,T.getD 11 undef,T.getD 12 undef,T.getD 13 undef,T.getD 14 undef,T.getD 15 undef,T.getD 16 undef,T.getD 17 undef,T.getD 18 undef,T.getD 19 undef,T.getD 20 undef,T.getD 21 undef,T.getD 22 undef,T.getD 23 undef,T.getD 24 undef,T.getD 25 undef,T.getD 26 undef,T.getD 27 undef,T.getD 28 undef,T.getD 29 undef,T.getD 30 undef,T.getD 31 undef,T.getD 32 undef,T.getD 33 undef,T.getD 34 undef,T.getD 35 undef,T.getD 36 undef,T.getD 37 undef,T.getD 38 undef,T.getD 39 undef,T.getD 40 undef,T.getD 41 undef,T.getD 42 undef,T.getD 43 undef,T.getD 44 undef,T.getD 45 undef,T.getD 46 undef,T.getD 47 undef,T.getD 48 undef,T.getD 49 undef,T.getD 50 undef,T.getD 51 undef,T.getD 52 undef,T.getD 53 undef,T.getD 54 undef] := (list_getD T 55 h).trans (by kernel_rfl)
variable (x0 x1 x2 x3 x4 x5 x6 x7 x8 x9 x10 x11 x12 x13 x14 x15 x16 x17 x18 x19 x20 x21 x22 x23 x24 x25 x26 x27 x28 x29 x30 x31 x32 x33 x34 x35 x36 x37 x38 x39 x40 x41 x42 x43 x44 x45 x46 x47 x48 x49 x50 x51 x52 x53 x54 : Value) (S : AHeap)
theorem neaptidelaw07_BlockTells.r0  : vOps Try.prog ⟨false, false, false⟩ (vlim Try.prog O) (reg Try.f5 0) (reg Try.f5 0).toList ([x0,x1,x2,x3,x4,x5,x6,x7,x8,x9,x10,x11,x12,x13,x14,x15,x16,x17,x18,x19,x20,x21,x22,x23,x24,x25,x26,x27,x28,x29,x30,x31,x32,x33,x34,x35,x36,x37,x38,x39,x40,x41,x42,x43,x44,x45,x46,x47,x48,x49,x50,x51,x52,x53,x54]) S =
    (andK (aBox (dem x0) S) (fun v0 S1 => andK (aBox (dem x1) S1) (fun v1 S2 => some ([x0,x1,v0,v1,Value.bool false,x5,x6,x7,x8,x9,x10,x11,x12,x13,x14,x15,x16,x17,x18,x19,x20,x21,x22,x23,x24,x25,x26,x27,x28,x29,x30,x31,x32,x33,x34,x35,x36,x37,x38,x39,x40,x41,x42,x43,x44,x45,x46,x47,x48,x49,x50,x51,x52,x53,x54], S2)) ()) ()) := by
  refine sD Try.f5 0 0 (fun v0 S1 => ?_)
  refine sD Try.f5 0 1 (fun v1 S2 => ?_)
  refine sP Try.f5 0 2 (v := (Value.bool false)) ?_
  kernel_rfl
theorem neaptidelaw07_BlockTells.r1  : vOps Try.prog ⟨false, false, false⟩ (vlim Try.prog O) (reg Try.f5 1) (reg Try.f5 1).toList ([x0,x1,x2,x3,x4,x5,x6,x7,x8,x9,x10,x11,x12,x13,x14,x15,x16,x17,x18,x19,x20,x21,x22,x23,x24,x25,x26,x27,x28,x29,x30,x31,x32,x33,x34,x35,x36,x37,x38,x39,x40,x41,x42,x43,x44,x45,x46,x47,x48,x49,x50,x51,x52,x53,x54]) S =
    (andK (vLoad Try.prog false 29 x2 S) (fun v0 S1 => andK ((vlim Try.prog O) 16 [(dem v0)] S1) (fun v1 S2 => andK (aExtract v1 0 S2) (fun v3 S3 => andK (aExtract (demPart 0 v1) 1 S3) (fun v4 S4 => some ([x0,x1,x2,x3,x4,v3,v4,x7,x8,demPart 1 (demPart 0 v1),v0,dem v1,dem v3,dem v4,x14,x15,x16,x17,x18,x19,x20,x21,x22,x23,x24,x25,x26,x27,x28,x29,x30,x31,x32,x33,x34,x35,x36,x37,x38,x39,x40,x41,x42,x43,x44,x45,x46,x47,x48,x49,x50,x51,x52,x53,x54], S4)) ()) ()) ()) ()) := by
  refine sD Try.f5 1 0 (fun v0 S1 => ?_)
  refine sD Try.f5 1 1 (fun v1 S2 => ?_)
  refine sP Try.f5 1 2 (v := v1) ?_
  refine sD Try.f5 1 3 (fun v3 S3 => ?_)
  refine sD Try.f5 1 4 (fun v4 S4 => ?_)
  refine sP Try.f5 1 5 (v := v3) ?_
  refine sP Try.f5 1 6 (v := v4) ?_
  kernel_rfl
theorem neaptidelaw07_BlockTells.r2  : vOps Try.prog ⟨false, false, false⟩ (vlim Try.prog O) (reg Try.f5 2) (reg Try.f5 2).toList ([x0,x1,x2,x3,x4,x5,x6,x7,x8,x9,x10,x11,x12,x13,x14,x15,x16,x17,x18,x19,x20,x21,x22,x23,x24,x25,x26,x27,x28,x29,x30,x31,x32,x33,x34,x35,x36,x37,x38,x39,x40,x41,x42,x43,x44,x45,x46,x47,x48,x49,x50,x51,x52,x53,x54]) S =
    (andK (vLoad Try.prog false 29 x2 S) (fun v0 S1 => andK ((vlim Try.prog O) 17 [(dem v0)] S1) (fun v1 S2 => andK (aExtract v1 0 S2) (fun v3 S3 => andK (aExtract (demPart 0 v1) 1 S3) (fun v4 S4 => some ([x0,x1,x2,x3,x4,x5,x6,v3,v4,x9,x10,x11,x12,x13,demPart 1 (demPart 0 v1),v0,dem v1,dem v3,dem v4,x19,x20,x21,x22,x23,x24,x25,x26,x27,x28,x29,x30,x31,x32,x33,x34,x35,x36,x37,x38,x39,x40,x41,x42,x43,x44,x45,x46,x47,x48,x49,x50,x51,x52,x53,x54], S4)) ()) ()) ()) ()) := by
  refine sD Try.f5 2 0 (fun v0 S1 => ?_)
  refine sD Try.f5 2 1 (fun v1 S2 => ?_)
  refine sP Try.f5 2 2 (v := v1) ?_
  refine sD Try.f5 2 3 (fun v3 S3 => ?_)
  refine sD Try.f5 2 4 (fun v4 S4 => ?_)
  refine sP Try.f5 2 5 (v := v3) ?_
  refine sP Try.f5 2 6 (v := v4) ?_
  kernel_rfl
theorem neaptidelaw07_BlockTells.d3 : drawnOk Try.prog (reg Try.f5 3) = true := by kernel_rfl
theorem neaptidelaw07_BlockTells.ff3 : fixed Try.prog (reg Try.f5 3) = false := by kernel_rfl
theorem neaptidelaw07_BlockTells.k3 : checked Try.prog (reg Try.f5 3) = [4, 11, 19, 20] := by kernel_rfl
theorem neaptidelaw07_BlockTells.g3 : again Try.prog (reg Try.f5 3) = [(4, 3), (11, 10), (19, 18), (20, 18)] := by kernel_rfl
theorem neaptidelaw07_BlockTells.r3  : vcodeV Try.prog O false (.region 3 (reg Try.f5 3) true) ([x0,x1,x2,x3,x4,x5,x6,x7,x8,x9,x10,x11,x12,x13,x14,x15,x16,x17,x18,x19,x20,x21,x22,x23,x24,x25,x26,x27,x28,x29,x30,x31,x32,x33,x34,x35,x36,x37,x38,x39,x40,x41,x42,x43,x44,x45,x46,x47,x48,x49,x50,x51,x52,x53,x54]) S =
    regV (andK ((vlim Try.prog O) 11 [] S) (fun v0 S1 => gdK (dem v0) true (vLoad Try.prog false 29 x2) S1 (fun v2 S2 => gdK (dem v0) true ((vlim Try.prog O) 14 [(dem v2)]) S2 (fun v3 S3 => gdCK (dem v0) true (vLoad Try.prog false 29 x2) S3 (fun v4 S4 => gdK (dem v0) true ((vlim Try.prog O) 18 [(dem v4)]) S4 (fun v5 S5 => gdK (dem v0) true (vBin Try.prog BinOp.eql 4 v3 v5) S5 (fun v6 S6 => andK (vPick (dem v0) v6 (Value.bool false) S6) (fun v7 S7 => gdK (dem v7) true (vLoad Try.prog false 29 x2) S7 (fun v9 S8 => gdK (dem v7) true ((vlim Try.prog O) 15 [(dem v9)]) S8 (fun v10 S9 => gdCK (dem v7) true (vLoad Try.prog false 29 x2) S9 (fun v11 S10 => gdK (dem v7) true ((vlim Try.prog O) 19 [(dem v11)]) S10 (fun v12 S11 => gdK (dem v7) true (vBin Try.prog BinOp.eql 3 v10 v12) S11 (fun v13 S12 => andK (vPick (dem v7) v13 (Value.bool false) S12) (fun v14 S13 => gdK (dem v14) true (vLoad Try.prog false 29 x2) S13 (fun v16 S14 => gdK (dem v14) true (vLoad Try.prog false 29 x3) S14 (fun v17 S15 => gdK (dem v14) true ((vlim Try.prog O) 20 [(dem v16), (dem v17)]) S15 (fun v18 S16 => gdCK (dem v14) true (vLoad Try.prog false 29 x2) S16 (fun v19 S17 => gdCK (dem v14) true (vLoad Try.prog false 29 x3) S17 (fun v20 S18 => gdK (dem v14) true ((vlim Try.prog O) 21 [(dem v19), (dem v20)]) S18 (fun v21 S19 => gdK (dem v14) true (vBin Try.prog BinOp.eql 4 v18 v21) S19 (fun v22 S20 => andK (vPick (dem v14) v22 (Value.bool false) S20) (fun v23 S21 => gdK (dem v23) true (ret x5) S21 (fun v25 S22 => gdK (dem v23) true (vConvF Try.prog false true 33 9 (dem v25)) S22 (fun v26 S23 => gdK (dem v23) true (ret x7) S23 (fun v27 S24 => gdK (dem v23) true (vConvF Try.prog false true 33 9 (dem v27)) S24 (fun v28 S25 => gdK (dem v23) true (vBin Try.prog BinOp.eql 9 v26 v28) S25 (fun v29 S26 => andK (vPick (dem v23) v29 (Value.bool false) S26) (fun v30 S27 => gdK (dem v30) true (ret x6) S27 (fun v32 S28 => gdK (dem v30) true (ret x8) S28 (fun v33 S29 => gdK (dem v30) true (vBin Try.prog BinOp.eql 3 (dem v32) (dem v33)) S29 (fun v34 S30 => andK (vPick (dem v30) v34 (Value.bool false) S30) (fun v35 S31 => ckK (stillQ x2 S2 S3 && (stillQ x2 S8 S9 && (stillQ x2 S15 S16 && (stillQ x3 S15 S17 && (true))))) (some ([x0,x1,x2,x3,v35,x5,x6,x7,x8,x9,x10,x11,x12,x13,x14,x15,x16,x17,x18,v0,dem v0,v2,v3,v4,v5,v6,v7,dem v7,v9,v10,v11,v12,v13,v14,dem v14,v16,v17,v18,v19,v20,v21,v22,v23,dem v23,dem v25,v26,dem v27,v28,v29,v30,dem v30,dem v32,dem v33,v34,dem v35], S31)) ()) ()) ()) ()) ()) ()) ()) ()) ()) ()) ()) ()) ()) ()) ()) ()) ()) ()) ()) ()) ()) ()) ()) ()) ()) ()) ()) ()) ()) ()) ()) ()) := by
  rw [vcodeV_drawn neaptidelaw07_BlockTells.d3 neaptidelaw07_BlockTells.ff3 neaptidelaw07_BlockTells.k3 neaptidelaw07_BlockTells.g3]
  refine congrArg regV ?_
  refine uD Try.f5 3 0 (pe := undef) (fun v0 S1 => ?_)
  refine uP Try.f5 3 1 (v := v0) (pe := undef) ?_
  refine uG Try.f5 3 2 (j := 1) (pe := x2) (fun v2 S2 => ?_)
  refine uG Try.f5 3 3 (j := 1) (pe := undef) (fun v3 S3 => ?_)
  refine uGC Try.f5 3 4 (j := 1) (pe := x2) (fun v4 S4 => ?_)
  refine uG Try.f5 3 5 (j := 1) (pe := undef) (fun v5 S5 => ?_)
  refine uG Try.f5 3 6 (j := 1) (pe := undef) (fun v6 S6 => ?_)
  refine uD Try.f5 3 7 (pe := undef) (fun v7 S7 => ?_)
  refine uP Try.f5 3 8 (v := v7) (pe := undef) ?_
  refine uG Try.f5 3 9 (j := 8) (pe := x2) (fun v9 S8 => ?_)
  refine uG Try.f5 3 10 (j := 8) (pe := undef) (fun v10 S9 => ?_)
  refine uGC Try.f5 3 11 (j := 8) (pe := x2) (fun v11 S10 => ?_)
  refine uG Try.f5 3 12 (j := 8) (pe := undef) (fun v12 S11 => ?_)
  refine uG Try.f5 3 13 (j := 8) (pe := undef) (fun v13 S12 => ?_)
  refine uD Try.f5 3 14 (pe := undef) (fun v14 S13 => ?_)
  refine uP Try.f5 3 15 (v := v14) (pe := undef) ?_
  refine uG Try.f5 3 16 (j := 15) (pe := x2) (fun v16 S14 => ?_)
  refine uG Try.f5 3 17 (j := 15) (pe := x3) (fun v17 S15 => ?_)
  refine uG Try.f5 3 18 (j := 15) (pe := undef) (fun v18 S16 => ?_)
  refine uGC Try.f5 3 19 (j := 15) (pe := x2) (fun v19 S17 => ?_)
  refine uGC Try.f5 3 20 (j := 15) (pe := x3) (fun v20 S18 => ?_)
  refine uG Try.f5 3 21 (j := 15) (pe := undef) (fun v21 S19 => ?_)
  refine uG Try.f5 3 22 (j := 15) (pe := undef) (fun v22 S20 => ?_)
  refine uD Try.f5 3 23 (pe := undef) (fun v23 S21 => ?_)
  refine uP Try.f5 3 24 (v := v23) (pe := undef) ?_
  refine uG Try.f5 3 25 (j := 24) (pe := undef) (fun v25 S22 => ?_)
  refine uG Try.f5 3 26 (j := 24) (pe := undef) (fun v26 S23 => ?_)
  refine uG Try.f5 3 27 (j := 24) (pe := undef) (fun v27 S24 => ?_)
  refine uG Try.f5 3 28 (j := 24) (pe := undef) (fun v28 S25 => ?_)
  refine uG Try.f5 3 29 (j := 24) (pe := undef) (fun v29 S26 => ?_)
  refine uD Try.f5 3 30 (pe := undef) (fun v30 S27 => ?_)
  refine uP Try.f5 3 31 (v := v30) (pe := undef) ?_
  refine uG Try.f5 3 32 (j := 31) (pe := undef) (fun v32 S28 => ?_)
  refine uG Try.f5 3 33 (j := 31) (pe := undef) (fun v33 S29 => ?_)
  refine uG Try.f5 3 34 (j := 31) (pe := undef) (fun v34 S30 => ?_)
  refine uD Try.f5 3 35 (pe := undef) (fun v35 S31 => ?_)
  refine uP Try.f5 3 36 (v := v35) (pe := undef) ?_
  kernel_rfl
theorem neaptidelaw07_BlockTells.rs : type_of% (And.intro @neaptidelaw07_BlockTells.r0 (And.intro @neaptidelaw07_BlockTells.r1 (And.intro @neaptidelaw07_BlockTells.r2 (@neaptidelaw07_BlockTells.r3)))) := And.intro @neaptidelaw07_BlockTells.r0 (And.intro @neaptidelaw07_BlockTells.r1 (And.intro @neaptidelaw07_BlockTells.r2 (@neaptidelaw07_BlockTells.r3)))
theorem neaptidelaw07_BlockTells.runs {x0 x1 : Value} {S S1 : AHeap} {e : AEx} {T : List Value} (h : vcodeV Try.prog O false neaptidelaw07_BlockTells.code ([x0,x1,undef,undef,undef,undef,undef,undef,undef,undef,undef,undef,undef,undef,undef,undef,undef,undef,undef,undef,undef,undef,undef,undef,undef,undef,undef,undef,undef,undef,undef,undef,undef,undef,undef,undef,undef,undef,undef,undef,undef,undef,undef,undef,undef,undef,undef,undef,undef,undef,undef,undef,undef,undef,undef]) S = some (e, T, S1)) (he : e = .normal ∨ e = .ret) : vlim Try.prog O 5 [x0, x1] S = some (T.getD 4 undef, S1) :=
  vlim_code rfl rfl Try.func5 (by decide) neaptidelaw07_BlockTells.body (by exact h) he (vRes_one (a := T.getD 4 undef) ((show vResVals Try.prog T S1 Try.f5.results.toList = vResVals Try.prog T S1 [(ResultVar.tmp 4)] from by kernel_rfl).trans (by simp only [vResVals])) (by kernel_rfl))
end Go.Proofs.Ytgggklfbhmlapaa
