/-
The law MsgBack returns true for every input, and leaves it as it was; no condition. Part 6 of 6 of the texts (put together by a program: own names are short, what isn't needed is left out).
-/
import Derived.Test.YtbgcphbbchndkaaZMsgBack5
import Derived.Test.YtbgcphbbchndkaaRows
import Derived.WalkKit
import Derived.ProofKit
import Derived.OpenShut
import Derived.ShutString
import Derived.ChangeOld
import Derived.Below
import Derived.SizedLaws
import Derived.Carry
set_option linter.unusedVariables false
set_option linter.unusedSimpArgs false
set_option maxRecDepth 100000
namespace Go.Proofs.Ytbgcphbbchndkaa
open Go.Abs
structure kP where
 slot : Int
 miner : Int
 variant : Int
 parent : Int
 k : Nat
 txs : List TxV
def fBk (b : kP) : List Value := [.int .i64 b.slot, .int .i64 b.miner, .int .i64 b.variant, .int .i64 b.parent, tl b.k b.txs]
abbrev bv (b : kP) : Value := .agg [Value.int .i64 b.slot, .int .i64 b.miner, .int .i64 b.variant, .int .i64 b.parent, tl b.k b.txs].toArray
structure kP.Ok (b : kP) : Prop where
 okl : Okl b.k b.txs
 ne : b.k ≠ 2
 len : b.txs.length * 16 ≤ 140737488351232
 par : b.parent < 9223372036854775808
abbrev tBk : Ty := .pair (.int .i64) (.pair (.int .i64) (.pair (.int .i64) (.pair (.int .i64) (.pair (.slc 16 tTx) .unit))))
def headB (b : kP) : Bool := btw b.slot 1 4095 && btw b.miner 0 6 && btw b.variant 0 255 && (decide (b.parent = 0) || (vW b.parent && decide (b.parent / 65536 < b.slot)))
def jP (b : kP) : Bool := headB b && xG b.txs
theorem aeE {b : kP} : headB b = true ↔ (1 ≤ b.slot ∧ b.slot ≤ 4095) ∧ (0 ≤ b.miner ∧ b.miner ≤ 6) ∧ (0 ≤ b.variant ∧ b.variant ≤ 255) ∧ (b.parent = 0 ∨ (vW b.parent = true ∧ b.parent / 65536 < b.slot)) := by
 simp [headB, adP, and_assoc]
theorem qw {b : kP} {d : Nat} (h : b.k ≤ 2) : jf (d + 6) (bv b) = true := by
 have h1 : jf (d + 5) (tl b.k b.txs) = true := vT (d := d + 1) h fun _ _ => rfl
 refine Xi ?_
 simp only [List.all_cons, List.all_nil, h1, Bool.and_true]
 rfl
abbrev aiL (b : kP) : zh := zh.empty.push (.cells (fBk b) (.own []) 0)
theorem X0 (b : kP) : J7 (bv b) zh.empty = some (.pointer (some ⟨0, 0, none⟩), aiL b) := rfl
theorem kC (b : kP) : (aiL b).get 0 = some (.cells (fBk b) (.own []) 0) := rfl
theorem afx {S : zh} {q : Nat} {b : kP} (h : S.get q = some (.cells (fBk b) (.own []) 0)) : zO Try.prog false 3 (.pointer (some ⟨q, 0 + 0, none⟩)) S = some (.int .i64 b.slot, S) := yZ (t := 3) (o := 0 + 0) h ZN rfl
theorem afu {S : zh} {q : Nat} {b : kP} (h : S.get q = some (.cells (fBk b) (.own []) 0)) : zO Try.prog false 3 (.pointer (some ⟨q, 0 + 1, none⟩)) S = some (.int .i64 b.miner, S) := yZ (t := 3) (o := 0 + 1) h ZN rfl
theorem ae6 {S : zh} {q : Nat} {b : kP} (h : S.get q = some (.cells (fBk b) (.own []) 0)) : zO Try.prog false 3 (.pointer (some ⟨q, 0 + 2, none⟩)) S = some (.int .i64 b.variant, S) := yZ (t := 3) (o := 0 + 2) h ZN rfl
theorem afm {S : zh} {q : Nat} {b : kP} (h : S.get q = some (.cells (fBk b) (.own []) 0)) : zO Try.prog false 3 (.pointer (some ⟨q, 0 + 3, none⟩)) S = some (.int .i64 b.parent, S) := yZ (t := 3) (o := 0 + 3) h ZN rfl
theorem aeC {S : zh} {q : Nat} {b : kP} (h : S.get q = some (.cells (fBk b) (.own []) 0)) (hk : b.k ≠ 2) : zO Try.prog false 26 (.pointer (some ⟨q, 0 + 4, none⟩)) S = some (tl b.k b.txs, S) := by
 rw [aai (o := 0 + 4) (v := tl b.k b.txs) h aa2 rfl (fun l h => by unfold tl vs sv at h; split at h <;> cases h), ad7, if_neg hk]
theorem ahD {S : zh} {q : Nat} {b : kP} (h : S.get q = some (.cells (fBk b) (.own []) 0)) (hk : b.k ≠ 2) : zO Try.prog false 28 (.pointer (some ⟨q, 0, none⟩)) S = some (bv b, S) := by
 rw [XO h, kV, kV, kV, kV, Vu, if_neg hk]
theorem zF.v {b : kP} (hb : b.Ok) (S : zh) : zM Try.prog O zF.id [bv b] S = some (.bool (jP b), S) := by
 obtain ⟨T, hTe⟩ : ∃ T, T = (bv b :: undef :: undef :: undef :: undef :: undef :: undef :: undef :: undef :: undef :: undef :: undef :: undef :: undef :: undef :: undef :: undef :: undef :: undef :: undef :: undef :: undef :: undef :: undef :: undef :: undef :: undef :: undef :: undef :: undef :: undef :: undef :: undef :: undef :: undef :: undef :: undef :: undef :: undef :: undef :: undef :: undef :: undef :: undef :: undef :: undef :: []) := ⟨_, rfl⟩
 have hr : zu Try.prog O false zF.code T zh.empty = zu Try.prog O false zF.code T zh.empty := rfl
 have l0 := afx (kC b)
 have l1 := afu (kC b)
 have l2 := ae6 (kC b)
 have l3 := afm (kC b)
 have l4 := aeC (kC b) hb.ne
 have c1 := fun S => zT.v hb.okl hb.ne (by have := hb.len; omega) S
 unfold aiK at c1
 cases h1 : btw b.slot 1 4095
 ·
  have e : jP b = false := by simp [jP, headB, h1]
  rw [e]
  conv at hr =>
   rhs
   rw [hTe]
   simp only [zF.code, zF.rs, zSs, reduceIte, Nat.reduceEqDiff, Int.reduceEq, Int.reduceLT, Int.reduceLE, X0, jS, jT, jQ, jU, jR, l0, l1, l2, l3, l4, if_neg hb.ne, zS.v, h1]
  rw [hTe] at hr
  exact zF.runs hr (.inr rfl) (all1 (qw hb.okl.le)) rfl
 ·
  cases h2 : btw b.miner 0 6
  ·
   have e : jP b = false := by simp [jP, headB, h1, h2]
   rw [e]
   conv at hr =>
    rhs
    rw [hTe]
    simp only [zF.code, zF.rs, zSs, reduceIte, Nat.reduceEqDiff, Int.reduceEq, Int.reduceLT, Int.reduceLE, X0, jS, jT, jQ, jU, jR, l0, l1, l2, l3, l4, if_neg hb.ne, zS.v, h1, h2]
   rw [hTe] at hr
   exact zF.runs hr (.inr rfl) (all1 (qw hb.okl.le)) rfl
  ·
   cases h3 : btw b.variant 0 255
   ·
    have e : jP b = false := by simp [jP, headB, h1, h2, h3]
    rw [e]
    conv at hr =>
     rhs
     rw [hTe]
     simp only [zF.code, zF.rs, zSs, reduceIte, Nat.reduceEqDiff, Int.reduceEq, Int.reduceLT, Int.reduceLE, X0, jS, jT, jQ, jU, jR, l0, l1, l2, l3, l4, if_neg hb.ne, zS.v, h1, h2, h3]
    rw [hTe] at hr
    exact zF.runs hr (.inr rfl) (all1 (qw hb.okl.le)) rfl
   ·
    by_cases h4 : b.parent = 0
    ·
     by_cases h7 : xG b.txs = true
     ·
      rw [if_pos h7] at c1
      have e : jP b = true := by simp [jP, headB, h1, h2, h3, h4, h7]
      rw [e]
      conv at hr =>
       rhs
       rw [hTe]
       simp only [zF.code, zF.rs, zSs, reduceIte, Nat.reduceEqDiff, Int.reduceEq, Int.reduceLT, Int.reduceLE, X0, jS, jT, jQ, jU, jR, l0, l1, l2, l3, l4, if_neg hb.ne, zS.v, h1, h2, h3, decide_eq_true h4, c1]
      rw [hTe] at hr
      exact zF.runs hr (.inr rfl) (all1 (qw hb.okl.le)) rfl
     ·
      rw [if_neg h7] at c1
      have e : jP b = false := by simp [jP, h7]
      rw [e]
      conv at hr =>
       rhs
       rw [hTe]
       simp only [zF.code, zF.rs, zSs, reduceIte, Nat.reduceEqDiff, Int.reduceEq, Int.reduceLT, Int.reduceLE, X0, jS, jT, jQ, jU, jR, l0, l1, l2, l3, l4, if_neg hb.ne, zS.v, h1, h2, h3, decide_eq_true h4, c1]
      rw [hTe] at hr
      exact zF.runs hr (.inr rfl) (all1 (qw hb.okl.le)) rfl
    ·
     cases h5 : vW b.parent
     ·
      have e : jP b = false := by simp [jP, headB, h1, h2, h3, h4, h5]
      rw [e]
      conv at hr =>
       rhs
       rw [hTe]
       simp only [zF.code, zF.rs, zSs, reduceIte, Nat.reduceEqDiff, Int.reduceEq, Int.reduceLT, Int.reduceLE, X0, jS, jT, jQ, jU, jR, l0, l1, l2, l3, l4, if_neg hb.ne, zS.v, h1, h2, h3, decide_eq_false h4, ji.v, h5]
      rw [hTe] at hr
      exact zF.runs hr (.inr rfl) (all1 (qw hb.okl.le)) rfl
     ·
      have hn := Zr.mp h5
      have q1 : IntKind.i64.wrap (b.parent.tdiv 65536) = b.parent / 65536 := by rw [Kw (by omega), wrap_i64 (by omega) (by omega)]
      by_cases h6 : b.parent / 65536 < b.slot
      ·
       have h6' : ¬ b.slot ≤ b.parent / 65536 := by omega
       by_cases h7 : xG b.txs = true
       ·
        rw [if_pos h7] at c1
        have e : jP b = true := by simp [jP, headB, h1, h2, h3, h4, h5, h6, h7]
        rw [e]
        conv at hr =>
         rhs
         rw [hTe]
         simp only [zF.code, zF.rs, zSs, reduceIte, Nat.reduceEqDiff, Int.reduceEq, Int.reduceLT, Int.reduceLE, X0, jS, jT, jQ, jU, jR, l0, l1, l2, l3, l4, if_neg hb.ne, zS.v, h1, h2, h3, decide_eq_false h4, ji.v, h5, JD _ _ _ XI, q1, decide_eq_false h6', c1]
        rw [hTe] at hr
        exact zF.runs hr (.inr rfl) (all1 (qw hb.okl.le)) rfl
       ·
        rw [if_neg h7] at c1
        have e : jP b = false := by simp [jP, h7]
        rw [e]
        conv at hr =>
         rhs
         rw [hTe]
         simp only [zF.code, zF.rs, zSs, reduceIte, Nat.reduceEqDiff, Int.reduceEq, Int.reduceLT, Int.reduceLE, X0, jS, jT, jQ, jU, jR, l0, l1, l2, l3, l4, if_neg hb.ne, zS.v, h1, h2, h3, decide_eq_false h4, ji.v, h5, JD _ _ _ XI, q1, decide_eq_false h6', c1]
        rw [hTe] at hr
        exact zF.runs hr (.inr rfl) (all1 (qw hb.okl.le)) rfl
      ·
       have h6' : b.slot ≤ b.parent / 65536 := by omega
       have e : jP b = false := by simp [jP, headB, h1, h2, h3, h4, h5, h6]
       rw [e]
       conv at hr =>
        rhs
        rw [hTe]
        simp only [zF.code, zF.rs, zSs, reduceIte, Nat.reduceEqDiff, Int.reduceEq, Int.reduceLT, Int.reduceLE, X0, jS, jT, jQ, jU, jR, l0, l1, l2, l3, l4, if_neg hb.ne, zS.v, h1, h2, h3, decide_eq_false h4, ji.v, h5, JD _ _ _ XI, q1, decide_eq_true h6']
       rw [hTe] at hr
       exact zF.runs hr (.inr rfl) (all1 (qw hb.okl.le)) rfl
end Go.Proofs.Ytbgcphbbchndkaa
namespace Go.Proofs.Ytbgcphbbchndkaa
open Go.Abs
def Zm (a b : kP) : Bool := decide (a.slot = b.slot) && (decide (a.miner = b.miner) && (decide (a.variant = b.variant) && (decide (a.parent = b.parent) && decide (a.txs = b.txs))))
abbrev ahi (a b : kP) : zh := (aiL a).push (.cells (fBk b) (.own []) 0)
theorem abP (a b : kP) : J7 (bv b) (aiL a) = some (.pointer (some ⟨1, 0, none⟩), ahi a b) := by kernel_rfl
theorem Yj (a b : kP) : (ahi a b).get 0 = some (.cells (fBk a) (.own []) 0) := by kernel_rfl
theorem Ya (a b : kP) : (ahi a b).get 1 = some (.cells (fBk b) (.own []) 0) := by kernel_rfl
theorem jl.v {a b : kP} (ha : a.Ok) (hb : b.Ok) (S : zh) : zM Try.prog O jl.id [bv a, bv b] S = some (.bool (Zm a b), S) := by
 obtain ⟨T, hTe⟩ : ∃ T, T = (bv a :: bv b :: undef :: undef :: undef :: undef :: undef :: undef :: undef :: undef :: undef :: undef :: undef :: undef :: undef :: undef :: undef :: undef :: undef :: undef :: undef :: undef :: undef :: undef :: undef :: undef :: undef :: undef :: undef :: undef :: undef :: undef :: undef :: undef :: undef :: undef :: undef :: undef :: []) := ⟨_, rfl⟩
 have hr : zu Try.prog O false jl.code T zh.empty = zu Try.prog O false jl.code T zh.empty := rfl
 have l0 := afx (Yj a b)
 have m0 := afx (Ya a b)
 have l1 := afu (Yj a b)
 have m1 := afu (Ya a b)
 have l2 := ae6 (Yj a b)
 have m2 := ae6 (Ya a b)
 have l3 := afm (Yj a b)
 have m3 := afm (Ya a b)
 have l4 := aeC (Yj a b) ha.ne
 have m4 := aeC (Ya a b) hb.ne
 have c1 := fun S => slices_Equal.v ha.okl hb.okl ha.ne hb.ne (by have := ha.len; omega) S
 have cc : [bv a, bv b].all (jf 16) = true := all2 (qw ha.okl.le) (qw hb.okl.le)
 unfold Zm
 by_cases h1 : a.slot = b.slot
 ·
  have e1 := decide_eq_true h1
  by_cases h2 : a.miner = b.miner
  ·
   have e2 := decide_eq_true h2
   by_cases h3 : a.variant = b.variant
   ·
    have e3 := decide_eq_true h3
    by_cases h4 : a.parent = b.parent
    ·
     have e4 := decide_eq_true h4
     conv at hr =>
      rhs
      rw [hTe]
      simp only [jl.code, jl.rs, zSs, reduceIte, Nat.reduceEqDiff, Int.reduceEq, Int.reduceLT, Int.reduceLE, X0, abP, jS, jT, jQ, jU, jR, l0, l1, l2, l3, l4, m0, m1, m2, m3, m4, if_neg ha.ne, if_neg hb.ne, e1, e2, e3, e4, c1]
     rw [hTe] at hr
     rw [e1, Bool.true_and, e2, Bool.true_and, e3, Bool.true_and, e4, Bool.true_and]
     exact jl.runs hr (.inr rfl) cc rfl
    ·
     have e4 := decide_eq_false h4
     conv at hr =>
      rhs
      rw [hTe]
      simp only [jl.code, jl.rs, zSs, reduceIte, Nat.reduceEqDiff, Int.reduceEq, Int.reduceLT, Int.reduceLE, X0, abP, jS, jT, jQ, jU, jR, l0, l1, l2, l3, l4, m0, m1, m2, m3, m4, if_neg ha.ne, if_neg hb.ne, e1, e2, e3, e4]
     rw [hTe] at hr
     rw [e1, Bool.true_and, e2, Bool.true_and, e3, Bool.true_and, e4, Bool.false_and]
     exact jl.runs hr (.inr rfl) cc rfl
   ·
    have e3 := decide_eq_false h3
    conv at hr =>
     rhs
     rw [hTe]
     simp only [jl.code, jl.rs, zSs, reduceIte, Nat.reduceEqDiff, Int.reduceEq, Int.reduceLT, Int.reduceLE, X0, abP, jS, jT, jQ, jU, jR, l0, l1, l2, l3, l4, m0, m1, m2, m3, m4, if_neg ha.ne, if_neg hb.ne, e1, e2, e3]
    rw [hTe] at hr
    rw [e1, Bool.true_and, e2, Bool.true_and, e3, Bool.false_and]
    exact jl.runs hr (.inr rfl) cc rfl
  ·
   have e2 := decide_eq_false h2
   conv at hr =>
    rhs
    rw [hTe]
    simp only [jl.code, jl.rs, zSs, reduceIte, Nat.reduceEqDiff, Int.reduceEq, Int.reduceLT, Int.reduceLE, X0, abP, jS, jT, jQ, jU, jR, l0, l1, l2, l3, l4, m0, m1, m2, m3, m4, if_neg ha.ne, if_neg hb.ne, e1, e2]
   rw [hTe] at hr
   rw [e1, Bool.true_and, e2, Bool.false_and]
   exact jl.runs hr (.inr rfl) cc rfl
 ·
  have e1 := decide_eq_false h1
  conv at hr =>
   rhs
   rw [hTe]
   simp only [jl.code, jl.rs, zSs, reduceIte, Nat.reduceEqDiff, Int.reduceEq, Int.reduceLT, Int.reduceLE, X0, abP, jS, jT, jQ, jU, jR, l0, l1, l2, l3, l4, m0, m1, m2, m3, m4, if_neg ha.ne, if_neg hb.ne, e1]
  rw [hTe] at hr
  rw [e1, Bool.false_and]
  exact jl.runs hr (.inr rfl) cc rfl
def X5 (b : kP) : List UInt8 := encs [b.slot, b.miner, b.variant, b.parent] ++ aap b.txs
def agO (b : kP) : Value := if jP b then .tuple #[by_ 2 (X5 b), .int .i64 0] else .tuple #[.slice none 0 0, .int .i64 71]
theorem JW {b : kP} (h : headB b = true) : ∀ n ∈ [b.slot, b.miner, b.variant, b.parent], 0 ≤ n ∧ n ≤ 268435455 := by
 obtain ⟨h1, h2, h3, h4⟩ := aeE.mp h
 have h5 : 0 ≤ b.parent ∧ b.parent ≤ 268435455 := by
  rcases h4 with h4 | ⟨h4, _⟩
  ·
   omega
  ·
   have := Zr.mp h4; omega
 intro n hn
 simp only [List.mem_cons, List.not_mem_nil, or_false] at hn
 rcases hn with rfl | rfl | rfl | rfl <;> omega
theorem bs4 (a b c d : Int) (S : zh) : jB Try.prog 57 4 [(0, .int .i64 a), (1, .int .i64 b), (2, .int .i64 c), (3, .int .i64 d)] S = some (iz 2 [a, b, c, d], S) := by kernel_rfl
theorem aaF {b : kP} (h : headB b = true) : (encs [b.slot, b.miner, b.variant, b.parent]).length ≤ 40 := by
 have h1 := JW h
 have := vS (l := [b.slot, b.miner, b.variant, b.parent]) (fun n hn => by have := h1 n hn; omega)
 exact this
theorem zY.v {b : kP} (hb : b.Ok) (S : zh) : zM Try.prog O zY.id [bv b] S = some (agO b, S) := by
 obtain ⟨T, hTe⟩ : ∃ T, T = (bv b :: undef :: undef :: undef :: undef :: undef :: undef :: undef :: undef :: undef :: undef :: undef :: undef :: undef :: undef :: undef :: undef :: undef :: undef :: undef :: undef :: undef :: undef :: undef :: undef :: undef :: undef :: undef :: undef :: undef :: undef :: undef :: undef :: []) := ⟨_, rfl⟩
 have hr : zu Try.prog O false zY.code T zh.empty = zu Try.prog O false zY.code T zh.empty := rfl
 have l0 := afx (kC b)
 have l1 := afu (kC b)
 have l2 := ae6 (kC b)
 have l3 := afm (kC b)
 have l4 := aeC (kC b) hb.ne
 have lb := ahD (kC b) hb.ne
 have c1 := fun S => zF.v hb S
 unfold agO
 cases hR : jP b
 ·
  rw [hR] at c1
  conv at hr =>
   rhs
   rw [hTe]
   simp only [zY.code, zY.rs, zSs, reduceIte, Nat.reduceEqDiff, Int.reduceEq, Int.reduceLT, Int.reduceLE, X0, lb, c1]
  rw [hTe] at hr
  exact zY.runs hr (.inr rfl) rfl rfl (all1 (qw hb.okl.le)) rfl
 ·
  rw [hR] at c1
  have hh : headB b = true ∧ xG b.txs = true := by simpa [jP] using hR
  have few := JW hh.1
  have c2 := fun S => zG.v (l := [b.slot, b.miner, b.variant, b.parent]) Okl.read (by decide) (fun n hn => by have := few n hn; omega) S
  have n2 := WO (k := 0) (l := [b.slot, b.miner, b.variant, b.parent]) (by simp) (fun n hn => by have := few n hn; omega) (by simp)
  have c3 := fun S => zT.v hb.okl hb.ne (by have := hb.len; omega) S
  have t3 : aiK b.txs = .tuple #[by_ 2 (aap b.txs), .int .i64 0] := if_pos hh.2
  have ap : ∀ S, wB Try.prog 23 23 (by_ 2 (encs [b.slot, b.miner, b.variant, b.parent])) (by_ 1 (aap b.txs)) S = some (by_ 2 (X5 b), S) := fun S => by
   rw [qX Okl.own (by decide) Okl.read (by have := aaF hh.1; have := V9 hh.2; omega)]; rfl
  conv at hr =>
   rhs
   rw [hTe]
   simp only [zY.code, zY.rs, zSs, reduceIte, Nat.reduceEqDiff, Int.reduceEq, Int.reduceLT, Int.reduceLE, X0, lb, c1, jS, jT, jQ, jU, jR, l0, l1, l2, l3, l4, if_neg hb.ne, bs4, c2, n2, c3, t3, ap]
  rw [hTe] at hr
  exact zY.runs hr (.inr rfl) (by simp only [List.getD_cons_succ, List.getD_cons_zero, jL, jF, jh, jv, jG]) rfl (all1 (qw hb.okl.le)) (wU (all2 (y7 (k := 2) (Nat.le_refl 2)) rfl))
end Go.Proofs.Ytbgcphbbchndkaa
namespace Go.Proofs.Ytbgcphbbchndkaa
open Go.Abs
theorem af4 {α : Type} {f : α → List Value} {e k : Nat} {l : List α} {d : Nat} : okq d (vs f e k l) = true := by unfold vs sv; cases d <;> split <;> rfl
theorem adD {R : Type} {a b c d : Int} {k : Nat} {l : List TxV} (r : Option R) (p : Jb r) : okK (.agg [Value.int .i64 a, .int .i64 b, .int .i64 c, .int .i64 d, tl k l].toArray) r p = r := Wq (by
 show ([Value.int .i64 a, .int .i64 b, .int .i64 c, .int .i64 d, tl k l].toArray.toList.all (okq 2)) = true
 simp only [List.toList_toArray, List.all_cons, List.all_nil, af4, Bool.and_true]
 rfl) r p
theorem aiO (x : tBk.Val) (hg : tBk.Good x) : ∃ b : kP, tBk.JL x = fBk b ∧ b.Ok := by
 obtain ⟨s, m, v, p, ts, u⟩ := x
 obtain ⟨h1, h2, h3, h4, h5, _⟩ := hg
 obtain ⟨k, l, p1, p2, p3, p4, p5⟩ := ah6 ts h5
 refine ⟨⟨s, m, v, p, k, l⟩, ?_, ⟨p1, p2, p4, (JR h4).2⟩⟩
 show [Value.int .i64 s] ++ ([Value.int .i64 m] ++ ([Value.int .i64 v] ++ ([Value.int .i64 p] ++ ((Ty.slc 16 tTx).JL ts ++ [])))) = _
 rw [p3]; rfl
end Go.Proofs.Ytbgcphbbchndkaa
namespace Go.Proofs.Ytbgcphbbchndkaa
open Go.Abs
abbrev bk0 : kP := ⟨0, 0, 0, 0, 0, []⟩
theorem aff (S : zh) : wG Try.prog 28 S = some (.pointer (some ⟨S.next, 0, none⟩), S.push (.cells (fBk bk0) (.own []) 0)) := by kernel_rfl
theorem ab8 (b : kP) : (fBk b).all (·.oneCell') = true := by
 simp only [fBk, List.all_cons, List.all_nil, ads, agj, Bool.and_true]
theorem aiW (S : zh) (b : kP) : ∃ S2, jO Try.prog 28 (.pointer (some ⟨S.next, 0, none⟩)) (bv b) (S.push (.cells (fBk bk0) (.own []) 0)) = some (undef, S2) ∧ S2.get S.next = some (.cells (fBk b) (.own []) 0) ∧ Ext S S2 ∧ S.next < S2.next :=
 YK S (by rw [yU, List.toList_toArray]; rfl) xw rfl (ab8 b)
theorem afd {S S0 : zh} {q : Nat} {u : kP} (b : kP) (hg : S.get q = some (.cells (fBk u) (.own []) 0)) (hE : Ext S0 S) (hq : S0.next ≤ q) : ∃ S2, jO Try.prog 28 (.pointer (some ⟨q, 0, none⟩)) (bv b) S = some (undef, S2) ∧ S2.get q = some (.cells (fBk b) (.own []) 0) ∧ Ext S0 S2 ∧ S2.next = S.next ∧ ∀ k, k ≠ q → S2.get k = S.get k :=
 Xg hg xw rfl (ab8 b) (by simp [fBk]) hE hq
theorem aaB {x y : kP} {r s : List UInt8} (hx : jP x = true) (hy : jP y = true) (h : X5 x ++ r = X5 y ++ s) : (x.slot = y.slot ∧ x.miner = y.miner ∧ x.variant = y.variant ∧ x.parent = y.parent ∧ x.txs = y.txs) ∧ r = s := by
 have h1 : headB x = true ∧ xG x.txs = true := by simpa [jP] using hx
 have h2 : headB y = true ∧ xG y.txs = true := by simpa [jP] using hy
 have f1 := JW h1.1
 have f2 := JW h2.1
 unfold X5 at h
 rw [List.append_assoc, List.append_assoc] at h
 obtain ⟨e1, e2⟩ := ZF (a := [x.slot, x.miner, x.variant, x.parent]) (c := [y.slot, y.miner, y.variant, y.parent]) rfl (fun n hn => by have := f1 n hn; unfold Few; omega) (fun n hn => by have := f2 n hn; unfold Few; omega) h
 obtain ⟨e3, e4⟩ := aal h1.2 h2.2 e2
 simp only [List.cons.injEq, and_true] at e1
 exact ⟨⟨e1.1, e1.2.1, e1.2.2.1, e1.2.2.2, e3⟩, e4⟩
noncomputable def aec (l : List UInt8) : Option kP := rd (fun b => jP b = true ∧ b.k = 0) X5 l
theorem aiU {x y : kP} (h : x.slot = y.slot ∧ x.miner = y.miner ∧ x.variant = y.variant ∧ x.parent = y.parent ∧ x.txs = y.txs) (hk : x.k = y.k) : x = y := by
 cases x; cases y
 simp at h hk
 obtain ⟨rfl, rfl, rfl, rfl, rfl⟩ := h
 rw [hk]
theorem Jg (l : List UInt8) (b : kP) : aec l = some b ↔ (jP b = true ∧ b.k = 0) ∧ l = X5 b :=
 adh (fun x y hx hy h => aiU (aaB (r := []) (s := []) hx.1 hy.1 (by rw [List.append_nil, List.append_nil]; exact h)).1 (hx.2.trans hy.2.symm)) l b
theorem Yx {l : List UInt8} (h : ∀ b : kP, b.k = 0 → jP b = true → l ≠ X5 b) : aec l = none := by
 cases hr : aec l with
 | none => rfl
 | some b => obtain ⟨⟨h1, h2⟩, h3⟩ := (Jg l b).mp hr; exact absurd h3 (h b h2 h1)
theorem agG (l : List UInt8) : wJ 4 l = none ∨ ∃ a b c d r, wJ 4 l = some ([a, b, c, d], r) ∧ r.length ≤ l.length := by
 cases h : wJ 4 l with
 | none => exact .inl rfl
 | some ar =>
  obtain ⟨a, r⟩ := ar
  obtain ⟨h1, h2⟩ := ZA h
  match a, h1 with
  | [x, y, z, w], _ => exact .inr ⟨x, y, z, w, r, rfl, h2⟩
theorem VF {l r : List UInt8} {b : kP} (hb : jP b = true) (h : l = X5 b ++ r) : wJ 4 l = some ([b.slot, b.miner, b.variant, b.parent], aap b.txs ++ r) := by
 have h1 : headB b = true ∧ xG b.txs = true := by simpa [jP] using hb
 have f1 := JW h1.1
 exact (wE _ _ _ _).mpr ⟨rfl, by rw [h, X5, List.append_assoc], fun n hn => by have := f1 n hn; unfold Few; omega⟩
theorem aaO {l : List UInt8} (h : wJ 4 l = none) : aec l = none := Yx fun b _ hb hl => by
 have := VF (l := l) (r := []) hb (by rw [List.append_nil]; exact hl)
 rw [h] at this; cases this
theorem aa8 {l r : List UInt8} {a b c d : Int} (h : wJ 4 l = some ([a, b, c, d], r)) (h2 : xH r = none) : aec l = none := Yx fun x _ hb hl => by
 have := VF (l := l) (r := []) hb (by rw [List.append_nil]; exact hl)
 rw [h] at this
 simp only [Option.some.injEq, Prod.mk.injEq, List.append_nil] at this
 have h1 : headB x = true ∧ xG x.txs = true := by simpa [jP] using hb
 rw [(xX r x.txs).mpr ⟨h1.2, this.2⟩] at h2
 cases h2
theorem acO {l r : List UInt8} {a b c d : Int} {ts : List TxV} (h : wJ 4 l = some ([a, b, c, d], r)) (h2 : xH r = some ts) : aec l = if jP ⟨a, b, c, d, 0, ts⟩ = true then some ⟨a, b, c, d, 0, ts⟩ else none := by
 obtain ⟨_, g2, _⟩ := (wE _ _ _ _).mp h
 obtain ⟨t1, t2⟩ := (xX r ts).mp h2
 split
 ·
  rename_i hR
  exact (Jg _ _).mpr ⟨⟨hR, rfl⟩, by rw [g2, t2]; rfl⟩
 ·
  rename_i hR
  refine Yx fun x _ hb hl => hR ?_
  have := VF (l := l) (r := []) hb (by rw [List.append_nil]; exact hl)
  rw [h] at this
  simp only [Option.some.injEq, Prod.mk.injEq, List.append_nil, List.cons.injEq, and_true] at this
  have h1 : headB x = true ∧ xG x.txs = true := by simpa [jP] using hb
  have h3 := (xX r x.txs).mpr ⟨h1.2, this.2⟩
  rw [h2] at h3
  injection h3 with h3
  obtain ⟨⟨i1, i2, i3, i4⟩, _⟩ := this
  rw [i1, i2, i3, i4, h3]
  exact hb
theorem ac4 (a b c d : Int) (k j : Nat) (t : List TxV) : jP ⟨a, b, c, d, k, t⟩ = jP ⟨a, b, c, d, j, t⟩ := rfl
def agX (l : List UInt8) (b : kP) (e : Int) : Prop := b.Ok ∧ b.txs.length ≤ 3 ∧ ((e = 0 ∧ aec l = some ⟨b.slot, b.miner, b.variant, b.parent, 0, b.txs⟩ ∧ jP b = true) ∨ (e = 71 ∧ aec l = none ∧ b = bk0))
theorem ok0 : bk0.Ok := ⟨Okl.none, by decide, by simp, by decide⟩
theorem zL.v {k : Nat} {l : List UInt8} (hk : Okl k l) (k2 : k ≠ 2) (hl : l.length ≤ 140737488355328) : ∃ b e, agX l b e ∧ ∀ S, zM Try.prog O zL.id [by_ k l] S = some (.tuple #[bv b, .int .i64 e], S) := by
 have a1 := aff zh.empty
 have g1 : (zh.empty.push (.cells (fBk bk0) (.own []) 0)).get 0 = some (.cells (fBk bk0) (.own []) 0) := by kernel_rfl
 have n1 : (zh.empty.push (.cells (fBk bk0) (.own []) 0)).next = 1 := by kernel_rfl
 rw [show zh.empty.next = 0 from rfl] at a1
 have hE1 : Ext zh.empty (zh.empty.push (.cells (fBk bk0) (.own []) 0)) := Ext.push _ _
 have cl : [by_ k l].all (jf 16) = true := all1 (y7 (k := k) hk.le)
 obtain ⟨T, hTe⟩ : ∃ T, T = (by_ k l :: undef :: undef :: undef :: undef :: undef :: undef :: undef :: undef :: undef :: undef :: undef :: undef :: undef :: undef :: undef :: undef :: undef :: undef :: undef :: undef :: undef :: undef :: undef :: undef :: undef :: undef :: undef :: undef :: undef :: undef :: undef :: undef :: undef :: undef :: undef :: undef :: undef :: undef :: undef :: undef :: undef :: undef :: undef :: undef :: undef :: []) := ⟨_, rfl⟩
 have hr : zu Try.prog O false zL.code T zh.empty = zu Try.prog O false zL.code T zh.empty := rfl
 have c1 := fun S => zk.v (many := 4) hk k2 hl S
 have r1 : ∀ k0 k1, Zw k0 k1 4 l = _ := fun k0 k1 => vI (m := 4) (by decide) (by decide)
 rw [r1] at c1
 have z0 : ∀ S, yg Try.prog 28 [] S = some (bv bk0, S) := fun S => Xu S
 generalize zh.empty.push (.cells (fBk bk0) (.own []) 0) = S1 at a1 g1 n1 hE1
 rcases agG l with h | ⟨a, b, c, d, r, h, hlr⟩
 ·
  rw [h] at c1
  obtain ⟨S3, q1, q2, q3, q4, q5⟩ := afd bk0 g1 hE1 (Nat.zero_le _)
  refine ⟨bk0, 71, ⟨ok0, by simp, .inr ⟨rfl, aaO h, rfl⟩⟩, fun S => ?_⟩
  conv at hr =>
   rhs
   rw [hTe]
   simp only [zL.code, zL.rs, zSs, reduceIte, Nat.reduceEqDiff, Int.reduceEq, Int.reduceLT, Int.reduceLE, if_neg k2, a1, c1, z0, q1]
  rw [hTe] at hr
  exact zL.runs hr (.inr rfl) (ahD q2 (by decide)) rfl rfl cl rfl
 ·
  rw [h] at c1
  have i0 := fun S => ZT (k := 1) (i := 0) (m := 0) (l := [a, b, c, d]) Okl.read rfl rfl S
  have i1 := fun S => ZT (k := 1) (i := 1) (m := 1) (l := [a, b, c, d]) Okl.read rfl rfl S
  have i2 := fun S => ZT (k := 1) (i := 2) (m := 2) (l := [a, b, c, d]) Okl.read rfl rfl S
  have i3 := fun S => ZT (k := 1) (i := 3) (m := 3) (l := [a, b, c, d]) Okl.read rfl rfl S
  have few := ((wE _ _ _ _).mp h).2.2
  have fd : d ≤ 4611686018427387904 := (few d (by simp)).2
  obtain ⟨j, t, e, o1, o2, o3, o4⟩ := V3 (j := 0) (by decide) r
  have c2 := fun S => zn.v (k := 1) (l := r) Okl.read (by decide) (by omega) S
  rw [o3] at c2
  have hok : kP.Ok ⟨a, b, c, d, if j = 2 then 1 else j, t⟩ := ⟨o1.dem, KP j, by show t.length * 16 ≤ _; omega, by show d < _; omega⟩
  obtain ⟨S2, p1, p2, p3, p4⟩ := aiW S1 ⟨a, b, c, d, if j = 2 then 1 else j, t⟩
  have g2 : S2.get 0 = some (.cells (fBk bk0) (.own []) 0) := by rw [p3.get 0 (by omega), g1]
  have bd := fun S => Zd (y0 := .int .i64 a) (y1 := .int .i64 b) (y2 := .int .i64 c) (y3 := .int .i64 d) (y4 := tl (if j = 2 then 1 else j) t) qg qg qg qg aft S
  have c3 : ∀ S, zM Try.prog O 39 [.agg [Value.int .i64 a, .int .i64 b, .int .i64 c, .int .i64 d, tl (if j = 2 then 1 else j) t].toArray] S = some (.bool (jP ⟨a, b, c, d, if j = 2 then 1 else j, t⟩), S) := fun S => zF.v hok S
  have lb : zO Try.prog false 28 (.pointer (some ⟨S1.next, 0, none⟩)) S2 = some (.agg [Value.int .i64 a, .int .i64 b, .int .i64 c, .int .i64 d, tl (if j = 2 then 1 else j) t].toArray, S2) := ahD p2 (KP j)
  rcases o4 with ⟨rfl, hx⟩ | ⟨rfl, hx, rfl⟩
  ·
   cases hR : jP ⟨a, b, c, d, if j = 2 then 1 else j, t⟩
   ·
    rw [hR] at c3
    obtain ⟨S3, q1, q2, q3, q4, q5⟩ := afd bk0 g2 (Ext.trans hE1 p3) (Nat.zero_le _)
    refine ⟨bk0, 71, ⟨ok0, by simp, .inr ⟨rfl, ?_, rfl⟩⟩, fun S => ?_⟩
    ·
     rw [acO h hx, if_neg (by rw [ac4 a b c d 0 (if j = 2 then 1 else j) t, hR]; decide)]
    conv at hr =>
     rhs
     rw [hTe]
     simp only [zL.code, zL.rs, zSs, reduceIte, Nat.reduceEqDiff, Int.reduceEq, Int.reduceLT, Int.reduceLE, if_neg k2, a1, c1, c2, i0, i1, i2, i3, qY, afT, bd, adD, aff, p1, lb, c3, z0, q1]
    rw [hTe] at hr
    exact zL.runs hr (.inr rfl) (ahD q2 (by decide)) rfl rfl cl rfl
   ·
    rw [hR] at c3
    obtain ⟨S3, q1, q2, q3, q4, q5⟩ := afd ⟨a, b, c, d, if j = 2 then 1 else j, t⟩ g2 (Ext.trans hE1 p3) (Nat.zero_le _)
    refine ⟨⟨a, b, c, d, if j = 2 then 1 else j, t⟩, 0, ⟨hok, o2, .inl ⟨rfl, ?_, hR⟩⟩, fun S => ?_⟩
    ·
     rw [acO h hx, if_pos (by rw [ac4 a b c d 0 (if j = 2 then 1 else j) t, hR])]
    conv at hr =>
     rhs
     rw [hTe]
     simp only [zL.code, zL.rs, zSs, reduceIte, Nat.reduceEqDiff, Int.reduceEq, Int.reduceLT, Int.reduceLE, if_neg k2, a1, c1, c2, i0, i1, i2, i3, qY, afT, bd, adD, aff, p1, lb, c3, q1]
    rw [hTe] at hr
    exact zL.runs hr (.inr rfl) (ahD q2 (KP j)) rfl rfl cl (wU (all2 (qw (b := ⟨a, b, c, d, if j = 2 then 1 else j, t⟩) hok.okl.le) rfl))
  ·
   obtain ⟨S3, q1, q2, q3, q4, q5⟩ := afd bk0 g2 (Ext.trans hE1 p3) (Nat.zero_le _)
   refine ⟨bk0, 71, ⟨ok0, by simp, .inr ⟨rfl, aa8 h hx, rfl⟩⟩, fun S => ?_⟩
   conv at hr =>
    rhs
    rw [hTe]
    simp only [zL.code, zL.rs, zSs, reduceIte, Nat.reduceEqDiff, Int.reduceEq, Int.reduceLT, Int.reduceLE, if_neg k2, a1, c1, c2, i0, i1, i2, i3, qY, afT, bd, adD, aff, p1, z0, q1]
   rw [hTe] at hr
   exact zL.runs hr (.inr rfl) (ahD q2 (by decide)) rfl rfl cl rfl
end Go.Proofs.Ytbgcphbbchndkaa
namespace Go.Proofs.Ytbgcphbbchndkaa
open Go.Abs
structure jI where
 kind : Int
 frm : Int
 index : Int
 view : Int
 value : Int
 prep : Int
 tx : TxV
 b : kP
def fM (m : jI) : List Value := [.int .i64 m.kind, .int .i64 m.frm, .int .i64 m.index, .int .i64 m.view, .int .i64 m.value, .int .i64 m.prep, .int .i64 m.tx.id, .int .i64 m.tx.fee, .int .i64 m.b.slot, .int .i64 m.b.miner, .int .i64 m.b.variant, .int .i64 m.b.parent, tl m.b.k m.b.txs]
abbrev mv (m : jI) : Value := .agg [Value.int .i64 m.kind, .int .i64 m.frm, .int .i64 m.index, .int .i64 m.view, .int .i64 m.value, .int .i64 m.prep, .int .i64 m.tx.id, .int .i64 m.tx.fee, .int .i64 m.b.slot, .int .i64 m.b.miner, .int .i64 m.b.variant, .int .i64 m.b.parent, tl m.b.k m.b.txs].toArray
def Big (n : Int) : Prop := -9223372036854775808 ≤ n ∧ n < 9223372036854775808
structure jI.Ok (m : jI) : Prop where
 b : m.b.Ok
 tx : m.tx.Ok
 kind : Big m.kind
 frm : Big m.frm
 index : Big m.index
 view : Big m.view
 value : Big m.value
 prep : Big m.prep
abbrev m0 : jI := ⟨0, 0, 0, 0, 0, 0, ⟨0, 0⟩, bk0⟩
theorem mk_eq {x y : jI} (h1 : x.kind = y.kind) (h2 : x.frm = y.frm) (h3 : x.index = y.index) (h4 : x.view = y.view) (h5 : x.value = y.value) (h6 : x.prep = y.prep) (h7 : x.tx = y.tx) (h8 : x.b = y.b) : x = y := by
 cases x; cases y; simp_all
theorem wI {m : jI} {d : Nat} (h : m.b.k ≤ 2) : jf (d + 6) (mv m) = true := by
 have h1 : jf (d + 5) (tl m.b.k m.b.txs) = true := vT (d := d + 1) h fun _ _ => rfl
 refine Xi ?_
 simp only [List.all_cons, List.all_nil, h1, Bool.and_true]
 rfl
theorem aiG (m : jI) : (fM m).all (·.oneCell') = true := by
 simp only [fM, List.all_cons, List.all_nil, ads, agj, Bool.and_true]
section
variable {S : zh} {q e : Nat} {m : jI} {own : Own}
theorem wC (h : S.get q = some (.cells (fM m) own e)) : zO Try.prog false 3 (.pointer (some ⟨q, 0 + 0, none⟩)) S = some (.int .i64 m.kind, S) := yZ (t := 3) (o := 0 + 0) h ZN rfl
theorem yR (h : S.get q = some (.cells (fM m) own e)) : zO Try.prog false 3 (.pointer (some ⟨q, 0 + 1, none⟩)) S = some (.int .i64 m.frm, S) := yZ (t := 3) (o := 0 + 1) h ZN rfl
theorem y8 (h : S.get q = some (.cells (fM m) own e)) : zO Try.prog false 3 (.pointer (some ⟨q, 0 + 2, none⟩)) S = some (.int .i64 m.index, S) := yZ (t := 3) (o := 0 + 2) h ZN rfl
theorem qB (h : S.get q = some (.cells (fM m) own e)) : zO Try.prog false 3 (.pointer (some ⟨q, 0 + 3, none⟩)) S = some (.int .i64 m.view, S) := yZ (t := 3) (o := 0 + 3) h ZN rfl
theorem yj (h : S.get q = some (.cells (fM m) own e)) : zO Try.prog false 3 (.pointer (some ⟨q, 0 + 4, none⟩)) S = some (.int .i64 m.value, S) := yZ (t := 3) (o := 0 + 4) h ZN rfl
theorem kH (h : S.get q = some (.cells (fM m) own e)) : zO Try.prog false 3 (.pointer (some ⟨q, 0 + 5, none⟩)) S = some (.int .i64 m.prep, S) := yZ (t := 3) (o := 0 + 5) h ZN rfl
theorem kU (h : S.get q = some (.cells (fM m) own e)) : zO Try.prog false 25 (.pointer (some ⟨q, 0 + 6, none⟩)) S = some (tv m.tx, S) := (Ju (o := 0 + 6) h KR xK (by simp [fM])).trans (by simp [fM, kV])
theorem xk (h : S.get q = some (.cells (fM m) own e)) (hk : m.b.k ≠ 2) : zO Try.prog false 28 (.pointer (some ⟨q, 0 + 8, none⟩)) S = some (bv m.b, S) := by
 rw [Ju (o := 0 + 8) h Yz xw (by simp [fM])]
 simp [fM, kV, Vu, hk]
theorem qC (h : S.get q = some (.cells (fM m) own e)) (hk : m.b.k ≠ 2) : zO Try.prog false 30 (.pointer (some ⟨q, 0, none⟩)) S = some (mv m, S) := by
 rw [abA h]
 simp only [kV, Vu, if_neg hk]
end
abbrev Wu (m : jI) : zh := zh.empty.push (.cells (fM m) (.own []) 0)
theorem Za (m : jI) : J7 (mv m) zh.empty = some (.pointer (some ⟨0, 0, none⟩), Wu m) := rfl
theorem JC (m : jI) : (Wu m).get 0 = some (.cells (fM m) (.own []) 0) := rfl
abbrev VW (a b : jI) : zh := (Wu a).push (.cells (fM b) (.own []) 0)
theorem Xh (a b : jI) : J7 (mv b) (Wu a) = some (.pointer (some ⟨1, 0, none⟩), VW a b) := by kernel_rfl
theorem adN (a b : jI) : (VW a b).get 0 = some (.cells (fM a) (.own []) 0) := by kernel_rfl
theorem abV (a b : jI) : (VW a b).get 1 = some (.cells (fM b) (.own []) 0) := by kernel_rfl
theorem Yb (S : zh) : wG Try.prog 30 S = some (.pointer (some ⟨S.next, 0, none⟩), S.push (.cells (fM m0) (.own []) 0)) := by kernel_rfl
def Zn (a b : jI) : Bool := decide (a.kind = b.kind) && (decide (a.frm = b.frm) && (decide (a.index = b.index) && (decide (a.view = b.view) && (decide (a.value = b.value) && (decide (a.prep = b.prep) && (decide (a.tx = b.tx) && Zm a.b b.b))))))
theorem jk.v {a b : jI} (ha : a.Ok) (hb : b.Ok) (S : zh) : zM Try.prog O jk.id [mv a, mv b] S = some (.bool (Zn a b), S) := by
 obtain ⟨T, hTe⟩ : ∃ T, T = (mv a :: mv b :: undef :: undef :: undef :: undef :: undef :: undef :: undef :: undef :: undef :: undef :: undef :: undef :: undef :: undef :: undef :: undef :: undef :: undef :: undef :: undef :: undef :: undef :: undef :: undef :: undef :: undef :: undef :: undef :: undef :: undef :: undef :: undef :: undef :: undef :: undef :: undef :: undef :: undef :: undef :: undef :: undef :: undef :: undef :: undef :: undef :: undef :: undef :: undef :: undef :: undef :: undef :: undef :: undef :: undef :: undef :: undef :: undef :: undef :: undef :: []) := ⟨_, rfl⟩
 have hr : zu Try.prog O false jk.code T zh.empty = zu Try.prog O false jk.code T zh.empty := rfl
 have g0 := adN a b
 have g1 := abV a b
 have c1 := fun S => jl.v ha.b hb.b S
 have e1 := fun S => (ah1 a.tx b.tx S).1
 have hc : [mv a, mv b].all (jf 16) = true := all2 (wI ha.b.okl.le) (wI hb.b.okl.le)
 unfold Zn
 by_cases h1 : a.kind = b.kind
 ·
  by_cases h2 : a.frm = b.frm
  ·
   by_cases h3 : a.index = b.index
   ·
    by_cases h4 : a.view = b.view
    ·
     by_cases h5 : a.value = b.value
     ·
      by_cases h6 : a.prep = b.prep
      ·
       by_cases h7 : a.tx = b.tx
       ·
        rw [decide_eq_true h1, decide_eq_true h2, decide_eq_true h3, decide_eq_true h4, decide_eq_true h5, decide_eq_true h6, decide_eq_true h7]
        simp only [Bool.true_and]
        conv at hr =>
         rhs
         rw [hTe]
         simp only [jk.code, jk.rs, zSs, reduceIte, Nat.reduceEqDiff, Int.reduceEq, Int.reduceLT, Int.reduceLE, Za, Xh, zJ, zU, jc, je, zN, jo, jm, jq, wC g0, wC g1, yR g0, yR g1, y8 g0, y8 g1, qB g0, qB g1, yj g0, yj g1, kH g0, kH g1, kU g0, kU g1, xk g0 ha.b.ne, xk g1 hb.b.ne, decide_eq_true h1, decide_eq_true h2, decide_eq_true h3, decide_eq_true h4, decide_eq_true h5, decide_eq_true h6, decide_eq_true h7, e1, c1]
        rw [hTe] at hr
        exact jk.runs hr (.inr rfl) hc rfl
       ·
        rw [decide_eq_false h7]
        simp only [Bool.false_and, Bool.and_false]
        conv at hr =>
         rhs
         rw [hTe]
         simp only [jk.code, jk.rs, zSs, reduceIte, Nat.reduceEqDiff, Int.reduceEq, Int.reduceLT, Int.reduceLE, Za, Xh, zJ, zU, jc, je, zN, jo, jm, wC g0, wC g1, yR g0, yR g1, y8 g0, y8 g1, qB g0, qB g1, yj g0, yj g1, kH g0, kH g1, kU g0, kU g1, decide_eq_true h1, decide_eq_true h2, decide_eq_true h3, decide_eq_true h4, decide_eq_true h5, decide_eq_true h6, decide_eq_false h7, e1]
        rw [hTe] at hr
        exact jk.runs hr (.inr rfl) hc rfl
      ·
       rw [decide_eq_false h6]
       simp only [Bool.false_and, Bool.and_false]
       conv at hr =>
        rhs
        rw [hTe]
        simp only [jk.code, jk.rs, zSs, reduceIte, Nat.reduceEqDiff, Int.reduceEq, Int.reduceLT, Int.reduceLE, Za, Xh, zJ, zU, jc, je, zN, jo, wC g0, wC g1, yR g0, yR g1, y8 g0, y8 g1, qB g0, qB g1, yj g0, yj g1, kH g0, kH g1, decide_eq_true h1, decide_eq_true h2, decide_eq_true h3, decide_eq_true h4, decide_eq_true h5, decide_eq_false h6]
       rw [hTe] at hr
       exact jk.runs hr (.inr rfl) hc rfl
     ·
      rw [decide_eq_false h5]
      simp only [Bool.false_and, Bool.and_false]
      conv at hr =>
       rhs
       rw [hTe]
       simp only [jk.code, jk.rs, zSs, reduceIte, Nat.reduceEqDiff, Int.reduceEq, Int.reduceLT, Int.reduceLE, Za, Xh, zJ, zU, jc, je, zN, wC g0, wC g1, yR g0, yR g1, y8 g0, y8 g1, qB g0, qB g1, yj g0, yj g1, decide_eq_true h1, decide_eq_true h2, decide_eq_true h3, decide_eq_true h4, decide_eq_false h5]
      rw [hTe] at hr
      exact jk.runs hr (.inr rfl) hc rfl
    ·
     rw [decide_eq_false h4]
     simp only [Bool.false_and, Bool.and_false]
     conv at hr =>
      rhs
      rw [hTe]
      simp only [jk.code, jk.rs, zSs, reduceIte, Nat.reduceEqDiff, Int.reduceEq, Int.reduceLT, Int.reduceLE, Za, Xh, zJ, zU, jc, je, wC g0, wC g1, yR g0, yR g1, y8 g0, y8 g1, qB g0, qB g1, decide_eq_true h1, decide_eq_true h2, decide_eq_true h3, decide_eq_false h4]
     rw [hTe] at hr
     exact jk.runs hr (.inr rfl) hc rfl
   ·
    rw [decide_eq_false h3]
    simp only [Bool.false_and, Bool.and_false]
    conv at hr =>
     rhs
     rw [hTe]
     simp only [jk.code, jk.rs, zSs, reduceIte, Nat.reduceEqDiff, Int.reduceEq, Int.reduceLT, Int.reduceLE, Za, Xh, zJ, zU, jc, wC g0, wC g1, yR g0, yR g1, y8 g0, y8 g1, decide_eq_true h1, decide_eq_true h2, decide_eq_false h3]
    rw [hTe] at hr
    exact jk.runs hr (.inr rfl) hc rfl
  ·
   rw [decide_eq_false h2]
   simp only [Bool.false_and, Bool.and_false]
   conv at hr =>
    rhs
    rw [hTe]
    simp only [jk.code, jk.rs, zSs, reduceIte, Nat.reduceEqDiff, Int.reduceEq, Int.reduceLT, Int.reduceLE, Za, Xh, zJ, zU, wC g0, wC g1, yR g0, yR g1, decide_eq_true h1, decide_eq_false h2]
   rw [hTe] at hr
   exact jk.runs hr (.inr rfl) hc rfl
 ·
  rw [decide_eq_false h1]
  simp only [Bool.false_and]
  conv at hr =>
   rhs
   rw [hTe]
   simp only [jk.code, jk.rs, zSs, reduceIte, Nat.reduceEqDiff, Int.reduceEq, Int.reduceLT, Int.reduceLE, Za, Xh, zJ, wC g0, wC g1, decide_eq_false h1]
  rw [hTe] at hr
  exact jk.runs hr (.inr rfl) hc rfl
end Go.Proofs.Ytbgcphbbchndkaa
namespace Go.Proofs.Ytbgcphbbchndkaa
open Go.Abs
def JV (m : jI) : Bool := decide (m.kind = 4) || decide (m.kind = 5)
def yC (m : jI) : Bool := decide (m.value = 0) || decide (0 < Jl m.value) || (JV m && decide (m.value = -1))
theorem zV.v {m : jI} (hm : m.Ok) (S : zh) : zM Try.prog O zV.id [mv m] S = some (.bool (yC m), S) := by
 obtain ⟨T, hTe⟩ : ∃ T, T = (mv m :: undef :: undef :: undef :: undef :: undef :: undef :: undef :: undef :: undef :: undef :: undef :: undef :: undef :: undef :: undef :: undef :: undef :: undef :: undef :: undef :: undef :: undef :: undef :: undef :: undef :: undef :: undef :: undef :: []) := ⟨_, rfl⟩
 have hr : zu Try.prog O false zV.code T zh.empty = zu Try.prog O false zV.code T zh.empty := rfl
 have g0 := JC m
 have c1 := fun S => jw.v m.value S
 have hc : [mv m].all (jf 16) = true := all1 (wI hm.b.okl.le)
 by_cases k4 : m.kind = 4
 ·
  have hvote : JV m = true := by simp [JV, k4]
  by_cases v0 : m.value = 0
  ·
   rw [show yC m = true from by simp [yC, v0]]
   conv at hr =>
    rhs
    rw [hTe]
    simp only [zV.code, zV.rs, zSs, reduceIte, Nat.reduceEqDiff, Int.reduceEq, Int.reduceLT, Int.reduceLE, Za, zJ, zN, wC g0, yj g0, decide_eq_true k4, decide_eq_true v0]
   rw [hTe] at hr
   exact zV.runs hr (.inr rfl) hc rfl
  by_cases v1 : 0 < Jl m.value
  ·
   rw [show yC m = true from by simp [yC, v1]]
   conv at hr =>
    rhs
    rw [hTe]
    simp only [zV.code, zV.rs, zSs, reduceIte, Nat.reduceEqDiff, Int.reduceEq, Int.reduceLT, Int.reduceLE, Za, zJ, zN, wC g0, yj g0, decide_eq_true k4, decide_eq_false v0, c1, decide_eq_true v1]
   rw [hTe] at hr
   exact zV.runs hr (.inr rfl) hc rfl
  by_cases v2 : m.value = -1
  ·
   rw [show yC m = true from by simp [yC, v2, hvote]]
   conv at hr =>
    rhs
    rw [hTe]
    simp only [zV.code, zV.rs, zSs, reduceIte, Nat.reduceEqDiff, Int.reduceEq, Int.reduceLT, Int.reduceLE, Za, zJ, zN, wC g0, yj g0, decide_eq_true k4, decide_eq_false v0, c1, decide_eq_false v1, decide_eq_true v2]
   rw [hTe] at hr
   exact zV.runs hr (.inr rfl) hc rfl
  rw [show yC m = false from by simp [yC, v0, v1, v2]]
  conv at hr =>
   rhs
   rw [hTe]
   simp only [zV.code, zV.rs, zSs, reduceIte, Nat.reduceEqDiff, Int.reduceEq, Int.reduceLT, Int.reduceLE, Za, zJ, zN, wC g0, yj g0, decide_eq_true k4, decide_eq_false v0, c1, decide_eq_false v1, decide_eq_false v2]
  rw [hTe] at hr
  exact zV.runs hr (.inr rfl) hc rfl
 by_cases k5 : m.kind = 5
 ·
  have hvote : JV m = true := by simp [JV, k5]
  by_cases v0 : m.value = 0
  ·
   rw [show yC m = true from by simp [yC, v0]]
   conv at hr =>
    rhs
    rw [hTe]
    simp only [zV.code, zV.rs, zSs, reduceIte, Nat.reduceEqDiff, Int.reduceEq, Int.reduceLT, Int.reduceLE, Za, zJ, zN, wC g0, yj g0, decide_eq_false k4, decide_eq_true k5, decide_eq_true v0]
   rw [hTe] at hr
   exact zV.runs hr (.inr rfl) hc rfl
  by_cases v1 : 0 < Jl m.value
  ·
   rw [show yC m = true from by simp [yC, v1]]
   conv at hr =>
    rhs
    rw [hTe]
    simp only [zV.code, zV.rs, zSs, reduceIte, Nat.reduceEqDiff, Int.reduceEq, Int.reduceLT, Int.reduceLE, Za, zJ, zN, wC g0, yj g0, decide_eq_false k4, decide_eq_true k5, decide_eq_false v0, c1, decide_eq_true v1]
   rw [hTe] at hr
   exact zV.runs hr (.inr rfl) hc rfl
  by_cases v2 : m.value = -1
  ·
   rw [show yC m = true from by simp [yC, v2, hvote]]
   conv at hr =>
    rhs
    rw [hTe]
    simp only [zV.code, zV.rs, zSs, reduceIte, Nat.reduceEqDiff, Int.reduceEq, Int.reduceLT, Int.reduceLE, Za, zJ, zN, wC g0, yj g0, decide_eq_false k4, decide_eq_true k5, decide_eq_false v0, c1, decide_eq_false v1, decide_eq_true v2]
   rw [hTe] at hr
   exact zV.runs hr (.inr rfl) hc rfl
  rw [show yC m = false from by simp [yC, v0, v1, v2]]
  conv at hr =>
   rhs
   rw [hTe]
   simp only [zV.code, zV.rs, zSs, reduceIte, Nat.reduceEqDiff, Int.reduceEq, Int.reduceLT, Int.reduceLE, Za, zJ, zN, wC g0, yj g0, decide_eq_false k4, decide_eq_true k5, decide_eq_false v0, c1, decide_eq_false v1, decide_eq_false v2]
  rw [hTe] at hr
  exact zV.runs hr (.inr rfl) hc rfl
 have hvote : JV m = false := by simp [JV, k4, k5]
 by_cases v0 : m.value = 0
 ·
  rw [show yC m = true from by simp [yC, v0]]
  conv at hr =>
   rhs
   rw [hTe]
   simp only [zV.code, zV.rs, zSs, reduceIte, Nat.reduceEqDiff, Int.reduceEq, Int.reduceLT, Int.reduceLE, Za, zJ, zN, wC g0, yj g0, decide_eq_false k4, decide_eq_false k5, decide_eq_true v0]
  rw [hTe] at hr
  exact zV.runs hr (.inr rfl) hc rfl
 by_cases v1 : 0 < Jl m.value
 ·
  rw [show yC m = true from by simp [yC, v1]]
  conv at hr =>
   rhs
   rw [hTe]
   simp only [zV.code, zV.rs, zSs, reduceIte, Nat.reduceEqDiff, Int.reduceEq, Int.reduceLT, Int.reduceLE, Za, zJ, zN, wC g0, yj g0, decide_eq_false k4, decide_eq_false k5, decide_eq_false v0, c1, decide_eq_true v1]
  rw [hTe] at hr
  exact zV.runs hr (.inr rfl) hc rfl
 rw [show yC m = false from by simp [yC, v0, v1, hvote]]
 conv at hr =>
  rhs
  rw [hTe]
  simp only [zV.code, zV.rs, zSs, reduceIte, Nat.reduceEqDiff, Int.reduceEq, Int.reduceLT, Int.reduceLE, Za, zJ, zN, wC g0, yj g0, decide_eq_false k4, decide_eq_false k5, decide_eq_false v0, c1, decide_eq_false v1]
 rw [hTe] at hr
 exact zV.runs hr (.inr rfl) hc rfl
def wu (m : jI) : jI :=
 if m.kind = 0 then ⟨m.kind, m.frm, 0, 0, 0, 0, m.tx, bk0⟩
 else if m.kind = 1 then ⟨m.kind, m.frm, 0, 0, 0, 0, ⟨0, 0⟩, m.b⟩
 else if m.kind = 2 then ⟨m.kind, m.frm, 0, 0, m.value, 0, ⟨0, 0⟩, bk0⟩
 else if m.kind = 3 then ⟨m.kind, m.frm, m.index, m.view, m.value, m.prep, ⟨0, 0⟩, bk0⟩
 else if m.kind = 4 then ⟨m.kind, m.frm, m.index, m.view, m.value, 0, ⟨0, 0⟩, bk0⟩
 else if m.kind = 5 then ⟨m.kind, m.frm, m.index, m.view, m.value, 0, ⟨0, 0⟩, bk0⟩
 else ⟨m.kind, m.frm, m.index, 0, m.value, 0, ⟨0, 0⟩, bk0⟩
abbrev yL (S : zh) (q : Nat) (x : jI) : zh := (S.kills []).set q (.cells (fM x) (.own []) 0)
theorem jE (S : zh) (q : Nat) (x : jI) : (yL S q x).get q = some (.cells (fM x) (.own []) 0) := by rw [zh.wH, if_pos rfl]
theorem jM {S : zh} {q k : Nat} {x : jI} (h : k ≠ q) : (yL S q x).get k = S.get k := by rw [zh.wH, if_neg h]; rfl
theorem ZJ {S : zh} {q k o : Nat} {x y : jI} (h : S.get k = some (.cells (fM y) (.own []) 0)) (hk : k ≠ q) : qm (.pointer (some ⟨k, o, none⟩)) S (yL S q x) = true := by
 have hl : (yL S q x).log = q :: S.log := rfl
 simp only [qm, h, hl, List.length_cons, Nat.add_sub_cancel_left, List.take_succ_cons, List.take_zero]
 simp [hk]
section
variable {S : zh} {q : Nat} {x : jI}
theorem Yt (h : S.get q = some (.cells (fM x) (.own []) 0)) (y : jI) : jO Try.prog 30 (.pointer (some ⟨q, 0, none⟩)) (mv y) S = some (undef, yL S q y) := by
 rw [qV (x := mv y) (n := 13) h Ym (by rw [yU]; rfl) (by rw [yU, List.toList_toArray]; exact aiG y) (by simp [fM]), yU, List.toList_toArray]; rfl
theorem ae7 (h : S.get q = some (.cells (fM x) (.own []) 0)) (v : Int) : jO Try.prog 3 (.pointer (some ⟨q, 0 + 2, none⟩)) (.int .i64 v) S = some (undef, yL S q { x with index := v }) := by
 rw [qV (n := 1) h abn rfl rfl (by simp [fM])]; rfl
theorem aha (h : S.get q = some (.cells (fM x) (.own []) 0)) (v : Int) : jO Try.prog 3 (.pointer (some ⟨q, 0 + 3, none⟩)) (.int .i64 v) S = some (undef, yL S q { x with view := v }) := by
 rw [qV (n := 1) h abn rfl rfl (by simp [fM])]; rfl
theorem ado (h : S.get q = some (.cells (fM x) (.own []) 0)) (v : Int) : jO Try.prog 3 (.pointer (some ⟨q, 0 + 4, none⟩)) (.int .i64 v) S = some (undef, yL S q { x with value := v }) := by
 rw [qV (n := 1) h abn rfl rfl (by simp [fM])]; rfl
theorem aiM (h : S.get q = some (.cells (fM x) (.own []) 0)) (v : Int) : jO Try.prog 3 (.pointer (some ⟨q, 0 + 5, none⟩)) (.int .i64 v) S = some (undef, yL S q { x with prep := v }) := by
 rw [qV (n := 1) h abn rfl rfl (by simp [fM])]; rfl
theorem aiC (h : S.get q = some (.cells (fM x) (.own []) 0)) (t : TxV) : jO Try.prog 25 (.pointer (some ⟨q, 0 + 6, none⟩)) (tv t) S = some (undef, yL S q { x with tx := t }) := by
 rw [qV (n := 2) h xK rfl rfl (by simp [fM])]; rfl
theorem aia (h : S.get q = some (.cells (fM x) (.own []) 0)) (b : kP) : jO Try.prog 28 (.pointer (some ⟨q, 0 + 8, none⟩)) (bv b) S = some (undef, yL S q { x with b := b }) := by
 rw [qV (x := bv b) (n := 5) h xw (by rw [yU]; rfl) (by rw [yU, List.toList_toArray]; exact ab8 b) (by simp [fM]), yU, List.toList_toArray]; rfl
end
theorem zq.v0 {m : jI} (hm : m.Ok) (hk : m.kind = 0) (S : zh) : zM Try.prog O zq.id [mv m] S = some (mv (wu m), S) := by
 obtain ⟨T, hTe⟩ : ∃ T, T = (mv m :: undef :: undef :: undef :: undef :: undef :: undef :: undef :: undef :: undef :: undef :: undef :: undef :: undef :: undef :: undef :: undef :: undef :: undef :: undef :: undef :: undef :: undef :: undef :: undef :: undef :: undef :: undef :: undef :: undef :: undef :: undef :: undef :: undef :: undef :: undef :: undef :: undef :: undef :: undef :: undef :: undef :: undef :: undef :: undef :: undef :: []) := ⟨_, rfl⟩
 have hr : zu Try.prog O false zq.code T zh.empty = zu Try.prog O false zq.code T zh.empty := rfl
 obtain ⟨A1, hA1⟩ : ∃ A, A = (Wu m).push (.cells (fM m0) (.own []) 0) := ⟨_, rfl⟩
 have a1 : wG Try.prog 30 (Wu m) = some (.pointer (some ⟨1, 0, none⟩), A1) := by rw [hA1]; exact Yb _
 have p0 : A1.get 0 = some (.cells (fM m) (.own []) 0) := by rw [hA1]; kernel_rfl
 obtain ⟨A2, hA2⟩ : ∃ A, A = A1.push (.cells (fM m0) (.own []) 0) := ⟨_, rfl⟩
 have a2 : wG Try.prog 30 A1 = some (.pointer (some ⟨2, 0, none⟩), A2) := by rw [hA2, hA1]; exact Yb _
 have q0 : A2.get 0 = some (.cells (fM m) (.own []) 0) := by rw [hA2, hA1]; kernel_rfl
 have q1 : A2.get 1 = some (.cells (fM m0) (.own []) 0) := by rw [hA2, hA1]; kernel_rfl
 have q2 : A2.get 2 = some (.cells (fM m0) (.own []) 0) := by rw [hA2, hA1]; kernel_rfl
 have s0 : jO Try.prog 30 (.pointer (some ⟨2, 0, none⟩)) (.agg [Value.int .i64 m.kind, .int .i64 m.frm, .int .i64 0, .int .i64 0, .int .i64 0, .int .i64 0, .int .i64 0, .int .i64 0, .int .i64 0, .int .i64 0, .int .i64 0, .int .i64 0, .slice none 0 0].toArray) A2 = some (undef, yL A2 2 (⟨m.kind, m.frm, 0, 0, 0, 0, ⟨0, 0⟩, bk0⟩ : jI)) := Yt q2 (⟨m.kind, m.frm, 0, 0, 0, 0, ⟨0, 0⟩, bk0⟩ : jI)
 have b0 : (yL A2 2 (⟨m.kind, m.frm, 0, 0, 0, 0, ⟨0, 0⟩, bk0⟩ : jI)).get 0 = some (.cells (fM m) (.own []) 0) := (jM (by decide)).trans q0
 have b1 : (yL A2 2 (⟨m.kind, m.frm, 0, 0, 0, 0, ⟨0, 0⟩, bk0⟩ : jI)).get 1 = some (.cells (fM m0) (.own []) 0) := (jM (by decide)).trans q1
 have b2 := jE A2 2 (⟨m.kind, m.frm, 0, 0, 0, 0, ⟨0, 0⟩, bk0⟩ : jI)
 generalize hB0 : yL A2 2 (⟨m.kind, m.frm, 0, 0, 0, 0, ⟨0, 0⟩, bk0⟩ : jI) = B0 at s0 b0 b1 b2
 have s1 := aiC b2 m.tx
 have c1_0 : (yL B0 2 (⟨m.kind, m.frm, 0, 0, 0, 0, m.tx, bk0⟩ : jI)).get 0 = some (.cells (fM m) (.own []) 0) := (jM (by decide)).trans b0
 have c1_1 : (yL B0 2 (⟨m.kind, m.frm, 0, 0, 0, 0, m.tx, bk0⟩ : jI)).get 1 = some (.cells (fM m0) (.own []) 0) := (jM (by decide)).trans b1
 have c1_2 := jE B0 2 (⟨m.kind, m.frm, 0, 0, 0, 0, m.tx, bk0⟩ : jI)
 dsimp only at s1
 generalize hB1 : yL B0 2 (⟨m.kind, m.frm, 0, 0, 0, 0, m.tx, bk0⟩ : jI) = B1 at s1  c1_0 c1_1 c1_2
 have eb : (⟨m.kind, m.frm, 0, 0, 0, 0, m.tx, bk0⟩ : jI) = wu m := by simp [wu, hk]
 rw [eb] at c1_2
 have hbk : (wu m).b.k ≠ 2 := by simp [wu, hk]
 have ld := qC c1_2 hbk
 have sl := Yt c1_1 (wu m)
 have fin := qC (jE B1 1 (wu m)) hbk
 have hcb : (wu m).b.k ≤ 2 := by simp [wu, hk]
 conv at hr =>
  rhs
  rw [hTe]
  simp only [zq.code, zq.rs, zSs, reduceIte, Nat.reduceEqDiff, Int.reduceEq, Int.reduceLT, Int.reduceLE, Za, a1, a2, zJ, zU, wC p0, yR p0, yS (y0 := .int .i64 m.kind) (y1 := .int .i64 m.frm) rfl rfl, s0, wC b0, jm, s1, kU b0, decide_eq_true hk, vN, ld, sl]
 rw [hTe] at hr
 exact zq.runs hr (.inr rfl) fin (all1 (wI hm.b.okl.le)) (wI hcb)
theorem zq.v1 {m : jI} (hm : m.Ok) (hk : m.kind = 1) (S : zh) : zM Try.prog O zq.id [mv m] S = some (mv (wu m), S) := by
 obtain ⟨T, hTe⟩ : ∃ T, T = (mv m :: undef :: undef :: undef :: undef :: undef :: undef :: undef :: undef :: undef :: undef :: undef :: undef :: undef :: undef :: undef :: undef :: undef :: undef :: undef :: undef :: undef :: undef :: undef :: undef :: undef :: undef :: undef :: undef :: undef :: undef :: undef :: undef :: undef :: undef :: undef :: undef :: undef :: undef :: undef :: undef :: undef :: undef :: undef :: undef :: undef :: []) := ⟨_, rfl⟩
 have hr : zu Try.prog O false zq.code T zh.empty = zu Try.prog O false zq.code T zh.empty := rfl
 obtain ⟨A1, hA1⟩ : ∃ A, A = (Wu m).push (.cells (fM m0) (.own []) 0) := ⟨_, rfl⟩
 have a1 : wG Try.prog 30 (Wu m) = some (.pointer (some ⟨1, 0, none⟩), A1) := by rw [hA1]; exact Yb _
 have p0 : A1.get 0 = some (.cells (fM m) (.own []) 0) := by rw [hA1]; kernel_rfl
 obtain ⟨A2, hA2⟩ : ∃ A, A = A1.push (.cells (fM m0) (.own []) 0) := ⟨_, rfl⟩
 have a2 : wG Try.prog 30 A1 = some (.pointer (some ⟨2, 0, none⟩), A2) := by rw [hA2, hA1]; exact Yb _
 have q0 : A2.get 0 = some (.cells (fM m) (.own []) 0) := by rw [hA2, hA1]; kernel_rfl
 have q1 : A2.get 1 = some (.cells (fM m0) (.own []) 0) := by rw [hA2, hA1]; kernel_rfl
 have q2 : A2.get 2 = some (.cells (fM m0) (.own []) 0) := by rw [hA2, hA1]; kernel_rfl
 have s0 : jO Try.prog 30 (.pointer (some ⟨2, 0, none⟩)) (.agg [Value.int .i64 m.kind, .int .i64 m.frm, .int .i64 0, .int .i64 0, .int .i64 0, .int .i64 0, .int .i64 0, .int .i64 0, .int .i64 0, .int .i64 0, .int .i64 0, .int .i64 0, .slice none 0 0].toArray) A2 = some (undef, yL A2 2 (⟨m.kind, m.frm, 0, 0, 0, 0, ⟨0, 0⟩, bk0⟩ : jI)) := Yt q2 (⟨m.kind, m.frm, 0, 0, 0, 0, ⟨0, 0⟩, bk0⟩ : jI)
 have b0 : (yL A2 2 (⟨m.kind, m.frm, 0, 0, 0, 0, ⟨0, 0⟩, bk0⟩ : jI)).get 0 = some (.cells (fM m) (.own []) 0) := (jM (by decide)).trans q0
 have b1 : (yL A2 2 (⟨m.kind, m.frm, 0, 0, 0, 0, ⟨0, 0⟩, bk0⟩ : jI)).get 1 = some (.cells (fM m0) (.own []) 0) := (jM (by decide)).trans q1
 have b2 := jE A2 2 (⟨m.kind, m.frm, 0, 0, 0, 0, ⟨0, 0⟩, bk0⟩ : jI)
 generalize hB0 : yL A2 2 (⟨m.kind, m.frm, 0, 0, 0, 0, ⟨0, 0⟩, bk0⟩ : jI) = B0 at s0 b0 b1 b2
 have s1 := aia b2 m.b
 have c1_0 : (yL B0 2 (⟨m.kind, m.frm, 0, 0, 0, 0, ⟨0, 0⟩, m.b⟩ : jI)).get 0 = some (.cells (fM m) (.own []) 0) := (jM (by decide)).trans b0
 have c1_1 : (yL B0 2 (⟨m.kind, m.frm, 0, 0, 0, 0, ⟨0, 0⟩, m.b⟩ : jI)).get 1 = some (.cells (fM m0) (.own []) 0) := (jM (by decide)).trans b1
 have c1_2 := jE B0 2 (⟨m.kind, m.frm, 0, 0, 0, 0, ⟨0, 0⟩, m.b⟩ : jI)
 dsimp only at s1
 generalize hB1 : yL B0 2 (⟨m.kind, m.frm, 0, 0, 0, 0, ⟨0, 0⟩, m.b⟩ : jI) = B1 at s1  c1_0 c1_1 c1_2
 have eb : (⟨m.kind, m.frm, 0, 0, 0, 0, ⟨0, 0⟩, m.b⟩ : jI) = wu m := by simp [wu, hk]
 rw [eb] at c1_2
 have hbk : (wu m).b.k ≠ 2 := by simp [wu, hk, hm.b.ne]
 have ld := qC c1_2 hbk
 have sl := Yt c1_1 (wu m)
 have fin := qC (jE B1 1 (wu m)) hbk
 have hcb : (wu m).b.k ≤ 2 := by simp [wu, hk, hm.b.okl.le]
 conv at hr =>
  rhs
  rw [hTe]
  simp only [zq.code, zq.rs, zSs, reduceIte, Nat.reduceEqDiff, Int.reduceEq, Int.reduceLT, Int.reduceLE, Za, a1, a2, zJ, zU, wC p0, yR p0, yS (y0 := .int .i64 m.kind) (y1 := .int .i64 m.frm) rfl rfl, s0, wC b0, jq, s1, xk b0 hm.b.ne, decide_eq_false (show ¬ m.kind = 0 by omega), decide_eq_true hk, vN, ld, sl]
 rw [hTe] at hr
 exact zq.runs hr (.inr rfl) fin (all1 (wI hm.b.okl.le)) (wI hcb)
theorem zq.v2 {m : jI} (hm : m.Ok) (hk : m.kind = 2) (S : zh) : zM Try.prog O zq.id [mv m] S = some (mv (wu m), S) := by
 obtain ⟨T, hTe⟩ : ∃ T, T = (mv m :: undef :: undef :: undef :: undef :: undef :: undef :: undef :: undef :: undef :: undef :: undef :: undef :: undef :: undef :: undef :: undef :: undef :: undef :: undef :: undef :: undef :: undef :: undef :: undef :: undef :: undef :: undef :: undef :: undef :: undef :: undef :: undef :: undef :: undef :: undef :: undef :: undef :: undef :: undef :: undef :: undef :: undef :: undef :: undef :: undef :: []) := ⟨_, rfl⟩
 have hr : zu Try.prog O false zq.code T zh.empty = zu Try.prog O false zq.code T zh.empty := rfl
 obtain ⟨A1, hA1⟩ : ∃ A, A = (Wu m).push (.cells (fM m0) (.own []) 0) := ⟨_, rfl⟩
 have a1 : wG Try.prog 30 (Wu m) = some (.pointer (some ⟨1, 0, none⟩), A1) := by rw [hA1]; exact Yb _
 have p0 : A1.get 0 = some (.cells (fM m) (.own []) 0) := by rw [hA1]; kernel_rfl
 obtain ⟨A2, hA2⟩ : ∃ A, A = A1.push (.cells (fM m0) (.own []) 0) := ⟨_, rfl⟩
 have a2 : wG Try.prog 30 A1 = some (.pointer (some ⟨2, 0, none⟩), A2) := by rw [hA2, hA1]; exact Yb _
 have q0 : A2.get 0 = some (.cells (fM m) (.own []) 0) := by rw [hA2, hA1]; kernel_rfl
 have q1 : A2.get 1 = some (.cells (fM m0) (.own []) 0) := by rw [hA2, hA1]; kernel_rfl
 have q2 : A2.get 2 = some (.cells (fM m0) (.own []) 0) := by rw [hA2, hA1]; kernel_rfl
 have s0 : jO Try.prog 30 (.pointer (some ⟨2, 0, none⟩)) (.agg [Value.int .i64 m.kind, .int .i64 m.frm, .int .i64 0, .int .i64 0, .int .i64 0, .int .i64 0, .int .i64 0, .int .i64 0, .int .i64 0, .int .i64 0, .int .i64 0, .int .i64 0, .slice none 0 0].toArray) A2 = some (undef, yL A2 2 (⟨m.kind, m.frm, 0, 0, 0, 0, ⟨0, 0⟩, bk0⟩ : jI)) := Yt q2 (⟨m.kind, m.frm, 0, 0, 0, 0, ⟨0, 0⟩, bk0⟩ : jI)
 have b0 : (yL A2 2 (⟨m.kind, m.frm, 0, 0, 0, 0, ⟨0, 0⟩, bk0⟩ : jI)).get 0 = some (.cells (fM m) (.own []) 0) := (jM (by decide)).trans q0
 have b1 : (yL A2 2 (⟨m.kind, m.frm, 0, 0, 0, 0, ⟨0, 0⟩, bk0⟩ : jI)).get 1 = some (.cells (fM m0) (.own []) 0) := (jM (by decide)).trans q1
 have b2 := jE A2 2 (⟨m.kind, m.frm, 0, 0, 0, 0, ⟨0, 0⟩, bk0⟩ : jI)
 generalize hB0 : yL A2 2 (⟨m.kind, m.frm, 0, 0, 0, 0, ⟨0, 0⟩, bk0⟩ : jI) = B0 at s0 b0 b1 b2
 have s1 := ado b2 m.value
 have c1_0 : (yL B0 2 (⟨m.kind, m.frm, 0, 0, m.value, 0, ⟨0, 0⟩, bk0⟩ : jI)).get 0 = some (.cells (fM m) (.own []) 0) := (jM (by decide)).trans b0
 have c1_1 : (yL B0 2 (⟨m.kind, m.frm, 0, 0, m.value, 0, ⟨0, 0⟩, bk0⟩ : jI)).get 1 = some (.cells (fM m0) (.own []) 0) := (jM (by decide)).trans b1
 have c1_2 := jE B0 2 (⟨m.kind, m.frm, 0, 0, m.value, 0, ⟨0, 0⟩, bk0⟩ : jI)
 dsimp only at s1
 generalize hB1 : yL B0 2 (⟨m.kind, m.frm, 0, 0, m.value, 0, ⟨0, 0⟩, bk0⟩ : jI) = B1 at s1  c1_0 c1_1 c1_2
 have eb : (⟨m.kind, m.frm, 0, 0, m.value, 0, ⟨0, 0⟩, bk0⟩ : jI) = wu m := by simp [wu, hk]
 rw [eb] at c1_2
 have hbk : (wu m).b.k ≠ 2 := by simp [wu, hk]
 have ld := qC c1_2 hbk
 have sl := Yt c1_1 (wu m)
 have fin := qC (jE B1 1 (wu m)) hbk
 have hcb : (wu m).b.k ≤ 2 := by simp [wu, hk]
 conv at hr =>
  rhs
  rw [hTe]
  simp only [zq.code, zq.rs, zSs, reduceIte, Nat.reduceEqDiff, Int.reduceEq, Int.reduceLT, Int.reduceLE, Za, a1, a2, zJ, zU, wC p0, yR p0, yS (y0 := .int .i64 m.kind) (y1 := .int .i64 m.frm) rfl rfl, s0, wC b0, zN, s1, yj b0, decide_eq_false (show ¬ m.kind = 0 by omega), decide_eq_false (show ¬ m.kind = 1 by omega), decide_eq_true hk, vN, ld, sl]
 rw [hTe] at hr
 exact zq.runs hr (.inr rfl) fin (all1 (wI hm.b.okl.le)) (wI hcb)
theorem zq.v3 {m : jI} (hm : m.Ok) (hk : m.kind = 3) (S : zh) : zM Try.prog O zq.id [mv m] S = some (mv (wu m), S) := by
 obtain ⟨T, hTe⟩ : ∃ T, T = (mv m :: undef :: undef :: undef :: undef :: undef :: undef :: undef :: undef :: undef :: undef :: undef :: undef :: undef :: undef :: undef :: undef :: undef :: undef :: undef :: undef :: undef :: undef :: undef :: undef :: undef :: undef :: undef :: undef :: undef :: undef :: undef :: undef :: undef :: undef :: undef :: undef :: undef :: undef :: undef :: undef :: undef :: undef :: undef :: undef :: undef :: []) := ⟨_, rfl⟩
 have hr : zu Try.prog O false zq.code T zh.empty = zu Try.prog O false zq.code T zh.empty := rfl
 obtain ⟨A1, hA1⟩ : ∃ A, A = (Wu m).push (.cells (fM m0) (.own []) 0) := ⟨_, rfl⟩
 have a1 : wG Try.prog 30 (Wu m) = some (.pointer (some ⟨1, 0, none⟩), A1) := by rw [hA1]; exact Yb _
 have p0 : A1.get 0 = some (.cells (fM m) (.own []) 0) := by rw [hA1]; kernel_rfl
 obtain ⟨A2, hA2⟩ : ∃ A, A = A1.push (.cells (fM m0) (.own []) 0) := ⟨_, rfl⟩
 have a2 : wG Try.prog 30 A1 = some (.pointer (some ⟨2, 0, none⟩), A2) := by rw [hA2, hA1]; exact Yb _
 have q0 : A2.get 0 = some (.cells (fM m) (.own []) 0) := by rw [hA2, hA1]; kernel_rfl
 have q1 : A2.get 1 = some (.cells (fM m0) (.own []) 0) := by rw [hA2, hA1]; kernel_rfl
 have q2 : A2.get 2 = some (.cells (fM m0) (.own []) 0) := by rw [hA2, hA1]; kernel_rfl
 have s0 : jO Try.prog 30 (.pointer (some ⟨2, 0, none⟩)) (.agg [Value.int .i64 m.kind, .int .i64 m.frm, .int .i64 0, .int .i64 0, .int .i64 0, .int .i64 0, .int .i64 0, .int .i64 0, .int .i64 0, .int .i64 0, .int .i64 0, .int .i64 0, .slice none 0 0].toArray) A2 = some (undef, yL A2 2 (⟨m.kind, m.frm, 0, 0, 0, 0, ⟨0, 0⟩, bk0⟩ : jI)) := Yt q2 (⟨m.kind, m.frm, 0, 0, 0, 0, ⟨0, 0⟩, bk0⟩ : jI)
 have b0 : (yL A2 2 (⟨m.kind, m.frm, 0, 0, 0, 0, ⟨0, 0⟩, bk0⟩ : jI)).get 0 = some (.cells (fM m) (.own []) 0) := (jM (by decide)).trans q0
 have b1 : (yL A2 2 (⟨m.kind, m.frm, 0, 0, 0, 0, ⟨0, 0⟩, bk0⟩ : jI)).get 1 = some (.cells (fM m0) (.own []) 0) := (jM (by decide)).trans q1
 have b2 := jE A2 2 (⟨m.kind, m.frm, 0, 0, 0, 0, ⟨0, 0⟩, bk0⟩ : jI)
 generalize hB0 : yL A2 2 (⟨m.kind, m.frm, 0, 0, 0, 0, ⟨0, 0⟩, bk0⟩ : jI) = B0 at s0 b0 b1 b2
 have s1 := aiM b2 m.prep
 have c1_0 : (yL B0 2 (⟨m.kind, m.frm, 0, 0, 0, m.prep, ⟨0, 0⟩, bk0⟩ : jI)).get 0 = some (.cells (fM m) (.own []) 0) := (jM (by decide)).trans b0
 have c1_1 : (yL B0 2 (⟨m.kind, m.frm, 0, 0, 0, m.prep, ⟨0, 0⟩, bk0⟩ : jI)).get 1 = some (.cells (fM m0) (.own []) 0) := (jM (by decide)).trans b1
 have c1_2 := jE B0 2 (⟨m.kind, m.frm, 0, 0, 0, m.prep, ⟨0, 0⟩, bk0⟩ : jI)
 dsimp only at s1
 generalize hB1 : yL B0 2 (⟨m.kind, m.frm, 0, 0, 0, m.prep, ⟨0, 0⟩, bk0⟩ : jI) = B1 at s1  c1_0 c1_1 c1_2
 have s2 := aha c1_2 m.view
 have c2_0 : (yL B1 2 (⟨m.kind, m.frm, 0, m.view, 0, m.prep, ⟨0, 0⟩, bk0⟩ : jI)).get 0 = some (.cells (fM m) (.own []) 0) := (jM (by decide)).trans c1_0
 have c2_1 : (yL B1 2 (⟨m.kind, m.frm, 0, m.view, 0, m.prep, ⟨0, 0⟩, bk0⟩ : jI)).get 1 = some (.cells (fM m0) (.own []) 0) := (jM (by decide)).trans c1_1
 have c2_2 := jE B1 2 (⟨m.kind, m.frm, 0, m.view, 0, m.prep, ⟨0, 0⟩, bk0⟩ : jI)
 dsimp only at s2
 generalize hB2 : yL B1 2 (⟨m.kind, m.frm, 0, m.view, 0, m.prep, ⟨0, 0⟩, bk0⟩ : jI) = B2 at s2  c2_0 c2_1 c2_2
 have s3 := ae7 c2_2 m.index
 have sq := ZJ (o := 0 + 4) (x := (⟨m.kind, m.frm, m.index, m.view, 0, m.prep, ⟨0, 0⟩, bk0⟩ : jI)) c2_0 (show (0 : Nat) ≠ 2 by decide)
 have c3_0 : (yL B2 2 (⟨m.kind, m.frm, m.index, m.view, 0, m.prep, ⟨0, 0⟩, bk0⟩ : jI)).get 0 = some (.cells (fM m) (.own []) 0) := (jM (by decide)).trans c2_0
 have c3_1 : (yL B2 2 (⟨m.kind, m.frm, m.index, m.view, 0, m.prep, ⟨0, 0⟩, bk0⟩ : jI)).get 1 = some (.cells (fM m0) (.own []) 0) := (jM (by decide)).trans c2_1
 have c3_2 := jE B2 2 (⟨m.kind, m.frm, m.index, m.view, 0, m.prep, ⟨0, 0⟩, bk0⟩ : jI)
 dsimp only at s3
 generalize hB3 : yL B2 2 (⟨m.kind, m.frm, m.index, m.view, 0, m.prep, ⟨0, 0⟩, bk0⟩ : jI) = B3 at s3 sq c3_0 c3_1 c3_2
 have s4 := ado c3_2 m.value
 have c4_0 : (yL B3 2 (⟨m.kind, m.frm, m.index, m.view, m.value, m.prep, ⟨0, 0⟩, bk0⟩ : jI)).get 0 = some (.cells (fM m) (.own []) 0) := (jM (by decide)).trans c3_0
 have c4_1 : (yL B3 2 (⟨m.kind, m.frm, m.index, m.view, m.value, m.prep, ⟨0, 0⟩, bk0⟩ : jI)).get 1 = some (.cells (fM m0) (.own []) 0) := (jM (by decide)).trans c3_1
 have c4_2 := jE B3 2 (⟨m.kind, m.frm, m.index, m.view, m.value, m.prep, ⟨0, 0⟩, bk0⟩ : jI)
 dsimp only at s4
 generalize hB4 : yL B3 2 (⟨m.kind, m.frm, m.index, m.view, m.value, m.prep, ⟨0, 0⟩, bk0⟩ : jI) = B4 at s4  c4_0 c4_1 c4_2
 have eb : (⟨m.kind, m.frm, m.index, m.view, m.value, m.prep, ⟨0, 0⟩, bk0⟩ : jI) = wu m := by simp [wu, hk]
 rw [eb] at c4_2
 have hbk : (wu m).b.k ≠ 2 := by simp [wu, hk]
 have ld := qC c4_2 hbk
 have sl := Yt c4_1 (wu m)
 have fin := qC (jE B4 1 (wu m)) hbk
 have hcb : (wu m).b.k ≤ 2 := by simp [wu, hk]
 conv at hr =>
  rhs
  rw [hTe]
  simp only [zq.code, zq.rs, zSs, reduceIte, Nat.reduceEqDiff, Int.reduceEq, Int.reduceLT, Int.reduceLE, Za, a1, a2, zJ, zU, wC p0, yR p0, yS (y0 := .int .i64 m.kind) (y1 := .int .i64 m.frm) rfl rfl, s0, wC b0, jo, s1, kH b0, je, s2, qB b0, qB c1_0, jc, s3, sq, y8 c1_0, y8 c2_0, yj c2_0, zN, zN, s4, yj c2_0, yj c3_0, decide_eq_false (show ¬ m.kind = 0 by omega), decide_eq_false (show ¬ m.kind = 1 by omega), decide_eq_false (show ¬ m.kind = 2 by omega), decide_eq_true hk, vN, ld, sl]
 rw [hTe] at hr
 exact zq.runs hr (.inr rfl) fin (all1 (wI hm.b.okl.le)) (wI hcb)
theorem zq.v4 {m : jI} (hm : m.Ok) (hk : m.kind = 4) (S : zh) : zM Try.prog O zq.id [mv m] S = some (mv (wu m), S) := by
 obtain ⟨T, hTe⟩ : ∃ T, T = (mv m :: undef :: undef :: undef :: undef :: undef :: undef :: undef :: undef :: undef :: undef :: undef :: undef :: undef :: undef :: undef :: undef :: undef :: undef :: undef :: undef :: undef :: undef :: undef :: undef :: undef :: undef :: undef :: undef :: undef :: undef :: undef :: undef :: undef :: undef :: undef :: undef :: undef :: undef :: undef :: undef :: undef :: undef :: undef :: undef :: undef :: []) := ⟨_, rfl⟩
 have hr : zu Try.prog O false zq.code T zh.empty = zu Try.prog O false zq.code T zh.empty := rfl
 obtain ⟨A1, hA1⟩ : ∃ A, A = (Wu m).push (.cells (fM m0) (.own []) 0) := ⟨_, rfl⟩
 have a1 : wG Try.prog 30 (Wu m) = some (.pointer (some ⟨1, 0, none⟩), A1) := by rw [hA1]; exact Yb _
 have p0 : A1.get 0 = some (.cells (fM m) (.own []) 0) := by rw [hA1]; kernel_rfl
 obtain ⟨A2, hA2⟩ : ∃ A, A = A1.push (.cells (fM m0) (.own []) 0) := ⟨_, rfl⟩
 have a2 : wG Try.prog 30 A1 = some (.pointer (some ⟨2, 0, none⟩), A2) := by rw [hA2, hA1]; exact Yb _
 have q0 : A2.get 0 = some (.cells (fM m) (.own []) 0) := by rw [hA2, hA1]; kernel_rfl
 have q1 : A2.get 1 = some (.cells (fM m0) (.own []) 0) := by rw [hA2, hA1]; kernel_rfl
 have q2 : A2.get 2 = some (.cells (fM m0) (.own []) 0) := by rw [hA2, hA1]; kernel_rfl
 have s0 : jO Try.prog 30 (.pointer (some ⟨2, 0, none⟩)) (.agg [Value.int .i64 m.kind, .int .i64 m.frm, .int .i64 0, .int .i64 0, .int .i64 0, .int .i64 0, .int .i64 0, .int .i64 0, .int .i64 0, .int .i64 0, .int .i64 0, .int .i64 0, .slice none 0 0].toArray) A2 = some (undef, yL A2 2 (⟨m.kind, m.frm, 0, 0, 0, 0, ⟨0, 0⟩, bk0⟩ : jI)) := Yt q2 (⟨m.kind, m.frm, 0, 0, 0, 0, ⟨0, 0⟩, bk0⟩ : jI)
 have b0 : (yL A2 2 (⟨m.kind, m.frm, 0, 0, 0, 0, ⟨0, 0⟩, bk0⟩ : jI)).get 0 = some (.cells (fM m) (.own []) 0) := (jM (by decide)).trans q0
 have b1 : (yL A2 2 (⟨m.kind, m.frm, 0, 0, 0, 0, ⟨0, 0⟩, bk0⟩ : jI)).get 1 = some (.cells (fM m0) (.own []) 0) := (jM (by decide)).trans q1
 have b2 := jE A2 2 (⟨m.kind, m.frm, 0, 0, 0, 0, ⟨0, 0⟩, bk0⟩ : jI)
 generalize hB0 : yL A2 2 (⟨m.kind, m.frm, 0, 0, 0, 0, ⟨0, 0⟩, bk0⟩ : jI) = B0 at s0 b0 b1 b2
 have s1 := aha b2 m.view
 have c1_0 : (yL B0 2 (⟨m.kind, m.frm, 0, m.view, 0, 0, ⟨0, 0⟩, bk0⟩ : jI)).get 0 = some (.cells (fM m) (.own []) 0) := (jM (by decide)).trans b0
 have c1_1 : (yL B0 2 (⟨m.kind, m.frm, 0, m.view, 0, 0, ⟨0, 0⟩, bk0⟩ : jI)).get 1 = some (.cells (fM m0) (.own []) 0) := (jM (by decide)).trans b1
 have c1_2 := jE B0 2 (⟨m.kind, m.frm, 0, m.view, 0, 0, ⟨0, 0⟩, bk0⟩ : jI)
 dsimp only at s1
 generalize hB1 : yL B0 2 (⟨m.kind, m.frm, 0, m.view, 0, 0, ⟨0, 0⟩, bk0⟩ : jI) = B1 at s1  c1_0 c1_1 c1_2
 have s2 := ae7 c1_2 m.index
 have sq := ZJ (o := 0 + 4) (x := (⟨m.kind, m.frm, m.index, m.view, 0, 0, ⟨0, 0⟩, bk0⟩ : jI)) c1_0 (show (0 : Nat) ≠ 2 by decide)
 have c2_0 : (yL B1 2 (⟨m.kind, m.frm, m.index, m.view, 0, 0, ⟨0, 0⟩, bk0⟩ : jI)).get 0 = some (.cells (fM m) (.own []) 0) := (jM (by decide)).trans c1_0
 have c2_1 : (yL B1 2 (⟨m.kind, m.frm, m.index, m.view, 0, 0, ⟨0, 0⟩, bk0⟩ : jI)).get 1 = some (.cells (fM m0) (.own []) 0) := (jM (by decide)).trans c1_1
 have c2_2 := jE B1 2 (⟨m.kind, m.frm, m.index, m.view, 0, 0, ⟨0, 0⟩, bk0⟩ : jI)
 dsimp only at s2
 generalize hB2 : yL B1 2 (⟨m.kind, m.frm, m.index, m.view, 0, 0, ⟨0, 0⟩, bk0⟩ : jI) = B2 at s2 sq c2_0 c2_1 c2_2
 have s3 := ado c2_2 m.value
 have c3_0 : (yL B2 2 (⟨m.kind, m.frm, m.index, m.view, m.value, 0, ⟨0, 0⟩, bk0⟩ : jI)).get 0 = some (.cells (fM m) (.own []) 0) := (jM (by decide)).trans c2_0
 have c3_1 : (yL B2 2 (⟨m.kind, m.frm, m.index, m.view, m.value, 0, ⟨0, 0⟩, bk0⟩ : jI)).get 1 = some (.cells (fM m0) (.own []) 0) := (jM (by decide)).trans c2_1
 have c3_2 := jE B2 2 (⟨m.kind, m.frm, m.index, m.view, m.value, 0, ⟨0, 0⟩, bk0⟩ : jI)
 dsimp only at s3
 generalize hB3 : yL B2 2 (⟨m.kind, m.frm, m.index, m.view, m.value, 0, ⟨0, 0⟩, bk0⟩ : jI) = B3 at s3  c3_0 c3_1 c3_2
 have eb : (⟨m.kind, m.frm, m.index, m.view, m.value, 0, ⟨0, 0⟩, bk0⟩ : jI) = wu m := by simp [wu, hk]
 rw [eb] at c3_2
 have hbk : (wu m).b.k ≠ 2 := by simp [wu, hk]
 have ld := qC c3_2 hbk
 have sl := Yt c3_1 (wu m)
 have fin := qC (jE B3 1 (wu m)) hbk
 have hcb : (wu m).b.k ≤ 2 := by simp [wu, hk]
 conv at hr =>
  rhs
  rw [hTe]
  simp only [zq.code, zq.rs, zSs, reduceIte, Nat.reduceEqDiff, Int.reduceEq, Int.reduceLT, Int.reduceLE, Za, a1, a2, zJ, zU, wC p0, yR p0, yS (y0 := .int .i64 m.kind) (y1 := .int .i64 m.frm) rfl rfl, s0, wC b0, je, s1, qB b0, jc, s2, sq, y8 b0, y8 c1_0, yj c1_0, zN, zN, s3, yj c1_0, yj c2_0, decide_eq_false (show ¬ m.kind = 0 by omega), decide_eq_false (show ¬ m.kind = 1 by omega), decide_eq_false (show ¬ m.kind = 2 by omega), decide_eq_false (show ¬ m.kind = 3 by omega), decide_eq_true hk, decide_eq_false (show ¬ m.kind = 5 by omega), decide_eq_false (show ¬ m.kind = 6 by omega), vN, ld, sl]
 rw [hTe] at hr
 exact zq.runs hr (.inr rfl) fin (all1 (wI hm.b.okl.le)) (wI hcb)
theorem zq.v5 {m : jI} (hm : m.Ok) (hk : m.kind = 5) (S : zh) : zM Try.prog O zq.id [mv m] S = some (mv (wu m), S) := by
 obtain ⟨T, hTe⟩ : ∃ T, T = (mv m :: undef :: undef :: undef :: undef :: undef :: undef :: undef :: undef :: undef :: undef :: undef :: undef :: undef :: undef :: undef :: undef :: undef :: undef :: undef :: undef :: undef :: undef :: undef :: undef :: undef :: undef :: undef :: undef :: undef :: undef :: undef :: undef :: undef :: undef :: undef :: undef :: undef :: undef :: undef :: undef :: undef :: undef :: undef :: undef :: undef :: []) := ⟨_, rfl⟩
 have hr : zu Try.prog O false zq.code T zh.empty = zu Try.prog O false zq.code T zh.empty := rfl
 obtain ⟨A1, hA1⟩ : ∃ A, A = (Wu m).push (.cells (fM m0) (.own []) 0) := ⟨_, rfl⟩
 have a1 : wG Try.prog 30 (Wu m) = some (.pointer (some ⟨1, 0, none⟩), A1) := by rw [hA1]; exact Yb _
 have p0 : A1.get 0 = some (.cells (fM m) (.own []) 0) := by rw [hA1]; kernel_rfl
 obtain ⟨A2, hA2⟩ : ∃ A, A = A1.push (.cells (fM m0) (.own []) 0) := ⟨_, rfl⟩
 have a2 : wG Try.prog 30 A1 = some (.pointer (some ⟨2, 0, none⟩), A2) := by rw [hA2, hA1]; exact Yb _
 have q0 : A2.get 0 = some (.cells (fM m) (.own []) 0) := by rw [hA2, hA1]; kernel_rfl
 have q1 : A2.get 1 = some (.cells (fM m0) (.own []) 0) := by rw [hA2, hA1]; kernel_rfl
 have q2 : A2.get 2 = some (.cells (fM m0) (.own []) 0) := by rw [hA2, hA1]; kernel_rfl
 have s0 : jO Try.prog 30 (.pointer (some ⟨2, 0, none⟩)) (.agg [Value.int .i64 m.kind, .int .i64 m.frm, .int .i64 0, .int .i64 0, .int .i64 0, .int .i64 0, .int .i64 0, .int .i64 0, .int .i64 0, .int .i64 0, .int .i64 0, .int .i64 0, .slice none 0 0].toArray) A2 = some (undef, yL A2 2 (⟨m.kind, m.frm, 0, 0, 0, 0, ⟨0, 0⟩, bk0⟩ : jI)) := Yt q2 (⟨m.kind, m.frm, 0, 0, 0, 0, ⟨0, 0⟩, bk0⟩ : jI)
 have b0 : (yL A2 2 (⟨m.kind, m.frm, 0, 0, 0, 0, ⟨0, 0⟩, bk0⟩ : jI)).get 0 = some (.cells (fM m) (.own []) 0) := (jM (by decide)).trans q0
 have b1 : (yL A2 2 (⟨m.kind, m.frm, 0, 0, 0, 0, ⟨0, 0⟩, bk0⟩ : jI)).get 1 = some (.cells (fM m0) (.own []) 0) := (jM (by decide)).trans q1
 have b2 := jE A2 2 (⟨m.kind, m.frm, 0, 0, 0, 0, ⟨0, 0⟩, bk0⟩ : jI)
 generalize hB0 : yL A2 2 (⟨m.kind, m.frm, 0, 0, 0, 0, ⟨0, 0⟩, bk0⟩ : jI) = B0 at s0 b0 b1 b2
 have s1 := aha b2 m.view
 have c1_0 : (yL B0 2 (⟨m.kind, m.frm, 0, m.view, 0, 0, ⟨0, 0⟩, bk0⟩ : jI)).get 0 = some (.cells (fM m) (.own []) 0) := (jM (by decide)).trans b0
 have c1_1 : (yL B0 2 (⟨m.kind, m.frm, 0, m.view, 0, 0, ⟨0, 0⟩, bk0⟩ : jI)).get 1 = some (.cells (fM m0) (.own []) 0) := (jM (by decide)).trans b1
 have c1_2 := jE B0 2 (⟨m.kind, m.frm, 0, m.view, 0, 0, ⟨0, 0⟩, bk0⟩ : jI)
 dsimp only at s1
 generalize hB1 : yL B0 2 (⟨m.kind, m.frm, 0, m.view, 0, 0, ⟨0, 0⟩, bk0⟩ : jI) = B1 at s1  c1_0 c1_1 c1_2
 have s2 := ae7 c1_2 m.index
 have sq := ZJ (o := 0 + 4) (x := (⟨m.kind, m.frm, m.index, m.view, 0, 0, ⟨0, 0⟩, bk0⟩ : jI)) c1_0 (show (0 : Nat) ≠ 2 by decide)
 have c2_0 : (yL B1 2 (⟨m.kind, m.frm, m.index, m.view, 0, 0, ⟨0, 0⟩, bk0⟩ : jI)).get 0 = some (.cells (fM m) (.own []) 0) := (jM (by decide)).trans c1_0
 have c2_1 : (yL B1 2 (⟨m.kind, m.frm, m.index, m.view, 0, 0, ⟨0, 0⟩, bk0⟩ : jI)).get 1 = some (.cells (fM m0) (.own []) 0) := (jM (by decide)).trans c1_1
 have c2_2 := jE B1 2 (⟨m.kind, m.frm, m.index, m.view, 0, 0, ⟨0, 0⟩, bk0⟩ : jI)
 dsimp only at s2
 generalize hB2 : yL B1 2 (⟨m.kind, m.frm, m.index, m.view, 0, 0, ⟨0, 0⟩, bk0⟩ : jI) = B2 at s2 sq c2_0 c2_1 c2_2
 have s3 := ado c2_2 m.value
 have c3_0 : (yL B2 2 (⟨m.kind, m.frm, m.index, m.view, m.value, 0, ⟨0, 0⟩, bk0⟩ : jI)).get 0 = some (.cells (fM m) (.own []) 0) := (jM (by decide)).trans c2_0
 have c3_1 : (yL B2 2 (⟨m.kind, m.frm, m.index, m.view, m.value, 0, ⟨0, 0⟩, bk0⟩ : jI)).get 1 = some (.cells (fM m0) (.own []) 0) := (jM (by decide)).trans c2_1
 have c3_2 := jE B2 2 (⟨m.kind, m.frm, m.index, m.view, m.value, 0, ⟨0, 0⟩, bk0⟩ : jI)
 dsimp only at s3
 generalize hB3 : yL B2 2 (⟨m.kind, m.frm, m.index, m.view, m.value, 0, ⟨0, 0⟩, bk0⟩ : jI) = B3 at s3  c3_0 c3_1 c3_2
 have eb : (⟨m.kind, m.frm, m.index, m.view, m.value, 0, ⟨0, 0⟩, bk0⟩ : jI) = wu m := by simp [wu, hk]
 rw [eb] at c3_2
 have hbk : (wu m).b.k ≠ 2 := by simp [wu, hk]
 have ld := qC c3_2 hbk
 have sl := Yt c3_1 (wu m)
 have fin := qC (jE B3 1 (wu m)) hbk
 have hcb : (wu m).b.k ≤ 2 := by simp [wu, hk]
 conv at hr =>
  rhs
  rw [hTe]
  simp only [zq.code, zq.rs, zSs, reduceIte, Nat.reduceEqDiff, Int.reduceEq, Int.reduceLT, Int.reduceLE, Za, a1, a2, zJ, zU, wC p0, yR p0, yS (y0 := .int .i64 m.kind) (y1 := .int .i64 m.frm) rfl rfl, s0, wC b0, je, s1, qB b0, jc, s2, sq, y8 b0, y8 c1_0, yj c1_0, zN, zN, s3, yj c1_0, yj c2_0, decide_eq_false (show ¬ m.kind = 0 by omega), decide_eq_false (show ¬ m.kind = 1 by omega), decide_eq_false (show ¬ m.kind = 2 by omega), decide_eq_false (show ¬ m.kind = 3 by omega), decide_eq_false (show ¬ m.kind = 4 by omega), decide_eq_true hk, vN, ld, sl]
 rw [hTe] at hr
 exact zq.runs hr (.inr rfl) fin (all1 (wI hm.b.okl.le)) (wI hcb)
theorem zq.v6 {m : jI} (hm : m.Ok) (hk : m.kind = 6) (S : zh) : zM Try.prog O zq.id [mv m] S = some (mv (wu m), S) := by
 obtain ⟨T, hTe⟩ : ∃ T, T = (mv m :: undef :: undef :: undef :: undef :: undef :: undef :: undef :: undef :: undef :: undef :: undef :: undef :: undef :: undef :: undef :: undef :: undef :: undef :: undef :: undef :: undef :: undef :: undef :: undef :: undef :: undef :: undef :: undef :: undef :: undef :: undef :: undef :: undef :: undef :: undef :: undef :: undef :: undef :: undef :: undef :: undef :: undef :: undef :: undef :: undef :: []) := ⟨_, rfl⟩
 have hr : zu Try.prog O false zq.code T zh.empty = zu Try.prog O false zq.code T zh.empty := rfl
 obtain ⟨A1, hA1⟩ : ∃ A, A = (Wu m).push (.cells (fM m0) (.own []) 0) := ⟨_, rfl⟩
 have a1 : wG Try.prog 30 (Wu m) = some (.pointer (some ⟨1, 0, none⟩), A1) := by rw [hA1]; exact Yb _
 have p0 : A1.get 0 = some (.cells (fM m) (.own []) 0) := by rw [hA1]; kernel_rfl
 obtain ⟨A2, hA2⟩ : ∃ A, A = A1.push (.cells (fM m0) (.own []) 0) := ⟨_, rfl⟩
 have a2 : wG Try.prog 30 A1 = some (.pointer (some ⟨2, 0, none⟩), A2) := by rw [hA2, hA1]; exact Yb _
 have q0 : A2.get 0 = some (.cells (fM m) (.own []) 0) := by rw [hA2, hA1]; kernel_rfl
 have q1 : A2.get 1 = some (.cells (fM m0) (.own []) 0) := by rw [hA2, hA1]; kernel_rfl
 have q2 : A2.get 2 = some (.cells (fM m0) (.own []) 0) := by rw [hA2, hA1]; kernel_rfl
 have s0 : jO Try.prog 30 (.pointer (some ⟨2, 0, none⟩)) (.agg [Value.int .i64 m.kind, .int .i64 m.frm, .int .i64 0, .int .i64 0, .int .i64 0, .int .i64 0, .int .i64 0, .int .i64 0, .int .i64 0, .int .i64 0, .int .i64 0, .int .i64 0, .slice none 0 0].toArray) A2 = some (undef, yL A2 2 (⟨m.kind, m.frm, 0, 0, 0, 0, ⟨0, 0⟩, bk0⟩ : jI)) := Yt q2 (⟨m.kind, m.frm, 0, 0, 0, 0, ⟨0, 0⟩, bk0⟩ : jI)
 have b0 : (yL A2 2 (⟨m.kind, m.frm, 0, 0, 0, 0, ⟨0, 0⟩, bk0⟩ : jI)).get 0 = some (.cells (fM m) (.own []) 0) := (jM (by decide)).trans q0
 have b1 : (yL A2 2 (⟨m.kind, m.frm, 0, 0, 0, 0, ⟨0, 0⟩, bk0⟩ : jI)).get 1 = some (.cells (fM m0) (.own []) 0) := (jM (by decide)).trans q1
 have b2 := jE A2 2 (⟨m.kind, m.frm, 0, 0, 0, 0, ⟨0, 0⟩, bk0⟩ : jI)
 generalize hB0 : yL A2 2 (⟨m.kind, m.frm, 0, 0, 0, 0, ⟨0, 0⟩, bk0⟩ : jI) = B0 at s0 b0 b1 b2
 have s1 := ae7 b2 m.index
 have sq := ZJ (o := 0 + 4) (x := (⟨m.kind, m.frm, m.index, 0, 0, 0, ⟨0, 0⟩, bk0⟩ : jI)) b0 (show (0 : Nat) ≠ 2 by decide)
 have c1_0 : (yL B0 2 (⟨m.kind, m.frm, m.index, 0, 0, 0, ⟨0, 0⟩, bk0⟩ : jI)).get 0 = some (.cells (fM m) (.own []) 0) := (jM (by decide)).trans b0
 have c1_1 : (yL B0 2 (⟨m.kind, m.frm, m.index, 0, 0, 0, ⟨0, 0⟩, bk0⟩ : jI)).get 1 = some (.cells (fM m0) (.own []) 0) := (jM (by decide)).trans b1
 have c1_2 := jE B0 2 (⟨m.kind, m.frm, m.index, 0, 0, 0, ⟨0, 0⟩, bk0⟩ : jI)
 dsimp only at s1
 generalize hB1 : yL B0 2 (⟨m.kind, m.frm, m.index, 0, 0, 0, ⟨0, 0⟩, bk0⟩ : jI) = B1 at s1 sq c1_0 c1_1 c1_2
 have s2 := ado c1_2 m.value
 have c2_0 : (yL B1 2 (⟨m.kind, m.frm, m.index, 0, m.value, 0, ⟨0, 0⟩, bk0⟩ : jI)).get 0 = some (.cells (fM m) (.own []) 0) := (jM (by decide)).trans c1_0
 have c2_1 : (yL B1 2 (⟨m.kind, m.frm, m.index, 0, m.value, 0, ⟨0, 0⟩, bk0⟩ : jI)).get 1 = some (.cells (fM m0) (.own []) 0) := (jM (by decide)).trans c1_1
 have c2_2 := jE B1 2 (⟨m.kind, m.frm, m.index, 0, m.value, 0, ⟨0, 0⟩, bk0⟩ : jI)
 dsimp only at s2
 generalize hB2 : yL B1 2 (⟨m.kind, m.frm, m.index, 0, m.value, 0, ⟨0, 0⟩, bk0⟩ : jI) = B2 at s2  c2_0 c2_1 c2_2
 have eb : (⟨m.kind, m.frm, m.index, 0, m.value, 0, ⟨0, 0⟩, bk0⟩ : jI) = wu m := by simp [wu, hk]
 rw [eb] at c2_2
 have hbk : (wu m).b.k ≠ 2 := by simp [wu, hk]
 have ld := qC c2_2 hbk
 have sl := Yt c2_1 (wu m)
 have fin := qC (jE B2 1 (wu m)) hbk
 have hcb : (wu m).b.k ≤ 2 := by simp [wu, hk]
 conv at hr =>
  rhs
  rw [hTe]
  simp only [zq.code, zq.rs, zSs, reduceIte, Nat.reduceEqDiff, Int.reduceEq, Int.reduceLT, Int.reduceLE, Za, a1, a2, zJ, zU, wC p0, yR p0, yS (y0 := .int .i64 m.kind) (y1 := .int .i64 m.frm) rfl rfl, s0, wC b0, jc, s1, sq, y8 b0, yj b0, zN, zN, s2, yj b0, yj c1_0, decide_eq_false (show ¬ m.kind = 0 by omega), decide_eq_false (show ¬ m.kind = 1 by omega), decide_eq_false (show ¬ m.kind = 2 by omega), decide_eq_false (show ¬ m.kind = 3 by omega), decide_eq_false (show ¬ m.kind = 4 by omega), decide_eq_false (show ¬ m.kind = 5 by omega), decide_eq_true hk, vN, ld, sl]
 rw [hTe] at hr
 exact zq.runs hr (.inr rfl) fin (all1 (wI hm.b.okl.le)) (wI hcb)
theorem zq.v {m : jI} (hm : m.Ok) (h0 : 0 ≤ m.kind) (h6 : m.kind ≤ 6) (S : zh) : zM Try.prog O zq.id [mv m] S = some (mv (wu m), S) := by
 have : m.kind = 0 ∨ m.kind = 1 ∨ m.kind = 2 ∨ m.kind = 3 ∨ m.kind = 4 ∨ m.kind = 5 ∨ m.kind = 6 := by omega
 rcases this with h | h | h | h | h | h | h
 ·
  exact zq.v0 hm h S
 ·
  exact zq.v1 hm h S
 ·
  exact zq.v2 hm h S
 ·
  exact zq.v3 hm h S
 ·
  exact zq.v4 hm h S
 ·
  exact zq.v5 hm h S
 ·
  exact zq.v6 hm h S
end Go.Proofs.Ytbgcphbbchndkaa
namespace Go.Abs
open Go.RowKit
def gv (x b : Bool) (v : Value) : Value := if x = b then v else undef
theorem agu (x b : Bool) (v : Value) : dem (gv x b v) = gv x b (dem v) := by
 unfold gv; split
 ·
  rfl
 ·
  exact Yv
theorem YE {R : Type} {K : Value → zh → Option R} {p : Jb K} {m : M Value} {S : zh} (x b : Bool) : gdK (.bool x) b m S K p = if x = b then zA (m S) K p else K undef S := by
 cases x <;> cases b <;> rfl
section
variable {R : Type} {K : Value → zh → Option R} {p : Jb K} {S : zh} {x b c y z : Bool} {m m' : M Value} {P : Program} {O : Ora} {t : TypeId} {v w u : Value}
theorem wZ (h : x = b → m S = m' S) : gdK (.bool x) b m S K p = gdK (.bool x) b m' S K p := by
 rw [YE, YE]
 split
 ·
  rename_i hx; rw [h hx]
 ·
  rfl
theorem zI (h : m S = some (v, S)) : gdK (.bool x) b m S K p = K (gv x b v) S := by
 rw [YE]
 unfold gv
 split
 ·
  rw [h]; rfl
 ·
  rfl
theorem Zi (h : m S = some (v, S)) (hq : okq 3 v = true) : aeg (.bool x) b m S K p = K (gv x b v) S := by
 unfold gv
 cases x <;> cases b <;> first | rfl | (simp only [Vs, VP, h, YP, Wq hq, if_true])
theorem Zl (h : x = b) : gv x b v = v := if_pos h
theorem acS {fx : Bool} : gdK (.bool x) b (zO P fx t (gv x b v)) S K p = gdK (.bool x) b (zO P fx t v) S K p := wZ fun h => by rw [Zl h]
theorem WE {f : Nat} : gdK (.bool x) b (zo P t (gv x b v) f) S K p = gdK (.bool x) b (zo P t v f) S K p := wZ fun h => by rw [Zl h]
theorem YB : gdK (.bool x) b (Zo (gv x b v)) S K p = gdK (.bool x) b (Zo v) S K p := wZ fun h => by rw [Zl h]
theorem afV : gdK (.bool x) b (Jc P t (gv x b v)) S K p = gdK (.bool x) b (Jc P t v) S K p := wZ fun h => by rw [Zl h]
theorem JI : gdK (.bool x) b (zW P t (gv x b v) w) S K p = gdK (.bool x) b (zW P t v w) S K p := wZ fun h => by rw [Zl h]
theorem Jo : gdK (.bool x) b (zW P t v (gv x b w)) S K p = gdK (.bool x) b (zW P t v w) S K p := wZ fun h => by rw [Zl h]
theorem aic {op : UnOp} : gdK (.bool x) b (aUn P op (gv x b v)) S K p = gdK (.bool x) b (aUn P op v) S K p := wZ fun h => by rw [Zl h]
theorem acj {hp dr : Bool} {t2 : TypeId} : gdK (.bool x) b (ql P hp dr t t2 (gv x b v)) S K p = gdK (.bool x) b (ql P hp dr t t2 v) S K p := wZ fun h => by rw [Zl h]
theorem adS {op : BinOp} : gdK (.bool x) b (jZ P op t (gv x b v) w) S K p = gdK (.bool x) b (jZ P op t v w) S K p := wZ fun h => by rw [Zl h]
theorem acA {op : BinOp} : gdK (.bool x) b (jZ P op t v (gv x b w)) S K p = gdK (.bool x) b (jZ P op t v w) S K p := wZ fun h => by rw [Zl h]
theorem aaG {g : FuncId} {l : List Value} : gdK (.bool x) b (zM P O g (gv x b v :: l)) S K p = gdK (.bool x) b (zM P O g (v :: l)) S K p := wZ fun h => by rw [Zl h]
theorem V8 {g : FuncId} {l : List Value} : gdK (.bool x) b (zM P O g (u :: gv x b v :: l)) S K p = gdK (.bool x) b (zM P O g (u :: v :: l)) S K p := wZ fun h => by rw [Zl h]
theorem XA {g : FuncId} {l : List Value} : gdK (.bool x) b (ae8 (zM P O) g (gv x b v :: l)) S K p = gdK (.bool x) b (ae8 (zM P O) g (v :: l)) S K p := wZ fun h => by rw [Zl h]
theorem XF {g : FuncId} {l : List Value} : gdK (.bool x) b (ae8 (zM P O) g (u :: gv x b v :: l)) S K p = gdK (.bool x) b (ae8 (zM P O) g (u :: v :: l)) S K p := wZ fun h => by rw [Zl h]
theorem afL : gdK (.bool x) b (ret v) S K p = K (gv x b v) S := zI rfl
theorem aiA : gv x b (gv x b v) = gv x b v := by unfold gv; split <;> rfl
theorem aam : gdK (gv x c (.bool y)) b m S K p = gdK (.bool ((x == c) && (y == b))) true m S K p := by
 unfold gv
 cases x <;> cases c <;> cases y <;> cases b <;> rfl
theorem adf {fx : Bool} : gdK (.bool ((x == c) && (y == b))) true (zO P fx t (gv x c v)) S K p = gdK (.bool ((x == c) && (y == b))) true (zO P fx t v) S K p := wZ fun h => by rw [Zl (by simp at h; exact h.1)]
theorem ab1 {op : BinOp} : gdK (.bool ((x == c) && (y == b))) true (jZ P op t (gv x c v) w) S K p = gdK (.bool ((x == c) && (y == b))) true (jZ P op t v w) S K p := wZ fun h => by rw [Zl (by simp at h; exact h.1)]
theorem adJ {op : BinOp} : gdK (.bool ((x == c) && (y == b))) true (jZ P op t v (gv x c w)) S K p = gdK (.bool ((x == c) && (y == b))) true (jZ P op t v w) S K p := wZ fun h => by rw [Zl (by simp at h; exact h.1)]
theorem agp : gdK (.bool x) c (wY (gv x c (.bool y)) (.bool true) (gv ((x == c) && (y == false)) true (.bool z))) S K p = K (gv x c (.bool (y || z))) S := by
 unfold gv
 cases x <;> cases c <;> cases y <;> cases z <;> rfl
theorem adQ : gdK (.bool x) c (wY (gv x c (.bool y)) (gv ((x == c) && (y == true)) true (.bool z)) (.bool false)) S K p = K (gv x c (.bool (y && z))) S := by
 unfold gv
 cases x <;> cases c <;> cases y <;> cases z <;> rfl
theorem ait : (if x = true then Value.bool true else gv x false (.bool y)) = .bool (x || y) := by cases x <;> rfl
theorem agb : (if x = true then gv x true (.bool y) else Value.bool false) = .bool (x && y) := by cases x <;> rfl
theorem ahR : gv true true v = v := rfl
theorem ahY : gv false false v = v := rfl
theorem ah0 : gv true false v = undef := rfl
theorem ahS : gv false true v = undef := rfl
theorem afW {k : IntKind} {a d : Int} : gdK (.bool x) b (jZ P .lss t (.int k a) (.int k d)) S K p = K (gv x b (.bool (decide (a < d)))) S := zI (QS k a d)
theorem agm {k : IntKind} {a d : Int} : gdK (.bool x) b (jZ P .leq t (.int k a) (.int k d)) S K p = K (gv x b (.bool (decide (a ≤ d)))) S := zI (KL k a d)
theorem afJ {k : IntKind} {a d : Int} : gdK (.bool x) b (jZ P .gtr t (.int k a) (.int k d)) S K p = K (gv x b (.bool (decide (d < a)))) S := zI (QB k a d)
theorem af0 {k : IntKind} {a d : Int} : gdK (.bool x) b (jZ P .geq t (.int k a) (.int k d)) S K p = K (gv x b (.bool (decide (d ≤ a)))) S := zI (QW k a d)
theorem agt {k : IntKind} {a d : Int} : gdK (.bool x) b (jZ P .eql t (.int k a) (.int k d)) S K p = K (gv x b (.bool (decide (a = d)))) S := zI (QD k a d)
theorem agr {k : IntKind} {a d : Int} : gdK (.bool x) b (jZ P .neq t (.int k a) (.int k d)) S K p = K (gv x b (.bool (!decide (a = d)))) S := zI (KF k a d)
theorem afR {k : IntKind} {a d : Int} : gdK (.bool x) b (jZ P .add t (.int k a) (.int k d)) S K p = K (gv x b (.int k (k.wrap (a + d)))) S := zI (QK k a d)
theorem af7 {k : IntKind} {a d : Int} : gdK (.bool x) b (jZ P .sub t (.int k a) (.int k d)) S K p = K (gv x b (.int k (k.wrap (a - d)))) S := zI (Kt k a d)
theorem afQ : gdK (.bool x) b (aUn P .not (.bool y)) S K p = K (gv x b (.bool (!y))) S := zI (by cases y <;> rfl)
end
theorem gvw : type_of% (And.intro @agu (And.intro @acS (And.intro @WE (And.intro @YB (And.intro @afV (And.intro @JI (And.intro @Jo (And.intro @aic (And.intro @acj (And.intro @adS (And.intro @acA (And.intro @aaG (And.intro @V8 (And.intro @XA (And.intro @XF (And.intro @afL (And.intro @aiA (And.intro @aam (And.intro @adf (And.intro @ab1 (And.intro @adJ (And.intro @agp (And.intro @adQ (And.intro @ait (And.intro @agb (And.intro @ahR (And.intro @ahY (And.intro @ah0 (And.intro @ahS (And.intro @afW (And.intro @agm (And.intro @afJ (And.intro @af0 (And.intro @agt (And.intro @agr (And.intro @afR (And.intro @af7 @afQ))))))))))))))))))))))))))))))))))))) :=
 And.intro @agu (And.intro @acS (And.intro @WE (And.intro @YB (And.intro @afV (And.intro @JI (And.intro @Jo (And.intro @aic (And.intro @acj (And.intro @adS (And.intro @acA (And.intro @aaG (And.intro @V8 (And.intro @XA (And.intro @XF (And.intro @afL (And.intro @aiA (And.intro @aam (And.intro @adf (And.intro @ab1 (And.intro @adJ (And.intro @agp (And.intro @adQ (And.intro @ait (And.intro @agb (And.intro @ahR (And.intro @ahY (And.intro @ah0 (And.intro @ahS (And.intro @afW (And.intro @agm (And.intro @afJ (And.intro @af0 (And.intro @agt (And.intro @agr (And.intro @afR (And.intro @af7 @afQ))))))))))))))))))))))))))))))))))))
end Go.Abs
namespace Go.Proofs.Ytbgcphbbchndkaa
open Go.Abs
def nameB (n : Int) : Bool := decide (n = 0) || vW n
theorem ae1 (n : Int) : decide (0 < Jl n) = vW n := by
 rw [Bool.eq_iff_iff, decide_eq_true_eq]
 unfold Jl
 constructor
 ·
  intro h; split at h
  ·
   assumption
  ·
   omega
 ·
  intro h
  have := Zr.1 h
  rw [if_pos h]; omega
def adC (m : jI) : Bool := ((!decide (m.kind = 0) && !decide (m.tx = ⟨0, 0⟩)) || (!decide (m.kind = 1) && !Zm m.b bk0)) || (!decide (m.kind = 3) && !decide (m.prep = 0))
def adt (m : jI) : Bool := decide (0 ≤ m.index) && decide (m.index ≤ 1000)
def vwB (m : jI) : Bool := decide (0 ≤ m.view) && decide (m.view ≤ 1000)
def YD (m : jI) : Bool :=
 if m.kind = 0 then ((decide (m.index = 0) && decide (m.view = 0)) && decide (m.value = 0)) && yw m.tx
 else if m.kind = 1 then ((decide (m.index = 0) && decide (m.view = 0)) && decide (m.value = 0)) && jP m.b
 else if m.kind = 2 then (decide (m.index = 0) && decide (m.view = 0)) && nameB m.value
 else if m.kind = 3 then ((((adt m) && (vwB m)) && nameB m.value) && decide (-1 ≤ m.prep)) && decide (m.prep < m.view)
 else if m.kind = 4 ∨ m.kind = 5 then ((adt m) && (vwB m)) && (decide (m.value = -1) || nameB m.value)
 else if m.kind = 6 then ((adt m) && decide (m.view = 0)) && nameB m.value
 else false
def acw (m : jI) : Bool := if decide (m.frm < 0) || decide (6 < m.frm) then false else if adC m then false else YD m
theorem vH (m : jI) : okq 3 (mv m) = true := by
 have h := af4 (f := fT) (e := 2) (k := m.b.k) (l := m.b.txs) (d := 2)
 simp only [okq, List.toList_toArray, List.all_cons, List.all_nil, h, Bool.and_true]
def yH (m : jI) : Bool :=
 if m.kind < 0 ∨ 6 < m.kind then false
 else if (decide (m.frm < 0) || decide (7 ≤ m.frm)) || !Zn m (wu m) then false
 else if m.kind = 0 then yw m.tx
 else if m.kind = 1 then jP m.b
 else if m.kind = 3 ∧ (decide (m.prep < -1) || decide (m.view ≤ m.prep)) = true then false
 else (((decide (0 ≤ m.index) && decide (m.index ≤ 1000)) && decide (0 ≤ m.view)) && decide (m.view ≤ 1000)) && yC m
theorem agR {m : jI} (hm : m.Ok) : (wu m).Ok := by
 have z : Big 0 := ⟨by omega, by omega⟩
 have zt : TxV.Ok ⟨0, 0⟩ := ⟨z, z⟩
 unfold wu
 split
 ·
  exact ⟨ok0, hm.tx, hm.kind, hm.frm, z, z, z, z⟩
 split
 ·
  exact ⟨hm.b, zt, hm.kind, hm.frm, z, z, z, z⟩
 split
 ·
  exact ⟨ok0, zt, hm.kind, hm.frm, z, z, hm.value, z⟩
 split
 ·
  exact ⟨ok0, zt, hm.kind, hm.frm, hm.index, hm.view, hm.value, hm.prep⟩
 split
 ·
  exact ⟨ok0, zt, hm.kind, hm.frm, hm.index, hm.view, hm.value, z⟩
 split
 ·
  exact ⟨ok0, zt, hm.kind, hm.frm, hm.index, hm.view, hm.value, z⟩
 ·
  exact ⟨ok0, zt, hm.kind, hm.frm, hm.index, z, hm.value, z⟩
theorem zD.v {m : jI} (hm : m.Ok) (S : zh) : zM Try.prog O zD.id [mv m] S = some (.bool (yH m), S) := by
 obtain ⟨T, hTe⟩ : ∃ T, T = (mv m :: undef :: undef :: undef :: undef :: undef :: undef :: undef :: undef :: undef :: undef :: undef :: undef :: undef :: undef :: undef :: undef :: undef :: undef :: undef :: undef :: undef :: undef :: undef :: undef :: undef :: undef :: undef :: undef :: undef :: undef :: undef :: undef :: undef :: undef :: undef :: undef :: undef :: undef :: undef :: undef :: undef :: undef :: undef :: undef :: undef :: undef :: undef :: undef :: undef :: undef :: undef :: undef :: undef :: undef :: undef :: undef :: undef :: undef :: undef :: undef :: undef :: undef :: undef :: undef :: undef :: undef :: undef :: undef :: undef :: undef :: undef :: undef :: undef :: []) := ⟨_, rfl⟩
 have hr : zu Try.prog O false zD.code T zh.empty = zu Try.prog O false zD.code T zh.empty := rfl
 have g0 := JC m
 have c3 := fun S => wK.v m.tx S
 have c4 := fun S => zF.v hm.b S
 have c5 := fun S => zV.v hm S
 have hc : [mv m].all (jf 16) = true := all1 (wI hm.b.okl.le)
 unfold yH
 by_cases k0 : m.kind < 0
 ·
  rw [if_pos (.inl k0)]
  have e0 := decide_eq_true k0
  conv at hr =>
   rhs
   rw [hTe]
   simp only [zD.code, zD.rs, zSs, reduceIte, Nat.reduceEqDiff, Int.reduceEq, Int.reduceLT, Int.reduceLE, Za, zJ, zU, jc, je, zN, jo, jm, jq, wC g0, yR g0, y8 g0, qB g0, yj g0, kH g0, kU g0, xk g0 hm.b.ne, qC g0 hm.b.ne, zI (zJ _ _ _), zI (zU _ _ _), zI (jc _ _ _), zI (je _ _ _), zI (zN _ _ _), zI (jo _ _ _), zI (jm _ _ _), zI (jq _ _ _), zI (wC g0), zI (yR g0), zI (y8 g0), zI (qB g0), zI (yj g0), zI (kH g0), zI (kU g0), zI (xk g0 hm.b.ne), zI (qC g0 hm.b.ne), Zi (qC g0 hm.b.ne) (vH m), wM g0, gvw, e0]
  rw [hTe] at hr
  exact zD.runs hr (.inr rfl) hc rfl
 by_cases k6 : 6 < m.kind
 ·
  rw [if_pos (.inr k6)]
  have e0 := decide_eq_false k0
  have e6 := decide_eq_true k6
  conv at hr =>
   rhs
   rw [hTe]
   simp only [zD.code, zD.rs, zSs, reduceIte, Nat.reduceEqDiff, Int.reduceEq, Int.reduceLT, Int.reduceLE, Za, zJ, zU, jc, je, zN, jo, jm, jq, wC g0, yR g0, y8 g0, qB g0, yj g0, kH g0, kU g0, xk g0 hm.b.ne, qC g0 hm.b.ne, zI (zJ _ _ _), zI (zU _ _ _), zI (jc _ _ _), zI (je _ _ _), zI (zN _ _ _), zI (jo _ _ _), zI (jm _ _ _), zI (jq _ _ _), zI (wC g0), zI (yR g0), zI (y8 g0), zI (qB g0), zI (yj g0), zI (kH g0), zI (kU g0), zI (xk g0 hm.b.ne), zI (qC g0 hm.b.ne), Zi (qC g0 hm.b.ne) (vH m), wM g0, gvw, e0, e6]
  rw [hTe] at hr
  exact zD.runs hr (.inr rfl) hc rfl
 rw [if_neg (by omega)]
 have e0 := decide_eq_false k0
 have e6 := decide_eq_false k6
 have c1 := fun S => zq.v hm (by omega) (by omega) S
 have c2 := fun S => jk.v hm (agR hm) S
 obtain ⟨c, hc0⟩ : ∃ b, ((decide (m.frm < 0) || decide (7 ≤ m.frm)) || !Zn m (wu m)) = b := ⟨_, rfl⟩
 rw [hc0]
 cases c
 ·
  rw [if_neg (by decide)]
  by_cases z0 : m.kind = 0
  ·
   rw [if_pos z0]
   conv at hr =>
    rhs
    rw [hTe]
    simp only [zD.code, zD.rs, zSs, reduceIte, Nat.reduceEqDiff, Int.reduceEq, Int.reduceLT, Int.reduceLE, Za, zJ, zU, jc, je, zN, jo, jm, jq, wC g0, yR g0, y8 g0, qB g0, yj g0, kH g0, kU g0, xk g0 hm.b.ne, qC g0 hm.b.ne, zI (zJ _ _ _), zI (zU _ _ _), zI (jc _ _ _), zI (je _ _ _), zI (zN _ _ _), zI (jo _ _ _), zI (jm _ _ _), zI (jq _ _ _), zI (wC g0), zI (yR g0), zI (y8 g0), zI (qB g0), zI (yj g0), zI (kH g0), zI (kU g0), zI (xk g0 hm.b.ne), zI (qC g0 hm.b.ne), Zi (qC g0 hm.b.ne) (vH m), wM g0, gvw, e0, e6, c1, c2, zI (c1 _), zI (c2 _), hc0, decide_eq_true z0, c3]
   rw [hTe] at hr
   exact zD.runs hr (.inr rfl) hc rfl
  rw [if_neg z0]
  by_cases z1 : m.kind = 1
  ·
   rw [if_pos z1]
   conv at hr =>
    rhs
    rw [hTe]
    simp only [zD.code, zD.rs, zSs, reduceIte, Nat.reduceEqDiff, Int.reduceEq, Int.reduceLT, Int.reduceLE, Za, zJ, zU, jc, je, zN, jo, jm, jq, wC g0, yR g0, y8 g0, qB g0, yj g0, kH g0, kU g0, xk g0 hm.b.ne, qC g0 hm.b.ne, zI (zJ _ _ _), zI (zU _ _ _), zI (jc _ _ _), zI (je _ _ _), zI (zN _ _ _), zI (jo _ _ _), zI (jm _ _ _), zI (jq _ _ _), zI (wC g0), zI (yR g0), zI (y8 g0), zI (qB g0), zI (yj g0), zI (kH g0), zI (kU g0), zI (xk g0 hm.b.ne), zI (qC g0 hm.b.ne), Zi (qC g0 hm.b.ne) (vH m), wM g0, gvw, e0, e6, c1, c2, zI (c1 _), zI (c2 _), hc0, decide_eq_false z0, decide_eq_true z1, c4]
   rw [hTe] at hr
   exact zD.runs hr (.inr rfl) hc rfl
  rw [if_neg z1]
  by_cases z3 : m.kind = 3
  ·
   obtain ⟨d, hd0⟩ : ∃ b, (decide (m.prep < -1) || decide (m.view ≤ m.prep)) = b := ⟨_, rfl⟩
   rw [hd0]
   cases d
   ·
    rw [if_neg (by simp)]
    conv at hr =>
     rhs
     rw [hTe]
     simp only [zD.code, zD.rs, zSs, reduceIte, Nat.reduceEqDiff, Int.reduceEq, Int.reduceLT, Int.reduceLE, Za, zJ, zU, jc, je, zN, jo, jm, jq, wC g0, yR g0, y8 g0, qB g0, yj g0, kH g0, kU g0, xk g0 hm.b.ne, qC g0 hm.b.ne, zI (zJ _ _ _), zI (zU _ _ _), zI (jc _ _ _), zI (je _ _ _), zI (zN _ _ _), zI (jo _ _ _), zI (jm _ _ _), zI (jq _ _ _), zI (wC g0), zI (yR g0), zI (y8 g0), zI (qB g0), zI (yj g0), zI (kH g0), zI (kU g0), zI (xk g0 hm.b.ne), zI (qC g0 hm.b.ne), Zi (qC g0 hm.b.ne) (vH m), wM g0, gvw, e0, e6, c1, c2, zI (c1 _), zI (c2 _), hc0, decide_eq_false z0, decide_eq_false z1, decide_eq_true z3, hd0, c5, zI (c5 _)]
    rw [hTe] at hr
    exact zD.runs hr (.inr rfl) hc rfl
   ·
    rw [if_pos ⟨z3, rfl⟩]
    conv at hr =>
     rhs
     rw [hTe]
     simp only [zD.code, zD.rs, zSs, reduceIte, Nat.reduceEqDiff, Int.reduceEq, Int.reduceLT, Int.reduceLE, Za, zJ, zU, jc, je, zN, jo, jm, jq, wC g0, yR g0, y8 g0, qB g0, yj g0, kH g0, kU g0, xk g0 hm.b.ne, qC g0 hm.b.ne, zI (zJ _ _ _), zI (zU _ _ _), zI (jc _ _ _), zI (je _ _ _), zI (zN _ _ _), zI (jo _ _ _), zI (jm _ _ _), zI (jq _ _ _), zI (wC g0), zI (yR g0), zI (y8 g0), zI (qB g0), zI (yj g0), zI (kH g0), zI (kU g0), zI (xk g0 hm.b.ne), zI (qC g0 hm.b.ne), Zi (qC g0 hm.b.ne) (vH m), wM g0, gvw, e0, e6, c1, c2, zI (c1 _), zI (c2 _), hc0, decide_eq_false z0, decide_eq_false z1, decide_eq_true z3, hd0]
    rw [hTe] at hr
    exact zD.runs hr (.inr rfl) hc rfl
  rw [if_neg (fun h => z3 h.1)]
  conv at hr =>
   rhs
   rw [hTe]
   simp only [zD.code, zD.rs, zSs, reduceIte, Nat.reduceEqDiff, Int.reduceEq, Int.reduceLT, Int.reduceLE, Za, zJ, zU, jc, je, zN, jo, jm, jq, wC g0, yR g0, y8 g0, qB g0, yj g0, kH g0, kU g0, xk g0 hm.b.ne, qC g0 hm.b.ne, zI (zJ _ _ _), zI (zU _ _ _), zI (jc _ _ _), zI (je _ _ _), zI (zN _ _ _), zI (jo _ _ _), zI (jm _ _ _), zI (jq _ _ _), zI (wC g0), zI (yR g0), zI (y8 g0), zI (qB g0), zI (yj g0), zI (kH g0), zI (kU g0), zI (xk g0 hm.b.ne), zI (qC g0 hm.b.ne), Zi (qC g0 hm.b.ne) (vH m), wM g0, gvw, e0, e6, c1, c2, zI (c1 _), zI (c2 _), hc0, decide_eq_false z0, decide_eq_false z1, decide_eq_false z3, c5, zI (c5 _)]
  rw [hTe] at hr
  exact zD.runs hr (.inr rfl) hc rfl
 ·
  rw [if_pos rfl]
  conv at hr =>
   rhs
   rw [hTe]
   simp only [zD.code, zD.rs, zSs, reduceIte, Nat.reduceEqDiff, Int.reduceEq, Int.reduceLT, Int.reduceLE, Za, zJ, zU, jc, je, zN, jo, jm, jq, wC g0, yR g0, y8 g0, qB g0, yj g0, kH g0, kU g0, xk g0 hm.b.ne, qC g0 hm.b.ne, zI (zJ _ _ _), zI (zU _ _ _), zI (jc _ _ _), zI (je _ _ _), zI (zN _ _ _), zI (jo _ _ _), zI (jm _ _ _), zI (jq _ _ _), zI (wC g0), zI (yR g0), zI (y8 g0), zI (qB g0), zI (yj g0), zI (kH g0), zI (kU g0), zI (xk g0 hm.b.ne), zI (qC g0 hm.b.ne), Zi (qC g0 hm.b.ne) (vH m), wM g0, gvw, e0, e6, c1, c2, zI (c1 _), zI (c2 _), hc0]
  rw [hTe] at hr
  exact zD.runs hr (.inr rfl) hc rfl
theorem qQ (b : kP) : Zm b b = true := by simp [Zm]
theorem right_eq (m : jI) : yH m = acw m := by
 unfold yH acw adC
 by_cases hk : m.kind < 0 ∨ 6 < m.kind
 ·
  rw [if_pos hk]
  have : YD m = false := by simp only [YD, if_neg (show ¬ m.kind = 0 by omega), if_neg (show ¬ m.kind = 1 by omega), if_neg (show ¬ m.kind = 2 by omega), if_neg (show ¬ m.kind = 3 by omega), if_neg (show ¬ (m.kind = 4 ∨ m.kind = 5) by omega), if_neg (show ¬ m.kind = 6 by omega)]
  rw [this]
  simp
 rw [if_neg hk]
 by_cases f0 : m.frm < 0
 ·
  simp [f0]
 by_cases f7 : 6 < m.frm
 ·
  simp [f0, f7, show 7 ≤ m.frm by omega]
 have f8 : ¬ 7 ≤ m.frm := by omega
 have hv : decide (0 < Jl m.value) = vW m.value := ae1 m.value
 have : m.kind = 0 ∨ m.kind = 1 ∨ m.kind = 2 ∨ m.kind = 3 ∨ m.kind = 4 ∨ m.kind = 5 ∨ m.kind = 6 := by omega
 rcases this with h | h | h | h | h | h | h
 ·
  simp only [Zn, wu, YD, h, decide_true, decide_false, Bool.true_and, Bool.false_and, Bool.not_true, Bool.not_false, Int.reduceEq, Int.reduceLT, if_true, if_false, reduceIte, adt, vwB, yC, JV, nameB, hv, f0, f7, f8, or_true, true_or, or_false, false_or, or_self, Bool.or_false, Bool.false_or, qQ, false_and, true_and]
  grind
 ·
  simp only [Zn, wu, YD, h, decide_true, decide_false, Bool.true_and, Bool.false_and, Bool.not_true, Bool.not_false, Int.reduceEq, Int.reduceLT, if_true, if_false, reduceIte, adt, vwB, yC, JV, nameB, hv, f0, f7, f8, or_true, true_or, or_false, false_or, or_self, Bool.or_false, Bool.false_or, qQ, false_and, true_and]
  grind
 ·
  simp only [Zn, wu, YD, h, decide_true, decide_false, Bool.true_and, Bool.false_and, Bool.not_true, Bool.not_false, Int.reduceEq, Int.reduceLT, if_true, if_false, reduceIte, adt, vwB, yC, JV, nameB, hv, f0, f7, f8, or_true, true_or, or_false, false_or, or_self, Bool.or_false, Bool.false_or, qQ, false_and, true_and]
  grind
 ·
  simp only [Zn, wu, YD, h, decide_true, decide_false, Bool.true_and, Bool.false_and, Bool.not_true, Bool.not_false, Int.reduceEq, Int.reduceLT, if_true, if_false, reduceIte, adt, vwB, yC, JV, nameB, hv, f0, f7, f8, or_true, true_or, or_false, false_or, or_self, Bool.or_false, Bool.false_or, qQ, false_and, true_and]
  grind
 ·
  simp only [Zn, wu, YD, h, decide_true, decide_false, Bool.true_and, Bool.false_and, Bool.not_true, Bool.not_false, Int.reduceEq, Int.reduceLT, if_true, if_false, reduceIte, adt, vwB, yC, JV, nameB, hv, f0, f7, f8, or_true, true_or, or_false, false_or, or_self, Bool.or_false, Bool.false_or, qQ, false_and, true_and]
  grind
 ·
  simp only [Zn, wu, YD, h, decide_true, decide_false, Bool.true_and, Bool.false_and, Bool.not_true, Bool.not_false, Int.reduceEq, Int.reduceLT, if_true, if_false, reduceIte, adt, vwB, yC, JV, nameB, hv, f0, f7, f8, or_true, true_or, or_false, false_or, or_self, Bool.or_false, Bool.false_or, qQ, false_and, true_and]
  grind
 ·
  simp only [Zn, wu, YD, h, decide_true, decide_false, Bool.true_and, Bool.false_and, Bool.not_true, Bool.not_false, Int.reduceEq, Int.reduceLT, if_true, if_false, reduceIte, adt, vwB, yC, JV, nameB, hv, f0, f7, f8, or_true, true_or, or_false, false_or, or_self, Bool.or_false, Bool.false_or, qQ, false_and, true_and]
  grind
end Go.Proofs.Ytbgcphbbchndkaa
namespace Go.Proofs.Ytbgcphbbchndkaa
open Go.Abs
theorem aaQ {n : Int} (h : nameB n = true) : 0 ≤ n ∧ n ≤ 268435455 := by
 unfold nameB at h
 simp only [Bool.or_eq_true, decide_eq_true_eq] at h
 rcases h with h | h
 ·
  omega
 ·
  have := Zr.1 h; omega
structure Xo (m : jI) : Prop where
 kind : 0 ≤ m.kind ∧ m.kind ≤ 6
 frm : 0 ≤ m.frm ∧ m.frm ≤ 6
 index : 0 ≤ m.index ∧ m.index ≤ 1000
 view : 0 ≤ m.view ∧ m.view ≤ 1000
 value : -1 ≤ m.value ∧ m.value ≤ 268435455
 prep : -1 ≤ m.prep ∧ m.prep ≤ 1000
 tx : m.kind = 0 → yw m.tx = true
 blk : m.kind = 1 → jP m.b = true
 notx : m.kind ≠ 0 → m.tx = ⟨0, 0⟩
 noblk : m.kind ≠ 1 → Zm m.b bk0 = true
 noprep : m.kind ≠ 3 → m.prep = 0
theorem xO {m : jI} (h : yH m = true) : Xo m := by
 rw [right_eq] at h
 unfold acw at h
 split at h
 ·
  cases h
 rename_i hf
 split at h
 ·
  cases h
 rename_i ho
 simp only [Bool.or_eq_true, decide_eq_true_eq, not_or] at hf
 have ho : (m.kind ≠ 0 → m.tx = ⟨0, 0⟩) ∧ (m.kind ≠ 1 → Zm m.b bk0 = true) ∧ (m.kind ≠ 3 → m.prep = 0) := by
  unfold adC at ho
  simp only [Bool.or_eq_true, Bool.and_eq_true, Bool.not_eq_true', decide_eq_false_iff_not, not_or, not_and, Decidable.not_not, Bool.not_eq_false] at ho
  exact ⟨ho.1.1, ho.1.2, ho.2⟩
 unfold YD adt vwB at h
 have nr := fun hn => aaQ (n := m.value) hn
 have k : m.kind = 0 ∨ m.kind = 1 ∨ m.kind = 2 ∨ m.kind = 3 ∨ m.kind = 4 ∨ m.kind = 5 ∨ m.kind = 6 := by
  by_cases a : m.kind = 0 ∨ m.kind = 1 ∨ m.kind = 2 ∨ m.kind = 3 ∨ m.kind = 4 ∨ m.kind = 5 ∨ m.kind = 6
  ·
   exact a
  ·
   simp only [if_neg (show ¬ m.kind = 0 by omega), if_neg (show ¬ m.kind = 1 by omega), if_neg (show ¬ m.kind = 2 by omega), if_neg (show ¬ m.kind = 3 by omega), if_neg (show ¬ (m.kind = 4 ∨ m.kind = 5) by omega), if_neg (show ¬ m.kind = 6 by omega)] at h
   cases h
 rcases k with k | k | k | k | k | k | k
 ·
  simp only [k, Int.reduceEq, if_true, if_false, reduceIte, or_true, true_or, or_false, or_self, Bool.and_eq_true, Bool.or_eq_true, decide_eq_true_eq] at h
  have hp := ho.2.2
  have hv : -1 ≤ m.value ∧ m.value ≤ 268435455 := by grind
  refine ⟨by omega, by omega, by omega, by omega, hv, by grind, fun e => by grind, fun e => by grind, ho.1, ho.2.1, ho.2.2⟩
 ·
  simp only [k, Int.reduceEq, if_true, if_false, reduceIte, or_true, true_or, or_false, or_self, Bool.and_eq_true, Bool.or_eq_true, decide_eq_true_eq] at h
  have hp := ho.2.2
  have hv : -1 ≤ m.value ∧ m.value ≤ 268435455 := by grind
  refine ⟨by omega, by omega, by omega, by omega, hv, by grind, fun e => by grind, fun e => by grind, ho.1, ho.2.1, ho.2.2⟩
 ·
  simp only [k, Int.reduceEq, if_true, if_false, reduceIte, or_true, true_or, or_false, or_self, Bool.and_eq_true, Bool.or_eq_true, decide_eq_true_eq] at h
  have hp := ho.2.2
  have hv : -1 ≤ m.value ∧ m.value ≤ 268435455 := by grind
  refine ⟨by omega, by omega, by omega, by omega, hv, by grind, fun e => by grind, fun e => by grind, ho.1, ho.2.1, ho.2.2⟩
 ·
  simp only [k, Int.reduceEq, if_true, if_false, reduceIte, or_true, true_or, or_false, or_self, Bool.and_eq_true, Bool.or_eq_true, decide_eq_true_eq] at h
  have hp := ho.2.2
  have hv : -1 ≤ m.value ∧ m.value ≤ 268435455 := by grind
  refine ⟨by omega, by omega, by omega, by omega, hv, by grind, fun e => by grind, fun e => by grind, ho.1, ho.2.1, ho.2.2⟩
 ·
  simp only [k, Int.reduceEq, if_true, if_false, reduceIte, or_true, true_or, or_false, or_self, Bool.and_eq_true, Bool.or_eq_true, decide_eq_true_eq] at h
  have hp := ho.2.2
  have hv : -1 ≤ m.value ∧ m.value ≤ 268435455 := by grind
  refine ⟨by omega, by omega, by omega, by omega, hv, by grind, fun e => by grind, fun e => by grind, ho.1, ho.2.1, ho.2.2⟩
 ·
  simp only [k, Int.reduceEq, if_true, if_false, reduceIte, or_true, true_or, or_false, or_self, Bool.and_eq_true, Bool.or_eq_true, decide_eq_true_eq] at h
  have hp := ho.2.2
  have hv : -1 ≤ m.value ∧ m.value ≤ 268435455 := by grind
  refine ⟨by omega, by omega, by omega, by omega, hv, by grind, fun e => by grind, fun e => by grind, ho.1, ho.2.1, ho.2.2⟩
 ·
  simp only [k, Int.reduceEq, if_true, if_false, reduceIte, or_true, true_or, or_false, or_self, Bool.and_eq_true, Bool.or_eq_true, decide_eq_true_eq] at h
  have hp := ho.2.2
  have hv : -1 ≤ m.value ∧ m.value ≤ 268435455 := by grind
  refine ⟨by omega, by omega, by omega, by omega, hv, by grind, fun e => by grind, fun e => by grind, ho.1, ho.2.1, ho.2.2⟩
def xU (m : jI) : List UInt8 := if m.kind = 0 then txB m.tx else if m.kind = 1 then X5 m.b else []
def ZO (m : jI) : List Int := [m.kind, m.frm, m.index, m.view, m.value, m.prep]
def qE (m : jI) : List UInt8 := encs (ZO m) ++ xU m
def mkM (m : jI) : Nat := (Jf (abl m.frm) (qE m)).toNat
def KU (m : jI) : List UInt8 := enc (mkM m) ++ qE m
def Y0 (m : jI) : Value := if yH m then .tuple #[by_ 2 (KU m), .int .i64 0] else .tuple #[.slice none 0 0, .int .i64 121]
theorem aah (key : Int) (b : List UInt8) : 0 ≤ Jf key b ∧ Jf key b < 18446744073709551616 := afg _ _
theorem acV (key : Int) (b : List UInt8) : ((Jf key b).toNat : Int) = Jf key b := Int.toNat_of_nonneg (aah key b).1
theorem agI (key : Int) (b : List UInt8) : (Jf key b).toNat < 2 ^ 64 := by have := aah key b; omega
theorem YH {m : jI} (h : Xo m) : ∀ n ∈ ZO m, -1 ≤ n ∧ n ≤ 268435455 := by
 intro n hn
 have h1 := h.kind; have h2 := h.frm; have h3 := h.index; have h4 := h.view; have h5 := h.value; have h6 := h.prep
 simp only [ZO, List.mem_cons, List.not_mem_nil, or_false] at hn
 rcases hn with rfl | rfl | rfl | rfl | rfl | rfl <;> omega
theorem Ky {m : jI} (h : Xo m) : (encs (ZO m)).length ≤ 60 := by
 have h1 := YH h
 exact vS (l := ZO m) (fun n hn => by have := h1 n hn; omega)
theorem aaI {b : kP} (h : jP b = true) : (X5 b).length ≤ 140 := by
 have hh : headB b = true ∧ xG b.txs = true := by simpa [jP] using h
 unfold X5
 have := aaF hh.1; have := V9 hh.2
 rw [List.length_append]; omega
theorem aem {m : jI} (h : Xo m) : (xU m).length ≤ 140 := by
 unfold xU
 split
 ·
  rename_i h0; have := VD (h.tx h0); omega
 split
 ·
  rename_i h1; exact aaI (h.blk h1)
 ·
  simp
theorem QJ {m : jI} (h : Xo m) : (qE m).length ≤ 200 := by
 unfold qE; have := Ky h; have := aem h; rw [List.length_append]; omega
theorem bs6 (a b c d e f : Int) (S : zh) : jB Try.prog 57 6 [(0, .int .i64 a), (1, .int .i64 b), (2, .int .i64 c), (3, .int .i64 d), (4, .int .i64 e), (5, .int .i64 f)] S = some (iz 2 [a, b, c, d, e, f], S) := by kernel_rfl
theorem zQ.v {m : jI} (hm : m.Ok) (S : zh) : zM Try.prog O zQ.id [mv m] S = some (Y0 m, S) := by
 obtain ⟨T, hTe⟩ : ∃ T, T = (mv m :: undef :: undef :: undef :: undef :: undef :: undef :: undef :: undef :: undef :: undef :: undef :: undef :: undef :: undef :: undef :: undef :: undef :: undef :: undef :: undef :: undef :: undef :: undef :: undef :: undef :: undef :: undef :: undef :: undef :: undef :: undef :: undef :: undef :: undef :: undef :: undef :: undef :: undef :: undef :: undef :: undef :: undef :: undef :: undef :: undef :: undef :: undef :: undef :: undef :: undef :: undef :: undef :: undef :: undef :: undef :: undef :: undef :: undef :: undef :: undef :: undef :: undef :: []) := ⟨_, rfl⟩
 have hr : zu Try.prog O false zQ.code T zh.empty = zu Try.prog O false zQ.code T zh.empty := rfl
 have g0 := JC m
 have hc : [mv m].all (jf 16) = true := all1 (wI hm.b.okl.le)
 have c0 : ∀ S, zM Try.prog O 14 [mv m] S = some (.bool (yH m), S) := fun S => zD.v hm S
 unfold Y0
 cases hR : yH m
 ·
  rw [hR] at c0
  conv at hr =>
   rhs
   rw [hTe]
   simp only [zQ.code, zQ.rs, zSs, reduceIte, Nat.reduceEqDiff, Int.reduceEq, Int.reduceLT, Int.reduceLE, Za, zJ, zU, jc, je, zN, jo, jm, jq, wC g0, yR g0, y8 g0, qB g0, yj g0, kH g0, kU g0, xk g0 hm.b.ne, qC g0 hm.b.ne, c0]
  rw [hTe] at hr
  exact zQ.runs hr (.inr rfl) rfl rfl hc rfl
 ·
  rw [hR] at c0
  have hf := xO hR
  have few := YH hf
  have c2 : ∀ S, zM Try.prog O 32 [iz 1 [m.kind, m.frm, m.index, m.view, m.value, m.prep]] S = some (.tuple #[by_ 2 (encs (ZO m)), .int .i64 0], S) := fun S => by
   rw [zG.v (l := [m.kind, m.frm, m.index, m.view, m.value, m.prep]) Okl.read (by decide) (fun n hn => by have := few n hn; omega) S, WO (l := [m.kind, m.frm, m.index, m.view, m.value, m.prep]) (by simp) (fun n hn => (few n hn).1) (by simp)]; rfl
  have ck : ∀ S, zM Try.prog O 27 [.int .i64 m.frm] S = some (.int .u64 (abl m.frm), S) := fun S => yI.v m.frm S
  have cn : ∀ b S, zM Try.prog O 35 [.int .u64 (Jf (abl m.frm) b)] S = some (by_ 2 (enc (Jf (abl m.frm) b).toNat), S) := fun b S => by
   have := jA.v (Jf (abl m.frm) b).toNat (agI _ _) S
   rw [acV] at this
   exact this
  have a0 : ∀ S, wB Try.prog 23 23 (by_ 2 (enc (mkM m))) (by_ 1 (qE m)) S = some (by_ 2 (KU m), S) := fun S => by
   rw [qX Okl.own (by decide) Okl.read (by have := QJ hf; have := Zg (agI (abl m.frm) (qE m)); unfold mkM; omega)]; rfl
  have em : enc (Jf (abl m.frm) (qE m)).toNat = enc (mkM m) := rfl
  have cof : ∀ S, zM Try.prog O 36 [.int .u64 (abl m.frm), sv 1 1 1 [by_ 1 (qE m)]] S = some (.int .u64 (Jf (abl m.frm) (qE m)), S) := fun S => zZ.v (by have := QJ hf; omega) S
  have hcv : jf 16 (.tuple #[by_ 2 (KU m), .int .i64 0]) = true := wU (all2 (y7 (k := 2) (Nat.le_refl 2)) rfl)
  by_cases k0 : m.kind = 0
  ·
   have c3 : ∀ S, zM Try.prog O 33 [tv m.tx] S = some (.tuple #[by_ 2 (txB m.tx), .int .i64 0], S) := fun S => by
    rw [jV.v m.tx S, ahZ, if_pos (hf.tx k0)]
   have a1 : ∀ S, wB Try.prog 23 23 (by_ 2 (encs (ZO m))) (by_ 1 (txB m.tx)) S = some (by_ 2 (qE m), S) := fun S => by
    rw [qX Okl.own (by decide) Okl.read (by have := Ky hf; have := VD (hf.tx k0); omega)]
    rw [if_neg (by omega)]; simp only [qE, xU, if_pos k0]
   conv at hr =>
    rhs
    rw [hTe]
    simp only [zQ.code, zQ.rs, zSs, reduceIte, Nat.reduceEqDiff, Int.reduceEq, Int.reduceLT, Int.reduceLE, Za, zJ, zU, jc, je, zN, jo, jm, jq, wC g0, yR g0, y8 g0, qB g0, yj g0, kH g0, kU g0, xk g0 hm.b.ne, qC g0 hm.b.ne, c0, bs6, c2, decide_eq_true k0, c3, a1, ck, WS, cof, cn, em, a0]
   rw [hTe] at hr
   exact zQ.runs hr (.inr rfl) (by simp only [List.getD_cons_succ, List.getD_cons_zero, jL, jF, jh, jv, jG]) rfl hc hcv
  by_cases k1 : m.kind = 1
  ·
   have c3 : ∀ S, zM Try.prog O 34 [bv m.b] S = some (.tuple #[by_ 2 (X5 m.b), .int .i64 0], S) := fun S => by
    rw [zY.v hm.b S, agO, if_pos (hf.blk k1)]
   have a1 : ∀ S, wB Try.prog 23 23 (by_ 2 (encs (ZO m))) (by_ 1 (X5 m.b)) S = some (by_ 2 (qE m), S) := fun S => by
    rw [qX Okl.own (by decide) Okl.read (by have := Ky hf; have := aaI (hf.blk k1); omega)]
    rw [if_neg (by omega)]; simp only [qE, xU, if_neg k0, if_pos k1]
   conv at hr =>
    rhs
    rw [hTe]
    simp only [zQ.code, zQ.rs, zSs, reduceIte, Nat.reduceEqDiff, Int.reduceEq, Int.reduceLT, Int.reduceLE, Za, zJ, zU, jc, je, zN, jo, jm, jq, wC g0, yR g0, y8 g0, qB g0, yj g0, kH g0, kU g0, xk g0 hm.b.ne, qC g0 hm.b.ne, c0, bs6, c2, decide_eq_false k0, decide_eq_true k1, c3, a1, ck, WS, cof, cn, em, a0]
   rw [hTe] at hr
   exact zQ.runs hr (.inr rfl) (by simp only [List.getD_cons_succ, List.getD_cons_zero, jL, jF, jh, jv, jG]) rfl hc hcv
  have eb : encs (ZO m) = qE m := by simp only [qE, xU, if_neg k0, if_neg k1, List.append_nil]
  conv at hr =>
   rhs
   rw [hTe]
   simp only [zQ.code, zQ.rs, zSs, reduceIte, Nat.reduceEqDiff, Int.reduceEq, Int.reduceLT, Int.reduceLE, Za, zJ, zU, jc, je, zN, jo, jm, jq, wC g0, yR g0, y8 g0, qB g0, yj g0, kH g0, kU g0, xk g0 hm.b.ne, qC g0 hm.b.ne, c0, bs6, c2, decide_eq_false k0, decide_eq_false k1, eb, ck, WS, cof, cn, em, a0]
  rw [hTe] at hr
  exact zQ.runs hr (.inr rfl) (by simp only [List.getD_cons_succ, List.getD_cons_zero, jL, jF, jh, jv, jG]) rfl hc hcv
end Go.Proofs.Ytbgcphbbchndkaa
namespace Go.Proofs.Ytbgcphbbchndkaa
open Go.Abs
theorem vk {a b : kP} : Zm a b = true ↔ a.slot = b.slot ∧ a.miner = b.miner ∧ a.variant = b.variant ∧ a.parent = b.parent ∧ a.txs = b.txs := by
 simp [Zm]
theorem QC {m : jI} {b : kP} (h : Zm m.b b = true) : yH { m with b := b } = yH m := by
 rw [right_eq, right_eq]
 obtain ⟨k, f, i, v, w, p, t, c⟩ := m
 obtain ⟨c1, c2, c3, c4, c5, c6⟩ := c
 obtain ⟨b1, b2, b3, b4, b5, b6⟩ := b
 obtain ⟨e1, e2, e3, e4, e5⟩ := vk.1 h
 dsimp only at e1 e2 e3 e4 e5
 subst e1 e2 e3 e4 e5
 rfl
theorem ahy (l : List UInt8) : wJ 6 l = none ∨ ∃ a b c d e f r, wJ 6 l = some ([a, b, c, d, e, f], r) ∧ r.length ≤ l.length := by
 cases h : wJ 6 l with
 | none => exact .inl rfl
 | some ar =>
  obtain ⟨a, r⟩ := ar
  obtain ⟨h1, h2⟩ := ZA h
  match a, h1 with
  | [x, y, z, w, u, v], _ => exact .inr ⟨x, y, z, w, u, v, r, rfl, h2⟩
theorem JA {x : jI} (hx : yH x = true) : wJ 6 (qE x) = some (ZO x, xU x) := by
 have f1 := YH (xO hx)
 exact (wE _ _ _ _).mpr ⟨rfl, rfl, fun n hn => by have := f1 n hn; unfold Few; omega⟩
theorem Yw {l r : List UInt8} {a b c d e f : Int} (h : wJ 6 l = some ([a, b, c, d, e, f], r)) {x : jI} (hx : yH x = true) (hl : l = qE x) :
  x.kind = a ∧ x.frm = b ∧ x.index = c ∧ x.view = d ∧ x.value = e ∧ x.prep = f ∧ xU x = r := by
 have := JA hx
 rw [← hl, h] at this
 simp only [Option.some.injEq, Prod.mk.injEq, ZO, List.cons.injEq, and_true] at this
 obtain ⟨⟨h1, h2, h3, h4, h5, h6⟩, h7⟩ := this
 exact ⟨h1.symm, h2.symm, h3.symm, h4.symm, h5.symm, h6.symm, h7.symm⟩
def Z9 (l : List UInt8) (m : jI) (ok : Bool) : Prop := m.Ok ∧ m.b.txs.length ≤ 3 ∧ ((ok = true ∧ yH m = true ∧ l = qE m) ∨ (ok = false ∧ ∀ x, yH x = true → l ≠ qE x))
theorem YV : m0.Ok := by
 have z : Big 0 := ⟨by omega, by omega⟩
 exact ⟨ok0, ⟨z, z⟩, z, z, z, z, z, z⟩
theorem wL {n : Int} (h : Few n) : Big n := by unfold Few at h; unfold Big; omega
theorem aeo {t : TxV} (h : yw t = true) : t.Ok := by
 have := qG.1 h
 exact ⟨⟨by omega, by omega⟩, ⟨by omega, by omega⟩⟩
section
variable {l r : List UInt8} {a b c d e f : Int}
theorem aeG {t : TxV} (h : wJ 6 l = some ([a, b, c, d, e, f], r)) (ha : a = 0) (ht : acd r = some t) : Z9 l ⟨a, b, c, d, e, f, t, bk0⟩ (yH ⟨a, b, c, d, e, f, t, bk0⟩) := by
 obtain ⟨_, g2, few⟩ := (wE _ _ _ _).mp h
 obtain ⟨t1, t2⟩ := (JQ r t).1 ht
 refine ⟨⟨ok0, aeo t1, wL (few _ (by simp)), wL (few _ (by simp)), wL (few _ (by simp)), wL (few _ (by simp)), wL (few _ (by simp)), wL (few _ (by simp))⟩, by simp, ?_⟩
 cases hR : yH ⟨a, b, c, d, e, f, t, bk0⟩
 ·
  refine .inr ⟨rfl, fun x hx hl => ?_⟩
  obtain ⟨i1, i2, i3, i4, i5, i6, i7⟩ := Yw h hx hl
  have hf := xO hx
  have k0 : x.kind = 0 := by omega
  have h3 := (JQ r x.tx).2 ⟨hf.tx k0, by rw [← i7, xU, if_pos k0]⟩
  rw [ht] at h3
  have := QC (m := x) (b := bk0) (hf.noblk (by omega))
  rw [hx] at this
  have e : ({ x with b := bk0 } : jI) = ⟨a, b, c, d, e, f, t, bk0⟩ := mk_eq i1 i2 i3 i4 i5 i6 (by injection h3 with h3; exact h3.symm) rfl
  rw [e, hR] at this
  cases this
 ·
  refine .inl ⟨rfl, rfl, ?_⟩
  rw [g2, t2]
  simp only [qE, ZO, xU, if_pos ha]
theorem acJ {t : TxV} (h : wJ 6 l = some ([a, b, c, d, e, f], r)) (ha : a = 0) (ht : acd r = none) : Z9 l ⟨a, b, c, d, e, f, ⟨0, 0⟩, bk0⟩ false := by
 obtain ⟨_, g2, few⟩ := (wE _ _ _ _).mp h
 refine ⟨⟨ok0, YV.tx, wL (few _ (by simp)), wL (few _ (by simp)), wL (few _ (by simp)), wL (few _ (by simp)), wL (few _ (by simp)), wL (few _ (by simp))⟩, by simp, .inr ⟨rfl, fun x hx hl => ?_⟩⟩
 obtain ⟨i1, i2, i3, i4, i5, i6, i7⟩ := Yw h hx hl
 have k0 : x.kind = 0 := by omega
 have h3 := (JQ r x.tx).2 ⟨(xO hx).tx k0, by rw [← i7, xU, if_pos k0]⟩
 rw [ht] at h3
 cases h3
theorem afB {y : kP} (h : wJ 6 l = some ([a, b, c, d, e, f], r)) (ha : a = 1) (hy : y.Ok) (hy3 : y.txs.length ≤ 3) (hb : aec r = some ⟨y.slot, y.miner, y.variant, y.parent, 0, y.txs⟩) : Z9 l ⟨a, b, c, d, e, f, ⟨0, 0⟩, y⟩ (yH ⟨a, b, c, d, e, f, ⟨0, 0⟩, y⟩) := by
 obtain ⟨_, g2, few⟩ := (wE _ _ _ _).mp h
 obtain ⟨⟨t1, _⟩, t2⟩ := (Jg r _).1 hb
 refine ⟨⟨hy, YV.tx, wL (few _ (by simp)), wL (few _ (by simp)), wL (few _ (by simp)), wL (few _ (by simp)), wL (few _ (by simp)), wL (few _ (by simp))⟩, hy3, ?_⟩
 cases hR : yH ⟨a, b, c, d, e, f, ⟨0, 0⟩, y⟩
 ·
  refine .inr ⟨rfl, fun x hx hl => ?_⟩
  obtain ⟨i1, i2, i3, i4, i5, i6, i7⟩ := Yw h hx hl
  have hf := xO hx
  have k1 : x.kind = 1 := by omega
  have h3 := (Jg r ⟨x.b.slot, x.b.miner, x.b.variant, x.b.parent, 0, x.b.txs⟩).2 ⟨⟨hf.blk k1, rfl⟩, by rw [← i7, xU, if_neg (by omega), if_pos k1]; rfl⟩
  rw [hb] at h3
  simp only [Option.some.injEq, kP.mk.injEq, true_and] at h3
  have := QC (m := x) (b := y) (vk.2 ⟨h3.1.symm, h3.2.1.symm, h3.2.2.1.symm, h3.2.2.2.1.symm, h3.2.2.2.2.symm⟩)
  rw [hx] at this
  have e : ({ x with b := y } : jI) = ⟨a, b, c, d, e, f, ⟨0, 0⟩, y⟩ := mk_eq i1 i2 i3 i4 i5 i6 (hf.notx (by omega)) rfl
  rw [e, hR] at this
  cases this
 ·
  refine .inl ⟨rfl, rfl, ?_⟩
  rw [g2, t2]
  simp only [qE, ZO, xU, if_pos ha, if_neg (show ¬ a = 0 by omega)]
  rfl
theorem adV (h : wJ 6 l = some ([a, b, c, d, e, f], r)) (ha : a = 1) (hb : aec r = none) : Z9 l ⟨a, b, c, d, e, f, ⟨0, 0⟩, bk0⟩ false := by
 obtain ⟨_, g2, few⟩ := (wE _ _ _ _).mp h
 refine ⟨⟨ok0, YV.tx, wL (few _ (by simp)), wL (few _ (by simp)), wL (few _ (by simp)), wL (few _ (by simp)), wL (few _ (by simp)), wL (few _ (by simp))⟩, by simp, .inr ⟨rfl, fun x hx hl => ?_⟩⟩
 obtain ⟨i1, i2, i3, i4, i5, i6, i7⟩ := Yw h hx hl
 have k1 : x.kind = 1 := by omega
 have h3 := (Jg r ⟨x.b.slot, x.b.miner, x.b.variant, x.b.parent, 0, x.b.txs⟩).2 ⟨⟨(xO hx).blk k1, rfl⟩, by rw [← i7, xU, if_neg (by omega), if_pos k1]; rfl⟩
 rw [hb] at h3
 cases h3
theorem afE (h : wJ 6 l = some ([a, b, c, d, e, f], r)) (h0 : a ≠ 0) (h1 : a ≠ 1) : Z9 l ⟨a, b, c, d, e, f, ⟨0, 0⟩, bk0⟩ (decide ((r.length : Int) = 0) && yH ⟨a, b, c, d, e, f, ⟨0, 0⟩, bk0⟩) := by
 obtain ⟨_, g2, few⟩ := (wE _ _ _ _).mp h
 refine ⟨⟨ok0, YV.tx, wL (few _ (by simp)), wL (few _ (by simp)), wL (few _ (by simp)), wL (few _ (by simp)), wL (few _ (by simp)), wL (few _ (by simp))⟩, by simp, ?_⟩
 cases hR : (decide ((r.length : Int) = 0) && yH ⟨a, b, c, d, e, f, ⟨0, 0⟩, bk0⟩)
 ·
  refine .inr ⟨rfl, fun x hx hl => ?_⟩
  obtain ⟨i1, i2, i3, i4, i5, i6, i7⟩ := Yw h hx hl
  have hf := xO hx
  rw [xU, if_neg (by omega), if_neg (by omega)] at i7
  have := QC (m := x) (b := bk0) (hf.noblk (by omega))
  rw [hx] at this
  have e : ({ x with b := bk0 } : jI) = ⟨a, b, c, d, e, f, ⟨0, 0⟩, bk0⟩ := mk_eq i1 i2 i3 i4 i5 i6 (hf.notx (by omega)) rfl
  rw [e] at this
  rw [this, ← i7] at hR
  simp at hR
 ·
  rw [Bool.and_eq_true, decide_eq_true_eq] at hR
  refine .inl ⟨rfl, hR.2, ?_⟩
  have hr0 : r = [] := List.length_eq_zero_iff.1 (by omega)
  rw [g2, hr0]
  simp only [qE, ZO, xU, if_neg h0, if_neg h1]
theorem aaW (h : wJ 6 l = none) : Z9 l m0 false := ⟨YV, by simp, .inr ⟨rfl, fun x hx hl => by
 have := JA hx
 rw [← hl, h] at this
 cases this⟩⟩
end
theorem zy.v {k : Nat} {l : List UInt8} (hk : Okl k l) (k2 : k ≠ 2) (hl : l.length ≤ 140737488355328) : ∃ m ok, Z9 l m ok ∧ ∀ S, zM Try.prog O zy.id [by_ k l] S = some (.tuple #[mv m, .bool ok], S) := by
 have a1 : wG Try.prog 30 zh.empty = some (.pointer (some ⟨0, 0, none⟩), Wu m0) := Yb zh.empty
 have g1 := JC m0
 have ne0 : (0 : Nat) ≠ 2 := by decide
 have cl : [by_ k l].all (jf 16) = true := all1 (y7 (k := k) hk.le)
 obtain ⟨T, hTe⟩ : ∃ T, T = (by_ k l :: undef :: undef :: undef :: undef :: undef :: undef :: undef :: undef :: undef :: undef :: undef :: undef :: undef :: undef :: undef :: undef :: undef :: undef :: undef :: undef :: undef :: undef :: undef :: undef :: undef :: undef :: undef :: undef :: undef :: undef :: undef :: undef :: undef :: undef :: undef :: undef :: undef :: undef :: undef :: undef :: undef :: undef :: undef :: undef :: undef :: undef :: undef :: undef :: undef :: undef :: undef :: undef :: undef :: undef :: undef :: undef :: undef :: undef :: undef :: undef :: undef :: undef :: undef :: undef :: undef :: undef :: undef :: undef :: []) := ⟨_, rfl⟩
 have hr : zu Try.prog O false zy.code T zh.empty = zu Try.prog O false zy.code T zh.empty := rfl
 have c1 := fun S => zk.v (many := 6) hk k2 hl S
 have r1 : ∀ k0 k1, Zw k0 k1 6 l = _ := fun k0 k1 => vI (m := 6) (by decide) (by decide)
 rw [r1] at c1
 rcases ahy l with h | ⟨a, b, c, d, e, f, r, h, hlr⟩
 ·
  rw [h] at c1
  refine ⟨m0, false, aaW h, fun S => ?_⟩
  have s1 := Yt g1 m0
  conv at hr =>
   rhs
   rw [hTe]
   simp only [zy.code, zy.rs, zSs, reduceIte, Nat.reduceEqDiff, Int.reduceEq, Int.reduceLT, Int.reduceLE, if_neg k2, a1, c1, qC g1 (by decide), s1]
  rw [hTe] at hr
  exact zy.runs hr (.inr rfl) (qC (jE _ 0 m0) (by decide)) rfl rfl cl rfl
 ·
  rw [h] at c1
  have i0 := fun S => ZT (k := 1) (i := 0) (m := 0) (l := [a, b, c, d, e, f]) Okl.read rfl rfl S
  have i1 := fun S => ZT (k := 1) (i := 1) (m := 1) (l := [a, b, c, d, e, f]) Okl.read rfl rfl S
  have i2 := fun S => ZT (k := 1) (i := 2) (m := 2) (l := [a, b, c, d, e, f]) Okl.read rfl rfl S
  have i3 := fun S => ZT (k := 1) (i := 3) (m := 3) (l := [a, b, c, d, e, f]) Okl.read rfl rfl S
  have i4 := fun S => ZT (k := 1) (i := 4) (m := 4) (l := [a, b, c, d, e, f]) Okl.read rfl rfl S
  have i5 := fun S => ZT (k := 1) (i := 5) (m := 5) (l := [a, b, c, d, e, f]) Okl.read rfl rfl S
  have bd := fun S => Zc (y0 := .int .i64 a) (y1 := .int .i64 b) (y2 := .int .i64 c) (y3 := .int .i64 d) (y4 := .int .i64 e) (y5 := .int .i64 f) qg qg qg qg qg qg S
  have s1 : jO Try.prog 30 (.pointer (some ⟨0, 0, none⟩)) (.agg [Value.int .i64 a, .int .i64 b, .int .i64 c, .int .i64 d, .int .i64 e, .int .i64 f, .int .i64 0, .int .i64 0, .int .i64 0, .int .i64 0, .int .i64 0, .int .i64 0, .slice none 0 0].toArray) (Wu m0) = some (undef, yL (Wu m0) 0 ⟨a, b, c, d, e, f, ⟨0, 0⟩, bk0⟩) := Yt g1 ⟨a, b, c, d, e, f, ⟨0, 0⟩, bk0⟩
  have g2 := jE (Wu m0) 0 ⟨a, b, c, d, e, f, ⟨0, 0⟩, bk0⟩
  generalize yL (Wu m0) 0 ⟨a, b, c, d, e, f, ⟨0, 0⟩, bk0⟩ = A2 at s1 g2
  by_cases k0 : a = 0
  ·
   obtain ⟨t, x, o1, o2⟩ := aaM r
   have c2 := fun S => jY.v (k := 1) (l := r) Okl.read (by decide) (by omega) S
   rw [o1] at c2
   have s2 := aiC g2 t
   have g3 := jE A2 0 ⟨a, b, c, d, e, f, t, bk0⟩
   dsimp only at s2
   generalize yL A2 0 ⟨a, b, c, d, e, f, t, bk0⟩ = A3 at s2 g3
   have s3 := Yt g3 ⟨a, b, c, d, e, f, t, bk0⟩
   have fin := qC (jE A3 0 ⟨a, b, c, d, e, f, t, bk0⟩) (by show (0 : Nat) ≠ 2; decide)
   rcases o2 with ⟨rfl, o2⟩ | ⟨rfl, o2, rfl⟩
   ·
    have hP := aeG h k0 o2
    have c3 := fun S => zD.v hP.1 S
    refine ⟨_, _, hP, fun S => ?_⟩
    conv at hr =>
     rhs
     rw [hTe]
     simp only [zy.code, zy.rs, zSs, reduceIte, Nat.reduceEqDiff, Int.reduceEq, Int.reduceLT, Int.reduceLE, if_neg k2, a1, c1, i0, i1, i2, i3, i4, i5, qY, bd, s1, zJ, wC g2, decide_eq_true k0, c2, jm, s2, qC g3 ne0, Wq (vH _), c3, wM g3, s3]
    rw [hTe] at hr
    exact zy.runs hr (.inr rfl) fin rfl rfl cl (wU (all2 (wI hP.1.b.okl.le) rfl))
   ·
    have hP := acJ (t := ⟨0, 0⟩) h k0 o2
    refine ⟨_, _, hP, fun S => ?_⟩
    conv at hr =>
     rhs
     rw [hTe]
     simp only [zy.code, zy.rs, zSs, reduceIte, Nat.reduceEqDiff, Int.reduceEq, Int.reduceLT, Int.reduceLE, if_neg k2, a1, c1, i0, i1, i2, i3, i4, i5, qY, bd, s1, zJ, wC g2, decide_eq_true k0, c2, jm, s2, qC g3 ne0, Wq (vH _), wM g3, s3]
    rw [hTe] at hr
    exact zy.runs hr (.inr rfl) fin rfl rfl cl (wU (all2 (wI hP.1.b.okl.le) rfl))
  by_cases k1 : a = 1
  ·
   obtain ⟨y, x, ⟨hy, hy3, o2⟩, c2⟩ := zL.v (k := 1) (l := r) Okl.read (by decide) (by omega)
   have s2 := aia g2 y
   have g3 := jE A2 0 ⟨a, b, c, d, e, f, ⟨0, 0⟩, y⟩
   dsimp only at s2
   generalize yL A2 0 ⟨a, b, c, d, e, f, ⟨0, 0⟩, y⟩ = A3 at s2 g3
   have s3 := Yt g3 ⟨a, b, c, d, e, f, ⟨0, 0⟩, y⟩
   have fin := qC (jE A3 0 ⟨a, b, c, d, e, f, ⟨0, 0⟩, y⟩) hy.ne
   rcases o2 with ⟨rfl, o2, _⟩ | ⟨rfl, o2, rfl⟩
   ·
    have hP := afB h k1 hy hy3 o2
    have c3 := fun S => zD.v hP.1 S
    refine ⟨_, _, hP, fun S => ?_⟩
    conv at hr =>
     rhs
     rw [hTe]
     simp only [zy.code, zy.rs, zSs, reduceIte, Nat.reduceEqDiff, Int.reduceEq, Int.reduceLT, Int.reduceLE, if_neg k2, a1, c1, i0, i1, i2, i3, i4, i5, qY, bd, s1, zJ, wC g2, decide_eq_false k0, decide_eq_true k1, c2, jq, s2, qC g3 hy.ne, Wq (vH _), c3, wM g3, s3]
    rw [hTe] at hr
    exact zy.runs hr (.inr rfl) fin rfl rfl cl (wU (all2 (wI hP.1.b.okl.le) rfl))
   ·
    have hP := adV h k1 o2
    refine ⟨_, _, hP, fun S => ?_⟩
    conv at hr =>
     rhs
     rw [hTe]
     simp only [zy.code, zy.rs, zSs, reduceIte, Nat.reduceEqDiff, Int.reduceEq, Int.reduceLT, Int.reduceLE, if_neg k2, a1, c1, i0, i1, i2, i3, i4, i5, qY, bd, s1, zJ, wC g2, decide_eq_false k0, decide_eq_true k1, c2, jq, s2, qC g3 ne0, Wq (vH _), wM g3, s3]
    rw [hTe] at hr
    exact zy.runs hr (.inr rfl) fin rfl rfl cl (wU (all2 (wI hP.1.b.okl.le) rfl))
  have hP := afE h k0 k1
  have c3 := fun S => zD.v hP.1 S
  have ln : ∀ S, Jc Try.prog 23 (by_ 1 r) S = some (.int .i64 r.length, S) := fun S => Wy Okl.read
  have s3 := Yt g2 ⟨a, b, c, d, e, f, ⟨0, 0⟩, bk0⟩
  have fin := qC (jE A2 0 ⟨a, b, c, d, e, f, ⟨0, 0⟩, bk0⟩) (by show (0 : Nat) ≠ 2; decide)
  refine ⟨_, _, hP, fun S => ?_⟩
  conv at hr =>
   rhs
   rw [hTe]
   simp only [zy.code, zy.rs, zSs, reduceIte, Nat.reduceEqDiff, Int.reduceEq, Int.reduceLT, Int.reduceLE, if_neg k2, a1, c1, i0, i1, i2, i3, i4, i5, qY, bd, s1, zJ, wC g2, decide_eq_false k0, decide_eq_false k1, ln, qC g2 ne0, zI (qC g2 ne0), zI (c3 _), gvw, Wq (vH _), wM g2, s3]
  rw [hTe] at hr
  exact zy.runs hr (.inr rfl) fin rfl rfl cl (wU (all2 (wI hP.1.b.okl.le) rfl))
end Go.Proofs.Ytbgcphbbchndkaa
namespace Go.Proofs.Ytbgcphbbchndkaa
open Go.Abs
theorem JO {x y : jI} : Zn x y = true ↔ x.kind = y.kind ∧ x.frm = y.frm ∧ x.index = y.index ∧ x.view = y.view ∧ x.value = y.value ∧ x.prep = y.prep ∧ x.tx = y.tx ∧ Zm x.b y.b = true := by
 simp [Zn]
theorem abv {a b : kP} (h : Zm a b = true) : Zm b a = true := by
 rw [vk] at h ⊢; exact ⟨h.1.symm, h.2.1.symm, h.2.2.1.symm, h.2.2.2.1.symm, h.2.2.2.2.symm⟩
theorem Vy {a b c : kP} (h : Zm a b = true) (k : Zm b c = true) : Zm a c = true := by
 rw [vk] at h k ⊢; exact ⟨h.1.trans k.1, h.2.1.trans k.2.1, h.2.2.1.trans k.2.2.1, h.2.2.2.1.trans k.2.2.2.1, h.2.2.2.2.trans k.2.2.2.2⟩
theorem abe (m : jI) : Zn m m = true := JO.2 ⟨rfl, rfl, rfl, rfl, rfl, rfl, rfl, qQ _⟩
theorem like {x y : jI} (h : Zn x y = true) : yH y = yH x ∧ qE y = qE x ∧ KU y = KU x := by
 obtain ⟨h1, h2, h3, h4, h5, h6, h7, h8⟩ := JO.1 h
 have e : y = { x with b := y.b } := mk_eq h1.symm h2.symm h3.symm h4.symm h5.symm h6.symm h7.symm rfl
 have hb : qE y = qE x := by
  obtain ⟨s1, s2, s3, s4, s5⟩ := vk.1 h8
  simp only [qE, ZO, xU, X5, ← h1, ← h2, ← h3, ← h4, ← h5, ← h6, ← h7, ← s1, ← s2, ← s3, ← s4, ← s5]
 refine ⟨?_, hb, ?_⟩
 ·
  rw [e]; exact QC h8
 ·
  simp only [KU, mkM, hb, ← h2]
theorem aaz {x y : jI} (hx : yH x = true) (hy : yH y = true) (h : qE x = qE y) : Zn x y = true := by
 have e := JA hx
 rw [h, JA hy] at e
 simp only [Option.some.injEq, Prod.mk.injEq, ZO, List.cons.injEq, and_true] at e
 obtain ⟨⟨h1, h2, h3, h4, h5, h6⟩, h7⟩ := e
 have fx := xO hx; have fy := xO hy
 refine JO.2 ⟨h1.symm, h2.symm, h3.symm, h4.symm, h5.symm, h6.symm, ?_, ?_⟩
 ·
  by_cases k : x.kind = 0
  ·
   have ky : y.kind = 0 := by omega
   rw [xU, xU, if_pos k, if_pos ky] at h7
   exact (adB (r := []) (s := []) (fx.tx k) (fy.tx ky) (by rw [List.append_nil, List.append_nil, h7])).1
  ·
   rw [fx.notx k, fy.notx (by omega)]
 ·
  by_cases k : x.kind = 1
  ·
   have ky : y.kind = 1 := by omega
   rw [xU, xU, if_neg (show ¬ y.kind = 0 by omega), if_neg (show ¬ x.kind = 0 by omega), if_pos ky, if_pos k] at h7
   exact vk.2 (aaB (r := []) (s := []) (fx.blk k) (fy.blk ky) (by rw [List.append_nil, List.append_nil, h7])).1
  ·
   exact Vy (fx.noblk k) (abv (fy.noblk (by omega)))
theorem KY (m : jI) : mkM m < 2 ^ 64 := agI _ _
theorem afF {x y : jI} (hx : yH x = true) (hy : yH y = true) (h : KU x = KU y) : Zn x y = true :=
 aaz hx hy (ahq (KY x) (KY y) h).2
def agw (l : List UInt8) (m : jI) (e : Int) : Prop := m.Ok ∧ m.b.txs.length ≤ 3 ∧ ((e = 0 ∧ yH m = true ∧ l = KU m) ∨ (e = 121 ∧ m = m0 ∧ ∀ x, yH x = true → l ≠ KU x))
theorem Vw {l : List UInt8} (h : scan 0 0 l = none) : agw l m0 121 := ⟨YV, by simp, .inr ⟨rfl, rfl, fun x hx hl => by
 have := JE (KY x) (qE x)
 rw [show enc (mkM x) ++ qE x = l from hl.symm, h] at this
 cases this⟩⟩
theorem aak {l r : List UInt8} {n : Nat} (h : scan 0 0 l = some (n, r)) {x : jI} (hl : l = KU x) : n = mkM x ∧ r = qE x := by
 have := JE (KY x) (qE x)
 rw [show enc (mkM x) ++ qE x = l from hl.symm, h] at this
 simpa using this
theorem jg.v {k : Nat} {l : List UInt8} (hk : Okl k l) (k2 : k ≠ 2) (hl : l.length ≤ 140737488355328) : ∃ m e, agw l m e ∧ ∀ S, zM Try.prog O jg.id [by_ k l] S = some (.tuple #[mv m, .int .i64 e], S) := by
 have a1 : wG Try.prog 30 zh.empty = some (.pointer (some ⟨0, 0, none⟩), Wu m0) := Yb zh.empty
 have g1 := JC m0
 have ne0 : (0 : Nat) ≠ 2 := by decide
 have cl : [by_ k l].all (jf 16) = true := all1 (y7 (k := k) hk.le)
 obtain ⟨T, hTe⟩ : ∃ T, T = (by_ k l :: undef :: undef :: undef :: undef :: undef :: undef :: undef :: undef :: undef :: undef :: undef :: undef :: undef :: undef :: undef :: undef :: undef :: undef :: undef :: undef :: undef :: undef :: undef :: undef :: undef :: undef :: undef :: undef :: undef :: undef :: undef :: undef :: undef :: undef :: undef :: []) := ⟨_, rfl⟩
 have hr : zu Try.prog O false jg.code T zh.empty = zu Try.prog O false jg.code T zh.empty := rfl
 have c1 := fun S => zB.v hk k2 hl S
 unfold adO at c1
 have z0 : ∀ S, yg Try.prog 30 [] S = some (mv m0, S) := fun S => J9 S
 cases h : scan 0 0 l with
 | none =>
  rw [h] at c1
  have s1 := Yt g1 m0
  refine ⟨m0, 121, Vw h, fun S => ?_⟩
  conv at hr =>
   rhs
   rw [hTe]
   simp only [jg.code, jg.rs, zSs, reduceIte, Nat.reduceEqDiff, Int.reduceEq, Int.reduceLT, Int.reduceLE, if_neg k2, a1, c1, z0, s1]
  rw [hTe] at hr
  exact jg.runs hr (.inr rfl) (qC (jE _ 0 m0) ne0) rfl rfl cl rfl
 | some nr =>
  obtain ⟨n, r⟩ := nr
  rw [h] at c1
  obtain ⟨hn, hlr⟩ := VT l 0 0 (by decide) (by decide) n r h
  obtain ⟨m, ok, ⟨mo, m3, hP⟩, c2⟩ := zy.v (k := 1) (l := r) Okl.read (by decide) (by omega)
  have a2 : wG Try.prog 30 (Wu m0) = some (.pointer (some ⟨1, 0, none⟩), VW m0 m0) := Yb (Wu m0)
  have s1 := Yt (abV m0 m0) m
  have g2 := jE (VW m0 m0) 1 m
  have g3 : (yL (VW m0 m0) 1 m).get 0 = some (.cells (fM m0) (.own []) 0) := (jM (by decide)).trans (adN m0 m0)
  generalize yL (VW m0 m0) 1 m = A2 at s1 g2 g3
  have s2 := Yt g3 m0
  have f2 := qC (jE A2 0 m0) ne0
  have s3 := Yt g3 m
  have f3 := qC (jE A2 0 m) mo.b.ne
  rcases hP with ⟨rfl, hR, hb⟩ | ⟨rfl, hP⟩
  ·
   have ck := fun S => yI.v m.frm S
   have ct := fun S => wF.v (k := 1) (l := r) Okl.read rfl (by omega) (key := abl m.frm) (mark := n) S
   have em : Jf (abl m.frm) r = (mkM m : Nat) := by rw [hb]; exact (acV _ _).symm
   by_cases hq : Jf (abl m.frm) r = n
   ·
    refine ⟨m, 0, ⟨mo, m3, .inl ⟨rfl, hR, ?_⟩⟩, fun S => ?_⟩
    ·
     rw [(XU h).1, KU, ← hb]
     congr 2
     omega
    rw [decide_eq_true hq] at ct
    conv at hr =>
     rhs
     rw [hTe]
     simp only [jg.code, jg.rs, zSs, reduceIte, Nat.reduceEqDiff, Int.reduceEq, Int.reduceLT, Int.reduceLE, if_neg k2, a1, c1, c2, a2, s1, zU, yR g2, ck, ct, qC g2 mo.b.ne, s3]
    rw [hTe] at hr
    exact jg.runs hr (.inr rfl) f3 rfl rfl cl (wU (all2 (wI mo.b.okl.le) rfl))
   ·
    refine ⟨m0, 121, ⟨YV, by simp, .inr ⟨rfl, rfl, fun x hx hl => ?_⟩⟩, fun S => ?_⟩
    ·
     obtain ⟨i1, i2⟩ := aak h hl
     have hs := aaz hx hR (by rw [← i2, hb])
     refine hq ?_
     rw [em, i1]
     simp only [mkM, (like hs).2.1, (JO.1 hs).2.1]
    rw [decide_eq_false hq] at ct
    conv at hr =>
     rhs
     rw [hTe]
     simp only [jg.code, jg.rs, zSs, reduceIte, Nat.reduceEqDiff, Int.reduceEq, Int.reduceLT, Int.reduceLE, if_neg k2, a1, c1, c2, a2, s1, zU, yR g2, ck, ct, z0, s2]
    rw [hTe] at hr
    exact jg.runs hr (.inr rfl) f2 rfl rfl cl rfl
  ·
   refine ⟨m0, 121, ⟨YV, by simp, .inr ⟨rfl, rfl, fun x hx hl => hP x hx (aak h hl).2⟩⟩, fun S => ?_⟩
   conv at hr =>
    rhs
    rw [hTe]
    simp only [jg.code, jg.rs, zSs, reduceIte, Nat.reduceEqDiff, Int.reduceEq, Int.reduceLT, Int.reduceLE, if_neg k2, a1, c1, c2, a2, s1, z0, s2]
   rw [hTe] at hr
   exact jg.runs hr (.inr rfl) f2 rfl rfl cl rfl
end Go.Proofs.Ytbgcphbbchndkaa
namespace Go.Proofs.Ytbgcphbbchndkaa
open Go.Abs
theorem agF (m : jI) (S : zh) : ∃ S2, J7 (mv m) S = some (.pointer (some ⟨S.next, 0, none⟩), S2) ∧ S2.get S.next = some (.cells (fM m) (.own []) 0) ∧ Ext S S2 ∧ S.next < S2.next := aiD (mv m) S
theorem VY (m : jI) (S : zh) : ∃ S2, jO Try.prog 30 (.pointer (some ⟨S.next, 0, none⟩)) (mv m) (S.push (.cells (fM m0) (.own []) 0)) = some (undef, S2) ∧ S2.get S.next = some (.cells (fM m) (.own []) 0) ∧ Ext S S2 ∧ S.next < S2.next :=
 YK S (by rw [yU]; rfl) Ym rfl (aiG m)
abbrev tM : Ty := .pair (.int .i64) (.pair (.int .i64) (.pair (.int .i64) (.pair (.int .i64) (.pair (.int .i64) (.pair (.int .i64) (.pair tTx (.pair tBk .unit)))))))
theorem ai8 (x : tM.Val) (hg : tM.Good x) : ∃ m : jI, tM.JL x = fM m ∧ m.Ok := by
 obtain ⟨a, b, c, d, e, f, t, y, u⟩ := x
 obtain ⟨h1, h2, h3, h4, h5, h6, h7, h8, _⟩ := hg
 obtain ⟨t', t1, ht⟩ := aiy t h7
 obtain ⟨y', y1, hy⟩ := aiO y h8
 refine ⟨⟨a, b, c, d, e, f, t', y'⟩, ?_, ⟨hy, ht, JR h1, JR h2, JR h3, JR h4, JR h5, JR h6⟩⟩
 show [Value.int .i64 a] ++ ([Value.int .i64 b] ++ ([Value.int .i64 c] ++ ([Value.int .i64 d] ++ ([Value.int .i64 e] ++ ([Value.int .i64 f] ++ (tTx.JL t ++ (tBk.JL y ++ []))))))) = _
 rw [t1, y1]; rfl
theorem aeX {m : jI} (h : yH m = true) : (KU m).length ≤ 210 := by
 unfold KU
 have := QJ (xO h); have := Zg (KY m)
 rw [List.length_append]; omega
end Go.Proofs.Ytbgcphbbchndkaa
namespace Go.Proofs.Ytbgcphbbchndkaa
open Go.Abs
theorem yE.v (S : zh) : zM Try.prog O 9 [] S = some (.bool true, S) := aeI (n := 80) (by kernel_rfl)
end Go.Proofs.Ytbgcphbbchndkaa
namespace Go.Proofs.Ytbgcphbbchndkaa
open Go.Abs
namespace msgBack
def codes : List (Bool × Ty) := [(true, tM), (false, .slc 1 (.int .u8))]
theorem coded : Qi Try.prog 9 [30, 23] = some codes := by kernel_rfl
theorem run {k : Nat} {l : List UInt8} {a : jI} (ha : a.Ok) (hk : Okl k l) (k2 : k ≠ 2) (hl : l.length ≤ 140737488351232) (S : zh) : ∃ S', zM Try.prog O 5 [mv a, by_ k l] S = some (.bool true, S') := by
 obtain ⟨T, hTe⟩ : ∃ T, T = (mv a :: by_ k l :: undef :: undef :: undef :: undef :: undef :: undef :: undef :: undef :: undef :: undef :: undef :: undef :: undef :: undef :: undef :: undef :: undef :: undef :: undef :: undef :: undef :: undef :: undef :: undef :: undef :: undef :: undef :: undef :: undef :: undef :: undef :: undef :: undef :: undef :: undef :: undef :: undef :: undef :: undef :: undef :: undef :: undef :: undef :: undef :: undef :: undef :: undef :: undef :: undef :: undef :: undef :: undef :: undef :: undef :: undef :: undef :: undef :: undef :: undef :: undef :: undef :: undef :: undef :: undef :: []) := ⟨_, rfl⟩
 have hr : zu Try.prog O false zi.code T S = zu Try.prog O false zi.code T S := rfl
 obtain ⟨S1, b1, b2, b3, b4⟩ := agF a S
 have c1 := fun S => zQ.v ha S
 have c2 := fun S => zD.v ha S
 obtain ⟨y, f, q2, c4⟩ := jg.v (k := 1) (l := l) Okl.read (by decide) (by omega)
 have cp := fun S => ag7 (S := S) hk (by omega)
 have cy := fun S => zQ.v q2.1 S
 have cs1 : ∀ S, ZM Try.prog 23 9 (by_ k l) S = some (.string ⟨l.toArray⟩, S) := fun S => afO hk
 have cs2 : ∀ (x : List UInt8) S, ZM Try.prog 23 9 (by_ 1 x) S = some (.string ⟨x.toArray⟩, S) := fun x S => afO Okl.read
 have cm : ∀ S, zM Try.prog O 15 [mv m0, .agg [Value.int .i64 0, .int .i64 0, .int .i64 0, .int .i64 0, .int .i64 0, .int .i64 0, .int .i64 0, .int .i64 0, .int .i64 0, .int .i64 0, .int .i64 0, .int .i64 0, .slice none 0 0].toArray] S = some (.bool true, S) := fun S => by
  have := jk.v YV YV S
  rw [abe] at this
  exact this
 cases hR : yH a
 ·
  have e1 : Y0 a = .tuple #[.slice none 0 0, .int .i64 121] := by rw [Y0, hR]; rfl
  rw [e1] at c1
  rw [hR] at c2
  obtain ⟨S2, d1, d2, d3, d4⟩ := VY y S1
  rcases q2 with ⟨yo, _, ⟨rfl, hy, hly⟩ | ⟨rfl, rfl, _⟩⟩
  ·
   have e2 : Y0 y = .tuple #[by_ 2 (KU y), .int .i64 0] := by rw [Y0, hy]; rfl
   rw [e2, ← hly] at cy
   conv at hr =>
    rhs
    rw [hTe]
    simp only [zi.code, zi.rs, zSs, reduceIte, Nat.reduceEqDiff, Int.reduceEq, Int.reduceLT, Int.reduceLE, b1, yE.v, qC b2 ha.b.ne, c1, c2, aan, bne_self_eq_false, if_neg k2, bb0, cp, c4, Yb, d1, qC d2 yo.b.ne, cy, cs1, cs2, af8]
   rw [hTe] at hr
   exact ⟨_, zi.runs hr (.inr rfl)⟩
  ·
   conv at hr =>
    rhs
    rw [hTe]
    simp only [zi.code, zi.rs, zSs, reduceIte, Nat.reduceEqDiff, Int.reduceEq, Int.reduceLT, Int.reduceLE, b1, yE.v, qC b2 ha.b.ne, c1, c2, aan, bne_self_eq_false, if_neg k2, bb0, cp, c4, Yb, d1, qC d2 yo.b.ne, J9, cm]
   rw [hTe] at hr
   exact ⟨_, zi.runs hr (.inr rfl)⟩
 ·
  have e1 : Y0 a = .tuple #[by_ 2 (KU a), .int .i64 0] := by rw [Y0, hR]; rfl
  rw [e1] at c1
  rw [hR] at c2
  have hla := aeX hR
  obtain ⟨x, e, q1, c3⟩ := jg.v (k := 1) (l := KU a) Okl.read (by decide) (by omega)
  obtain ⟨xo, x3, ⟨rfl, hx, hlx⟩ | ⟨rfl, rfl, hno⟩⟩ := q1
  ·
   have hs := afF hx hR hlx.symm
   have c5 := fun S => jk.v xo ha S
   rw [hs] at c5
   obtain ⟨S3, f1, f2, f3, f4⟩ := VY x S1
   have ga : S3.get S.next = some (.cells (fM a) (.own []) 0) := (f3.get _ b4).trans b2
   obtain ⟨S2, d1, d2, d3, d4⟩ := VY y S3
   rcases q2 with ⟨yo, _, ⟨rfl, hy, hly⟩ | ⟨rfl, rfl, _⟩⟩
   ·
    have e2 : Y0 y = .tuple #[by_ 2 (KU y), .int .i64 0] := by rw [Y0, hy]; rfl
    rw [e2, ← hly] at cy
    conv at hr =>
     rhs
     rw [hTe]
     simp only [zi.code, zi.rs, zSs, reduceIte, Nat.reduceEqDiff, Int.reduceEq, Int.reduceLT, Int.reduceLE, b1, yE.v, qC b2 ha.b.ne, c1, c2, aan, bne_self_eq_false, c3, Yb, f1, qC f2 xo.b.ne, qC ga ha.b.ne, c5, if_neg k2, bb0, cp, c4, Yb, d1, qC d2 yo.b.ne, cy, cs1, cs2, af8]
    rw [hTe] at hr
    exact ⟨_, zi.runs hr (.inr rfl)⟩
   ·
    conv at hr =>
     rhs
     rw [hTe]
     simp only [zi.code, zi.rs, zSs, reduceIte, Nat.reduceEqDiff, Int.reduceEq, Int.reduceLT, Int.reduceLE, b1, yE.v, qC b2 ha.b.ne, c1, c2, aan, bne_self_eq_false, c3, Yb, f1, qC f2 xo.b.ne, qC ga ha.b.ne, c5, if_neg k2, bb0, cp, c4, Yb, d1, qC d2 yo.b.ne, J9, cm]
    rw [hTe] at hr
    exact ⟨_, zi.runs hr (.inr rfl)⟩
  ·
   exact absurd rfl (hno a hR)
theorem law (x : Args codes) (h : Args.Good codes x) : ∃ k, (vg Try.prog k 5 (Args.place codes x zh.empty).1 (Args.place codes x zh.empty).2).map (·.1) = some (.bool true) := by
 obtain ⟨a, b, u⟩ := x
 obtain ⟨h1, h2, _⟩ := h
 obtain ⟨m, m1, hm⟩ := ai8 a h1
 obtain ⟨k, l, p1, p2, p3, p4⟩ := aeY b h2
 obtain ⟨S', e⟩ := run hm p1 p2 p4 zh.empty
 refine Vh ahV (S' := S') ?_
 have e2 : Args.JL codes (a, b, u) = [mv m, by_ k l] := by
  show [Zt true (tM.JL a), Zt false ((Ty.slc 1 (.int .u8)).JL b)] = _
  rw [m1, p3]; rfl
 rw [e2]
 exact e
end msgBack
end Go.Proofs.Ytbgcphbbchndkaa
namespace Go.Proofs.Ytbgcphbbchndkaa.msgBack
open Go.ChangeShapes Go.WideShapes Go.ChangeAt Go.RowKit Go.Abs
theorem own : ownKnob Try.prog.godebug = none := by kernel_rfl
theorem laidOut : laidOutB Try.prog = true := by kernel_rfl
theorem mixes : Try.prog.follows .mixedOrders = true := by kernel_rfl
set_option maxRecDepth 100000 in
theorem lifted (os : Os) (started : os.Started) (H : Type) (enc : TypeId × Value → H) :
  ReturnsInHanded {} Try.checked os 5 .any (Rows.msgBackSpec.pre6 enc Try.prog Try.f5 Rows.msgBackRow.domain false) (Rows.msgBackSpec.post enc Try.prog Try.f5 false true false false) := by
 refine returnsInHanded_of_change_sized (C := Try.checked) own started (by kernel_rfl) Try.func5
  (ChangeSpec.witness6 (enc := enc) (C := Try.checked) false ⟨#[], #[.agg #[.int .i64 0, .int .i64 0, .int .i64 0, .int .i64 0, .int .i64 0, .int .i64 0, .int .i64 0, .int .i64 0, .int .i64 0, .int .i64 0, .int .i64 0, .int .i64 0, .slice none 0 0], .slice none 0 0], []⟩ 8 (by kernel_rfl) (by kernel_rfl) (by kernel_rfl) (by kernel_rfl)) ?_
 intro W base args ds gs before hval0 hW hcnd hsz0 _
 have hW' := hW
 obtain ⟨p, q, hA0, hV, rfl, hfz, hnd⟩ := hW
 obtain ⟨rfl, rfl⟩ := trodVars_none hV
 have hsz1 : (DataW.weightsEach Try.prog (Try.f5.params.toList ++ Rows.msgBackSpec.plain.varTypes Try.prog) (ds ++ [])).all (· ≤ reachBytes) = true := hsz0
 have hval : ∀ (j : Nat) t v, Try.f5.params[j]? = some t → args[j]? = some v → Value.okWide Try.prog W .any base t v := hval0
 have hA1 : DataW.TrodAll enc Try.prog W 0 (fun _ => true) true Try.f5.params.toList args.toList ds p := hA0
 rw [Try.params5] at hA1 hsz1 hval
 have hA : DataW.TrodAll enc Try.prog W 0 (fun _ => true) true [30, 23] args.toList ds p := hA1
 have hsz : (DataW.weightsEach Try.prog [30, 23] ds).all (· ≤ reachBytes) = true := by rw [List.append_nil ds] at hsz1; exact hsz1
 clear hA0 hA1 hval0 hsz0 hsz1
 have r := hA
 obtain ⟨v0, vs0, d0, ds0, p0, q0, hargs0, rfl, hp0, h0, r0⟩ := trodAll_cons r
 obtain ⟨v1, vs1, d1, ds1, p1, q1, hargs1, rfl, hp1, h1, r1⟩ := trodAll_cons r0
 obtain ⟨_, rfl, _⟩ := trodAll_nil r1
 refine (adI mixes coded law hA (fun j t v h1 h2 => hval j t v (by rw [List.getElem?_toArray]; exact h1) h2) hsz).mono fun e W' ⟨he, bel⟩ => ?_
 subst he
 exact ⟨_, rfl, _, _, _, [], _, [], hW', trodAll_mk1 (shut_bool (by kernel_rfl) _), afc laidOut bel _ _ _ _ (by kernel_rfl) hA, rfl, bel.frame _, fun h => by cases h⟩
theorem over : Rows.msgBackRow.holds Try.pinned (OpenSpec.ofChange Rows.msgBackSpec) :=
 OpenClaim.holds_of_wide 5 Try.f5 rfl rfl rfl rfl rfl rfl rfl ⟨rfl, rfl, rfl, rfl, rfl⟩ rfl rfl rfl rfl rfl (by kernel_rfl) Try.func5 (by kernel_rfl)
  (of_decide_eq_true (by kernel_rfl)) (by unfold Func.isWrapper; first | (rw [if_pos (by decide +kernel)]; kernel_rfl) | (rw [if_neg (by decide +kernel)]; exact ⟨rfl, rfl⟩))
  (fun os started H enc _ => lifted os started H enc)
theorem proved : Rows.MsgBackSaid := over
end Go.Proofs.Ytbgcphbbchndkaa.msgBack
namespace Go.Proofs.Ytbgcphbbchndkaa
theorem msgBack_holds : Rows.MsgBackSaid := msgBack.proved
#print axioms msgBack_holds
end Go.Proofs.Ytbgcphbbchndkaa
