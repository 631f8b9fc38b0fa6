/-
The law GateNames returns true for every input, and leaves it as it was; no condition. Part 7 of 7 of the texts (put together by a program: own names are short, what isn't needed is left out).
-/
import Derived.Test.YtfjogganfjkckaaZGateNames6
import Derived.Test.YtfjogganfjkckaaRows
import Derived.WalkKit
import Derived.ProofKit
import Derived.OpenShut
import Derived.ShutString
import Derived.ChangeOld
import Derived.Below
import Derived.SizedLaws
import Derived.Carry
set_option linter.unusedVariables false
set_option linter.unusedSimpArgs false
set_option maxRecDepth 100000
namespace Go.Proofs.Ytfjogganfjkckaa
open Go.Abs
def Yp (m : wM) : Bool := decide (m.kind = 4) || decide (m.kind = 5)
def qH (m : wM) : Bool := decide (m.value = 0) || decide (0 < WO m.value) || (Yp m && decide (m.value = -1))
theorem jL.v {m : wM} (hm : m.Ok) (S : zi) : zQ Try.prog O jL.id [mv m] S = some (.bool (qH m), S) := by
 obtain ⟨T, hTe⟩ : ∃ T, T = (mv m :: undef :: undef :: undef :: undef :: undef :: undef :: undef :: undef :: undef :: undef :: undef :: undef :: undef :: undef :: undef :: undef :: undef :: undef :: undef :: undef :: undef :: undef :: undef :: undef :: undef :: undef :: undef :: undef :: []) := ⟨_, rfl⟩
 have hr : zA Try.prog O false jL.code T zi.empty = zA Try.prog O false jL.code T zi.empty := rfl
 have g0 := kZ m
 have c1 := fun S => wJ.v m.value S
 have hc : [mv m].all (jH 16) = true := all1 (yw hm.b.okl.le)
 by_cases k4 : m.kind = 4
 ·
  have hvote : Yp m = true := by simp [Yp, k4]
  by_cases v0 : m.value = 0
  ·
   rw [show qH m = true from by simp [qH, v0]]
   conv at hr =>
    rhs
    rw [hTe]
    simp only [jL.code, jL.rs, zSs, reduceIte, Nat.reduceEqDiff, Int.reduceEq, Int.reduceLT, Int.reduceLE, xO, zB, zI, wF g0, wR g0, decide_eq_true k4, decide_eq_true v0]
   rw [hTe] at hr
   exact jL.runs hr (.inr rfl) hc rfl
  by_cases v1 : 0 < WO m.value
  ·
   rw [show qH m = true from by simp [qH, v1]]
   conv at hr =>
    rhs
    rw [hTe]
    simp only [jL.code, jL.rs, zSs, reduceIte, Nat.reduceEqDiff, Int.reduceEq, Int.reduceLT, Int.reduceLE, xO, zB, zI, wF g0, wR g0, decide_eq_true k4, decide_eq_false v0, c1, decide_eq_true v1]
   rw [hTe] at hr
   exact jL.runs hr (.inr rfl) hc rfl
  by_cases v2 : m.value = -1
  ·
   rw [show qH m = true from by simp [qH, v2, hvote]]
   conv at hr =>
    rhs
    rw [hTe]
    simp only [jL.code, jL.rs, zSs, reduceIte, Nat.reduceEqDiff, Int.reduceEq, Int.reduceLT, Int.reduceLE, xO, zB, zI, wF g0, wR g0, decide_eq_true k4, decide_eq_false v0, c1, decide_eq_false v1, decide_eq_true v2]
   rw [hTe] at hr
   exact jL.runs hr (.inr rfl) hc rfl
  rw [show qH m = false from by simp [qH, v0, v1, v2]]
  conv at hr =>
   rhs
   rw [hTe]
   simp only [jL.code, jL.rs, zSs, reduceIte, Nat.reduceEqDiff, Int.reduceEq, Int.reduceLT, Int.reduceLE, xO, zB, zI, wF g0, wR g0, decide_eq_true k4, decide_eq_false v0, c1, decide_eq_false v1, decide_eq_false v2]
  rw [hTe] at hr
  exact jL.runs hr (.inr rfl) hc rfl
 by_cases k5 : m.kind = 5
 ·
  have hvote : Yp m = true := by simp [Yp, k5]
  by_cases v0 : m.value = 0
  ·
   rw [show qH m = true from by simp [qH, v0]]
   conv at hr =>
    rhs
    rw [hTe]
    simp only [jL.code, jL.rs, zSs, reduceIte, Nat.reduceEqDiff, Int.reduceEq, Int.reduceLT, Int.reduceLE, xO, zB, zI, wF g0, wR g0, decide_eq_false k4, decide_eq_true k5, decide_eq_true v0]
   rw [hTe] at hr
   exact jL.runs hr (.inr rfl) hc rfl
  by_cases v1 : 0 < WO m.value
  ·
   rw [show qH m = true from by simp [qH, v1]]
   conv at hr =>
    rhs
    rw [hTe]
    simp only [jL.code, jL.rs, zSs, reduceIte, Nat.reduceEqDiff, Int.reduceEq, Int.reduceLT, Int.reduceLE, xO, zB, zI, wF g0, wR g0, decide_eq_false k4, decide_eq_true k5, decide_eq_false v0, c1, decide_eq_true v1]
   rw [hTe] at hr
   exact jL.runs hr (.inr rfl) hc rfl
  by_cases v2 : m.value = -1
  ·
   rw [show qH m = true from by simp [qH, v2, hvote]]
   conv at hr =>
    rhs
    rw [hTe]
    simp only [jL.code, jL.rs, zSs, reduceIte, Nat.reduceEqDiff, Int.reduceEq, Int.reduceLT, Int.reduceLE, xO, zB, zI, wF g0, wR g0, decide_eq_false k4, decide_eq_true k5, decide_eq_false v0, c1, decide_eq_false v1, decide_eq_true v2]
   rw [hTe] at hr
   exact jL.runs hr (.inr rfl) hc rfl
  rw [show qH m = false from by simp [qH, v0, v1, v2]]
  conv at hr =>
   rhs
   rw [hTe]
   simp only [jL.code, jL.rs, zSs, reduceIte, Nat.reduceEqDiff, Int.reduceEq, Int.reduceLT, Int.reduceLE, xO, zB, zI, wF g0, wR g0, decide_eq_false k4, decide_eq_true k5, decide_eq_false v0, c1, decide_eq_false v1, decide_eq_false v2]
  rw [hTe] at hr
  exact jL.runs hr (.inr rfl) hc rfl
 have hvote : Yp m = false := by simp [Yp, k4, k5]
 by_cases v0 : m.value = 0
 ·
  rw [show qH m = true from by simp [qH, v0]]
  conv at hr =>
   rhs
   rw [hTe]
   simp only [jL.code, jL.rs, zSs, reduceIte, Nat.reduceEqDiff, Int.reduceEq, Int.reduceLT, Int.reduceLE, xO, zB, zI, wF g0, wR g0, decide_eq_false k4, decide_eq_false k5, decide_eq_true v0]
  rw [hTe] at hr
  exact jL.runs hr (.inr rfl) hc rfl
 by_cases v1 : 0 < WO m.value
 ·
  rw [show qH m = true from by simp [qH, v1]]
  conv at hr =>
   rhs
   rw [hTe]
   simp only [jL.code, jL.rs, zSs, reduceIte, Nat.reduceEqDiff, Int.reduceEq, Int.reduceLT, Int.reduceLE, xO, zB, zI, wF g0, wR g0, decide_eq_false k4, decide_eq_false k5, decide_eq_false v0, c1, decide_eq_true v1]
  rw [hTe] at hr
  exact jL.runs hr (.inr rfl) hc rfl
 rw [show qH m = false from by simp [qH, v0, v1, hvote]]
 conv at hr =>
  rhs
  rw [hTe]
  simp only [jL.code, jL.rs, zSs, reduceIte, Nat.reduceEqDiff, Int.reduceEq, Int.reduceLT, Int.reduceLE, xO, zB, zI, wF g0, wR g0, decide_eq_false k4, decide_eq_false k5, decide_eq_false v0, c1, decide_eq_false v1]
 rw [hTe] at hr
 exact jL.runs hr (.inr rfl) hc rfl
def yI (m : wM) : wM :=
 if m.kind = 0 then ⟨m.kind, m.frm, 0, 0, 0, 0, m.tx, bk0⟩
 else if m.kind = 1 then ⟨m.kind, m.frm, 0, 0, 0, 0, ⟨0, 0⟩, m.b⟩
 else if m.kind = 2 then ⟨m.kind, m.frm, 0, 0, m.value, 0, ⟨0, 0⟩, bk0⟩
 else if m.kind = 3 then ⟨m.kind, m.frm, m.index, m.view, m.value, m.prep, ⟨0, 0⟩, bk0⟩
 else if m.kind = 4 then ⟨m.kind, m.frm, m.index, m.view, m.value, 0, ⟨0, 0⟩, bk0⟩
 else if m.kind = 5 then ⟨m.kind, m.frm, m.index, m.view, m.value, 0, ⟨0, 0⟩, bk0⟩
 else ⟨m.kind, m.frm, m.index, 0, m.value, 0, ⟨0, 0⟩, bk0⟩
abbrev qQ (S : zi) (q : Nat) (x : wM) : zi := (S.kills []).set q (.cells (fM x) (.own []) 0)
theorem wQ (S : zi) (q : Nat) (x : wM) : (qQ S q x).get q = some (.cells (fM x) (.own []) 0) := by rw [zi.yT, if_pos rfl]
theorem wY {S : zi} {q k : Nat} {x : wM} (h : k ≠ q) : (qQ S q x).get k = S.get k := by rw [zi.yT, if_neg h]; rfl
theorem JU {S : zi} {q k o : Nat} {x y : wM} (h : S.get k = some (.cells (fM y) (.own []) 0)) (hk : k ≠ q) : ku (.pointer (some ⟨k, o, none⟩)) S (qQ S q x) = true := by
 have hl : (qQ S q x).log = q :: S.log := rfl
 simp only [ku, h, hl, List.length_cons, Nat.add_sub_cancel_left, List.take_succ_cons, List.take_zero]
 simp [hk]
section
variable {S : zi} {q : Nat} {x : wM}
theorem Qh (h : S.get q = some (.cells (fM x) (.own []) 0)) (y : wM) : wU Try.prog 48 (.pointer (some ⟨q, 0, none⟩)) (mv y) S = some (undef, qQ S q y) := by
 rw [xZ (x := mv y) (n := 13) h Kt (by rw [qm]; rfl) (by rw [qm, List.toList_toArray]; exact ajK y) (by simp [fM]), qm, List.toList_toArray]; rfl
theorem agf (h : S.get q = some (.cells (fM x) (.own []) 0)) (v : Int) : wU Try.prog 3 (.pointer (some ⟨q, 0 + 2, none⟩)) (.int .i64 v) S = some (undef, qQ S q { x with index := v }) := by
 rw [xZ (n := 1) h acQ rfl rfl (by simp [fM])]; rfl
theorem ah2 (h : S.get q = some (.cells (fM x) (.own []) 0)) (v : Int) : wU Try.prog 3 (.pointer (some ⟨q, 0 + 3, none⟩)) (.int .i64 v) S = some (undef, qQ S q { x with view := v }) := by
 rw [xZ (n := 1) h acQ rfl rfl (by simp [fM])]; rfl
theorem adX (h : S.get q = some (.cells (fM x) (.own []) 0)) (v : Int) : wU Try.prog 3 (.pointer (some ⟨q, 0 + 4, none⟩)) (.int .i64 v) S = some (undef, qQ S q { x with value := v }) := by
 rw [xZ (n := 1) h acQ rfl rfl (by simp [fM])]; rfl
theorem akd (h : S.get q = some (.cells (fM x) (.own []) 0)) (v : Int) : wU Try.prog 3 (.pointer (some ⟨q, 0 + 5, none⟩)) (.int .i64 v) S = some (undef, qQ S q { x with prep := v }) := by
 rw [xZ (n := 1) h acQ rfl rfl (by simp [fM])]; rfl
theorem ajy (h : S.get q = some (.cells (fM x) (.own []) 0)) (t : TxV) : wU Try.prog 43 (.pointer (some ⟨q, 0 + 6, none⟩)) (tv t) S = some (undef, qQ S q { x with tx := t }) := by
 rw [xZ (n := 2) h vY rfl rfl (by simp [fM])]; rfl
theorem ajU (h : S.get q = some (.cells (fM x) (.own []) 0)) (b : xu) : wU Try.prog 46 (.pointer (some ⟨q, 0 + 8, none⟩)) (bv b) S = some (undef, qQ S q { x with b := b }) := by
 rw [xZ (x := bv b) (n := 5) h Zg (by rw [qm]; rfl) (by rw [qm, List.toList_toArray]; exact afF b) (by simp [fM]), qm, List.toList_toArray]; rfl
end
theorem zY.v0 {m : wM} (hm : m.Ok) (hk : m.kind = 0) (S : zi) : zQ Try.prog O zY.id [mv m] S = some (mv (yI m), S) := by
 obtain ⟨T, hTe⟩ : ∃ T, T = (mv m :: undef :: undef :: undef :: undef :: undef :: undef :: undef :: undef :: undef :: undef :: undef :: undef :: undef :: undef :: undef :: undef :: undef :: undef :: undef :: undef :: undef :: undef :: undef :: undef :: undef :: undef :: undef :: undef :: undef :: undef :: undef :: undef :: undef :: undef :: undef :: undef :: undef :: undef :: undef :: undef :: undef :: undef :: undef :: undef :: undef :: []) := ⟨_, rfl⟩
 have hr : zA Try.prog O false zY.code T zi.empty = zA Try.prog O false zY.code T zi.empty := rfl
 obtain ⟨A1, hA1⟩ : ∃ A, A = (YH m).push (.cells (fM m0) (.own []) 0) := ⟨_, rfl⟩
 have a1 : yJ Try.prog 48 (YH m) = some (.pointer (some ⟨1, 0, none⟩), A1) := by rw [hA1]; exact Xy _
 have p0 : A1.get 0 = some (.cells (fM m) (.own []) 0) := by rw [hA1]; kernel_rfl
 obtain ⟨A2, hA2⟩ : ∃ A, A = A1.push (.cells (fM m0) (.own []) 0) := ⟨_, rfl⟩
 have a2 : yJ Try.prog 48 A1 = some (.pointer (some ⟨2, 0, none⟩), A2) := by rw [hA2, hA1]; exact Xy _
 have q0 : A2.get 0 = some (.cells (fM m) (.own []) 0) := by rw [hA2, hA1]; kernel_rfl
 have q1 : A2.get 1 = some (.cells (fM m0) (.own []) 0) := by rw [hA2, hA1]; kernel_rfl
 have q2 : A2.get 2 = some (.cells (fM m0) (.own []) 0) := by rw [hA2, hA1]; kernel_rfl
 have s0 : wU Try.prog 48 (.pointer (some ⟨2, 0, none⟩)) (.agg [Value.int .i64 m.kind, .int .i64 m.frm, .int .i64 0, .int .i64 0, .int .i64 0, .int .i64 0, .int .i64 0, .int .i64 0, .int .i64 0, .int .i64 0, .int .i64 0, .int .i64 0, .slice none 0 0].toArray) A2 = some (undef, qQ A2 2 (⟨m.kind, m.frm, 0, 0, 0, 0, ⟨0, 0⟩, bk0⟩ : wM)) := Qh q2 (⟨m.kind, m.frm, 0, 0, 0, 0, ⟨0, 0⟩, bk0⟩ : wM)
 have b0 : (qQ A2 2 (⟨m.kind, m.frm, 0, 0, 0, 0, ⟨0, 0⟩, bk0⟩ : wM)).get 0 = some (.cells (fM m) (.own []) 0) := (wY (by decide)).trans q0
 have b1 : (qQ A2 2 (⟨m.kind, m.frm, 0, 0, 0, 0, ⟨0, 0⟩, bk0⟩ : wM)).get 1 = some (.cells (fM m0) (.own []) 0) := (wY (by decide)).trans q1
 have b2 := wQ A2 2 (⟨m.kind, m.frm, 0, 0, 0, 0, ⟨0, 0⟩, bk0⟩ : wM)
 generalize hB0 : qQ A2 2 (⟨m.kind, m.frm, 0, 0, 0, 0, ⟨0, 0⟩, bk0⟩ : wM) = B0 at s0 b0 b1 b2
 have s1 := ajy b2 m.tx
 have c1_0 : (qQ B0 2 (⟨m.kind, m.frm, 0, 0, 0, 0, m.tx, bk0⟩ : wM)).get 0 = some (.cells (fM m) (.own []) 0) := (wY (by decide)).trans b0
 have c1_1 : (qQ B0 2 (⟨m.kind, m.frm, 0, 0, 0, 0, m.tx, bk0⟩ : wM)).get 1 = some (.cells (fM m0) (.own []) 0) := (wY (by decide)).trans b1
 have c1_2 := wQ B0 2 (⟨m.kind, m.frm, 0, 0, 0, 0, m.tx, bk0⟩ : wM)
 dsimp only at s1
 generalize hB1 : qQ B0 2 (⟨m.kind, m.frm, 0, 0, 0, 0, m.tx, bk0⟩ : wM) = B1 at s1  c1_0 c1_1 c1_2
 have eb : (⟨m.kind, m.frm, 0, 0, 0, 0, m.tx, bk0⟩ : wM) = yI m := by simp [yI, hk]
 rw [eb] at c1_2
 have hbk : (yI m).b.k ≠ 2 := by simp [yI, hk]
 have ld := vw c1_2 hbk
 have sl := Qh c1_1 (yI m)
 have fin := vw (wQ B1 1 (yI m)) hbk
 have hcb : (yI m).b.k ≤ 2 := by simp [yI, hk]
 conv at hr =>
  rhs
  rw [hTe]
  simp only [zY.code, zY.rs, zSs, reduceIte, Nat.reduceEqDiff, Int.reduceEq, Int.reduceLT, Int.reduceLE, xO, a1, a2, zB, zJ, wF p0, wX p0, qY (y0 := .int .i64 m.kind) (y1 := .int .i64 m.frm) rfl rfl, s0, wF b0, zT, s1, yK b0, decide_eq_true hk, Zf, ld, sl]
 rw [hTe] at hr
 exact zY.runs hr (.inr rfl) fin (all1 (yw hm.b.okl.le)) (yw hcb)
theorem zY.v1 {m : wM} (hm : m.Ok) (hk : m.kind = 1) (S : zi) : zQ Try.prog O zY.id [mv m] S = some (mv (yI m), S) := by
 obtain ⟨T, hTe⟩ : ∃ T, T = (mv m :: undef :: undef :: undef :: undef :: undef :: undef :: undef :: undef :: undef :: undef :: undef :: undef :: undef :: undef :: undef :: undef :: undef :: undef :: undef :: undef :: undef :: undef :: undef :: undef :: undef :: undef :: undef :: undef :: undef :: undef :: undef :: undef :: undef :: undef :: undef :: undef :: undef :: undef :: undef :: undef :: undef :: undef :: undef :: undef :: undef :: []) := ⟨_, rfl⟩
 have hr : zA Try.prog O false zY.code T zi.empty = zA Try.prog O false zY.code T zi.empty := rfl
 obtain ⟨A1, hA1⟩ : ∃ A, A = (YH m).push (.cells (fM m0) (.own []) 0) := ⟨_, rfl⟩
 have a1 : yJ Try.prog 48 (YH m) = some (.pointer (some ⟨1, 0, none⟩), A1) := by rw [hA1]; exact Xy _
 have p0 : A1.get 0 = some (.cells (fM m) (.own []) 0) := by rw [hA1]; kernel_rfl
 obtain ⟨A2, hA2⟩ : ∃ A, A = A1.push (.cells (fM m0) (.own []) 0) := ⟨_, rfl⟩
 have a2 : yJ Try.prog 48 A1 = some (.pointer (some ⟨2, 0, none⟩), A2) := by rw [hA2, hA1]; exact Xy _
 have q0 : A2.get 0 = some (.cells (fM m) (.own []) 0) := by rw [hA2, hA1]; kernel_rfl
 have q1 : A2.get 1 = some (.cells (fM m0) (.own []) 0) := by rw [hA2, hA1]; kernel_rfl
 have q2 : A2.get 2 = some (.cells (fM m0) (.own []) 0) := by rw [hA2, hA1]; kernel_rfl
 have s0 : wU Try.prog 48 (.pointer (some ⟨2, 0, none⟩)) (.agg [Value.int .i64 m.kind, .int .i64 m.frm, .int .i64 0, .int .i64 0, .int .i64 0, .int .i64 0, .int .i64 0, .int .i64 0, .int .i64 0, .int .i64 0, .int .i64 0, .int .i64 0, .slice none 0 0].toArray) A2 = some (undef, qQ A2 2 (⟨m.kind, m.frm, 0, 0, 0, 0, ⟨0, 0⟩, bk0⟩ : wM)) := Qh q2 (⟨m.kind, m.frm, 0, 0, 0, 0, ⟨0, 0⟩, bk0⟩ : wM)
 have b0 : (qQ A2 2 (⟨m.kind, m.frm, 0, 0, 0, 0, ⟨0, 0⟩, bk0⟩ : wM)).get 0 = some (.cells (fM m) (.own []) 0) := (wY (by decide)).trans q0
 have b1 : (qQ A2 2 (⟨m.kind, m.frm, 0, 0, 0, 0, ⟨0, 0⟩, bk0⟩ : wM)).get 1 = some (.cells (fM m0) (.own []) 0) := (wY (by decide)).trans q1
 have b2 := wQ A2 2 (⟨m.kind, m.frm, 0, 0, 0, 0, ⟨0, 0⟩, bk0⟩ : wM)
 generalize hB0 : qQ A2 2 (⟨m.kind, m.frm, 0, 0, 0, 0, ⟨0, 0⟩, bk0⟩ : wM) = B0 at s0 b0 b1 b2
 have s1 := ajU b2 m.b
 have c1_0 : (qQ B0 2 (⟨m.kind, m.frm, 0, 0, 0, 0, ⟨0, 0⟩, m.b⟩ : wM)).get 0 = some (.cells (fM m) (.own []) 0) := (wY (by decide)).trans b0
 have c1_1 : (qQ B0 2 (⟨m.kind, m.frm, 0, 0, 0, 0, ⟨0, 0⟩, m.b⟩ : wM)).get 1 = some (.cells (fM m0) (.own []) 0) := (wY (by decide)).trans b1
 have c1_2 := wQ B0 2 (⟨m.kind, m.frm, 0, 0, 0, 0, ⟨0, 0⟩, m.b⟩ : wM)
 dsimp only at s1
 generalize hB1 : qQ B0 2 (⟨m.kind, m.frm, 0, 0, 0, 0, ⟨0, 0⟩, m.b⟩ : wM) = B1 at s1  c1_0 c1_1 c1_2
 have eb : (⟨m.kind, m.frm, 0, 0, 0, 0, ⟨0, 0⟩, m.b⟩ : wM) = yI m := by simp [yI, hk]
 rw [eb] at c1_2
 have hbk : (yI m).b.k ≠ 2 := by simp [yI, hk, hm.b.ne]
 have ld := vw c1_2 hbk
 have sl := Qh c1_1 (yI m)
 have fin := vw (wQ B1 1 (yI m)) hbk
 have hcb : (yI m).b.k ≤ 2 := by simp [yI, hk, hm.b.okl.le]
 conv at hr =>
  rhs
  rw [hTe]
  simp only [zY.code, zY.rs, zSs, reduceIte, Nat.reduceEqDiff, Int.reduceEq, Int.reduceLT, Int.reduceLE, xO, a1, a2, zB, zJ, wF p0, wX p0, qY (y0 := .int .i64 m.kind) (y1 := .int .i64 m.frm) rfl rfl, s0, wF b0, zN, s1, yF b0 hm.b.ne, decide_eq_false (show ¬ m.kind = 0 by omega), decide_eq_true hk, Zf, ld, sl]
 rw [hTe] at hr
 exact zY.runs hr (.inr rfl) fin (all1 (yw hm.b.okl.le)) (yw hcb)
theorem zY.v2 {m : wM} (hm : m.Ok) (hk : m.kind = 2) (S : zi) : zQ Try.prog O zY.id [mv m] S = some (mv (yI m), S) := by
 obtain ⟨T, hTe⟩ : ∃ T, T = (mv m :: undef :: undef :: undef :: undef :: undef :: undef :: undef :: undef :: undef :: undef :: undef :: undef :: undef :: undef :: undef :: undef :: undef :: undef :: undef :: undef :: undef :: undef :: undef :: undef :: undef :: undef :: undef :: undef :: undef :: undef :: undef :: undef :: undef :: undef :: undef :: undef :: undef :: undef :: undef :: undef :: undef :: undef :: undef :: undef :: undef :: []) := ⟨_, rfl⟩
 have hr : zA Try.prog O false zY.code T zi.empty = zA Try.prog O false zY.code T zi.empty := rfl
 obtain ⟨A1, hA1⟩ : ∃ A, A = (YH m).push (.cells (fM m0) (.own []) 0) := ⟨_, rfl⟩
 have a1 : yJ Try.prog 48 (YH m) = some (.pointer (some ⟨1, 0, none⟩), A1) := by rw [hA1]; exact Xy _
 have p0 : A1.get 0 = some (.cells (fM m) (.own []) 0) := by rw [hA1]; kernel_rfl
 obtain ⟨A2, hA2⟩ : ∃ A, A = A1.push (.cells (fM m0) (.own []) 0) := ⟨_, rfl⟩
 have a2 : yJ Try.prog 48 A1 = some (.pointer (some ⟨2, 0, none⟩), A2) := by rw [hA2, hA1]; exact Xy _
 have q0 : A2.get 0 = some (.cells (fM m) (.own []) 0) := by rw [hA2, hA1]; kernel_rfl
 have q1 : A2.get 1 = some (.cells (fM m0) (.own []) 0) := by rw [hA2, hA1]; kernel_rfl
 have q2 : A2.get 2 = some (.cells (fM m0) (.own []) 0) := by rw [hA2, hA1]; kernel_rfl
 have s0 : wU Try.prog 48 (.pointer (some ⟨2, 0, none⟩)) (.agg [Value.int .i64 m.kind, .int .i64 m.frm, .int .i64 0, .int .i64 0, .int .i64 0, .int .i64 0, .int .i64 0, .int .i64 0, .int .i64 0, .int .i64 0, .int .i64 0, .int .i64 0, .slice none 0 0].toArray) A2 = some (undef, qQ A2 2 (⟨m.kind, m.frm, 0, 0, 0, 0, ⟨0, 0⟩, bk0⟩ : wM)) := Qh q2 (⟨m.kind, m.frm, 0, 0, 0, 0, ⟨0, 0⟩, bk0⟩ : wM)
 have b0 : (qQ A2 2 (⟨m.kind, m.frm, 0, 0, 0, 0, ⟨0, 0⟩, bk0⟩ : wM)).get 0 = some (.cells (fM m) (.own []) 0) := (wY (by decide)).trans q0
 have b1 : (qQ A2 2 (⟨m.kind, m.frm, 0, 0, 0, 0, ⟨0, 0⟩, bk0⟩ : wM)).get 1 = some (.cells (fM m0) (.own []) 0) := (wY (by decide)).trans q1
 have b2 := wQ A2 2 (⟨m.kind, m.frm, 0, 0, 0, 0, ⟨0, 0⟩, bk0⟩ : wM)
 generalize hB0 : qQ A2 2 (⟨m.kind, m.frm, 0, 0, 0, 0, ⟨0, 0⟩, bk0⟩ : wM) = B0 at s0 b0 b1 b2
 have s1 := adX b2 m.value
 have c1_0 : (qQ B0 2 (⟨m.kind, m.frm, 0, 0, m.value, 0, ⟨0, 0⟩, bk0⟩ : wM)).get 0 = some (.cells (fM m) (.own []) 0) := (wY (by decide)).trans b0
 have c1_1 : (qQ B0 2 (⟨m.kind, m.frm, 0, 0, m.value, 0, ⟨0, 0⟩, bk0⟩ : wM)).get 1 = some (.cells (fM m0) (.own []) 0) := (wY (by decide)).trans b1
 have c1_2 := wQ B0 2 (⟨m.kind, m.frm, 0, 0, m.value, 0, ⟨0, 0⟩, bk0⟩ : wM)
 dsimp only at s1
 generalize hB1 : qQ B0 2 (⟨m.kind, m.frm, 0, 0, m.value, 0, ⟨0, 0⟩, bk0⟩ : wM) = B1 at s1  c1_0 c1_1 c1_2
 have eb : (⟨m.kind, m.frm, 0, 0, m.value, 0, ⟨0, 0⟩, bk0⟩ : wM) = yI m := by simp [yI, hk]
 rw [eb] at c1_2
 have hbk : (yI m).b.k ≠ 2 := by simp [yI, hk]
 have ld := vw c1_2 hbk
 have sl := Qh c1_1 (yI m)
 have fin := vw (wQ B1 1 (yI m)) hbk
 have hcb : (yI m).b.k ≤ 2 := by simp [yI, hk]
 conv at hr =>
  rhs
  rw [hTe]
  simp only [zY.code, zY.rs, zSs, reduceIte, Nat.reduceEqDiff, Int.reduceEq, Int.reduceLT, Int.reduceLE, xO, a1, a2, zB, zJ, wF p0, wX p0, qY (y0 := .int .i64 m.kind) (y1 := .int .i64 m.frm) rfl rfl, s0, wF b0, zI, s1, wR b0, decide_eq_false (show ¬ m.kind = 0 by omega), decide_eq_false (show ¬ m.kind = 1 by omega), decide_eq_true hk, Zf, ld, sl]
 rw [hTe] at hr
 exact zY.runs hr (.inr rfl) fin (all1 (yw hm.b.okl.le)) (yw hcb)
theorem zY.v3 {m : wM} (hm : m.Ok) (hk : m.kind = 3) (S : zi) : zQ Try.prog O zY.id [mv m] S = some (mv (yI m), S) := by
 obtain ⟨T, hTe⟩ : ∃ T, T = (mv m :: undef :: undef :: undef :: undef :: undef :: undef :: undef :: undef :: undef :: undef :: undef :: undef :: undef :: undef :: undef :: undef :: undef :: undef :: undef :: undef :: undef :: undef :: undef :: undef :: undef :: undef :: undef :: undef :: undef :: undef :: undef :: undef :: undef :: undef :: undef :: undef :: undef :: undef :: undef :: undef :: undef :: undef :: undef :: undef :: undef :: []) := ⟨_, rfl⟩
 have hr : zA Try.prog O false zY.code T zi.empty = zA Try.prog O false zY.code T zi.empty := rfl
 obtain ⟨A1, hA1⟩ : ∃ A, A = (YH m).push (.cells (fM m0) (.own []) 0) := ⟨_, rfl⟩
 have a1 : yJ Try.prog 48 (YH m) = some (.pointer (some ⟨1, 0, none⟩), A1) := by rw [hA1]; exact Xy _
 have p0 : A1.get 0 = some (.cells (fM m) (.own []) 0) := by rw [hA1]; kernel_rfl
 obtain ⟨A2, hA2⟩ : ∃ A, A = A1.push (.cells (fM m0) (.own []) 0) := ⟨_, rfl⟩
 have a2 : yJ Try.prog 48 A1 = some (.pointer (some ⟨2, 0, none⟩), A2) := by rw [hA2, hA1]; exact Xy _
 have q0 : A2.get 0 = some (.cells (fM m) (.own []) 0) := by rw [hA2, hA1]; kernel_rfl
 have q1 : A2.get 1 = some (.cells (fM m0) (.own []) 0) := by rw [hA2, hA1]; kernel_rfl
 have q2 : A2.get 2 = some (.cells (fM m0) (.own []) 0) := by rw [hA2, hA1]; kernel_rfl
 have s0 : wU Try.prog 48 (.pointer (some ⟨2, 0, none⟩)) (.agg [Value.int .i64 m.kind, .int .i64 m.frm, .int .i64 0, .int .i64 0, .int .i64 0, .int .i64 0, .int .i64 0, .int .i64 0, .int .i64 0, .int .i64 0, .int .i64 0, .int .i64 0, .slice none 0 0].toArray) A2 = some (undef, qQ A2 2 (⟨m.kind, m.frm, 0, 0, 0, 0, ⟨0, 0⟩, bk0⟩ : wM)) := Qh q2 (⟨m.kind, m.frm, 0, 0, 0, 0, ⟨0, 0⟩, bk0⟩ : wM)
 have b0 : (qQ A2 2 (⟨m.kind, m.frm, 0, 0, 0, 0, ⟨0, 0⟩, bk0⟩ : wM)).get 0 = some (.cells (fM m) (.own []) 0) := (wY (by decide)).trans q0
 have b1 : (qQ A2 2 (⟨m.kind, m.frm, 0, 0, 0, 0, ⟨0, 0⟩, bk0⟩ : wM)).get 1 = some (.cells (fM m0) (.own []) 0) := (wY (by decide)).trans q1
 have b2 := wQ A2 2 (⟨m.kind, m.frm, 0, 0, 0, 0, ⟨0, 0⟩, bk0⟩ : wM)
 generalize hB0 : qQ A2 2 (⟨m.kind, m.frm, 0, 0, 0, 0, ⟨0, 0⟩, bk0⟩ : wM) = B0 at s0 b0 b1 b2
 have s1 := akd b2 m.prep
 have c1_0 : (qQ B0 2 (⟨m.kind, m.frm, 0, 0, 0, m.prep, ⟨0, 0⟩, bk0⟩ : wM)).get 0 = some (.cells (fM m) (.own []) 0) := (wY (by decide)).trans b0
 have c1_1 : (qQ B0 2 (⟨m.kind, m.frm, 0, 0, 0, m.prep, ⟨0, 0⟩, bk0⟩ : wM)).get 1 = some (.cells (fM m0) (.own []) 0) := (wY (by decide)).trans b1
 have c1_2 := wQ B0 2 (⟨m.kind, m.frm, 0, 0, 0, m.prep, ⟨0, 0⟩, bk0⟩ : wM)
 dsimp only at s1
 generalize hB1 : qQ B0 2 (⟨m.kind, m.frm, 0, 0, 0, m.prep, ⟨0, 0⟩, bk0⟩ : wM) = B1 at s1  c1_0 c1_1 c1_2
 have s2 := ah2 c1_2 m.view
 have c2_0 : (qQ B1 2 (⟨m.kind, m.frm, 0, m.view, 0, m.prep, ⟨0, 0⟩, bk0⟩ : wM)).get 0 = some (.cells (fM m) (.own []) 0) := (wY (by decide)).trans c1_0
 have c2_1 : (qQ B1 2 (⟨m.kind, m.frm, 0, m.view, 0, m.prep, ⟨0, 0⟩, bk0⟩ : wM)).get 1 = some (.cells (fM m0) (.own []) 0) := (wY (by decide)).trans c1_1
 have c2_2 := wQ B1 2 (⟨m.kind, m.frm, 0, m.view, 0, m.prep, ⟨0, 0⟩, bk0⟩ : wM)
 dsimp only at s2
 generalize hB2 : qQ B1 2 (⟨m.kind, m.frm, 0, m.view, 0, m.prep, ⟨0, 0⟩, bk0⟩ : wM) = B2 at s2  c2_0 c2_1 c2_2
 have s3 := agf c2_2 m.index
 have sq := JU (o := 0 + 4) (x := (⟨m.kind, m.frm, m.index, m.view, 0, m.prep, ⟨0, 0⟩, bk0⟩ : wM)) c2_0 (show (0 : Nat) ≠ 2 by decide)
 have c3_0 : (qQ B2 2 (⟨m.kind, m.frm, m.index, m.view, 0, m.prep, ⟨0, 0⟩, bk0⟩ : wM)).get 0 = some (.cells (fM m) (.own []) 0) := (wY (by decide)).trans c2_0
 have c3_1 : (qQ B2 2 (⟨m.kind, m.frm, m.index, m.view, 0, m.prep, ⟨0, 0⟩, bk0⟩ : wM)).get 1 = some (.cells (fM m0) (.own []) 0) := (wY (by decide)).trans c2_1
 have c3_2 := wQ B2 2 (⟨m.kind, m.frm, m.index, m.view, 0, m.prep, ⟨0, 0⟩, bk0⟩ : wM)
 dsimp only at s3
 generalize hB3 : qQ B2 2 (⟨m.kind, m.frm, m.index, m.view, 0, m.prep, ⟨0, 0⟩, bk0⟩ : wM) = B3 at s3 sq c3_0 c3_1 c3_2
 have s4 := adX c3_2 m.value
 have c4_0 : (qQ B3 2 (⟨m.kind, m.frm, m.index, m.view, m.value, m.prep, ⟨0, 0⟩, bk0⟩ : wM)).get 0 = some (.cells (fM m) (.own []) 0) := (wY (by decide)).trans c3_0
 have c4_1 : (qQ B3 2 (⟨m.kind, m.frm, m.index, m.view, m.value, m.prep, ⟨0, 0⟩, bk0⟩ : wM)).get 1 = some (.cells (fM m0) (.own []) 0) := (wY (by decide)).trans c3_1
 have c4_2 := wQ B3 2 (⟨m.kind, m.frm, m.index, m.view, m.value, m.prep, ⟨0, 0⟩, bk0⟩ : wM)
 dsimp only at s4
 generalize hB4 : qQ B3 2 (⟨m.kind, m.frm, m.index, m.view, m.value, m.prep, ⟨0, 0⟩, bk0⟩ : wM) = B4 at s4  c4_0 c4_1 c4_2
 have eb : (⟨m.kind, m.frm, m.index, m.view, m.value, m.prep, ⟨0, 0⟩, bk0⟩ : wM) = yI m := by simp [yI, hk]
 rw [eb] at c4_2
 have hbk : (yI m).b.k ≠ 2 := by simp [yI, hk]
 have ld := vw c4_2 hbk
 have sl := Qh c4_1 (yI m)
 have fin := vw (wQ B4 1 (yI m)) hbk
 have hcb : (yI m).b.k ≤ 2 := by simp [yI, hk]
 conv at hr =>
  rhs
  rw [hTe]
  simp only [zY.code, zY.rs, zSs, reduceIte, Nat.reduceEqDiff, Int.reduceEq, Int.reduceLT, Int.reduceLE, xO, a1, a2, zB, zJ, wF p0, wX p0, qY (y0 := .int .i64 m.kind) (y1 := .int .i64 m.frm) rfl rfl, s0, wF b0, zU, s1, yH b0, zO, s2, yC b0, yC c1_0, zM, s3, sq, yc c1_0, yc c2_0, wR c2_0, zI, zI, s4, wR c2_0, wR c3_0, decide_eq_false (show ¬ m.kind = 0 by omega), decide_eq_false (show ¬ m.kind = 1 by omega), decide_eq_false (show ¬ m.kind = 2 by omega), decide_eq_true hk, Zf, ld, sl]
 rw [hTe] at hr
 exact zY.runs hr (.inr rfl) fin (all1 (yw hm.b.okl.le)) (yw hcb)
theorem zY.v4 {m : wM} (hm : m.Ok) (hk : m.kind = 4) (S : zi) : zQ Try.prog O zY.id [mv m] S = some (mv (yI m), S) := by
 obtain ⟨T, hTe⟩ : ∃ T, T = (mv m :: undef :: undef :: undef :: undef :: undef :: undef :: undef :: undef :: undef :: undef :: undef :: undef :: undef :: undef :: undef :: undef :: undef :: undef :: undef :: undef :: undef :: undef :: undef :: undef :: undef :: undef :: undef :: undef :: undef :: undef :: undef :: undef :: undef :: undef :: undef :: undef :: undef :: undef :: undef :: undef :: undef :: undef :: undef :: undef :: undef :: []) := ⟨_, rfl⟩
 have hr : zA Try.prog O false zY.code T zi.empty = zA Try.prog O false zY.code T zi.empty := rfl
 obtain ⟨A1, hA1⟩ : ∃ A, A = (YH m).push (.cells (fM m0) (.own []) 0) := ⟨_, rfl⟩
 have a1 : yJ Try.prog 48 (YH m) = some (.pointer (some ⟨1, 0, none⟩), A1) := by rw [hA1]; exact Xy _
 have p0 : A1.get 0 = some (.cells (fM m) (.own []) 0) := by rw [hA1]; kernel_rfl
 obtain ⟨A2, hA2⟩ : ∃ A, A = A1.push (.cells (fM m0) (.own []) 0) := ⟨_, rfl⟩
 have a2 : yJ Try.prog 48 A1 = some (.pointer (some ⟨2, 0, none⟩), A2) := by rw [hA2, hA1]; exact Xy _
 have q0 : A2.get 0 = some (.cells (fM m) (.own []) 0) := by rw [hA2, hA1]; kernel_rfl
 have q1 : A2.get 1 = some (.cells (fM m0) (.own []) 0) := by rw [hA2, hA1]; kernel_rfl
 have q2 : A2.get 2 = some (.cells (fM m0) (.own []) 0) := by rw [hA2, hA1]; kernel_rfl
 have s0 : wU Try.prog 48 (.pointer (some ⟨2, 0, none⟩)) (.agg [Value.int .i64 m.kind, .int .i64 m.frm, .int .i64 0, .int .i64 0, .int .i64 0, .int .i64 0, .int .i64 0, .int .i64 0, .int .i64 0, .int .i64 0, .int .i64 0, .int .i64 0, .slice none 0 0].toArray) A2 = some (undef, qQ A2 2 (⟨m.kind, m.frm, 0, 0, 0, 0, ⟨0, 0⟩, bk0⟩ : wM)) := Qh q2 (⟨m.kind, m.frm, 0, 0, 0, 0, ⟨0, 0⟩, bk0⟩ : wM)
 have b0 : (qQ A2 2 (⟨m.kind, m.frm, 0, 0, 0, 0, ⟨0, 0⟩, bk0⟩ : wM)).get 0 = some (.cells (fM m) (.own []) 0) := (wY (by decide)).trans q0
 have b1 : (qQ A2 2 (⟨m.kind, m.frm, 0, 0, 0, 0, ⟨0, 0⟩, bk0⟩ : wM)).get 1 = some (.cells (fM m0) (.own []) 0) := (wY (by decide)).trans q1
 have b2 := wQ A2 2 (⟨m.kind, m.frm, 0, 0, 0, 0, ⟨0, 0⟩, bk0⟩ : wM)
 generalize hB0 : qQ A2 2 (⟨m.kind, m.frm, 0, 0, 0, 0, ⟨0, 0⟩, bk0⟩ : wM) = B0 at s0 b0 b1 b2
 have s1 := ah2 b2 m.view
 have c1_0 : (qQ B0 2 (⟨m.kind, m.frm, 0, m.view, 0, 0, ⟨0, 0⟩, bk0⟩ : wM)).get 0 = some (.cells (fM m) (.own []) 0) := (wY (by decide)).trans b0
 have c1_1 : (qQ B0 2 (⟨m.kind, m.frm, 0, m.view, 0, 0, ⟨0, 0⟩, bk0⟩ : wM)).get 1 = some (.cells (fM m0) (.own []) 0) := (wY (by decide)).trans b1
 have c1_2 := wQ B0 2 (⟨m.kind, m.frm, 0, m.view, 0, 0, ⟨0, 0⟩, bk0⟩ : wM)
 dsimp only at s1
 generalize hB1 : qQ B0 2 (⟨m.kind, m.frm, 0, m.view, 0, 0, ⟨0, 0⟩, bk0⟩ : wM) = B1 at s1  c1_0 c1_1 c1_2
 have s2 := agf c1_2 m.index
 have sq := JU (o := 0 + 4) (x := (⟨m.kind, m.frm, m.index, m.view, 0, 0, ⟨0, 0⟩, bk0⟩ : wM)) c1_0 (show (0 : Nat) ≠ 2 by decide)
 have c2_0 : (qQ B1 2 (⟨m.kind, m.frm, m.index, m.view, 0, 0, ⟨0, 0⟩, bk0⟩ : wM)).get 0 = some (.cells (fM m) (.own []) 0) := (wY (by decide)).trans c1_0
 have c2_1 : (qQ B1 2 (⟨m.kind, m.frm, m.index, m.view, 0, 0, ⟨0, 0⟩, bk0⟩ : wM)).get 1 = some (.cells (fM m0) (.own []) 0) := (wY (by decide)).trans c1_1
 have c2_2 := wQ B1 2 (⟨m.kind, m.frm, m.index, m.view, 0, 0, ⟨0, 0⟩, bk0⟩ : wM)
 dsimp only at s2
 generalize hB2 : qQ B1 2 (⟨m.kind, m.frm, m.index, m.view, 0, 0, ⟨0, 0⟩, bk0⟩ : wM) = B2 at s2 sq c2_0 c2_1 c2_2
 have s3 := adX c2_2 m.value
 have c3_0 : (qQ B2 2 (⟨m.kind, m.frm, m.index, m.view, m.value, 0, ⟨0, 0⟩, bk0⟩ : wM)).get 0 = some (.cells (fM m) (.own []) 0) := (wY (by decide)).trans c2_0
 have c3_1 : (qQ B2 2 (⟨m.kind, m.frm, m.index, m.view, m.value, 0, ⟨0, 0⟩, bk0⟩ : wM)).get 1 = some (.cells (fM m0) (.own []) 0) := (wY (by decide)).trans c2_1
 have c3_2 := wQ B2 2 (⟨m.kind, m.frm, m.index, m.view, m.value, 0, ⟨0, 0⟩, bk0⟩ : wM)
 dsimp only at s3
 generalize hB3 : qQ B2 2 (⟨m.kind, m.frm, m.index, m.view, m.value, 0, ⟨0, 0⟩, bk0⟩ : wM) = B3 at s3  c3_0 c3_1 c3_2
 have eb : (⟨m.kind, m.frm, m.index, m.view, m.value, 0, ⟨0, 0⟩, bk0⟩ : wM) = yI m := by simp [yI, hk]
 rw [eb] at c3_2
 have hbk : (yI m).b.k ≠ 2 := by simp [yI, hk]
 have ld := vw c3_2 hbk
 have sl := Qh c3_1 (yI m)
 have fin := vw (wQ B3 1 (yI m)) hbk
 have hcb : (yI m).b.k ≤ 2 := by simp [yI, hk]
 conv at hr =>
  rhs
  rw [hTe]
  simp only [zY.code, zY.rs, zSs, reduceIte, Nat.reduceEqDiff, Int.reduceEq, Int.reduceLT, Int.reduceLE, xO, a1, a2, zB, zJ, wF p0, wX p0, qY (y0 := .int .i64 m.kind) (y1 := .int .i64 m.frm) rfl rfl, s0, wF b0, zO, s1, yC b0, zM, s2, sq, yc b0, yc c1_0, wR c1_0, zI, zI, s3, wR c1_0, wR c2_0, decide_eq_false (show ¬ m.kind = 0 by omega), decide_eq_false (show ¬ m.kind = 1 by omega), decide_eq_false (show ¬ m.kind = 2 by omega), decide_eq_false (show ¬ m.kind = 3 by omega), decide_eq_true hk, decide_eq_false (show ¬ m.kind = 5 by omega), decide_eq_false (show ¬ m.kind = 6 by omega), Zf, ld, sl]
 rw [hTe] at hr
 exact zY.runs hr (.inr rfl) fin (all1 (yw hm.b.okl.le)) (yw hcb)
theorem zY.v5 {m : wM} (hm : m.Ok) (hk : m.kind = 5) (S : zi) : zQ Try.prog O zY.id [mv m] S = some (mv (yI m), S) := by
 obtain ⟨T, hTe⟩ : ∃ T, T = (mv m :: undef :: undef :: undef :: undef :: undef :: undef :: undef :: undef :: undef :: undef :: undef :: undef :: undef :: undef :: undef :: undef :: undef :: undef :: undef :: undef :: undef :: undef :: undef :: undef :: undef :: undef :: undef :: undef :: undef :: undef :: undef :: undef :: undef :: undef :: undef :: undef :: undef :: undef :: undef :: undef :: undef :: undef :: undef :: undef :: undef :: []) := ⟨_, rfl⟩
 have hr : zA Try.prog O false zY.code T zi.empty = zA Try.prog O false zY.code T zi.empty := rfl
 obtain ⟨A1, hA1⟩ : ∃ A, A = (YH m).push (.cells (fM m0) (.own []) 0) := ⟨_, rfl⟩
 have a1 : yJ Try.prog 48 (YH m) = some (.pointer (some ⟨1, 0, none⟩), A1) := by rw [hA1]; exact Xy _
 have p0 : A1.get 0 = some (.cells (fM m) (.own []) 0) := by rw [hA1]; kernel_rfl
 obtain ⟨A2, hA2⟩ : ∃ A, A = A1.push (.cells (fM m0) (.own []) 0) := ⟨_, rfl⟩
 have a2 : yJ Try.prog 48 A1 = some (.pointer (some ⟨2, 0, none⟩), A2) := by rw [hA2, hA1]; exact Xy _
 have q0 : A2.get 0 = some (.cells (fM m) (.own []) 0) := by rw [hA2, hA1]; kernel_rfl
 have q1 : A2.get 1 = some (.cells (fM m0) (.own []) 0) := by rw [hA2, hA1]; kernel_rfl
 have q2 : A2.get 2 = some (.cells (fM m0) (.own []) 0) := by rw [hA2, hA1]; kernel_rfl
 have s0 : wU Try.prog 48 (.pointer (some ⟨2, 0, none⟩)) (.agg [Value.int .i64 m.kind, .int .i64 m.frm, .int .i64 0, .int .i64 0, .int .i64 0, .int .i64 0, .int .i64 0, .int .i64 0, .int .i64 0, .int .i64 0, .int .i64 0, .int .i64 0, .slice none 0 0].toArray) A2 = some (undef, qQ A2 2 (⟨m.kind, m.frm, 0, 0, 0, 0, ⟨0, 0⟩, bk0⟩ : wM)) := Qh q2 (⟨m.kind, m.frm, 0, 0, 0, 0, ⟨0, 0⟩, bk0⟩ : wM)
 have b0 : (qQ A2 2 (⟨m.kind, m.frm, 0, 0, 0, 0, ⟨0, 0⟩, bk0⟩ : wM)).get 0 = some (.cells (fM m) (.own []) 0) := (wY (by decide)).trans q0
 have b1 : (qQ A2 2 (⟨m.kind, m.frm, 0, 0, 0, 0, ⟨0, 0⟩, bk0⟩ : wM)).get 1 = some (.cells (fM m0) (.own []) 0) := (wY (by decide)).trans q1
 have b2 := wQ A2 2 (⟨m.kind, m.frm, 0, 0, 0, 0, ⟨0, 0⟩, bk0⟩ : wM)
 generalize hB0 : qQ A2 2 (⟨m.kind, m.frm, 0, 0, 0, 0, ⟨0, 0⟩, bk0⟩ : wM) = B0 at s0 b0 b1 b2
 have s1 := ah2 b2 m.view
 have c1_0 : (qQ B0 2 (⟨m.kind, m.frm, 0, m.view, 0, 0, ⟨0, 0⟩, bk0⟩ : wM)).get 0 = some (.cells (fM m) (.own []) 0) := (wY (by decide)).trans b0
 have c1_1 : (qQ B0 2 (⟨m.kind, m.frm, 0, m.view, 0, 0, ⟨0, 0⟩, bk0⟩ : wM)).get 1 = some (.cells (fM m0) (.own []) 0) := (wY (by decide)).trans b1
 have c1_2 := wQ B0 2 (⟨m.kind, m.frm, 0, m.view, 0, 0, ⟨0, 0⟩, bk0⟩ : wM)
 dsimp only at s1
 generalize hB1 : qQ B0 2 (⟨m.kind, m.frm, 0, m.view, 0, 0, ⟨0, 0⟩, bk0⟩ : wM) = B1 at s1  c1_0 c1_1 c1_2
 have s2 := agf c1_2 m.index
 have sq := JU (o := 0 + 4) (x := (⟨m.kind, m.frm, m.index, m.view, 0, 0, ⟨0, 0⟩, bk0⟩ : wM)) c1_0 (show (0 : Nat) ≠ 2 by decide)
 have c2_0 : (qQ B1 2 (⟨m.kind, m.frm, m.index, m.view, 0, 0, ⟨0, 0⟩, bk0⟩ : wM)).get 0 = some (.cells (fM m) (.own []) 0) := (wY (by decide)).trans c1_0
 have c2_1 : (qQ B1 2 (⟨m.kind, m.frm, m.index, m.view, 0, 0, ⟨0, 0⟩, bk0⟩ : wM)).get 1 = some (.cells (fM m0) (.own []) 0) := (wY (by decide)).trans c1_1
 have c2_2 := wQ B1 2 (⟨m.kind, m.frm, m.index, m.view, 0, 0, ⟨0, 0⟩, bk0⟩ : wM)
 dsimp only at s2
 generalize hB2 : qQ B1 2 (⟨m.kind, m.frm, m.index, m.view, 0, 0, ⟨0, 0⟩, bk0⟩ : wM) = B2 at s2 sq c2_0 c2_1 c2_2
 have s3 := adX c2_2 m.value
 have c3_0 : (qQ B2 2 (⟨m.kind, m.frm, m.index, m.view, m.value, 0, ⟨0, 0⟩, bk0⟩ : wM)).get 0 = some (.cells (fM m) (.own []) 0) := (wY (by decide)).trans c2_0
 have c3_1 : (qQ B2 2 (⟨m.kind, m.frm, m.index, m.view, m.value, 0, ⟨0, 0⟩, bk0⟩ : wM)).get 1 = some (.cells (fM m0) (.own []) 0) := (wY (by decide)).trans c2_1
 have c3_2 := wQ B2 2 (⟨m.kind, m.frm, m.index, m.view, m.value, 0, ⟨0, 0⟩, bk0⟩ : wM)
 dsimp only at s3
 generalize hB3 : qQ B2 2 (⟨m.kind, m.frm, m.index, m.view, m.value, 0, ⟨0, 0⟩, bk0⟩ : wM) = B3 at s3  c3_0 c3_1 c3_2
 have eb : (⟨m.kind, m.frm, m.index, m.view, m.value, 0, ⟨0, 0⟩, bk0⟩ : wM) = yI m := by simp [yI, hk]
 rw [eb] at c3_2
 have hbk : (yI m).b.k ≠ 2 := by simp [yI, hk]
 have ld := vw c3_2 hbk
 have sl := Qh c3_1 (yI m)
 have fin := vw (wQ B3 1 (yI m)) hbk
 have hcb : (yI m).b.k ≤ 2 := by simp [yI, hk]
 conv at hr =>
  rhs
  rw [hTe]
  simp only [zY.code, zY.rs, zSs, reduceIte, Nat.reduceEqDiff, Int.reduceEq, Int.reduceLT, Int.reduceLE, xO, a1, a2, zB, zJ, wF p0, wX p0, qY (y0 := .int .i64 m.kind) (y1 := .int .i64 m.frm) rfl rfl, s0, wF b0, zO, s1, yC b0, zM, s2, sq, yc b0, yc c1_0, wR c1_0, zI, zI, s3, wR c1_0, wR c2_0, decide_eq_false (show ¬ m.kind = 0 by omega), decide_eq_false (show ¬ m.kind = 1 by omega), decide_eq_false (show ¬ m.kind = 2 by omega), decide_eq_false (show ¬ m.kind = 3 by omega), decide_eq_false (show ¬ m.kind = 4 by omega), decide_eq_true hk, Zf, ld, sl]
 rw [hTe] at hr
 exact zY.runs hr (.inr rfl) fin (all1 (yw hm.b.okl.le)) (yw hcb)
theorem zY.v6 {m : wM} (hm : m.Ok) (hk : m.kind = 6) (S : zi) : zQ Try.prog O zY.id [mv m] S = some (mv (yI m), S) := by
 obtain ⟨T, hTe⟩ : ∃ T, T = (mv m :: undef :: undef :: undef :: undef :: undef :: undef :: undef :: undef :: undef :: undef :: undef :: undef :: undef :: undef :: undef :: undef :: undef :: undef :: undef :: undef :: undef :: undef :: undef :: undef :: undef :: undef :: undef :: undef :: undef :: undef :: undef :: undef :: undef :: undef :: undef :: undef :: undef :: undef :: undef :: undef :: undef :: undef :: undef :: undef :: undef :: []) := ⟨_, rfl⟩
 have hr : zA Try.prog O false zY.code T zi.empty = zA Try.prog O false zY.code T zi.empty := rfl
 obtain ⟨A1, hA1⟩ : ∃ A, A = (YH m).push (.cells (fM m0) (.own []) 0) := ⟨_, rfl⟩
 have a1 : yJ Try.prog 48 (YH m) = some (.pointer (some ⟨1, 0, none⟩), A1) := by rw [hA1]; exact Xy _
 have p0 : A1.get 0 = some (.cells (fM m) (.own []) 0) := by rw [hA1]; kernel_rfl
 obtain ⟨A2, hA2⟩ : ∃ A, A = A1.push (.cells (fM m0) (.own []) 0) := ⟨_, rfl⟩
 have a2 : yJ Try.prog 48 A1 = some (.pointer (some ⟨2, 0, none⟩), A2) := by rw [hA2, hA1]; exact Xy _
 have q0 : A2.get 0 = some (.cells (fM m) (.own []) 0) := by rw [hA2, hA1]; kernel_rfl
 have q1 : A2.get 1 = some (.cells (fM m0) (.own []) 0) := by rw [hA2, hA1]; kernel_rfl
 have q2 : A2.get 2 = some (.cells (fM m0) (.own []) 0) := by rw [hA2, hA1]; kernel_rfl
 have s0 : wU Try.prog 48 (.pointer (some ⟨2, 0, none⟩)) (.agg [Value.int .i64 m.kind, .int .i64 m.frm, .int .i64 0, .int .i64 0, .int .i64 0, .int .i64 0, .int .i64 0, .int .i64 0, .int .i64 0, .int .i64 0, .int .i64 0, .int .i64 0, .slice none 0 0].toArray) A2 = some (undef, qQ A2 2 (⟨m.kind, m.frm, 0, 0, 0, 0, ⟨0, 0⟩, bk0⟩ : wM)) := Qh q2 (⟨m.kind, m.frm, 0, 0, 0, 0, ⟨0, 0⟩, bk0⟩ : wM)
 have b0 : (qQ A2 2 (⟨m.kind, m.frm, 0, 0, 0, 0, ⟨0, 0⟩, bk0⟩ : wM)).get 0 = some (.cells (fM m) (.own []) 0) := (wY (by decide)).trans q0
 have b1 : (qQ A2 2 (⟨m.kind, m.frm, 0, 0, 0, 0, ⟨0, 0⟩, bk0⟩ : wM)).get 1 = some (.cells (fM m0) (.own []) 0) := (wY (by decide)).trans q1
 have b2 := wQ A2 2 (⟨m.kind, m.frm, 0, 0, 0, 0, ⟨0, 0⟩, bk0⟩ : wM)
 generalize hB0 : qQ A2 2 (⟨m.kind, m.frm, 0, 0, 0, 0, ⟨0, 0⟩, bk0⟩ : wM) = B0 at s0 b0 b1 b2
 have s1 := agf b2 m.index
 have sq := JU (o := 0 + 4) (x := (⟨m.kind, m.frm, m.index, 0, 0, 0, ⟨0, 0⟩, bk0⟩ : wM)) b0 (show (0 : Nat) ≠ 2 by decide)
 have c1_0 : (qQ B0 2 (⟨m.kind, m.frm, m.index, 0, 0, 0, ⟨0, 0⟩, bk0⟩ : wM)).get 0 = some (.cells (fM m) (.own []) 0) := (wY (by decide)).trans b0
 have c1_1 : (qQ B0 2 (⟨m.kind, m.frm, m.index, 0, 0, 0, ⟨0, 0⟩, bk0⟩ : wM)).get 1 = some (.cells (fM m0) (.own []) 0) := (wY (by decide)).trans b1
 have c1_2 := wQ B0 2 (⟨m.kind, m.frm, m.index, 0, 0, 0, ⟨0, 0⟩, bk0⟩ : wM)
 dsimp only at s1
 generalize hB1 : qQ B0 2 (⟨m.kind, m.frm, m.index, 0, 0, 0, ⟨0, 0⟩, bk0⟩ : wM) = B1 at s1 sq c1_0 c1_1 c1_2
 have s2 := adX c1_2 m.value
 have c2_0 : (qQ B1 2 (⟨m.kind, m.frm, m.index, 0, m.value, 0, ⟨0, 0⟩, bk0⟩ : wM)).get 0 = some (.cells (fM m) (.own []) 0) := (wY (by decide)).trans c1_0
 have c2_1 : (qQ B1 2 (⟨m.kind, m.frm, m.index, 0, m.value, 0, ⟨0, 0⟩, bk0⟩ : wM)).get 1 = some (.cells (fM m0) (.own []) 0) := (wY (by decide)).trans c1_1
 have c2_2 := wQ B1 2 (⟨m.kind, m.frm, m.index, 0, m.value, 0, ⟨0, 0⟩, bk0⟩ : wM)
 dsimp only at s2
 generalize hB2 : qQ B1 2 (⟨m.kind, m.frm, m.index, 0, m.value, 0, ⟨0, 0⟩, bk0⟩ : wM) = B2 at s2  c2_0 c2_1 c2_2
 have eb : (⟨m.kind, m.frm, m.index, 0, m.value, 0, ⟨0, 0⟩, bk0⟩ : wM) = yI m := by simp [yI, hk]
 rw [eb] at c2_2
 have hbk : (yI m).b.k ≠ 2 := by simp [yI, hk]
 have ld := vw c2_2 hbk
 have sl := Qh c2_1 (yI m)
 have fin := vw (wQ B2 1 (yI m)) hbk
 have hcb : (yI m).b.k ≤ 2 := by simp [yI, hk]
 conv at hr =>
  rhs
  rw [hTe]
  simp only [zY.code, zY.rs, zSs, reduceIte, Nat.reduceEqDiff, Int.reduceEq, Int.reduceLT, Int.reduceLE, xO, a1, a2, zB, zJ, wF p0, wX p0, qY (y0 := .int .i64 m.kind) (y1 := .int .i64 m.frm) rfl rfl, s0, wF b0, zM, s1, sq, yc b0, wR b0, zI, zI, s2, wR b0, wR c1_0, decide_eq_false (show ¬ m.kind = 0 by omega), decide_eq_false (show ¬ m.kind = 1 by omega), decide_eq_false (show ¬ m.kind = 2 by omega), decide_eq_false (show ¬ m.kind = 3 by omega), decide_eq_false (show ¬ m.kind = 4 by omega), decide_eq_false (show ¬ m.kind = 5 by omega), decide_eq_true hk, Zf, ld, sl]
 rw [hTe] at hr
 exact zY.runs hr (.inr rfl) fin (all1 (yw hm.b.okl.le)) (yw hcb)
theorem zY.v {m : wM} (hm : m.Ok) (h0 : 0 ≤ m.kind) (h6 : m.kind ≤ 6) (S : zi) : zQ Try.prog O zY.id [mv m] S = some (mv (yI m), S) := by
 have : m.kind = 0 ∨ m.kind = 1 ∨ m.kind = 2 ∨ m.kind = 3 ∨ m.kind = 4 ∨ m.kind = 5 ∨ m.kind = 6 := by omega
 rcases this with h | h | h | h | h | h | h
 ·
  exact zY.v0 hm h S
 ·
  exact zY.v1 hm h S
 ·
  exact zY.v2 hm h S
 ·
  exact zY.v3 hm h S
 ·
  exact zY.v4 hm h S
 ·
  exact zY.v5 hm h S
 ·
  exact zY.v6 hm h S
end Go.Proofs.Ytfjogganfjkckaa
namespace Go.Abs
open Go.RowKit
def gv (x b : Bool) (v : Value) : Value := if x = b then v else undef
theorem ahP (x b : Bool) (v : Value) : dem (gv x b v) = gv x b (dem v) := by
 unfold gv; split
 ·
  rfl
 ·
  exact Q9
theorem Qn {R : Type} {K : Value → zi → Option R} {p : vC K} {m : M Value} {S : zi} (x b : Bool) : gdK (.bool x) b m S K p = if x = b then zF (m S) K p else K undef S := by
 cases x <;> cases b <;> rfl
section
variable {R : Type} {K : Value → zi → Option R} {p : vC K} {S : zi} {x b c y z : Bool} {m m' : M Value} {P : Program} {O : Ora} {t : TypeId} {v w u : Value}
theorem qx (h : x = b → m S = m' S) : gdK (.bool x) b m S K p = gdK (.bool x) b m' S K p := by
 rw [Qn, Qn]
 split
 ·
  rename_i hx; rw [h hx]
 ·
  rfl
theorem zk (h : m S = some (v, S)) : gdK (.bool x) b m S K p = K (gv x b v) S := by
 rw [Qn]
 unfold gv
 split
 ·
  rw [h]; rfl
 ·
  rfl
theorem Jy (h : m S = some (v, S)) (hq : okq 3 v = true) : agn (.bool x) b m S K p = K (gv x b v) S := by
 unfold gv
 cases x <;> cases b <;> first | rfl | (simp only [abe, aa0, h, Qd, Wj hq, if_true])
theorem JB (h : x = b) : gv x b v = v := if_pos h
theorem aew {fx : Bool} : gdK (.bool x) b (zZ P fx t (gv x b v)) S K p = gdK (.bool x) b (zZ P fx t v) S K p := qx fun h => by rw [JB h]
theorem YO {f : Nat} : gdK (.bool x) b (zo P t (gv x b v) f) S K p = gdK (.bool x) b (zo P t v f) S K p := qx fun h => by rw [JB h]
theorem Q7 : gdK (.bool x) b (qZ (gv x b v)) S K p = gdK (.bool x) b (qZ v) S K p := qx fun h => by rw [JB h]
theorem ahR : gdK (.bool x) b (ZM P t (gv x b v)) S K p = gdK (.bool x) b (ZM P t v) S K p := qx fun h => by rw [JB h]
theorem Yl : gdK (.bool x) b (jB P t (gv x b v) w) S K p = gdK (.bool x) b (jB P t v w) S K p := qx fun h => by rw [JB h]
theorem WM : gdK (.bool x) b (jB P t v (gv x b w)) S K p = gdK (.bool x) b (jB P t v w) S K p := qx fun h => by rw [JB h]
theorem ajr {op : UnOp} : gdK (.bool x) b (aUn P op (gv x b v)) S K p = gdK (.bool x) b (aUn P op v) S K p := qx fun h => by rw [JB h]
theorem afe {hp dr : Bool} {t2 : TypeId} : gdK (.bool x) b (qN P hp dr t t2 (gv x b v)) S K p = gdK (.bool x) b (qN P hp dr t t2 v) S K p := qx fun h => by rw [JB h]
theorem afJ {op : BinOp} : gdK (.bool x) b (jX P op t (gv x b v) w) S K p = gdK (.bool x) b (jX P op t v w) S K p := qx fun h => by rw [JB h]
theorem aeo {op : BinOp} : gdK (.bool x) b (jX P op t v (gv x b w)) S K p = gdK (.bool x) b (jX P op t v w) S K p := qx fun h => by rw [JB h]
theorem ace {g : FuncId} {l : List Value} : gdK (.bool x) b (zQ P O g (gv x b v :: l)) S K p = gdK (.bool x) b (zQ P O g (v :: l)) S K p := qx fun h => by rw [JB h]
theorem abU {g : FuncId} {l : List Value} : gdK (.bool x) b (zQ P O g (u :: gv x b v :: l)) S K p = gdK (.bool x) b (zQ P O g (u :: v :: l)) S K p := qx fun h => by rw [JB h]
theorem aat {g : FuncId} {l : List Value} : gdK (.bool x) b (af7 (zQ P O) g (gv x b v :: l)) S K p = gdK (.bool x) b (af7 (zQ P O) g (v :: l)) S K p := qx fun h => by rw [JB h]
theorem VN {g : FuncId} {l : List Value} : gdK (.bool x) b (af7 (zQ P O) g (u :: gv x b v :: l)) S K p = gdK (.bool x) b (af7 (zQ P O) g (u :: v :: l)) S K p := qx fun h => by rw [JB h]
theorem ahq : gdK (.bool x) b (ret v) S K p = K (gv x b v) S := zk rfl
theorem ajv : gv x b (gv x b v) = gv x b v := by unfold gv; split <;> rfl
theorem ab9 : gdK (gv x c (.bool y)) b m S K p = gdK (.bool ((x == c) && (y == b))) true m S K p := by
 unfold gv
 cases x <;> cases c <;> cases y <;> cases b <;> rfl
theorem aff {fx : Bool} : gdK (.bool ((x == c) && (y == b))) true (zZ P fx t (gv x c v)) S K p = gdK (.bool ((x == c) && (y == b))) true (zZ P fx t v) S K p := qx fun h => by rw [JB (by simp at h; exact h.1)]
theorem afy {op : BinOp} : gdK (.bool ((x == c) && (y == b))) true (jX P op t (gv x c v) w) S K p = gdK (.bool ((x == c) && (y == b))) true (jX P op t v w) S K p := qx fun h => by rw [JB (by simp at h; exact h.1)]
theorem afq {op : BinOp} : gdK (.bool ((x == c) && (y == b))) true (jX P op t v (gv x c w)) S K p = gdK (.bool ((x == c) && (y == b))) true (jX P op t v w) S K p := qx fun h => by rw [JB (by simp at h; exact h.1)]
theorem ahg : gdK (.bool x) c (wP (gv x c (.bool y)) (.bool true) (gv ((x == c) && (y == false)) true (.bool z))) S K p = K (gv x c (.bool (y || z))) S := by
 unfold gv
 cases x <;> cases c <;> cases y <;> cases z <;> rfl
theorem aev : gdK (.bool x) c (wP (gv x c (.bool y)) (gv ((x == c) && (y == true)) true (.bool z)) (.bool false)) S K p = K (gv x c (.bool (y && z))) S := by
 unfold gv
 cases x <;> cases c <;> cases y <;> cases z <;> rfl
theorem ajT : (if x = true then Value.bool true else gv x false (.bool y)) = .bool (x || y) := by cases x <;> rfl
theorem ahJ : (if x = true then gv x true (.bool y) else Value.bool false) = .bool (x && y) := by cases x <;> rfl
theorem ajI : gv true true v = v := rfl
theorem ajX : gv false false v = v := rfl
theorem ajG : gv true false v = undef := rfl
theorem ajS : gv false true v = undef := rfl
theorem ahO {k : IntKind} {a d : Int} : gdK (.bool x) b (jX P .lss t (.int k a) (.int k d)) S K p = K (gv x b (.bool (decide (a < d)))) S := zk (XU k a d)
theorem ahA {k : IntKind} {a d : Int} : gdK (.bool x) b (jX P .leq t (.int k a) (.int k d)) S K p = K (gv x b (.bool (decide (a ≤ d)))) S := zk (XK k a d)
theorem ahS {k : IntKind} {a d : Int} : gdK (.bool x) b (jX P .gtr t (.int k a) (.int k d)) S K p = K (gv x b (.bool (decide (d < a)))) S := zk (XT k a d)
theorem ahQ {k : IntKind} {a d : Int} : gdK (.bool x) b (jX P .geq t (.int k a) (.int k d)) S K p = K (gv x b (.bool (decide (d ≤ a)))) S := zk (XZ k a d)
theorem ahI {k : IntKind} {a d : Int} : gdK (.bool x) b (jX P .eql t (.int k a) (.int k d)) S K p = K (gv x b (.bool (decide (a = d)))) S := zk (Vg k a d)
theorem ahi {k : IntKind} {a d : Int} : gdK (.bool x) b (jX P .neq t (.int k a) (.int k d)) S K p = K (gv x b (.bool (!decide (a = d)))) S := zk (XM k a d)
theorem ahb {k : IntKind} {a d : Int} : gdK (.bool x) b (jX P .add t (.int k a) (.int k d)) S K p = K (gv x b (.int k (k.wrap (a + d)))) S := zk (Xp k a d)
theorem ahl {k : IntKind} {a d : Int} : gdK (.bool x) b (jX P .sub t (.int k a) (.int k d)) S K p = K (gv x b (.int k (k.wrap (a - d)))) S := zk (Vu k a d)
theorem ahd : gdK (.bool x) b (aUn P .not (.bool y)) S K p = K (gv x b (.bool (!y))) S := zk (by cases y <;> rfl)
end
theorem gvw : type_of% (And.intro @ahP (And.intro @aew (And.intro @YO (And.intro @Q7 (And.intro @ahR (And.intro @Yl (And.intro @WM (And.intro @ajr (And.intro @afe (And.intro @afJ (And.intro @aeo (And.intro @ace (And.intro @abU (And.intro @aat (And.intro @VN (And.intro @ahq (And.intro @ajv (And.intro @ab9 (And.intro @aff (And.intro @afy (And.intro @afq (And.intro @ahg (And.intro @aev (And.intro @ajT (And.intro @ahJ (And.intro @ajI (And.intro @ajX (And.intro @ajG (And.intro @ajS (And.intro @ahO (And.intro @ahA (And.intro @ahS (And.intro @ahQ (And.intro @ahI (And.intro @ahi (And.intro @ahb (And.intro @ahl @ahd))))))))))))))))))))))))))))))))))))) :=
 And.intro @ahP (And.intro @aew (And.intro @YO (And.intro @Q7 (And.intro @ahR (And.intro @Yl (And.intro @WM (And.intro @ajr (And.intro @afe (And.intro @afJ (And.intro @aeo (And.intro @ace (And.intro @abU (And.intro @aat (And.intro @VN (And.intro @ahq (And.intro @ajv (And.intro @ab9 (And.intro @aff (And.intro @afy (And.intro @afq (And.intro @ahg (And.intro @aev (And.intro @ajT (And.intro @ahJ (And.intro @ajI (And.intro @ajX (And.intro @ajG (And.intro @ajS (And.intro @ahO (And.intro @ahA (And.intro @ahS (And.intro @ahQ (And.intro @ahI (And.intro @ahi (And.intro @ahb (And.intro @ahl @ahd))))))))))))))))))))))))))))))))))))
end Go.Abs
namespace Go.Proofs.Ytfjogganfjkckaa
open Go.Abs
def nameB (n : Int) : Bool := decide (n = 0) || kR n
theorem ae3 {n : Int} (h : n < 0) : kR n = false := by
 rw [Bool.eq_false_iff]; intro h2; have := xG.1 h2; omega
theorem agX (n : Int) : decide (0 < WO n) = kR n := by
 rw [Bool.eq_iff_iff, decide_eq_true_eq]
 unfold WO
 constructor
 ·
  intro h; split at h
  ·
   assumption
  ·
   omega
 ·
  intro h
  have := xG.1 h
  rw [if_pos h]; omega
theorem jo.v {n : Int} (hn : n < 9223372036854775808) (S : zi) : zQ Try.prog O jo.id [.int .i64 n] S = some (.bool (nameB n), S) := by
 obtain ⟨T, hTe⟩ : ∃ T, T = (.int .i64 n :: undef :: undef :: undef :: undef :: undef :: undef :: undef :: undef :: undef :: undef :: undef :: undef :: undef :: undef :: undef :: undef :: undef :: undef :: []) := ⟨_, rfl⟩
 have hr : zA Try.prog O false jo.code T S = zA Try.prog O false jo.code T S := rfl
 have c1 := fun S => zW.v n hn S
 obtain ⟨a, b, c, e⟩ : ∃ a b c, aam n = .tuple #[.int .i64 a, .int .i64 b, .int .i64 c, .bool (kR n)] := by
  unfold aam
  by_cases h : n < 0
  ·
   exact ⟨0, 0, 0, by rw [if_pos h, ae3 h]⟩
  ·
   exact ⟨_, _, _, by rw [if_neg h]⟩
 rw [e] at c1
 unfold nameB
 conv at hr =>
  rhs
  rw [hTe]
  simp only [jo.code, jo.rs, zSs, reduceIte, Nat.reduceEqDiff, Int.reduceEq, Int.reduceLT, Int.reduceLE, c1, gvw]
 rw [hTe] at hr
 exact jo.runs hr (.inr rfl)
theorem jq.v {b : xu} (hb : b.Ok) (S : zi) : zQ Try.prog O jq.id [bv b] S = some (.bool (Zp b bk0), S) := by
 obtain ⟨T, hTe⟩ : ∃ T, T = (bv b :: undef :: undef :: undef :: undef :: undef :: []) := ⟨_, rfl⟩
 have hr : zA Try.prog O false jq.code T zi.empty = zA Try.prog O false jq.code T zi.empty := rfl
 have c1 : ∀ S, zQ Try.prog O 18 [bv b, .agg [Value.int .i64 0, .int .i64 0, .int .i64 0, .int .i64 0, .slice none 0 0].toArray] S = some (.bool (Zp b bk0), S) := fun S => ji.v hb ok0 S
 conv at hr =>
  rhs
  rw [hTe]
  simp only [jq.code, jq.rs, zSs, reduceIte, Nat.reduceEqDiff, Int.reduceEq, Int.reduceLT, Int.reduceLE, Jb, V4 (yM b) hb.ne, YT, c1]
 rw [hTe] at hr
 exact jq.runs hr (.inr rfl) (all1 (yx hb.okl.le)) rfl
def xQ (m : wM) : Bool := ((!decide (m.kind = 0) && !decide (m.tx = ⟨0, 0⟩)) || (!decide (m.kind = 1) && !Zp m.b bk0)) || (!decide (m.kind = 3) && !decide (m.prep = 0))
def VB (m : wM) : Bool := decide (0 ≤ m.index) && decide (m.index ≤ 1000)
def vwB (m : wM) : Bool := decide (0 ≤ m.view) && decide (m.view ≤ 1000)
def vI (m : wM) : Bool :=
 if m.kind = 0 then ((decide (m.index = 0) && decide (m.view = 0)) && decide (m.value = 0)) && y7 m.tx
 else if m.kind = 1 then ((decide (m.index = 0) && decide (m.view = 0)) && decide (m.value = 0)) && jI m.b
 else if m.kind = 2 then (decide (m.index = 0) && decide (m.view = 0)) && nameB m.value
 else if m.kind = 3 then ((((VB m) && (vwB m)) && nameB m.value) && decide (-1 ≤ m.prep)) && decide (m.prep < m.view)
 else if m.kind = 4 ∨ m.kind = 5 then ((VB m) && (vwB m)) && (decide (m.value = -1) || nameB m.value)
 else if m.kind = 6 then ((VB m) && decide (m.view = 0)) && nameB m.value
 else false
def xM (m : wM) : Bool := if decide (m.frm < 0) || decide (6 < m.frm) then false else if xQ m then false else vI m
theorem JD (t u : TxV) (S : zi) : jX Try.prog .neq 43 (tv t) (tv u) S = some (.bool (!decide (t = u)), S) := (agk t u S).2
theorem zh.v0 {m : wM} (hm : m.Ok) (hk : m.kind = 0) (S : zi) : zQ Try.prog O zh.id [mv m] S = some (.bool (xM m), S) := by
 obtain ⟨T, hTe⟩ : ∃ T, T = (mv m :: undef :: undef :: undef :: undef :: undef :: undef :: undef :: undef :: undef :: undef :: undef :: undef :: undef :: undef :: undef :: undef :: undef :: undef :: undef :: undef :: undef :: undef :: undef :: undef :: undef :: undef :: undef :: undef :: undef :: undef :: undef :: undef :: undef :: undef :: undef :: undef :: undef :: undef :: undef :: undef :: undef :: undef :: undef :: undef :: undef :: undef :: undef :: undef :: undef :: undef :: undef :: undef :: undef :: undef :: undef :: undef :: undef :: undef :: undef :: undef :: undef :: undef :: undef :: undef :: undef :: undef :: undef :: undef :: undef :: undef :: undef :: undef :: undef :: undef :: undef :: undef :: undef :: undef :: undef :: undef :: undef :: undef :: undef :: undef :: undef :: undef :: undef :: undef :: undef :: undef :: undef :: undef :: undef :: undef :: undef :: undef :: undef :: undef :: undef :: undef :: undef :: undef :: undef :: undef :: undef :: undef :: undef :: undef :: undef :: undef :: undef :: undef :: undef :: undef :: undef :: undef :: undef :: undef :: undef :: undef :: undef :: undef :: undef :: undef :: undef :: undef :: undef :: undef :: undef :: undef :: undef :: undef :: undef :: undef :: undef :: undef :: undef :: undef :: undef :: undef :: undef :: undef :: undef :: undef :: undef :: undef :: undef :: undef :: undef :: undef :: undef :: undef :: undef :: undef :: undef :: undef :: undef :: undef :: undef :: undef :: undef :: undef :: undef :: undef :: undef :: undef :: undef :: undef :: []) := ⟨_, rfl⟩
 have hr : zA Try.prog O false zh.code T zi.empty = zA Try.prog O false zh.code T zi.empty := rfl
 have g0 := kZ m
 have c1 := fun S => jq.v hm.b S
 have c2 := fun S => jo.v hm.value.2 S
 have c3 := fun S => jh.v m.tx S
 have c4 := fun S => zq.v hm.b S
 have hc : [mv m].all (jH 16) = true := all1 (yw hm.b.okl.le)
 have eT : ∀ S, jX Try.prog .neq 43 (tv m.tx) (.agg [Value.int .i64 0, .int .i64 0].toArray) S = some (.bool (!decide (m.tx = ⟨0, 0⟩)), S) := fun S => JD m.tx ⟨0, 0⟩ S
 have k0 : decide (m.kind = 0) = true := decide_eq_true hk
 have k1 : decide (m.kind = 1) = false := decide_eq_false (by omega)
 have k2 : decide (m.kind = 2) = false := decide_eq_false (by omega)
 have k3 : decide (m.kind = 3) = false := decide_eq_false (by omega)
 have k4 : decide (m.kind = 4) = false := decide_eq_false (by omega)
 have k5 : decide (m.kind = 5) = false := decide_eq_false (by omega)
 have k6 : decide (m.kind = 6) = false := decide_eq_false (by omega)
 have ek : vI m = (((decide (m.index = 0) && decide (m.view = 0)) && decide (m.value = 0)) && y7 m.tx) := by simp only [vI, hk, VB, vwB, Int.reduceEq, if_true, if_false, reduceIte, or_true, true_or, or_false, or_self]
 unfold xM
 rw [ek]
 obtain ⟨c, hc0⟩ : ∃ b, (decide (m.frm < 0) || decide (6 < m.frm)) = b := ⟨_, rfl⟩
 obtain ⟨d, hd⟩ : ∃ b, xQ m = b := ⟨_, rfl⟩
 have hd2 := hd
 unfold xQ at hd2
 simp only [k0, k1, k2, k3, k4, k5, k6, Bool.not_true, Bool.not_false, Bool.true_and, Bool.false_and, Bool.or_false, Bool.false_or] at hd2
 rw [hc0, hd]
 cases c
 ·
  cases d
  ·
   simp only [Bool.false_eq_true, if_false]
   conv at hr =>
    rhs
    rw [hTe]
    simp only [zh.code, zh.rs, zSs, reduceIte, Nat.reduceEqDiff, Int.reduceEq, Int.reduceLT, Int.reduceLE, xO, zB, zJ, zM, zO, zI, zU, zT, zN, wF g0, wX g0, yc g0, yC g0, wR g0, yH g0, yK g0, yF g0 hm.b.ne, jO, eT, c1, c2, c3, c4, zk (zB _ _ _), zk (zJ _ _ _), zk (zM _ _ _), zk (zO _ _ _), zk (zI _ _ _), zk (zU _ _ _), zk (zT _ _ _), zk (zN _ _ _), zk (wF g0), zk (wX g0), zk (yc g0), zk (yC g0), zk (wR g0), zk (yH g0), zk (yK g0), zk (yF g0 hm.b.ne), zk (jO _), zk (eT _), zk (c1 _), zk (c2 _), zk (c3 _), zk (c4 _), gvw, k0, k1, k2, k3, k4, k5, k6, hc0, hd2, Bool.not_true, Bool.not_false, Bool.true_and, Bool.false_and, Bool.or_false, Bool.false_or]
   rw [hTe] at hr
   exact zh.runs hr (.inr rfl) hc rfl
  ·
   simp only [Bool.false_eq_true, if_false, if_true]
   conv at hr =>
    rhs
    rw [hTe]
    simp only [zh.code, zh.rs, zSs, reduceIte, Nat.reduceEqDiff, Int.reduceEq, Int.reduceLT, Int.reduceLE, xO, zB, zJ, zM, zO, zI, zU, zT, zN, wF g0, wX g0, yc g0, yC g0, wR g0, yH g0, yK g0, yF g0 hm.b.ne, jO, eT, c1, c2, c3, c4, zk (zB _ _ _), zk (zJ _ _ _), zk (zM _ _ _), zk (zO _ _ _), zk (zI _ _ _), zk (zU _ _ _), zk (zT _ _ _), zk (zN _ _ _), zk (wF g0), zk (wX g0), zk (yc g0), zk (yC g0), zk (wR g0), zk (yH g0), zk (yK g0), zk (yF g0 hm.b.ne), zk (jO _), zk (eT _), zk (c1 _), zk (c2 _), zk (c3 _), zk (c4 _), gvw, k0, k1, k2, k3, k4, k5, k6, hc0, hd2, Bool.not_true, Bool.not_false, Bool.true_and, Bool.false_and, Bool.or_false, Bool.false_or]
   rw [hTe] at hr
   exact zh.runs hr (.inr rfl) hc rfl
 ·
  simp only [if_true]
  conv at hr =>
   rhs
   rw [hTe]
   simp only [zh.code, zh.rs, zSs, reduceIte, Nat.reduceEqDiff, Int.reduceEq, Int.reduceLT, Int.reduceLE, xO, zB, zJ, zM, zO, zI, zU, zT, zN, wF g0, wX g0, yc g0, yC g0, wR g0, yH g0, yK g0, yF g0 hm.b.ne, jO, eT, c1, c2, c3, c4, zk (zB _ _ _), zk (zJ _ _ _), zk (zM _ _ _), zk (zO _ _ _), zk (zI _ _ _), zk (zU _ _ _), zk (zT _ _ _), zk (zN _ _ _), zk (wF g0), zk (wX g0), zk (yc g0), zk (yC g0), zk (wR g0), zk (yH g0), zk (yK g0), zk (yF g0 hm.b.ne), zk (jO _), zk (eT _), zk (c1 _), zk (c2 _), zk (c3 _), zk (c4 _), gvw, k0, k1, k2, k3, k4, k5, k6, hc0]
  rw [hTe] at hr
  exact zh.runs hr (.inr rfl) hc rfl
theorem zh.v1 {m : wM} (hm : m.Ok) (hk : m.kind = 1) (S : zi) : zQ Try.prog O zh.id [mv m] S = some (.bool (xM m), S) := by
 obtain ⟨T, hTe⟩ : ∃ T, T = (mv m :: undef :: undef :: undef :: undef :: undef :: undef :: undef :: undef :: undef :: undef :: undef :: undef :: undef :: undef :: undef :: undef :: undef :: undef :: undef :: undef :: undef :: undef :: undef :: undef :: undef :: undef :: undef :: undef :: undef :: undef :: undef :: undef :: undef :: undef :: undef :: undef :: undef :: undef :: undef :: undef :: undef :: undef :: undef :: undef :: undef :: undef :: undef :: undef :: undef :: undef :: undef :: undef :: undef :: undef :: undef :: undef :: undef :: undef :: undef :: undef :: undef :: undef :: undef :: undef :: undef :: undef :: undef :: undef :: undef :: undef :: undef :: undef :: undef :: undef :: undef :: undef :: undef :: undef :: undef :: undef :: undef :: undef :: undef :: undef :: undef :: undef :: undef :: undef :: undef :: undef :: undef :: undef :: undef :: undef :: undef :: undef :: undef :: undef :: undef :: undef :: undef :: undef :: undef :: undef :: undef :: undef :: undef :: undef :: undef :: undef :: undef :: undef :: undef :: undef :: undef :: undef :: undef :: undef :: undef :: undef :: undef :: undef :: undef :: undef :: undef :: undef :: undef :: undef :: undef :: undef :: undef :: undef :: undef :: undef :: undef :: undef :: undef :: undef :: undef :: undef :: undef :: undef :: undef :: undef :: undef :: undef :: undef :: undef :: undef :: undef :: undef :: undef :: undef :: undef :: undef :: undef :: undef :: undef :: undef :: undef :: undef :: undef :: undef :: undef :: undef :: undef :: undef :: undef :: []) := ⟨_, rfl⟩
 have hr : zA Try.prog O false zh.code T zi.empty = zA Try.prog O false zh.code T zi.empty := rfl
 have g0 := kZ m
 have c1 := fun S => jq.v hm.b S
 have c2 := fun S => jo.v hm.value.2 S
 have c3 := fun S => jh.v m.tx S
 have c4 := fun S => zq.v hm.b S
 have hc : [mv m].all (jH 16) = true := all1 (yw hm.b.okl.le)
 have eT : ∀ S, jX Try.prog .neq 43 (tv m.tx) (.agg [Value.int .i64 0, .int .i64 0].toArray) S = some (.bool (!decide (m.tx = ⟨0, 0⟩)), S) := fun S => JD m.tx ⟨0, 0⟩ S
 have k0 : decide (m.kind = 0) = false := decide_eq_false (by omega)
 have k1 : decide (m.kind = 1) = true := decide_eq_true hk
 have k2 : decide (m.kind = 2) = false := decide_eq_false (by omega)
 have k3 : decide (m.kind = 3) = false := decide_eq_false (by omega)
 have k4 : decide (m.kind = 4) = false := decide_eq_false (by omega)
 have k5 : decide (m.kind = 5) = false := decide_eq_false (by omega)
 have k6 : decide (m.kind = 6) = false := decide_eq_false (by omega)
 have ek : vI m = (((decide (m.index = 0) && decide (m.view = 0)) && decide (m.value = 0)) && jI m.b) := by simp only [vI, hk, VB, vwB, Int.reduceEq, if_true, if_false, reduceIte, or_true, true_or, or_false, or_self]
 unfold xM
 rw [ek]
 obtain ⟨c, hc0⟩ : ∃ b, (decide (m.frm < 0) || decide (6 < m.frm)) = b := ⟨_, rfl⟩
 obtain ⟨d, hd⟩ : ∃ b, xQ m = b := ⟨_, rfl⟩
 have hd2 := hd
 unfold xQ at hd2
 simp only [k0, k1, k2, k3, k4, k5, k6, Bool.not_true, Bool.not_false, Bool.true_and, Bool.false_and, Bool.or_false, Bool.false_or] at hd2
 rw [hc0, hd]
 cases c
 ·
  cases d
  ·
   simp only [Bool.false_eq_true, if_false]
   conv at hr =>
    rhs
    rw [hTe]
    simp only [zh.code, zh.rs, zSs, reduceIte, Nat.reduceEqDiff, Int.reduceEq, Int.reduceLT, Int.reduceLE, xO, zB, zJ, zM, zO, zI, zU, zT, zN, wF g0, wX g0, yc g0, yC g0, wR g0, yH g0, yK g0, yF g0 hm.b.ne, jO, eT, c1, c2, c3, c4, zk (zB _ _ _), zk (zJ _ _ _), zk (zM _ _ _), zk (zO _ _ _), zk (zI _ _ _), zk (zU _ _ _), zk (zT _ _ _), zk (zN _ _ _), zk (wF g0), zk (wX g0), zk (yc g0), zk (yC g0), zk (wR g0), zk (yH g0), zk (yK g0), zk (yF g0 hm.b.ne), zk (jO _), zk (eT _), zk (c1 _), zk (c2 _), zk (c3 _), zk (c4 _), gvw, k0, k1, k2, k3, k4, k5, k6, hc0, hd2, Bool.not_true, Bool.not_false, Bool.true_and, Bool.false_and, Bool.or_false, Bool.false_or]
   rw [hTe] at hr
   exact zh.runs hr (.inr rfl) hc rfl
  ·
   simp only [Bool.false_eq_true, if_false, if_true]
   conv at hr =>
    rhs
    rw [hTe]
    simp only [zh.code, zh.rs, zSs, reduceIte, Nat.reduceEqDiff, Int.reduceEq, Int.reduceLT, Int.reduceLE, xO, zB, zJ, zM, zO, zI, zU, zT, zN, wF g0, wX g0, yc g0, yC g0, wR g0, yH g0, yK g0, yF g0 hm.b.ne, jO, eT, c1, c2, c3, c4, zk (zB _ _ _), zk (zJ _ _ _), zk (zM _ _ _), zk (zO _ _ _), zk (zI _ _ _), zk (zU _ _ _), zk (zT _ _ _), zk (zN _ _ _), zk (wF g0), zk (wX g0), zk (yc g0), zk (yC g0), zk (wR g0), zk (yH g0), zk (yK g0), zk (yF g0 hm.b.ne), zk (jO _), zk (eT _), zk (c1 _), zk (c2 _), zk (c3 _), zk (c4 _), gvw, k0, k1, k2, k3, k4, k5, k6, hc0, hd2, Bool.not_true, Bool.not_false, Bool.true_and, Bool.false_and, Bool.or_false, Bool.false_or]
   rw [hTe] at hr
   exact zh.runs hr (.inr rfl) hc rfl
 ·
  simp only [if_true]
  conv at hr =>
   rhs
   rw [hTe]
   simp only [zh.code, zh.rs, zSs, reduceIte, Nat.reduceEqDiff, Int.reduceEq, Int.reduceLT, Int.reduceLE, xO, zB, zJ, zM, zO, zI, zU, zT, zN, wF g0, wX g0, yc g0, yC g0, wR g0, yH g0, yK g0, yF g0 hm.b.ne, jO, eT, c1, c2, c3, c4, zk (zB _ _ _), zk (zJ _ _ _), zk (zM _ _ _), zk (zO _ _ _), zk (zI _ _ _), zk (zU _ _ _), zk (zT _ _ _), zk (zN _ _ _), zk (wF g0), zk (wX g0), zk (yc g0), zk (yC g0), zk (wR g0), zk (yH g0), zk (yK g0), zk (yF g0 hm.b.ne), zk (jO _), zk (eT _), zk (c1 _), zk (c2 _), zk (c3 _), zk (c4 _), gvw, k0, k1, k2, k3, k4, k5, k6, hc0]
  rw [hTe] at hr
  exact zh.runs hr (.inr rfl) hc rfl
theorem zh.v2 {m : wM} (hm : m.Ok) (hk : m.kind = 2) (S : zi) : zQ Try.prog O zh.id [mv m] S = some (.bool (xM m), S) := by
 obtain ⟨T, hTe⟩ : ∃ T, T = (mv m :: undef :: undef :: undef :: undef :: undef :: undef :: undef :: undef :: undef :: undef :: undef :: undef :: undef :: undef :: undef :: undef :: undef :: undef :: undef :: undef :: undef :: undef :: undef :: undef :: undef :: undef :: undef :: undef :: undef :: undef :: undef :: undef :: undef :: undef :: undef :: undef :: undef :: undef :: undef :: undef :: undef :: undef :: undef :: undef :: undef :: undef :: undef :: undef :: undef :: undef :: undef :: undef :: undef :: undef :: undef :: undef :: undef :: undef :: undef :: undef :: undef :: undef :: undef :: undef :: undef :: undef :: undef :: undef :: undef :: undef :: undef :: undef :: undef :: undef :: undef :: undef :: undef :: undef :: undef :: undef :: undef :: undef :: undef :: undef :: undef :: undef :: undef :: undef :: undef :: undef :: undef :: undef :: undef :: undef :: undef :: undef :: undef :: undef :: undef :: undef :: undef :: undef :: undef :: undef :: undef :: undef :: undef :: undef :: undef :: undef :: undef :: undef :: undef :: undef :: undef :: undef :: undef :: undef :: undef :: undef :: undef :: undef :: undef :: undef :: undef :: undef :: undef :: undef :: undef :: undef :: undef :: undef :: undef :: undef :: undef :: undef :: undef :: undef :: undef :: undef :: undef :: undef :: undef :: undef :: undef :: undef :: undef :: undef :: undef :: undef :: undef :: undef :: undef :: undef :: undef :: undef :: undef :: undef :: undef :: undef :: undef :: undef :: undef :: undef :: undef :: undef :: undef :: undef :: []) := ⟨_, rfl⟩
 have hr : zA Try.prog O false zh.code T zi.empty = zA Try.prog O false zh.code T zi.empty := rfl
 have g0 := kZ m
 have c1 := fun S => jq.v hm.b S
 have c2 := fun S => jo.v hm.value.2 S
 have c3 := fun S => jh.v m.tx S
 have c4 := fun S => zq.v hm.b S
 have hc : [mv m].all (jH 16) = true := all1 (yw hm.b.okl.le)
 have eT : ∀ S, jX Try.prog .neq 43 (tv m.tx) (.agg [Value.int .i64 0, .int .i64 0].toArray) S = some (.bool (!decide (m.tx = ⟨0, 0⟩)), S) := fun S => JD m.tx ⟨0, 0⟩ S
 have k0 : decide (m.kind = 0) = false := decide_eq_false (by omega)
 have k1 : decide (m.kind = 1) = false := decide_eq_false (by omega)
 have k2 : decide (m.kind = 2) = true := decide_eq_true hk
 have k3 : decide (m.kind = 3) = false := decide_eq_false (by omega)
 have k4 : decide (m.kind = 4) = false := decide_eq_false (by omega)
 have k5 : decide (m.kind = 5) = false := decide_eq_false (by omega)
 have k6 : decide (m.kind = 6) = false := decide_eq_false (by omega)
 have ek : vI m = ((decide (m.index = 0) && decide (m.view = 0)) && nameB m.value) := by simp only [vI, hk, VB, vwB, Int.reduceEq, if_true, if_false, reduceIte, or_true, true_or, or_false, or_self]
 unfold xM
 rw [ek]
 obtain ⟨c, hc0⟩ : ∃ b, (decide (m.frm < 0) || decide (6 < m.frm)) = b := ⟨_, rfl⟩
 obtain ⟨d, hd⟩ : ∃ b, xQ m = b := ⟨_, rfl⟩
 have hd2 := hd
 unfold xQ at hd2
 simp only [k0, k1, k2, k3, k4, k5, k6, Bool.not_true, Bool.not_false, Bool.true_and, Bool.false_and, Bool.or_false, Bool.false_or] at hd2
 rw [hc0, hd]
 cases c
 ·
  cases d
  ·
   simp only [Bool.false_eq_true, if_false]
   conv at hr =>
    rhs
    rw [hTe]
    simp only [zh.code, zh.rs, zSs, reduceIte, Nat.reduceEqDiff, Int.reduceEq, Int.reduceLT, Int.reduceLE, xO, zB, zJ, zM, zO, zI, zU, zT, zN, wF g0, wX g0, yc g0, yC g0, wR g0, yH g0, yK g0, yF g0 hm.b.ne, jO, eT, c1, c2, c3, c4, zk (zB _ _ _), zk (zJ _ _ _), zk (zM _ _ _), zk (zO _ _ _), zk (zI _ _ _), zk (zU _ _ _), zk (zT _ _ _), zk (zN _ _ _), zk (wF g0), zk (wX g0), zk (yc g0), zk (yC g0), zk (wR g0), zk (yH g0), zk (yK g0), zk (yF g0 hm.b.ne), zk (jO _), zk (eT _), zk (c1 _), zk (c2 _), zk (c3 _), zk (c4 _), gvw, k0, k1, k2, k3, k4, k5, k6, hc0, hd2, Bool.not_true, Bool.not_false, Bool.true_and, Bool.false_and, Bool.or_false, Bool.false_or]
   rw [hTe] at hr
   exact zh.runs hr (.inr rfl) hc rfl
  ·
   simp only [Bool.false_eq_true, if_false, if_true]
   conv at hr =>
    rhs
    rw [hTe]
    simp only [zh.code, zh.rs, zSs, reduceIte, Nat.reduceEqDiff, Int.reduceEq, Int.reduceLT, Int.reduceLE, xO, zB, zJ, zM, zO, zI, zU, zT, zN, wF g0, wX g0, yc g0, yC g0, wR g0, yH g0, yK g0, yF g0 hm.b.ne, jO, eT, c1, c2, c3, c4, zk (zB _ _ _), zk (zJ _ _ _), zk (zM _ _ _), zk (zO _ _ _), zk (zI _ _ _), zk (zU _ _ _), zk (zT _ _ _), zk (zN _ _ _), zk (wF g0), zk (wX g0), zk (yc g0), zk (yC g0), zk (wR g0), zk (yH g0), zk (yK g0), zk (yF g0 hm.b.ne), zk (jO _), zk (eT _), zk (c1 _), zk (c2 _), zk (c3 _), zk (c4 _), gvw, k0, k1, k2, k3, k4, k5, k6, hc0, hd2, Bool.not_true, Bool.not_false, Bool.true_and, Bool.false_and, Bool.or_false, Bool.false_or]
   rw [hTe] at hr
   exact zh.runs hr (.inr rfl) hc rfl
 ·
  simp only [if_true]
  conv at hr =>
   rhs
   rw [hTe]
   simp only [zh.code, zh.rs, zSs, reduceIte, Nat.reduceEqDiff, Int.reduceEq, Int.reduceLT, Int.reduceLE, xO, zB, zJ, zM, zO, zI, zU, zT, zN, wF g0, wX g0, yc g0, yC g0, wR g0, yH g0, yK g0, yF g0 hm.b.ne, jO, eT, c1, c2, c3, c4, zk (zB _ _ _), zk (zJ _ _ _), zk (zM _ _ _), zk (zO _ _ _), zk (zI _ _ _), zk (zU _ _ _), zk (zT _ _ _), zk (zN _ _ _), zk (wF g0), zk (wX g0), zk (yc g0), zk (yC g0), zk (wR g0), zk (yH g0), zk (yK g0), zk (yF g0 hm.b.ne), zk (jO _), zk (eT _), zk (c1 _), zk (c2 _), zk (c3 _), zk (c4 _), gvw, k0, k1, k2, k3, k4, k5, k6, hc0]
  rw [hTe] at hr
  exact zh.runs hr (.inr rfl) hc rfl
theorem zh.v3 {m : wM} (hm : m.Ok) (hk : m.kind = 3) (S : zi) : zQ Try.prog O zh.id [mv m] S = some (.bool (xM m), S) := by
 obtain ⟨T, hTe⟩ : ∃ T, T = (mv m :: undef :: undef :: undef :: undef :: undef :: undef :: undef :: undef :: undef :: undef :: undef :: undef :: undef :: undef :: undef :: undef :: undef :: undef :: undef :: undef :: undef :: undef :: undef :: undef :: undef :: undef :: undef :: undef :: undef :: undef :: undef :: undef :: undef :: undef :: undef :: undef :: undef :: undef :: undef :: undef :: undef :: undef :: undef :: undef :: undef :: undef :: undef :: undef :: undef :: undef :: undef :: undef :: undef :: undef :: undef :: undef :: undef :: undef :: undef :: undef :: undef :: undef :: undef :: undef :: undef :: undef :: undef :: undef :: undef :: undef :: undef :: undef :: undef :: undef :: undef :: undef :: undef :: undef :: undef :: undef :: undef :: undef :: undef :: undef :: undef :: undef :: undef :: undef :: undef :: undef :: undef :: undef :: undef :: undef :: undef :: undef :: undef :: undef :: undef :: undef :: undef :: undef :: undef :: undef :: undef :: undef :: undef :: undef :: undef :: undef :: undef :: undef :: undef :: undef :: undef :: undef :: undef :: undef :: undef :: undef :: undef :: undef :: undef :: undef :: undef :: undef :: undef :: undef :: undef :: undef :: undef :: undef :: undef :: undef :: undef :: undef :: undef :: undef :: undef :: undef :: undef :: undef :: undef :: undef :: undef :: undef :: undef :: undef :: undef :: undef :: undef :: undef :: undef :: undef :: undef :: undef :: undef :: undef :: undef :: undef :: undef :: undef :: undef :: undef :: undef :: undef :: undef :: undef :: []) := ⟨_, rfl⟩
 have hr : zA Try.prog O false zh.code T zi.empty = zA Try.prog O false zh.code T zi.empty := rfl
 have g0 := kZ m
 have c1 := fun S => jq.v hm.b S
 have c2 := fun S => jo.v hm.value.2 S
 have c3 := fun S => jh.v m.tx S
 have c4 := fun S => zq.v hm.b S
 have hc : [mv m].all (jH 16) = true := all1 (yw hm.b.okl.le)
 have eT : ∀ S, jX Try.prog .neq 43 (tv m.tx) (.agg [Value.int .i64 0, .int .i64 0].toArray) S = some (.bool (!decide (m.tx = ⟨0, 0⟩)), S) := fun S => JD m.tx ⟨0, 0⟩ S
 have k0 : decide (m.kind = 0) = false := decide_eq_false (by omega)
 have k1 : decide (m.kind = 1) = false := decide_eq_false (by omega)
 have k2 : decide (m.kind = 2) = false := decide_eq_false (by omega)
 have k3 : decide (m.kind = 3) = true := decide_eq_true hk
 have k4 : decide (m.kind = 4) = false := decide_eq_false (by omega)
 have k5 : decide (m.kind = 5) = false := decide_eq_false (by omega)
 have k6 : decide (m.kind = 6) = false := decide_eq_false (by omega)
 have ek : vI m = (((((decide (0 ≤ m.index) && decide (m.index ≤ 1000)) && (decide (0 ≤ m.view) && decide (m.view ≤ 1000))) && nameB m.value) && decide (-1 ≤ m.prep)) && decide (m.prep < m.view)) := by simp only [vI, hk, VB, vwB, Int.reduceEq, if_true, if_false, reduceIte, or_true, true_or, or_false, or_self]
 unfold xM
 rw [ek]
 obtain ⟨c, hc0⟩ : ∃ b, (decide (m.frm < 0) || decide (6 < m.frm)) = b := ⟨_, rfl⟩
 obtain ⟨d, hd⟩ : ∃ b, xQ m = b := ⟨_, rfl⟩
 have hd2 := hd
 unfold xQ at hd2
 simp only [k0, k1, k2, k3, k4, k5, k6, Bool.not_true, Bool.not_false, Bool.true_and, Bool.false_and, Bool.or_false, Bool.false_or] at hd2
 rw [hc0, hd]
 cases c
 ·
  cases d
  ·
   simp only [Bool.false_eq_true, if_false]
   conv at hr =>
    rhs
    rw [hTe]
    simp only [zh.code, zh.rs, zSs, reduceIte, Nat.reduceEqDiff, Int.reduceEq, Int.reduceLT, Int.reduceLE, xO, zB, zJ, zM, zO, zI, zU, zT, zN, wF g0, wX g0, yc g0, yC g0, wR g0, yH g0, yK g0, yF g0 hm.b.ne, jO, eT, c1, c2, c3, c4, zk (zB _ _ _), zk (zJ _ _ _), zk (zM _ _ _), zk (zO _ _ _), zk (zI _ _ _), zk (zU _ _ _), zk (zT _ _ _), zk (zN _ _ _), zk (wF g0), zk (wX g0), zk (yc g0), zk (yC g0), zk (wR g0), zk (yH g0), zk (yK g0), zk (yF g0 hm.b.ne), zk (jO _), zk (eT _), zk (c1 _), zk (c2 _), zk (c3 _), zk (c4 _), gvw, k0, k1, k2, k3, k4, k5, k6, hc0, hd2, Bool.not_true, Bool.not_false, Bool.true_and, Bool.false_and, Bool.or_false, Bool.false_or]
   rw [hTe] at hr
   exact zh.runs hr (.inr rfl) hc rfl
  ·
   simp only [Bool.false_eq_true, if_false, if_true]
   conv at hr =>
    rhs
    rw [hTe]
    simp only [zh.code, zh.rs, zSs, reduceIte, Nat.reduceEqDiff, Int.reduceEq, Int.reduceLT, Int.reduceLE, xO, zB, zJ, zM, zO, zI, zU, zT, zN, wF g0, wX g0, yc g0, yC g0, wR g0, yH g0, yK g0, yF g0 hm.b.ne, jO, eT, c1, c2, c3, c4, zk (zB _ _ _), zk (zJ _ _ _), zk (zM _ _ _), zk (zO _ _ _), zk (zI _ _ _), zk (zU _ _ _), zk (zT _ _ _), zk (zN _ _ _), zk (wF g0), zk (wX g0), zk (yc g0), zk (yC g0), zk (wR g0), zk (yH g0), zk (yK g0), zk (yF g0 hm.b.ne), zk (jO _), zk (eT _), zk (c1 _), zk (c2 _), zk (c3 _), zk (c4 _), gvw, k0, k1, k2, k3, k4, k5, k6, hc0, hd2, Bool.not_true, Bool.not_false, Bool.true_and, Bool.false_and, Bool.or_false, Bool.false_or]
   rw [hTe] at hr
   exact zh.runs hr (.inr rfl) hc rfl
 ·
  simp only [if_true]
  conv at hr =>
   rhs
   rw [hTe]
   simp only [zh.code, zh.rs, zSs, reduceIte, Nat.reduceEqDiff, Int.reduceEq, Int.reduceLT, Int.reduceLE, xO, zB, zJ, zM, zO, zI, zU, zT, zN, wF g0, wX g0, yc g0, yC g0, wR g0, yH g0, yK g0, yF g0 hm.b.ne, jO, eT, c1, c2, c3, c4, zk (zB _ _ _), zk (zJ _ _ _), zk (zM _ _ _), zk (zO _ _ _), zk (zI _ _ _), zk (zU _ _ _), zk (zT _ _ _), zk (zN _ _ _), zk (wF g0), zk (wX g0), zk (yc g0), zk (yC g0), zk (wR g0), zk (yH g0), zk (yK g0), zk (yF g0 hm.b.ne), zk (jO _), zk (eT _), zk (c1 _), zk (c2 _), zk (c3 _), zk (c4 _), gvw, k0, k1, k2, k3, k4, k5, k6, hc0]
  rw [hTe] at hr
  exact zh.runs hr (.inr rfl) hc rfl
theorem zh.v4 {m : wM} (hm : m.Ok) (hk : m.kind = 4) (S : zi) : zQ Try.prog O zh.id [mv m] S = some (.bool (xM m), S) := by
 obtain ⟨T, hTe⟩ : ∃ T, T = (mv m :: undef :: undef :: undef :: undef :: undef :: undef :: undef :: undef :: undef :: undef :: undef :: undef :: undef :: undef :: undef :: undef :: undef :: undef :: undef :: undef :: undef :: undef :: undef :: undef :: undef :: undef :: undef :: undef :: undef :: undef :: undef :: undef :: undef :: undef :: undef :: undef :: undef :: undef :: undef :: undef :: undef :: undef :: undef :: undef :: undef :: undef :: undef :: undef :: undef :: undef :: undef :: undef :: undef :: undef :: undef :: undef :: undef :: undef :: undef :: undef :: undef :: undef :: undef :: undef :: undef :: undef :: undef :: undef :: undef :: undef :: undef :: undef :: undef :: undef :: undef :: undef :: undef :: undef :: undef :: undef :: undef :: undef :: undef :: undef :: undef :: undef :: undef :: undef :: undef :: undef :: undef :: undef :: undef :: undef :: undef :: undef :: undef :: undef :: undef :: undef :: undef :: undef :: undef :: undef :: undef :: undef :: undef :: undef :: undef :: undef :: undef :: undef :: undef :: undef :: undef :: undef :: undef :: undef :: undef :: undef :: undef :: undef :: undef :: undef :: undef :: undef :: undef :: undef :: undef :: undef :: undef :: undef :: undef :: undef :: undef :: undef :: undef :: undef :: undef :: undef :: undef :: undef :: undef :: undef :: undef :: undef :: undef :: undef :: undef :: undef :: undef :: undef :: undef :: undef :: undef :: undef :: undef :: undef :: undef :: undef :: undef :: undef :: undef :: undef :: undef :: undef :: undef :: undef :: []) := ⟨_, rfl⟩
 have hr : zA Try.prog O false zh.code T zi.empty = zA Try.prog O false zh.code T zi.empty := rfl
 have g0 := kZ m
 have c1 := fun S => jq.v hm.b S
 have c2 := fun S => jo.v hm.value.2 S
 have c3 := fun S => jh.v m.tx S
 have c4 := fun S => zq.v hm.b S
 have hc : [mv m].all (jH 16) = true := all1 (yw hm.b.okl.le)
 have eT : ∀ S, jX Try.prog .neq 43 (tv m.tx) (.agg [Value.int .i64 0, .int .i64 0].toArray) S = some (.bool (!decide (m.tx = ⟨0, 0⟩)), S) := fun S => JD m.tx ⟨0, 0⟩ S
 have k0 : decide (m.kind = 0) = false := decide_eq_false (by omega)
 have k1 : decide (m.kind = 1) = false := decide_eq_false (by omega)
 have k2 : decide (m.kind = 2) = false := decide_eq_false (by omega)
 have k3 : decide (m.kind = 3) = false := decide_eq_false (by omega)
 have k4 : decide (m.kind = 4) = true := decide_eq_true hk
 have k5 : decide (m.kind = 5) = false := decide_eq_false (by omega)
 have k6 : decide (m.kind = 6) = false := decide_eq_false (by omega)
 have ek : vI m = (((decide (0 ≤ m.index) && decide (m.index ≤ 1000)) && (decide (0 ≤ m.view) && decide (m.view ≤ 1000))) && (decide (m.value = -1) || nameB m.value)) := by simp only [vI, hk, VB, vwB, Int.reduceEq, if_true, if_false, reduceIte, or_true, true_or, or_false, or_self]
 unfold xM
 rw [ek]
 obtain ⟨c, hc0⟩ : ∃ b, (decide (m.frm < 0) || decide (6 < m.frm)) = b := ⟨_, rfl⟩
 obtain ⟨d, hd⟩ : ∃ b, xQ m = b := ⟨_, rfl⟩
 have hd2 := hd
 unfold xQ at hd2
 simp only [k0, k1, k2, k3, k4, k5, k6, Bool.not_true, Bool.not_false, Bool.true_and, Bool.false_and, Bool.or_false, Bool.false_or] at hd2
 rw [hc0, hd]
 cases c
 ·
  cases d
  ·
   simp only [Bool.false_eq_true, if_false]
   conv at hr =>
    rhs
    rw [hTe]
    simp only [zh.code, zh.rs, zSs, reduceIte, Nat.reduceEqDiff, Int.reduceEq, Int.reduceLT, Int.reduceLE, xO, zB, zJ, zM, zO, zI, zU, zT, zN, wF g0, wX g0, yc g0, yC g0, wR g0, yH g0, yK g0, yF g0 hm.b.ne, jO, eT, c1, c2, c3, c4, zk (zB _ _ _), zk (zJ _ _ _), zk (zM _ _ _), zk (zO _ _ _), zk (zI _ _ _), zk (zU _ _ _), zk (zT _ _ _), zk (zN _ _ _), zk (wF g0), zk (wX g0), zk (yc g0), zk (yC g0), zk (wR g0), zk (yH g0), zk (yK g0), zk (yF g0 hm.b.ne), zk (jO _), zk (eT _), zk (c1 _), zk (c2 _), zk (c3 _), zk (c4 _), gvw, k0, k1, k2, k3, k4, k5, k6, hc0, hd2, Bool.not_true, Bool.not_false, Bool.true_and, Bool.false_and, Bool.or_false, Bool.false_or]
   rw [hTe] at hr
   exact zh.runs hr (.inr rfl) hc rfl
  ·
   simp only [Bool.false_eq_true, if_false, if_true]
   conv at hr =>
    rhs
    rw [hTe]
    simp only [zh.code, zh.rs, zSs, reduceIte, Nat.reduceEqDiff, Int.reduceEq, Int.reduceLT, Int.reduceLE, xO, zB, zJ, zM, zO, zI, zU, zT, zN, wF g0, wX g0, yc g0, yC g0, wR g0, yH g0, yK g0, yF g0 hm.b.ne, jO, eT, c1, c2, c3, c4, zk (zB _ _ _), zk (zJ _ _ _), zk (zM _ _ _), zk (zO _ _ _), zk (zI _ _ _), zk (zU _ _ _), zk (zT _ _ _), zk (zN _ _ _), zk (wF g0), zk (wX g0), zk (yc g0), zk (yC g0), zk (wR g0), zk (yH g0), zk (yK g0), zk (yF g0 hm.b.ne), zk (jO _), zk (eT _), zk (c1 _), zk (c2 _), zk (c3 _), zk (c4 _), gvw, k0, k1, k2, k3, k4, k5, k6, hc0, hd2, Bool.not_true, Bool.not_false, Bool.true_and, Bool.false_and, Bool.or_false, Bool.false_or]
   rw [hTe] at hr
   exact zh.runs hr (.inr rfl) hc rfl
 ·
  simp only [if_true]
  conv at hr =>
   rhs
   rw [hTe]
   simp only [zh.code, zh.rs, zSs, reduceIte, Nat.reduceEqDiff, Int.reduceEq, Int.reduceLT, Int.reduceLE, xO, zB, zJ, zM, zO, zI, zU, zT, zN, wF g0, wX g0, yc g0, yC g0, wR g0, yH g0, yK g0, yF g0 hm.b.ne, jO, eT, c1, c2, c3, c4, zk (zB _ _ _), zk (zJ _ _ _), zk (zM _ _ _), zk (zO _ _ _), zk (zI _ _ _), zk (zU _ _ _), zk (zT _ _ _), zk (zN _ _ _), zk (wF g0), zk (wX g0), zk (yc g0), zk (yC g0), zk (wR g0), zk (yH g0), zk (yK g0), zk (yF g0 hm.b.ne), zk (jO _), zk (eT _), zk (c1 _), zk (c2 _), zk (c3 _), zk (c4 _), gvw, k0, k1, k2, k3, k4, k5, k6, hc0]
  rw [hTe] at hr
  exact zh.runs hr (.inr rfl) hc rfl
theorem zh.v5 {m : wM} (hm : m.Ok) (hk : m.kind = 5) (S : zi) : zQ Try.prog O zh.id [mv m] S = some (.bool (xM m), S) := by
 obtain ⟨T, hTe⟩ : ∃ T, T = (mv m :: undef :: undef :: undef :: undef :: undef :: undef :: undef :: undef :: undef :: undef :: undef :: undef :: undef :: undef :: undef :: undef :: undef :: undef :: undef :: undef :: undef :: undef :: undef :: undef :: undef :: undef :: undef :: undef :: undef :: undef :: undef :: undef :: undef :: undef :: undef :: undef :: undef :: undef :: undef :: undef :: undef :: undef :: undef :: undef :: undef :: undef :: undef :: undef :: undef :: undef :: undef :: undef :: undef :: undef :: undef :: undef :: undef :: undef :: undef :: undef :: undef :: undef :: undef :: undef :: undef :: undef :: undef :: undef :: undef :: undef :: undef :: undef :: undef :: undef :: undef :: undef :: undef :: undef :: undef :: undef :: undef :: undef :: undef :: undef :: undef :: undef :: undef :: undef :: undef :: undef :: undef :: undef :: undef :: undef :: undef :: undef :: undef :: undef :: undef :: undef :: undef :: undef :: undef :: undef :: undef :: undef :: undef :: undef :: undef :: undef :: undef :: undef :: undef :: undef :: undef :: undef :: undef :: undef :: undef :: undef :: undef :: undef :: undef :: undef :: undef :: undef :: undef :: undef :: undef :: undef :: undef :: undef :: undef :: undef :: undef :: undef :: undef :: undef :: undef :: undef :: undef :: undef :: undef :: undef :: undef :: undef :: undef :: undef :: undef :: undef :: undef :: undef :: undef :: undef :: undef :: undef :: undef :: undef :: undef :: undef :: undef :: undef :: undef :: undef :: undef :: undef :: undef :: undef :: []) := ⟨_, rfl⟩
 have hr : zA Try.prog O false zh.code T zi.empty = zA Try.prog O false zh.code T zi.empty := rfl
 have g0 := kZ m
 have c1 := fun S => jq.v hm.b S
 have c2 := fun S => jo.v hm.value.2 S
 have c3 := fun S => jh.v m.tx S
 have c4 := fun S => zq.v hm.b S
 have hc : [mv m].all (jH 16) = true := all1 (yw hm.b.okl.le)
 have eT : ∀ S, jX Try.prog .neq 43 (tv m.tx) (.agg [Value.int .i64 0, .int .i64 0].toArray) S = some (.bool (!decide (m.tx = ⟨0, 0⟩)), S) := fun S => JD m.tx ⟨0, 0⟩ S
 have k0 : decide (m.kind = 0) = false := decide_eq_false (by omega)
 have k1 : decide (m.kind = 1) = false := decide_eq_false (by omega)
 have k2 : decide (m.kind = 2) = false := decide_eq_false (by omega)
 have k3 : decide (m.kind = 3) = false := decide_eq_false (by omega)
 have k4 : decide (m.kind = 4) = false := decide_eq_false (by omega)
 have k5 : decide (m.kind = 5) = true := decide_eq_true hk
 have k6 : decide (m.kind = 6) = false := decide_eq_false (by omega)
 have ek : vI m = (((decide (0 ≤ m.index) && decide (m.index ≤ 1000)) && (decide (0 ≤ m.view) && decide (m.view ≤ 1000))) && (decide (m.value = -1) || nameB m.value)) := by simp only [vI, hk, VB, vwB, Int.reduceEq, if_true, if_false, reduceIte, or_true, true_or, or_false, or_self]
 unfold xM
 rw [ek]
 obtain ⟨c, hc0⟩ : ∃ b, (decide (m.frm < 0) || decide (6 < m.frm)) = b := ⟨_, rfl⟩
 obtain ⟨d, hd⟩ : ∃ b, xQ m = b := ⟨_, rfl⟩
 have hd2 := hd
 unfold xQ at hd2
 simp only [k0, k1, k2, k3, k4, k5, k6, Bool.not_true, Bool.not_false, Bool.true_and, Bool.false_and, Bool.or_false, Bool.false_or] at hd2
 rw [hc0, hd]
 cases c
 ·
  cases d
  ·
   simp only [Bool.false_eq_true, if_false]
   conv at hr =>
    rhs
    rw [hTe]
    simp only [zh.code, zh.rs, zSs, reduceIte, Nat.reduceEqDiff, Int.reduceEq, Int.reduceLT, Int.reduceLE, xO, zB, zJ, zM, zO, zI, zU, zT, zN, wF g0, wX g0, yc g0, yC g0, wR g0, yH g0, yK g0, yF g0 hm.b.ne, jO, eT, c1, c2, c3, c4, zk (zB _ _ _), zk (zJ _ _ _), zk (zM _ _ _), zk (zO _ _ _), zk (zI _ _ _), zk (zU _ _ _), zk (zT _ _ _), zk (zN _ _ _), zk (wF g0), zk (wX g0), zk (yc g0), zk (yC g0), zk (wR g0), zk (yH g0), zk (yK g0), zk (yF g0 hm.b.ne), zk (jO _), zk (eT _), zk (c1 _), zk (c2 _), zk (c3 _), zk (c4 _), gvw, k0, k1, k2, k3, k4, k5, k6, hc0, hd2, Bool.not_true, Bool.not_false, Bool.true_and, Bool.false_and, Bool.or_false, Bool.false_or]
   rw [hTe] at hr
   exact zh.runs hr (.inr rfl) hc rfl
  ·
   simp only [Bool.false_eq_true, if_false, if_true]
   conv at hr =>
    rhs
    rw [hTe]
    simp only [zh.code, zh.rs, zSs, reduceIte, Nat.reduceEqDiff, Int.reduceEq, Int.reduceLT, Int.reduceLE, xO, zB, zJ, zM, zO, zI, zU, zT, zN, wF g0, wX g0, yc g0, yC g0, wR g0, yH g0, yK g0, yF g0 hm.b.ne, jO, eT, c1, c2, c3, c4, zk (zB _ _ _), zk (zJ _ _ _), zk (zM _ _ _), zk (zO _ _ _), zk (zI _ _ _), zk (zU _ _ _), zk (zT _ _ _), zk (zN _ _ _), zk (wF g0), zk (wX g0), zk (yc g0), zk (yC g0), zk (wR g0), zk (yH g0), zk (yK g0), zk (yF g0 hm.b.ne), zk (jO _), zk (eT _), zk (c1 _), zk (c2 _), zk (c3 _), zk (c4 _), gvw, k0, k1, k2, k3, k4, k5, k6, hc0, hd2, Bool.not_true, Bool.not_false, Bool.true_and, Bool.false_and, Bool.or_false, Bool.false_or]
   rw [hTe] at hr
   exact zh.runs hr (.inr rfl) hc rfl
 ·
  simp only [if_true]
  conv at hr =>
   rhs
   rw [hTe]
   simp only [zh.code, zh.rs, zSs, reduceIte, Nat.reduceEqDiff, Int.reduceEq, Int.reduceLT, Int.reduceLE, xO, zB, zJ, zM, zO, zI, zU, zT, zN, wF g0, wX g0, yc g0, yC g0, wR g0, yH g0, yK g0, yF g0 hm.b.ne, jO, eT, c1, c2, c3, c4, zk (zB _ _ _), zk (zJ _ _ _), zk (zM _ _ _), zk (zO _ _ _), zk (zI _ _ _), zk (zU _ _ _), zk (zT _ _ _), zk (zN _ _ _), zk (wF g0), zk (wX g0), zk (yc g0), zk (yC g0), zk (wR g0), zk (yH g0), zk (yK g0), zk (yF g0 hm.b.ne), zk (jO _), zk (eT _), zk (c1 _), zk (c2 _), zk (c3 _), zk (c4 _), gvw, k0, k1, k2, k3, k4, k5, k6, hc0]
  rw [hTe] at hr
  exact zh.runs hr (.inr rfl) hc rfl
theorem zh.v6 {m : wM} (hm : m.Ok) (hk : m.kind = 6) (S : zi) : zQ Try.prog O zh.id [mv m] S = some (.bool (xM m), S) := by
 obtain ⟨T, hTe⟩ : ∃ T, T = (mv m :: undef :: undef :: undef :: undef :: undef :: undef :: undef :: undef :: undef :: undef :: undef :: undef :: undef :: undef :: undef :: undef :: undef :: undef :: undef :: undef :: undef :: undef :: undef :: undef :: undef :: undef :: undef :: undef :: undef :: undef :: undef :: undef :: undef :: undef :: undef :: undef :: undef :: undef :: undef :: undef :: undef :: undef :: undef :: undef :: undef :: undef :: undef :: undef :: undef :: undef :: undef :: undef :: undef :: undef :: undef :: undef :: undef :: undef :: undef :: undef :: undef :: undef :: undef :: undef :: undef :: undef :: undef :: undef :: undef :: undef :: undef :: undef :: undef :: undef :: undef :: undef :: undef :: undef :: undef :: undef :: undef :: undef :: undef :: undef :: undef :: undef :: undef :: undef :: undef :: undef :: undef :: undef :: undef :: undef :: undef :: undef :: undef :: undef :: undef :: undef :: undef :: undef :: undef :: undef :: undef :: undef :: undef :: undef :: undef :: undef :: undef :: undef :: undef :: undef :: undef :: undef :: undef :: undef :: undef :: undef :: undef :: undef :: undef :: undef :: undef :: undef :: undef :: undef :: undef :: undef :: undef :: undef :: undef :: undef :: undef :: undef :: undef :: undef :: undef :: undef :: undef :: undef :: undef :: undef :: undef :: undef :: undef :: undef :: undef :: undef :: undef :: undef :: undef :: undef :: undef :: undef :: undef :: undef :: undef :: undef :: undef :: undef :: undef :: undef :: undef :: undef :: undef :: undef :: []) := ⟨_, rfl⟩
 have hr : zA Try.prog O false zh.code T zi.empty = zA Try.prog O false zh.code T zi.empty := rfl
 have g0 := kZ m
 have c1 := fun S => jq.v hm.b S
 have c2 := fun S => jo.v hm.value.2 S
 have c3 := fun S => jh.v m.tx S
 have c4 := fun S => zq.v hm.b S
 have hc : [mv m].all (jH 16) = true := all1 (yw hm.b.okl.le)
 have eT : ∀ S, jX Try.prog .neq 43 (tv m.tx) (.agg [Value.int .i64 0, .int .i64 0].toArray) S = some (.bool (!decide (m.tx = ⟨0, 0⟩)), S) := fun S => JD m.tx ⟨0, 0⟩ S
 have k0 : decide (m.kind = 0) = false := decide_eq_false (by omega)
 have k1 : decide (m.kind = 1) = false := decide_eq_false (by omega)
 have k2 : decide (m.kind = 2) = false := decide_eq_false (by omega)
 have k3 : decide (m.kind = 3) = false := decide_eq_false (by omega)
 have k4 : decide (m.kind = 4) = false := decide_eq_false (by omega)
 have k5 : decide (m.kind = 5) = false := decide_eq_false (by omega)
 have k6 : decide (m.kind = 6) = true := decide_eq_true hk
 have ek : vI m = (((decide (0 ≤ m.index) && decide (m.index ≤ 1000)) && decide (m.view = 0)) && nameB m.value) := by simp only [vI, hk, VB, vwB, Int.reduceEq, if_true, if_false, reduceIte, or_true, true_or, or_false, or_self]
 unfold xM
 rw [ek]
 obtain ⟨c, hc0⟩ : ∃ b, (decide (m.frm < 0) || decide (6 < m.frm)) = b := ⟨_, rfl⟩
 obtain ⟨d, hd⟩ : ∃ b, xQ m = b := ⟨_, rfl⟩
 have hd2 := hd
 unfold xQ at hd2
 simp only [k0, k1, k2, k3, k4, k5, k6, Bool.not_true, Bool.not_false, Bool.true_and, Bool.false_and, Bool.or_false, Bool.false_or] at hd2
 rw [hc0, hd]
 cases c
 ·
  cases d
  ·
   simp only [Bool.false_eq_true, if_false]
   conv at hr =>
    rhs
    rw [hTe]
    simp only [zh.code, zh.rs, zSs, reduceIte, Nat.reduceEqDiff, Int.reduceEq, Int.reduceLT, Int.reduceLE, xO, zB, zJ, zM, zO, zI, zU, zT, zN, wF g0, wX g0, yc g0, yC g0, wR g0, yH g0, yK g0, yF g0 hm.b.ne, jO, eT, c1, c2, c3, c4, zk (zB _ _ _), zk (zJ _ _ _), zk (zM _ _ _), zk (zO _ _ _), zk (zI _ _ _), zk (zU _ _ _), zk (zT _ _ _), zk (zN _ _ _), zk (wF g0), zk (wX g0), zk (yc g0), zk (yC g0), zk (wR g0), zk (yH g0), zk (yK g0), zk (yF g0 hm.b.ne), zk (jO _), zk (eT _), zk (c1 _), zk (c2 _), zk (c3 _), zk (c4 _), gvw, k0, k1, k2, k3, k4, k5, k6, hc0, hd2, Bool.not_true, Bool.not_false, Bool.true_and, Bool.false_and, Bool.or_false, Bool.false_or]
   rw [hTe] at hr
   exact zh.runs hr (.inr rfl) hc rfl
  ·
   simp only [Bool.false_eq_true, if_false, if_true]
   conv at hr =>
    rhs
    rw [hTe]
    simp only [zh.code, zh.rs, zSs, reduceIte, Nat.reduceEqDiff, Int.reduceEq, Int.reduceLT, Int.reduceLE, xO, zB, zJ, zM, zO, zI, zU, zT, zN, wF g0, wX g0, yc g0, yC g0, wR g0, yH g0, yK g0, yF g0 hm.b.ne, jO, eT, c1, c2, c3, c4, zk (zB _ _ _), zk (zJ _ _ _), zk (zM _ _ _), zk (zO _ _ _), zk (zI _ _ _), zk (zU _ _ _), zk (zT _ _ _), zk (zN _ _ _), zk (wF g0), zk (wX g0), zk (yc g0), zk (yC g0), zk (wR g0), zk (yH g0), zk (yK g0), zk (yF g0 hm.b.ne), zk (jO _), zk (eT _), zk (c1 _), zk (c2 _), zk (c3 _), zk (c4 _), gvw, k0, k1, k2, k3, k4, k5, k6, hc0, hd2, Bool.not_true, Bool.not_false, Bool.true_and, Bool.false_and, Bool.or_false, Bool.false_or]
   rw [hTe] at hr
   exact zh.runs hr (.inr rfl) hc rfl
 ·
  simp only [if_true]
  conv at hr =>
   rhs
   rw [hTe]
   simp only [zh.code, zh.rs, zSs, reduceIte, Nat.reduceEqDiff, Int.reduceEq, Int.reduceLT, Int.reduceLE, xO, zB, zJ, zM, zO, zI, zU, zT, zN, wF g0, wX g0, yc g0, yC g0, wR g0, yH g0, yK g0, yF g0 hm.b.ne, jO, eT, c1, c2, c3, c4, zk (zB _ _ _), zk (zJ _ _ _), zk (zM _ _ _), zk (zO _ _ _), zk (zI _ _ _), zk (zU _ _ _), zk (zT _ _ _), zk (zN _ _ _), zk (wF g0), zk (wX g0), zk (yc g0), zk (yC g0), zk (wR g0), zk (yH g0), zk (yK g0), zk (yF g0 hm.b.ne), zk (jO _), zk (eT _), zk (c1 _), zk (c2 _), zk (c3 _), zk (c4 _), gvw, k0, k1, k2, k3, k4, k5, k6, hc0]
  rw [hTe] at hr
  exact zh.runs hr (.inr rfl) hc rfl
theorem zh.v7 {m : wM} (hm : m.Ok) (hk : m.kind < 0 ∨ 6 < m.kind) (S : zi) : zQ Try.prog O zh.id [mv m] S = some (.bool (xM m), S) := by
 obtain ⟨T, hTe⟩ : ∃ T, T = (mv m :: undef :: undef :: undef :: undef :: undef :: undef :: undef :: undef :: undef :: undef :: undef :: undef :: undef :: undef :: undef :: undef :: undef :: undef :: undef :: undef :: undef :: undef :: undef :: undef :: undef :: undef :: undef :: undef :: undef :: undef :: undef :: undef :: undef :: undef :: undef :: undef :: undef :: undef :: undef :: undef :: undef :: undef :: undef :: undef :: undef :: undef :: undef :: undef :: undef :: undef :: undef :: undef :: undef :: undef :: undef :: undef :: undef :: undef :: undef :: undef :: undef :: undef :: undef :: undef :: undef :: undef :: undef :: undef :: undef :: undef :: undef :: undef :: undef :: undef :: undef :: undef :: undef :: undef :: undef :: undef :: undef :: undef :: undef :: undef :: undef :: undef :: undef :: undef :: undef :: undef :: undef :: undef :: undef :: undef :: undef :: undef :: undef :: undef :: undef :: undef :: undef :: undef :: undef :: undef :: undef :: undef :: undef :: undef :: undef :: undef :: undef :: undef :: undef :: undef :: undef :: undef :: undef :: undef :: undef :: undef :: undef :: undef :: undef :: undef :: undef :: undef :: undef :: undef :: undef :: undef :: undef :: undef :: undef :: undef :: undef :: undef :: undef :: undef :: undef :: undef :: undef :: undef :: undef :: undef :: undef :: undef :: undef :: undef :: undef :: undef :: undef :: undef :: undef :: undef :: undef :: undef :: undef :: undef :: undef :: undef :: undef :: undef :: undef :: undef :: undef :: undef :: undef :: undef :: []) := ⟨_, rfl⟩
 have hr : zA Try.prog O false zh.code T zi.empty = zA Try.prog O false zh.code T zi.empty := rfl
 have g0 := kZ m
 have c1 := fun S => jq.v hm.b S
 have c2 := fun S => jo.v hm.value.2 S
 have c3 := fun S => jh.v m.tx S
 have c4 := fun S => zq.v hm.b S
 have hc : [mv m].all (jH 16) = true := all1 (yw hm.b.okl.le)
 have eT : ∀ S, jX Try.prog .neq 43 (tv m.tx) (.agg [Value.int .i64 0, .int .i64 0].toArray) S = some (.bool (!decide (m.tx = ⟨0, 0⟩)), S) := fun S => JD m.tx ⟨0, 0⟩ S
 have k0 : decide (m.kind = 0) = false := decide_eq_false (by omega)
 have k1 : decide (m.kind = 1) = false := decide_eq_false (by omega)
 have k2 : decide (m.kind = 2) = false := decide_eq_false (by omega)
 have k3 : decide (m.kind = 3) = false := decide_eq_false (by omega)
 have k4 : decide (m.kind = 4) = false := decide_eq_false (by omega)
 have k5 : decide (m.kind = 5) = false := decide_eq_false (by omega)
 have k6 : decide (m.kind = 6) = false := decide_eq_false (by omega)
 have ek : vI m = false := by simp only [vI, if_neg (show ¬ m.kind = 0 by omega), if_neg (show ¬ m.kind = 1 by omega), if_neg (show ¬ m.kind = 2 by omega), if_neg (show ¬ m.kind = 3 by omega), if_neg (show ¬ (m.kind = 4 ∨ m.kind = 5) by omega), if_neg (show ¬ m.kind = 6 by omega)]
 unfold xM
 rw [ek]
 obtain ⟨c, hc0⟩ : ∃ b, (decide (m.frm < 0) || decide (6 < m.frm)) = b := ⟨_, rfl⟩
 obtain ⟨d, hd⟩ : ∃ b, xQ m = b := ⟨_, rfl⟩
 have hd2 := hd
 unfold xQ at hd2
 simp only [k0, k1, k2, k3, k4, k5, k6, Bool.not_true, Bool.not_false, Bool.true_and, Bool.false_and, Bool.or_false, Bool.false_or] at hd2
 rw [hc0, hd]
 cases c
 ·
  cases d
  ·
   simp only [Bool.false_eq_true, if_false]
   conv at hr =>
    rhs
    rw [hTe]
    simp only [zh.code, zh.rs, zSs, reduceIte, Nat.reduceEqDiff, Int.reduceEq, Int.reduceLT, Int.reduceLE, xO, zB, zJ, zM, zO, zI, zU, zT, zN, wF g0, wX g0, yc g0, yC g0, wR g0, yH g0, yK g0, yF g0 hm.b.ne, jO, eT, c1, c2, c3, c4, zk (zB _ _ _), zk (zJ _ _ _), zk (zM _ _ _), zk (zO _ _ _), zk (zI _ _ _), zk (zU _ _ _), zk (zT _ _ _), zk (zN _ _ _), zk (wF g0), zk (wX g0), zk (yc g0), zk (yC g0), zk (wR g0), zk (yH g0), zk (yK g0), zk (yF g0 hm.b.ne), zk (jO _), zk (eT _), zk (c1 _), zk (c2 _), zk (c3 _), zk (c4 _), gvw, k0, k1, k2, k3, k4, k5, k6, hc0, hd2, Bool.not_true, Bool.not_false, Bool.true_and, Bool.false_and, Bool.or_false, Bool.false_or]
   rw [hTe] at hr
   exact zh.runs hr (.inr rfl) hc rfl
  ·
   simp only [Bool.false_eq_true, if_false, if_true]
   conv at hr =>
    rhs
    rw [hTe]
    simp only [zh.code, zh.rs, zSs, reduceIte, Nat.reduceEqDiff, Int.reduceEq, Int.reduceLT, Int.reduceLE, xO, zB, zJ, zM, zO, zI, zU, zT, zN, wF g0, wX g0, yc g0, yC g0, wR g0, yH g0, yK g0, yF g0 hm.b.ne, jO, eT, c1, c2, c3, c4, zk (zB _ _ _), zk (zJ _ _ _), zk (zM _ _ _), zk (zO _ _ _), zk (zI _ _ _), zk (zU _ _ _), zk (zT _ _ _), zk (zN _ _ _), zk (wF g0), zk (wX g0), zk (yc g0), zk (yC g0), zk (wR g0), zk (yH g0), zk (yK g0), zk (yF g0 hm.b.ne), zk (jO _), zk (eT _), zk (c1 _), zk (c2 _), zk (c3 _), zk (c4 _), gvw, k0, k1, k2, k3, k4, k5, k6, hc0, hd2, Bool.not_true, Bool.not_false, Bool.true_and, Bool.false_and, Bool.or_false, Bool.false_or]
   rw [hTe] at hr
   exact zh.runs hr (.inr rfl) hc rfl
 ·
  simp only [if_true]
  conv at hr =>
   rhs
   rw [hTe]
   simp only [zh.code, zh.rs, zSs, reduceIte, Nat.reduceEqDiff, Int.reduceEq, Int.reduceLT, Int.reduceLE, xO, zB, zJ, zM, zO, zI, zU, zT, zN, wF g0, wX g0, yc g0, yC g0, wR g0, yH g0, yK g0, yF g0 hm.b.ne, jO, eT, c1, c2, c3, c4, zk (zB _ _ _), zk (zJ _ _ _), zk (zM _ _ _), zk (zO _ _ _), zk (zI _ _ _), zk (zU _ _ _), zk (zT _ _ _), zk (zN _ _ _), zk (wF g0), zk (wX g0), zk (yc g0), zk (yC g0), zk (wR g0), zk (yH g0), zk (yK g0), zk (yF g0 hm.b.ne), zk (jO _), zk (eT _), zk (c1 _), zk (c2 _), zk (c3 _), zk (c4 _), gvw, k0, k1, k2, k3, k4, k5, k6, hc0]
  rw [hTe] at hr
  exact zh.runs hr (.inr rfl) hc rfl
theorem zh.v {m : wM} (hm : m.Ok) (S : zi) : zQ Try.prog O zh.id [mv m] S = some (.bool (xM m), S) := by
 have : m.kind = 0 ∨ m.kind = 1 ∨ m.kind = 2 ∨ m.kind = 3 ∨ m.kind = 4 ∨ m.kind = 5 ∨ m.kind = 6 ∨ (m.kind < 0 ∨ 6 < m.kind) := by omega
 rcases this with h | h | h | h | h | h | h | h
 ·
  exact zh.v0 hm h S
 ·
  exact zh.v1 hm h S
 ·
  exact zh.v2 hm h S
 ·
  exact zh.v3 hm h S
 ·
  exact zh.v4 hm h S
 ·
  exact zh.v5 hm h S
 ·
  exact zh.v6 hm h S
 ·
  exact zh.v7 hm h S
theorem ZQ (m : wM) : okq 3 (mv m) = true := by
 have h := ah0 (f := fT) (e := 2) (k := m.b.k) (l := m.b.txs) (d := 2)
 simp only [okq, List.toList_toArray, List.all_cons, List.all_nil, h, Bool.and_true]
def qj (m : wM) : Bool :=
 if m.kind < 0 ∨ 6 < m.kind then false
 else if (decide (m.frm < 0) || decide (7 ≤ m.frm)) || !ZW m (yI m) then false
 else if m.kind = 0 then y7 m.tx
 else if m.kind = 1 then jI m.b
 else if m.kind = 3 ∧ (decide (m.prep < -1) || decide (m.view ≤ m.prep)) = true then false
 else (((decide (0 ≤ m.index) && decide (m.index ≤ 1000)) && decide (0 ≤ m.view)) && decide (m.view ≤ 1000)) && qH m
theorem aiX {m : wM} (hm : m.Ok) : (yI m).Ok := by
 have z : Big 0 := ⟨by omega, by omega⟩
 have zt : TxV.Ok ⟨0, 0⟩ := ⟨z, z⟩
 unfold yI
 split
 ·
  exact ⟨ok0, hm.tx, hm.kind, hm.frm, z, z, z, z⟩
 split
 ·
  exact ⟨hm.b, zt, hm.kind, hm.frm, z, z, z, z⟩
 split
 ·
  exact ⟨ok0, zt, hm.kind, hm.frm, z, z, hm.value, z⟩
 split
 ·
  exact ⟨ok0, zt, hm.kind, hm.frm, hm.index, hm.view, hm.value, hm.prep⟩
 split
 ·
  exact ⟨ok0, zt, hm.kind, hm.frm, hm.index, hm.view, hm.value, z⟩
 split
 ·
  exact ⟨ok0, zt, hm.kind, hm.frm, hm.index, hm.view, hm.value, z⟩
 ·
  exact ⟨ok0, zt, hm.kind, hm.frm, hm.index, z, hm.value, z⟩
theorem jl.v {m : wM} (hm : m.Ok) (S : zi) : zQ Try.prog O jl.id [mv m] S = some (.bool (qj m), S) := by
 obtain ⟨T, hTe⟩ : ∃ T, T = (mv m :: undef :: undef :: undef :: undef :: undef :: undef :: undef :: undef :: undef :: undef :: undef :: undef :: undef :: undef :: undef :: undef :: undef :: undef :: undef :: undef :: undef :: undef :: undef :: undef :: undef :: undef :: undef :: undef :: undef :: undef :: undef :: undef :: undef :: undef :: undef :: undef :: undef :: undef :: undef :: undef :: undef :: undef :: undef :: undef :: undef :: undef :: undef :: undef :: undef :: undef :: undef :: undef :: undef :: undef :: undef :: undef :: undef :: undef :: undef :: undef :: undef :: undef :: undef :: undef :: undef :: undef :: undef :: undef :: undef :: undef :: undef :: undef :: undef :: []) := ⟨_, rfl⟩
 have hr : zA Try.prog O false jl.code T zi.empty = zA Try.prog O false jl.code T zi.empty := rfl
 have g0 := kZ m
 have c3 := fun S => yX.v m.tx S
 have c4 := fun S => jg.v hm.b S
 have c5 := fun S => jL.v hm S
 have hc : [mv m].all (jH 16) = true := all1 (yw hm.b.okl.le)
 unfold qj
 by_cases k0 : m.kind < 0
 ·
  rw [if_pos (.inl k0)]
  have e0 := decide_eq_true k0
  conv at hr =>
   rhs
   rw [hTe]
   simp only [jl.code, jl.rs, zSs, reduceIte, Nat.reduceEqDiff, Int.reduceEq, Int.reduceLT, Int.reduceLE, xO, zB, zJ, zM, zO, zI, zU, zT, zN, wF g0, wX g0, yc g0, yC g0, wR g0, yH g0, yK g0, yF g0 hm.b.ne, vw g0 hm.b.ne, zk (zB _ _ _), zk (zJ _ _ _), zk (zM _ _ _), zk (zO _ _ _), zk (zI _ _ _), zk (zU _ _ _), zk (zT _ _ _), zk (zN _ _ _), zk (wF g0), zk (wX g0), zk (yc g0), zk (yC g0), zk (wR g0), zk (yH g0), zk (yK g0), zk (yF g0 hm.b.ne), zk (vw g0 hm.b.ne), Jy (vw g0 hm.b.ne) (ZQ m), yO g0, gvw, e0]
  rw [hTe] at hr
  exact jl.runs hr (.inr rfl) hc rfl
 by_cases k6 : 6 < m.kind
 ·
  rw [if_pos (.inr k6)]
  have e0 := decide_eq_false k0
  have e6 := decide_eq_true k6
  conv at hr =>
   rhs
   rw [hTe]
   simp only [jl.code, jl.rs, zSs, reduceIte, Nat.reduceEqDiff, Int.reduceEq, Int.reduceLT, Int.reduceLE, xO, zB, zJ, zM, zO, zI, zU, zT, zN, wF g0, wX g0, yc g0, yC g0, wR g0, yH g0, yK g0, yF g0 hm.b.ne, vw g0 hm.b.ne, zk (zB _ _ _), zk (zJ _ _ _), zk (zM _ _ _), zk (zO _ _ _), zk (zI _ _ _), zk (zU _ _ _), zk (zT _ _ _), zk (zN _ _ _), zk (wF g0), zk (wX g0), zk (yc g0), zk (yC g0), zk (wR g0), zk (yH g0), zk (yK g0), zk (yF g0 hm.b.ne), zk (vw g0 hm.b.ne), Jy (vw g0 hm.b.ne) (ZQ m), yO g0, gvw, e0, e6]
  rw [hTe] at hr
  exact jl.runs hr (.inr rfl) hc rfl
 rw [if_neg (by omega)]
 have e0 := decide_eq_false k0
 have e6 := decide_eq_false k6
 have c1 := fun S => zY.v hm (by omega) (by omega) S
 have c2 := fun S => wG.v hm (aiX hm) S
 obtain ⟨c, hc0⟩ : ∃ b, ((decide (m.frm < 0) || decide (7 ≤ m.frm)) || !ZW m (yI m)) = b := ⟨_, rfl⟩
 rw [hc0]
 cases c
 ·
  rw [if_neg (by decide)]
  by_cases z0 : m.kind = 0
  ·
   rw [if_pos z0]
   conv at hr =>
    rhs
    rw [hTe]
    simp only [jl.code, jl.rs, zSs, reduceIte, Nat.reduceEqDiff, Int.reduceEq, Int.reduceLT, Int.reduceLE, xO, zB, zJ, zM, zO, zI, zU, zT, zN, wF g0, wX g0, yc g0, yC g0, wR g0, yH g0, yK g0, yF g0 hm.b.ne, vw g0 hm.b.ne, zk (zB _ _ _), zk (zJ _ _ _), zk (zM _ _ _), zk (zO _ _ _), zk (zI _ _ _), zk (zU _ _ _), zk (zT _ _ _), zk (zN _ _ _), zk (wF g0), zk (wX g0), zk (yc g0), zk (yC g0), zk (wR g0), zk (yH g0), zk (yK g0), zk (yF g0 hm.b.ne), zk (vw g0 hm.b.ne), Jy (vw g0 hm.b.ne) (ZQ m), yO g0, gvw, e0, e6, c1, c2, zk (c1 _), zk (c2 _), hc0, decide_eq_true z0, c3]
   rw [hTe] at hr
   exact jl.runs hr (.inr rfl) hc rfl
  rw [if_neg z0]
  by_cases z1 : m.kind = 1
  ·
   rw [if_pos z1]
   conv at hr =>
    rhs
    rw [hTe]
    simp only [jl.code, jl.rs, zSs, reduceIte, Nat.reduceEqDiff, Int.reduceEq, Int.reduceLT, Int.reduceLE, xO, zB, zJ, zM, zO, zI, zU, zT, zN, wF g0, wX g0, yc g0, yC g0, wR g0, yH g0, yK g0, yF g0 hm.b.ne, vw g0 hm.b.ne, zk (zB _ _ _), zk (zJ _ _ _), zk (zM _ _ _), zk (zO _ _ _), zk (zI _ _ _), zk (zU _ _ _), zk (zT _ _ _), zk (zN _ _ _), zk (wF g0), zk (wX g0), zk (yc g0), zk (yC g0), zk (wR g0), zk (yH g0), zk (yK g0), zk (yF g0 hm.b.ne), zk (vw g0 hm.b.ne), Jy (vw g0 hm.b.ne) (ZQ m), yO g0, gvw, e0, e6, c1, c2, zk (c1 _), zk (c2 _), hc0, decide_eq_false z0, decide_eq_true z1, c4]
   rw [hTe] at hr
   exact jl.runs hr (.inr rfl) hc rfl
  rw [if_neg z1]
  by_cases z3 : m.kind = 3
  ·
   obtain ⟨d, hd0⟩ : ∃ b, (decide (m.prep < -1) || decide (m.view ≤ m.prep)) = b := ⟨_, rfl⟩
   rw [hd0]
   cases d
   ·
    rw [if_neg (by simp)]
    conv at hr =>
     rhs
     rw [hTe]
     simp only [jl.code, jl.rs, zSs, reduceIte, Nat.reduceEqDiff, Int.reduceEq, Int.reduceLT, Int.reduceLE, xO, zB, zJ, zM, zO, zI, zU, zT, zN, wF g0, wX g0, yc g0, yC g0, wR g0, yH g0, yK g0, yF g0 hm.b.ne, vw g0 hm.b.ne, zk (zB _ _ _), zk (zJ _ _ _), zk (zM _ _ _), zk (zO _ _ _), zk (zI _ _ _), zk (zU _ _ _), zk (zT _ _ _), zk (zN _ _ _), zk (wF g0), zk (wX g0), zk (yc g0), zk (yC g0), zk (wR g0), zk (yH g0), zk (yK g0), zk (yF g0 hm.b.ne), zk (vw g0 hm.b.ne), Jy (vw g0 hm.b.ne) (ZQ m), yO g0, gvw, e0, e6, c1, c2, zk (c1 _), zk (c2 _), hc0, decide_eq_false z0, decide_eq_false z1, decide_eq_true z3, hd0, c5, zk (c5 _)]
    rw [hTe] at hr
    exact jl.runs hr (.inr rfl) hc rfl
   ·
    rw [if_pos ⟨z3, rfl⟩]
    conv at hr =>
     rhs
     rw [hTe]
     simp only [jl.code, jl.rs, zSs, reduceIte, Nat.reduceEqDiff, Int.reduceEq, Int.reduceLT, Int.reduceLE, xO, zB, zJ, zM, zO, zI, zU, zT, zN, wF g0, wX g0, yc g0, yC g0, wR g0, yH g0, yK g0, yF g0 hm.b.ne, vw g0 hm.b.ne, zk (zB _ _ _), zk (zJ _ _ _), zk (zM _ _ _), zk (zO _ _ _), zk (zI _ _ _), zk (zU _ _ _), zk (zT _ _ _), zk (zN _ _ _), zk (wF g0), zk (wX g0), zk (yc g0), zk (yC g0), zk (wR g0), zk (yH g0), zk (yK g0), zk (yF g0 hm.b.ne), zk (vw g0 hm.b.ne), Jy (vw g0 hm.b.ne) (ZQ m), yO g0, gvw, e0, e6, c1, c2, zk (c1 _), zk (c2 _), hc0, decide_eq_false z0, decide_eq_false z1, decide_eq_true z3, hd0]
    rw [hTe] at hr
    exact jl.runs hr (.inr rfl) hc rfl
  rw [if_neg (fun h => z3 h.1)]
  conv at hr =>
   rhs
   rw [hTe]
   simp only [jl.code, jl.rs, zSs, reduceIte, Nat.reduceEqDiff, Int.reduceEq, Int.reduceLT, Int.reduceLE, xO, zB, zJ, zM, zO, zI, zU, zT, zN, wF g0, wX g0, yc g0, yC g0, wR g0, yH g0, yK g0, yF g0 hm.b.ne, vw g0 hm.b.ne, zk (zB _ _ _), zk (zJ _ _ _), zk (zM _ _ _), zk (zO _ _ _), zk (zI _ _ _), zk (zU _ _ _), zk (zT _ _ _), zk (zN _ _ _), zk (wF g0), zk (wX g0), zk (yc g0), zk (yC g0), zk (wR g0), zk (yH g0), zk (yK g0), zk (yF g0 hm.b.ne), zk (vw g0 hm.b.ne), Jy (vw g0 hm.b.ne) (ZQ m), yO g0, gvw, e0, e6, c1, c2, zk (c1 _), zk (c2 _), hc0, decide_eq_false z0, decide_eq_false z1, decide_eq_false z3, c5, zk (c5 _)]
  rw [hTe] at hr
  exact jl.runs hr (.inr rfl) hc rfl
 ·
  rw [if_pos rfl]
  conv at hr =>
   rhs
   rw [hTe]
   simp only [jl.code, jl.rs, zSs, reduceIte, Nat.reduceEqDiff, Int.reduceEq, Int.reduceLT, Int.reduceLE, xO, zB, zJ, zM, zO, zI, zU, zT, zN, wF g0, wX g0, yc g0, yC g0, wR g0, yH g0, yK g0, yF g0 hm.b.ne, vw g0 hm.b.ne, zk (zB _ _ _), zk (zJ _ _ _), zk (zM _ _ _), zk (zO _ _ _), zk (zI _ _ _), zk (zU _ _ _), zk (zT _ _ _), zk (zN _ _ _), zk (wF g0), zk (wX g0), zk (yc g0), zk (yC g0), zk (wR g0), zk (yH g0), zk (yK g0), zk (yF g0 hm.b.ne), zk (vw g0 hm.b.ne), Jy (vw g0 hm.b.ne) (ZQ m), yO g0, gvw, e0, e6, c1, c2, zk (c1 _), zk (c2 _), hc0]
  rw [hTe] at hr
  exact jl.runs hr (.inr rfl) hc rfl
theorem vK (b : xu) : Zp b b = true := by simp [Zp]
theorem right_eq (m : wM) : qj m = xM m := by
 unfold qj xM xQ
 by_cases hk : m.kind < 0 ∨ 6 < m.kind
 ·
  rw [if_pos hk]
  have : vI m = false := by simp only [vI, if_neg (show ¬ m.kind = 0 by omega), if_neg (show ¬ m.kind = 1 by omega), if_neg (show ¬ m.kind = 2 by omega), if_neg (show ¬ m.kind = 3 by omega), if_neg (show ¬ (m.kind = 4 ∨ m.kind = 5) by omega), if_neg (show ¬ m.kind = 6 by omega)]
  rw [this]
  simp
 rw [if_neg hk]
 by_cases f0 : m.frm < 0
 ·
  simp [f0]
 by_cases f7 : 6 < m.frm
 ·
  simp [f0, f7, show 7 ≤ m.frm by omega]
 have f8 : ¬ 7 ≤ m.frm := by omega
 have hv : decide (0 < WO m.value) = kR m.value := agX m.value
 have : m.kind = 0 ∨ m.kind = 1 ∨ m.kind = 2 ∨ m.kind = 3 ∨ m.kind = 4 ∨ m.kind = 5 ∨ m.kind = 6 := by omega
 rcases this with h | h | h | h | h | h | h
 ·
  simp only [ZW, yI, vI, h, decide_true, decide_false, Bool.true_and, Bool.false_and, Bool.not_true, Bool.not_false, Int.reduceEq, Int.reduceLT, if_true, if_false, reduceIte, VB, vwB, qH, Yp, nameB, hv, f0, f7, f8, or_true, true_or, or_false, false_or, or_self, Bool.or_false, Bool.false_or, vK, false_and, true_and]
  grind
 ·
  simp only [ZW, yI, vI, h, decide_true, decide_false, Bool.true_and, Bool.false_and, Bool.not_true, Bool.not_false, Int.reduceEq, Int.reduceLT, if_true, if_false, reduceIte, VB, vwB, qH, Yp, nameB, hv, f0, f7, f8, or_true, true_or, or_false, false_or, or_self, Bool.or_false, Bool.false_or, vK, false_and, true_and]
  grind
 ·
  simp only [ZW, yI, vI, h, decide_true, decide_false, Bool.true_and, Bool.false_and, Bool.not_true, Bool.not_false, Int.reduceEq, Int.reduceLT, if_true, if_false, reduceIte, VB, vwB, qH, Yp, nameB, hv, f0, f7, f8, or_true, true_or, or_false, false_or, or_self, Bool.or_false, Bool.false_or, vK, false_and, true_and]
  grind
 ·
  simp only [ZW, yI, vI, h, decide_true, decide_false, Bool.true_and, Bool.false_and, Bool.not_true, Bool.not_false, Int.reduceEq, Int.reduceLT, if_true, if_false, reduceIte, VB, vwB, qH, Yp, nameB, hv, f0, f7, f8, or_true, true_or, or_false, false_or, or_self, Bool.or_false, Bool.false_or, vK, false_and, true_and]
  grind
 ·
  simp only [ZW, yI, vI, h, decide_true, decide_false, Bool.true_and, Bool.false_and, Bool.not_true, Bool.not_false, Int.reduceEq, Int.reduceLT, if_true, if_false, reduceIte, VB, vwB, qH, Yp, nameB, hv, f0, f7, f8, or_true, true_or, or_false, false_or, or_self, Bool.or_false, Bool.false_or, vK, false_and, true_and]
  grind
 ·
  simp only [ZW, yI, vI, h, decide_true, decide_false, Bool.true_and, Bool.false_and, Bool.not_true, Bool.not_false, Int.reduceEq, Int.reduceLT, if_true, if_false, reduceIte, VB, vwB, qH, Yp, nameB, hv, f0, f7, f8, or_true, true_or, or_false, false_or, or_self, Bool.or_false, Bool.false_or, vK, false_and, true_and]
  grind
 ·
  simp only [ZW, yI, vI, h, decide_true, decide_false, Bool.true_and, Bool.false_and, Bool.not_true, Bool.not_false, Int.reduceEq, Int.reduceLT, if_true, if_false, reduceIte, VB, vwB, qH, Yp, nameB, hv, f0, f7, f8, or_true, true_or, or_false, false_or, or_self, Bool.or_false, Bool.false_or, vK, false_and, true_and]
  grind
end Go.Proofs.Ytfjogganfjkckaa
namespace Go.Proofs.Ytfjogganfjkckaa
open Go.Abs
theorem acS {n : Int} (h : nameB n = true) : 0 ≤ n ∧ n ≤ 268435455 := by
 unfold nameB at h
 simp only [Bool.or_eq_true, decide_eq_true_eq] at h
 rcases h with h | h
 ·
  omega
 ·
  have := xG.1 h; omega
structure VU (m : wM) : Prop where
 kind : 0 ≤ m.kind ∧ m.kind ≤ 6
 frm : 0 ≤ m.frm ∧ m.frm ≤ 6
 index : 0 ≤ m.index ∧ m.index ≤ 1000
 view : 0 ≤ m.view ∧ m.view ≤ 1000
 value : -1 ≤ m.value ∧ m.value ≤ 268435455
 prep : -1 ≤ m.prep ∧ m.prep ≤ 1000
 tx : m.kind = 0 → y7 m.tx = true
 blk : m.kind = 1 → jI m.b = true
 notx : m.kind ≠ 0 → m.tx = ⟨0, 0⟩
 noblk : m.kind ≠ 1 → Zp m.b bk0 = true
 noprep : m.kind ≠ 3 → m.prep = 0
theorem ZE {m : wM} (h : qj m = true) : VU m := by
 rw [right_eq] at h
 unfold xM at h
 split at h
 ·
  cases h
 rename_i hf
 split at h
 ·
  cases h
 rename_i ho
 simp only [Bool.or_eq_true, decide_eq_true_eq, not_or] at hf
 have ho : (m.kind ≠ 0 → m.tx = ⟨0, 0⟩) ∧ (m.kind ≠ 1 → Zp m.b bk0 = true) ∧ (m.kind ≠ 3 → m.prep = 0) := by
  unfold xQ at ho
  simp only [Bool.or_eq_true, Bool.and_eq_true, Bool.not_eq_true', decide_eq_false_iff_not, not_or, not_and, Decidable.not_not, Bool.not_eq_false] at ho
  exact ⟨ho.1.1, ho.1.2, ho.2⟩
 unfold vI VB vwB at h
 have nr := fun hn => acS (n := m.value) hn
 have k : m.kind = 0 ∨ m.kind = 1 ∨ m.kind = 2 ∨ m.kind = 3 ∨ m.kind = 4 ∨ m.kind = 5 ∨ m.kind = 6 := by
  by_cases a : m.kind = 0 ∨ m.kind = 1 ∨ m.kind = 2 ∨ m.kind = 3 ∨ m.kind = 4 ∨ m.kind = 5 ∨ m.kind = 6
  ·
   exact a
  ·
   simp only [if_neg (show ¬ m.kind = 0 by omega), if_neg (show ¬ m.kind = 1 by omega), if_neg (show ¬ m.kind = 2 by omega), if_neg (show ¬ m.kind = 3 by omega), if_neg (show ¬ (m.kind = 4 ∨ m.kind = 5) by omega), if_neg (show ¬ m.kind = 6 by omega)] at h
   cases h
 rcases k with k | k | k | k | k | k | k
 ·
  simp only [k, Int.reduceEq, if_true, if_false, reduceIte, or_true, true_or, or_false, or_self, Bool.and_eq_true, Bool.or_eq_true, decide_eq_true_eq] at h
  have hp := ho.2.2
  have hv : -1 ≤ m.value ∧ m.value ≤ 268435455 := by grind
  refine ⟨by omega, by omega, by omega, by omega, hv, by grind, fun e => by grind, fun e => by grind, ho.1, ho.2.1, ho.2.2⟩
 ·
  simp only [k, Int.reduceEq, if_true, if_false, reduceIte, or_true, true_or, or_false, or_self, Bool.and_eq_true, Bool.or_eq_true, decide_eq_true_eq] at h
  have hp := ho.2.2
  have hv : -1 ≤ m.value ∧ m.value ≤ 268435455 := by grind
  refine ⟨by omega, by omega, by omega, by omega, hv, by grind, fun e => by grind, fun e => by grind, ho.1, ho.2.1, ho.2.2⟩
 ·
  simp only [k, Int.reduceEq, if_true, if_false, reduceIte, or_true, true_or, or_false, or_self, Bool.and_eq_true, Bool.or_eq_true, decide_eq_true_eq] at h
  have hp := ho.2.2
  have hv : -1 ≤ m.value ∧ m.value ≤ 268435455 := by grind
  refine ⟨by omega, by omega, by omega, by omega, hv, by grind, fun e => by grind, fun e => by grind, ho.1, ho.2.1, ho.2.2⟩
 ·
  simp only [k, Int.reduceEq, if_true, if_false, reduceIte, or_true, true_or, or_false, or_self, Bool.and_eq_true, Bool.or_eq_true, decide_eq_true_eq] at h
  have hp := ho.2.2
  have hv : -1 ≤ m.value ∧ m.value ≤ 268435455 := by grind
  refine ⟨by omega, by omega, by omega, by omega, hv, by grind, fun e => by grind, fun e => by grind, ho.1, ho.2.1, ho.2.2⟩
 ·
  simp only [k, Int.reduceEq, if_true, if_false, reduceIte, or_true, true_or, or_false, or_self, Bool.and_eq_true, Bool.or_eq_true, decide_eq_true_eq] at h
  have hp := ho.2.2
  have hv : -1 ≤ m.value ∧ m.value ≤ 268435455 := by grind
  refine ⟨by omega, by omega, by omega, by omega, hv, by grind, fun e => by grind, fun e => by grind, ho.1, ho.2.1, ho.2.2⟩
 ·
  simp only [k, Int.reduceEq, if_true, if_false, reduceIte, or_true, true_or, or_false, or_self, Bool.and_eq_true, Bool.or_eq_true, decide_eq_true_eq] at h
  have hp := ho.2.2
  have hv : -1 ≤ m.value ∧ m.value ≤ 268435455 := by grind
  refine ⟨by omega, by omega, by omega, by omega, hv, by grind, fun e => by grind, fun e => by grind, ho.1, ho.2.1, ho.2.2⟩
 ·
  simp only [k, Int.reduceEq, if_true, if_false, reduceIte, or_true, true_or, or_false, or_self, Bool.and_eq_true, Bool.or_eq_true, decide_eq_true_eq] at h
  have hp := ho.2.2
  have hv : -1 ≤ m.value ∧ m.value ≤ 268435455 := by grind
  refine ⟨by omega, by omega, by omega, by omega, hv, by grind, fun e => by grind, fun e => by grind, ho.1, ho.2.1, ho.2.2⟩
def ZH (m : wM) : List UInt8 := if m.kind = 0 then txB m.tx else if m.kind = 1 then Ku m.b else []
def JX (m : wM) : List Int := [m.kind, m.frm, m.index, m.view, m.value, m.prep]
def kX (m : wM) : List UInt8 := encs (JX m) ++ ZH m
def mkM (m : wM) : Nat := (JY (KA m.frm) (kX m)).toNat
def WG (m : wM) : List UInt8 := enc (mkM m) ++ kX m
def aiR (m : wM) : Value := if qj m then .tuple #[by_ 2 (WG m), .int .i64 0] else .tuple #[.slice none 0 0, .int .i64 121]
theorem abZ (key : Int) (b : List UInt8) : 0 ≤ JY key b ∧ JY key b < 18446744073709551616 := acj _ _
theorem aek (key : Int) (b : List UInt8) : ((JY key b).toNat : Int) = JY key b := Int.toNat_of_nonneg (abZ key b).1
theorem ais (key : Int) (b : List UInt8) : (JY key b).toNat < 2 ^ 64 := by have := abZ key b; omega
theorem QC {m : wM} (h : VU m) : ∀ n ∈ JX m, -1 ≤ n ∧ n ≤ 268435455 := by
 intro n hn
 have h1 := h.kind; have h2 := h.frm; have h3 := h.index; have h4 := h.view; have h5 := h.value; have h6 := h.prep
 simp only [JX, List.mem_cons, List.not_mem_nil, or_false] at hn
 rcases hn with rfl | rfl | rfl | rfl | rfl | rfl <;> omega
theorem Xz {m : wM} (h : VU m) : (encs (JX m)).length ≤ 60 := by
 have h1 := QC h
 exact ZB (l := JX m) (fun n hn => by have := h1 n hn; omega)
theorem acd {b : xu} (h : jI b = true) : (Ku b).length ≤ 140 := by
 have hh : headB b = true ∧ vX b.txs = true := by simpa [jI] using h
 unfold Ku
 have := Y6 hh.1; have := Y1 hh.2
 rw [List.length_append]; omega
theorem agU {m : wM} (h : VU m) : (ZH m).length ≤ 140 := by
 unfold ZH
 split
 ·
  rename_i h0; have := abg (h.tx h0); omega
 split
 ·
  rename_i h1; exact acd (h.blk h1)
 ·
  simp
theorem Vx {m : wM} (h : VU m) : (kX m).length ≤ 200 := by
 unfold kX; have := Xz h; have := agU h; rw [List.length_append]; omega
theorem bs6 (a b c d e f : Int) (S : zi) : jR Try.prog 24 6 [(0, .int .i64 a), (1, .int .i64 b), (2, .int .i64 c), (3, .int .i64 d), (4, .int .i64 e), (5, .int .i64 f)] S = some (iz 2 [a, b, c, d, e, f], S) := by kernel_rfl
theorem zD.v {m : wM} (hm : m.Ok) (S : zi) : zQ Try.prog O zD.id [mv m] S = some (aiR m, S) := by
 obtain ⟨T, hTe⟩ : ∃ T, T = (mv m :: undef :: undef :: undef :: undef :: undef :: undef :: undef :: undef :: undef :: undef :: undef :: undef :: undef :: undef :: undef :: undef :: undef :: undef :: undef :: undef :: undef :: undef :: undef :: undef :: undef :: undef :: undef :: undef :: undef :: undef :: undef :: undef :: undef :: undef :: undef :: undef :: undef :: undef :: undef :: undef :: undef :: undef :: undef :: undef :: undef :: undef :: undef :: undef :: undef :: undef :: undef :: undef :: undef :: undef :: undef :: undef :: undef :: undef :: undef :: undef :: undef :: []) := ⟨_, rfl⟩
 have hr : zA Try.prog O false zD.code T zi.empty = zA Try.prog O false zD.code T zi.empty := rfl
 have g0 := kZ m
 have hc : [mv m].all (jH 16) = true := all1 (yw hm.b.okl.le)
 have c0 : ∀ S, zQ Try.prog O 34 [mv m] S = some (.bool (qj m), S) := fun S => by rw [right_eq]; exact zh.v hm S
 unfold aiR
 cases hR : qj m
 ·
  rw [hR] at c0
  conv at hr =>
   rhs
   rw [hTe]
   simp only [zD.code, zD.rs, zSs, reduceIte, Nat.reduceEqDiff, Int.reduceEq, Int.reduceLT, Int.reduceLE, xO, zB, zJ, zM, zO, zI, zU, zT, zN, wF g0, wX g0, yc g0, yC g0, wR g0, yH g0, yK g0, yF g0 hm.b.ne, vw g0 hm.b.ne, c0]
  rw [hTe] at hr
  exact zD.runs hr (.inr rfl) rfl rfl hc rfl
 ·
  rw [hR] at c0
  have hf := ZE hR
  have few := QC hf
  have c2 : ∀ S, zQ Try.prog O 35 [iz 1 [m.kind, m.frm, m.index, m.view, m.value, m.prep]] S = some (.tuple #[by_ 2 (encs (JX m)), .int .i64 0], S) := fun S => by
   rw [zu.v (l := [m.kind, m.frm, m.index, m.view, m.value, m.prep]) Okl.read (by decide) (fun n hn => by have := few n hn; omega) S, Ja (l := [m.kind, m.frm, m.index, m.view, m.value, m.prep]) (by simp) (fun n hn => (few n hn).1) (by simp)]; rfl
  have ck : ∀ S, zQ Try.prog O 40 [.int .i64 m.frm] S = some (.int .u64 (KA m.frm), S) := fun S => yG.v hf.frm.1 hf.frm.2 S
  have cn : ∀ b S, zQ Try.prog O 38 [.int .u64 (JY (KA m.frm) b)] S = some (by_ 2 (enc (JY (KA m.frm) b).toNat), S) := fun b S => by
   have := jd.v (JY (KA m.frm) b).toNat (ais _ _) S
   rw [aek] at this
   exact this
  have a0 : ∀ S, yj Try.prog 33 33 (by_ 2 (enc (mkM m))) (by_ 1 (kX m)) S = some (by_ 2 (WG m), S) := fun S => by
   rw [xE Okl.own (by decide) Okl.read (by have := Vx hf; have := ZN (ais (KA m.frm) (kX m)); unfold mkM; omega)]; rfl
  have em : enc (JY (KA m.frm) (kX m)).toNat = enc (mkM m) := rfl
  have cof : ∀ S, zQ Try.prog O 39 [.int .u64 (KA m.frm), by_ 1 (kX m)] S = some (.int .u64 (JY (KA m.frm) (kX m)), S) := fun S => zK.v Okl.read (by decide) (by have := Vx hf; omega) S
  have hcv : jH 16 (.tuple #[by_ 2 (WG m), .int .i64 0]) = true := yP (all2 (qL (k := 2) (Nat.le_refl 2)) rfl)
  by_cases k0 : m.kind = 0
  ·
   have c3 : ∀ S, zQ Try.prog O 36 [tv m.tx] S = some (.tuple #[by_ 2 (txB m.tx), .int .i64 0], S) := fun S => by
    rw [jm.v m.tx S, ai4, if_pos (hf.tx k0)]
   have a1 : ∀ S, yj Try.prog 33 33 (by_ 2 (encs (JX m))) (by_ 1 (txB m.tx)) S = some (by_ 2 (kX m), S) := fun S => by
    rw [xE Okl.own (by decide) Okl.read (by have := Xz hf; have := abg (hf.tx k0); omega)]
    rw [if_neg (by omega)]; simp only [kX, ZH, if_pos k0]
   conv at hr =>
    rhs
    rw [hTe]
    simp only [zD.code, zD.rs, zSs, reduceIte, Nat.reduceEqDiff, Int.reduceEq, Int.reduceLT, Int.reduceLE, xO, zB, zJ, zM, zO, zI, zU, zT, zN, wF g0, wX g0, yc g0, yC g0, wR g0, yH g0, yK g0, yF g0 hm.b.ne, vw g0 hm.b.ne, c0, bs6, c2, decide_eq_true k0, decide_eq_false (show ¬ m.kind = 1 by omega), c3, a1, ck, Y9, cof, cn, em, a0]
   rw [hTe] at hr
   exact zD.runs hr (.inr rfl) (by simp only [List.getD_cons_succ, List.getD_cons_zero, wB, wo, jM, jU, jZ]) rfl hc hcv
  by_cases k1 : m.kind = 1
  ·
   have c3 : ∀ S, zQ Try.prog O 37 [bv m.b] S = some (.tuple #[by_ 2 (Ku m.b), .int .i64 0], S) := fun S => by
    rw [jc.v hm.b S, aaO, if_pos (hf.blk k1)]
   have a1 : ∀ S, yj Try.prog 33 33 (by_ 2 (encs (JX m))) (by_ 1 (Ku m.b)) S = some (by_ 2 (kX m), S) := fun S => by
    rw [xE Okl.own (by decide) Okl.read (by have := Xz hf; have := acd (hf.blk k1); omega)]
    rw [if_neg (by omega)]; simp only [kX, ZH, if_neg k0, if_pos k1]
   conv at hr =>
    rhs
    rw [hTe]
    simp only [zD.code, zD.rs, zSs, reduceIte, Nat.reduceEqDiff, Int.reduceEq, Int.reduceLT, Int.reduceLE, xO, zB, zJ, zM, zO, zI, zU, zT, zN, wF g0, wX g0, yc g0, yC g0, wR g0, yH g0, yK g0, yF g0 hm.b.ne, vw g0 hm.b.ne, c0, bs6, c2, decide_eq_false k0, decide_eq_true k1, c3, a1, ck, Y9, cof, cn, em, a0]
   rw [hTe] at hr
   exact zD.runs hr (.inr rfl) (by simp only [List.getD_cons_succ, List.getD_cons_zero, wB, wo, jM, jU, jZ]) rfl hc hcv
  have eb : encs (JX m) = kX m := by simp only [kX, ZH, if_neg k0, if_neg k1, List.append_nil]
  conv at hr =>
   rhs
   rw [hTe]
   simp only [zD.code, zD.rs, zSs, reduceIte, Nat.reduceEqDiff, Int.reduceEq, Int.reduceLT, Int.reduceLE, xO, zB, zJ, zM, zO, zI, zU, zT, zN, wF g0, wX g0, yc g0, yC g0, wR g0, yH g0, yK g0, yF g0 hm.b.ne, vw g0 hm.b.ne, c0, bs6, c2, decide_eq_false k0, decide_eq_false k1, eb, ck, Y9, cof, cn, em, a0]
  rw [hTe] at hr
  exact zD.runs hr (.inr rfl) (by simp only [List.getD_cons_succ, List.getD_cons_zero, wB, wo, jM, jU, jZ]) rfl hc hcv
end Go.Proofs.Ytfjogganfjkckaa
namespace Go.Proofs.Ytfjogganfjkckaa
open Go.Abs
theorem Zh {a b : xu} : Zp a b = true ↔ a.slot = b.slot ∧ a.miner = b.miner ∧ a.variant = b.variant ∧ a.parent = b.parent ∧ a.txs = b.txs := by
 simp [Zp]
theorem XF {m : wM} {b : xu} (h : Zp m.b b = true) : qj { m with b := b } = qj m := by
 rw [right_eq, right_eq]
 obtain ⟨k, f, i, v, w, p, t, c⟩ := m
 obtain ⟨c1, c2, c3, c4, c5, c6⟩ := c
 obtain ⟨b1, b2, b3, b4, b5, b6⟩ := b
 obtain ⟨e1, e2, e3, e4, e5⟩ := Zh.1 h
 dsimp only at e1 e2 e3 e4 e5
 subst e1 e2 e3 e4 e5
 rfl
theorem ah8 (l : List UInt8) : yV 6 l = none ∨ ∃ a b c d e f r, yV 6 l = some ([a, b, c, d, e, f], r) ∧ r.length ≤ l.length := by
 cases h : yV 6 l with
 | none => exact .inl rfl
 | some ar =>
  obtain ⟨a, r⟩ := ar
  obtain ⟨h1, h2⟩ := JV h
  match a, h1 with
  | [x, y, z, w, u, v], _ => exact .inr ⟨x, y, z, w, u, v, r, rfl, h2⟩
theorem Yf {x : wM} (hx : qj x = true) : yV 6 (kX x) = some (JX x, ZH x) := by
 have f1 := QC (ZE hx)
 exact (yS _ _ _ _).mpr ⟨rfl, rfl, fun n hn => by have := f1 n hn; unfold Few; omega⟩
theorem QN {l r : List UInt8} {a b c d e f : Int} (h : yV 6 l = some ([a, b, c, d, e, f], r)) {x : wM} (hx : qj x = true) (hl : l = kX x) :
  x.kind = a ∧ x.frm = b ∧ x.index = c ∧ x.view = d ∧ x.value = e ∧ x.prep = f ∧ ZH x = r := by
 have := Yf hx
 rw [← hl, h] at this
 simp only [Option.some.injEq, Prod.mk.injEq, JX, List.cons.injEq, and_true] at this
 obtain ⟨⟨h1, h2, h3, h4, h5, h6⟩, h7⟩ := this
 exact ⟨h1.symm, h2.symm, h3.symm, h4.symm, h5.symm, h6.symm, h7.symm⟩
def Wq (l : List UInt8) (m : wM) (ok : Bool) : Prop := m.Ok ∧ m.b.txs.length ≤ 3 ∧ ((ok = true ∧ qj m = true ∧ l = kX m) ∨ (ok = false ∧ ∀ x, qj x = true → l ≠ kX x))
theorem VZ : m0.Ok := by
 have z : Big 0 := ⟨by omega, by omega⟩
 exact ⟨ok0, ⟨z, z⟩, z, z, z, z, z, z⟩
theorem yZ {n : Int} (h : Few n) : Big n := by unfold Few at h; unfold Big; omega
theorem af4 {t : TxV} (h : y7 t = true) : t.Ok := by
 have := kL.1 h
 exact ⟨⟨by omega, by omega⟩, ⟨by omega, by omega⟩⟩
section
variable {l r : List UInt8} {a b c d e f : Int}
theorem agC {t : TxV} (h : yV 6 l = some ([a, b, c, d, e, f], r)) (ha : a = 0) (ht : afv r = some t) : Wq l ⟨a, b, c, d, e, f, t, bk0⟩ (qj ⟨a, b, c, d, e, f, t, bk0⟩) := by
 obtain ⟨_, g2, few⟩ := (yS _ _ _ _).mp h
 obtain ⟨t1, t2⟩ := (WU r t).1 ht
 refine ⟨⟨ok0, af4 t1, yZ (few _ (by simp)), yZ (few _ (by simp)), yZ (few _ (by simp)), yZ (few _ (by simp)), yZ (few _ (by simp)), yZ (few _ (by simp))⟩, by simp, ?_⟩
 cases hR : qj ⟨a, b, c, d, e, f, t, bk0⟩
 ·
  refine .inr ⟨rfl, fun x hx hl => ?_⟩
  obtain ⟨i1, i2, i3, i4, i5, i6, i7⟩ := QN h hx hl
  have hf := ZE hx
  have k0 : x.kind = 0 := by omega
  have h3 := (WU r x.tx).2 ⟨hf.tx k0, by rw [← i7, ZH, if_pos k0]⟩
  rw [ht] at h3
  have := XF (m := x) (b := bk0) (hf.noblk (by omega))
  rw [hx] at this
  have e : ({ x with b := bk0 } : wM) = ⟨a, b, c, d, e, f, t, bk0⟩ := mk_eq i1 i2 i3 i4 i5 i6 (by injection h3 with h3; exact h3.symm) rfl
  rw [e, hR] at this
  cases this
 ·
  refine .inl ⟨rfl, rfl, ?_⟩
  rw [g2, t2]
  simp only [kX, JX, ZH, if_pos ha]
theorem afA {t : TxV} (h : yV 6 l = some ([a, b, c, d, e, f], r)) (ha : a = 0) (ht : afv r = none) : Wq l ⟨a, b, c, d, e, f, ⟨0, 0⟩, bk0⟩ false := by
 obtain ⟨_, g2, few⟩ := (yS _ _ _ _).mp h
 refine ⟨⟨ok0, VZ.tx, yZ (few _ (by simp)), yZ (few _ (by simp)), yZ (few _ (by simp)), yZ (few _ (by simp)), yZ (few _ (by simp)), yZ (few _ (by simp))⟩, by simp, .inr ⟨rfl, fun x hx hl => ?_⟩⟩
 obtain ⟨i1, i2, i3, i4, i5, i6, i7⟩ := QN h hx hl
 have k0 : x.kind = 0 := by omega
 have h3 := (WU r x.tx).2 ⟨(ZE hx).tx k0, by rw [← i7, ZH, if_pos k0]⟩
 rw [ht] at h3
 cases h3
theorem ag9 {y : xu} (h : yV 6 l = some ([a, b, c, d, e, f], r)) (ha : a = 1) (hy : y.Ok) (hy3 : y.txs.length ≤ 3) (hb : afP r = some ⟨y.slot, y.miner, y.variant, y.parent, 0, y.txs⟩) : Wq l ⟨a, b, c, d, e, f, ⟨0, 0⟩, y⟩ (qj ⟨a, b, c, d, e, f, ⟨0, 0⟩, y⟩) := by
 obtain ⟨_, g2, few⟩ := (yS _ _ _ _).mp h
 obtain ⟨⟨t1, _⟩, t2⟩ := (WX r _).1 hb
 refine ⟨⟨hy, VZ.tx, yZ (few _ (by simp)), yZ (few _ (by simp)), yZ (few _ (by simp)), yZ (few _ (by simp)), yZ (few _ (by simp)), yZ (few _ (by simp))⟩, hy3, ?_⟩
 cases hR : qj ⟨a, b, c, d, e, f, ⟨0, 0⟩, y⟩
 ·
  refine .inr ⟨rfl, fun x hx hl => ?_⟩
  obtain ⟨i1, i2, i3, i4, i5, i6, i7⟩ := QN h hx hl
  have hf := ZE hx
  have k1 : x.kind = 1 := by omega
  have h3 := (WX r ⟨x.b.slot, x.b.miner, x.b.variant, x.b.parent, 0, x.b.txs⟩).2 ⟨⟨hf.blk k1, rfl⟩, by rw [← i7, ZH, if_neg (by omega), if_pos k1]; rfl⟩
  rw [hb] at h3
  simp only [Option.some.injEq, xu.mk.injEq, true_and] at h3
  have := XF (m := x) (b := y) (Zh.2 ⟨h3.1.symm, h3.2.1.symm, h3.2.2.1.symm, h3.2.2.2.1.symm, h3.2.2.2.2.symm⟩)
  rw [hx] at this
  have e : ({ x with b := y } : wM) = ⟨a, b, c, d, e, f, ⟨0, 0⟩, y⟩ := mk_eq i1 i2 i3 i4 i5 i6 (hf.notx (by omega)) rfl
  rw [e, hR] at this
  cases this
 ·
  refine .inl ⟨rfl, rfl, ?_⟩
  rw [g2, t2]
  simp only [kX, JX, ZH, if_pos ha, if_neg (show ¬ a = 0 by omega)]
  rfl
theorem aeH (h : yV 6 l = some ([a, b, c, d, e, f], r)) (ha : a = 1) (hb : afP r = none) : Wq l ⟨a, b, c, d, e, f, ⟨0, 0⟩, bk0⟩ false := by
 obtain ⟨_, g2, few⟩ := (yS _ _ _ _).mp h
 refine ⟨⟨ok0, VZ.tx, yZ (few _ (by simp)), yZ (few _ (by simp)), yZ (few _ (by simp)), yZ (few _ (by simp)), yZ (few _ (by simp)), yZ (few _ (by simp))⟩, by simp, .inr ⟨rfl, fun x hx hl => ?_⟩⟩
 obtain ⟨i1, i2, i3, i4, i5, i6, i7⟩ := QN h hx hl
 have k1 : x.kind = 1 := by omega
 have h3 := (WX r ⟨x.b.slot, x.b.miner, x.b.variant, x.b.parent, 0, x.b.txs⟩).2 ⟨⟨(ZE hx).blk k1, rfl⟩, by rw [← i7, ZH, if_neg (by omega), if_pos k1]; rfl⟩
 rw [hb] at h3
 cases h3
theorem agi (h : yV 6 l = some ([a, b, c, d, e, f], r)) (h0 : a ≠ 0) (h1 : a ≠ 1) : Wq l ⟨a, b, c, d, e, f, ⟨0, 0⟩, bk0⟩ (decide ((r.length : Int) = 0) && qj ⟨a, b, c, d, e, f, ⟨0, 0⟩, bk0⟩) := by
 obtain ⟨_, g2, few⟩ := (yS _ _ _ _).mp h
 refine ⟨⟨ok0, VZ.tx, yZ (few _ (by simp)), yZ (few _ (by simp)), yZ (few _ (by simp)), yZ (few _ (by simp)), yZ (few _ (by simp)), yZ (few _ (by simp))⟩, by simp, ?_⟩
 cases hR : (decide ((r.length : Int) = 0) && qj ⟨a, b, c, d, e, f, ⟨0, 0⟩, bk0⟩)
 ·
  refine .inr ⟨rfl, fun x hx hl => ?_⟩
  obtain ⟨i1, i2, i3, i4, i5, i6, i7⟩ := QN h hx hl
  have hf := ZE hx
  rw [ZH, if_neg (by omega), if_neg (by omega)] at i7
  have := XF (m := x) (b := bk0) (hf.noblk (by omega))
  rw [hx] at this
  have e : ({ x with b := bk0 } : wM) = ⟨a, b, c, d, e, f, ⟨0, 0⟩, bk0⟩ := mk_eq i1 i2 i3 i4 i5 i6 (hf.notx (by omega)) rfl
  rw [e] at this
  rw [this, ← i7] at hR
  simp at hR
 ·
  rw [Bool.and_eq_true, decide_eq_true_eq] at hR
  refine .inl ⟨rfl, hR.2, ?_⟩
  have hr0 : r = [] := List.length_eq_zero_iff.1 (by omega)
  rw [g2, hr0]
  simp only [kX, JX, ZH, if_neg h0, if_neg h1]
theorem adq (h : yV 6 l = none) : Wq l m0 false := ⟨VZ, by simp, .inr ⟨rfl, fun x hx hl => by
 have := Yf hx
 rw [← hl, h] at this
 cases this⟩⟩
end
theorem je.v {k : Nat} {l : List UInt8} (hk : Okl k l) (k2 : k ≠ 2) (hl : l.length ≤ 140737488355328) : ∃ m ok, Wq l m ok ∧ ∀ S, zQ Try.prog O je.id [by_ k l] S = some (.tuple #[mv m, .bool ok], S) := by
 have a1 : yJ Try.prog 48 zi.empty = some (.pointer (some ⟨0, 0, none⟩), YH m0) := Xy zi.empty
 have g1 := kZ m0
 have ne0 : (0 : Nat) ≠ 2 := by decide
 have cl : [by_ k l].all (jH 16) = true := all1 (qL (k := k) hk.le)
 obtain ⟨T, hTe⟩ : ∃ T, T = (by_ k l :: undef :: undef :: undef :: undef :: undef :: undef :: undef :: undef :: undef :: undef :: undef :: undef :: undef :: undef :: undef :: undef :: undef :: undef :: undef :: undef :: undef :: undef :: undef :: undef :: undef :: undef :: undef :: undef :: undef :: undef :: undef :: undef :: undef :: undef :: undef :: undef :: undef :: undef :: undef :: undef :: undef :: undef :: undef :: undef :: undef :: undef :: undef :: undef :: undef :: undef :: undef :: undef :: undef :: undef :: undef :: undef :: undef :: undef :: undef :: undef :: undef :: undef :: undef :: undef :: undef :: undef :: undef :: undef :: []) := ⟨_, rfl⟩
 have hr : zA Try.prog O false je.code T zi.empty = zA Try.prog O false je.code T zi.empty := rfl
 have c1 := fun S => zC.v (many := 6) hk k2 hl S
 have r1 : ∀ k0 k1, Jt k0 k1 6 l = _ := fun k0 k1 => Z4 (m := 6) (by decide) (by decide)
 rw [r1] at c1
 rcases ah8 l with h | ⟨a, b, c, d, e, f, r, h, hlr⟩
 ·
  rw [h] at c1
  refine ⟨m0, false, adq h, fun S => ?_⟩
  have s1 := Qh g1 m0
  conv at hr =>
   rhs
   rw [hTe]
   simp only [je.code, je.rs, zSs, reduceIte, Nat.reduceEqDiff, Int.reduceEq, Int.reduceLT, Int.reduceLE, if_neg k2, a1, c1, vw g1 (by decide), s1]
  rw [hTe] at hr
  exact je.runs hr (.inr rfl) (vw (wQ _ 0 m0) (by decide)) rfl rfl cl rfl
 ·
  rw [h] at c1
  have i0 := fun S => J5 (k := 1) (i := 0) (m := 0) (l := [a, b, c, d, e, f]) Okl.read rfl rfl S
  have i1 := fun S => J5 (k := 1) (i := 1) (m := 1) (l := [a, b, c, d, e, f]) Okl.read rfl rfl S
  have i2 := fun S => J5 (k := 1) (i := 2) (m := 2) (l := [a, b, c, d, e, f]) Okl.read rfl rfl S
  have i3 := fun S => J5 (k := 1) (i := 3) (m := 3) (l := [a, b, c, d, e, f]) Okl.read rfl rfl S
  have i4 := fun S => J5 (k := 1) (i := 4) (m := 4) (l := [a, b, c, d, e, f]) Okl.read rfl rfl S
  have i5 := fun S => J5 (k := 1) (i := 5) (m := 5) (l := [a, b, c, d, e, f]) Okl.read rfl rfl S
  have bd := fun S => Jh (y0 := .int .i64 a) (y1 := .int .i64 b) (y2 := .int .i64 c) (y3 := .int .i64 d) (y4 := .int .i64 e) (y5 := .int .i64 f) kJ kJ kJ kJ kJ kJ S
  have s1 : wU Try.prog 48 (.pointer (some ⟨0, 0, none⟩)) (.agg [Value.int .i64 a, .int .i64 b, .int .i64 c, .int .i64 d, .int .i64 e, .int .i64 f, .int .i64 0, .int .i64 0, .int .i64 0, .int .i64 0, .int .i64 0, .int .i64 0, .slice none 0 0].toArray) (YH m0) = some (undef, qQ (YH m0) 0 ⟨a, b, c, d, e, f, ⟨0, 0⟩, bk0⟩) := Qh g1 ⟨a, b, c, d, e, f, ⟨0, 0⟩, bk0⟩
  have g2 := wQ (YH m0) 0 ⟨a, b, c, d, e, f, ⟨0, 0⟩, bk0⟩
  generalize qQ (YH m0) 0 ⟨a, b, c, d, e, f, ⟨0, 0⟩, bk0⟩ = A2 at s1 g2
  by_cases k0 : a = 0
  ·
   obtain ⟨t, x, o1, o2⟩ := adD r
   have c2 := fun S => yD.v (k := 1) (l := r) Okl.read (by decide) (by omega) S
   rw [o1] at c2
   have s2 := ajy g2 t
   have g3 := wQ A2 0 ⟨a, b, c, d, e, f, t, bk0⟩
   dsimp only at s2
   generalize qQ A2 0 ⟨a, b, c, d, e, f, t, bk0⟩ = A3 at s2 g3
   have s3 := Qh g3 ⟨a, b, c, d, e, f, t, bk0⟩
   have fin := vw (wQ A3 0 ⟨a, b, c, d, e, f, t, bk0⟩) (by show (0 : Nat) ≠ 2; decide)
   rcases o2 with ⟨rfl, o2⟩ | ⟨rfl, o2, rfl⟩
   ·
    have hP := agC h k0 o2
    have c3 := fun S => jl.v hP.1 S
    refine ⟨_, _, hP, fun S => ?_⟩
    conv at hr =>
     rhs
     rw [hTe]
     simp only [je.code, je.rs, zSs, reduceIte, Nat.reduceEqDiff, Int.reduceEq, Int.reduceLT, Int.reduceLE, if_neg k2, a1, c1, i0, i1, i2, i3, i4, i5, kN, bd, s1, zB, wF g2, decide_eq_true k0, c2, zT, s2, vw g3 ne0, Wj (ZQ _), c3, yO g3, s3]
    rw [hTe] at hr
    exact je.runs hr (.inr rfl) fin rfl rfl cl (yP (all2 (yw hP.1.b.okl.le) rfl))
   ·
    have hP := afA (t := ⟨0, 0⟩) h k0 o2
    refine ⟨_, _, hP, fun S => ?_⟩
    conv at hr =>
     rhs
     rw [hTe]
     simp only [je.code, je.rs, zSs, reduceIte, Nat.reduceEqDiff, Int.reduceEq, Int.reduceLT, Int.reduceLE, if_neg k2, a1, c1, i0, i1, i2, i3, i4, i5, kN, bd, s1, zB, wF g2, decide_eq_true k0, c2, zT, s2, vw g3 ne0, Wj (ZQ _), yO g3, s3]
    rw [hTe] at hr
    exact je.runs hr (.inr rfl) fin rfl rfl cl (yP (all2 (yw hP.1.b.okl.le) rfl))
  by_cases k1 : a = 1
  ·
   obtain ⟨y, x, ⟨hy, hy3, o2⟩, c2⟩ := jy.v (k := 1) (l := r) Okl.read (by decide) (by omega)
   have s2 := ajU g2 y
   have g3 := wQ A2 0 ⟨a, b, c, d, e, f, ⟨0, 0⟩, y⟩
   dsimp only at s2
   generalize qQ A2 0 ⟨a, b, c, d, e, f, ⟨0, 0⟩, y⟩ = A3 at s2 g3
   have s3 := Qh g3 ⟨a, b, c, d, e, f, ⟨0, 0⟩, y⟩
   have fin := vw (wQ A3 0 ⟨a, b, c, d, e, f, ⟨0, 0⟩, y⟩) hy.ne
   rcases o2 with ⟨rfl, o2, _⟩ | ⟨rfl, o2, rfl⟩
   ·
    have hP := ag9 h k1 hy hy3 o2
    have c3 := fun S => jl.v hP.1 S
    refine ⟨_, _, hP, fun S => ?_⟩
    conv at hr =>
     rhs
     rw [hTe]
     simp only [je.code, je.rs, zSs, reduceIte, Nat.reduceEqDiff, Int.reduceEq, Int.reduceLT, Int.reduceLE, if_neg k2, a1, c1, i0, i1, i2, i3, i4, i5, kN, bd, s1, zB, wF g2, decide_eq_false k0, decide_eq_true k1, c2, zN, s2, vw g3 hy.ne, Wj (ZQ _), c3, yO g3, s3]
    rw [hTe] at hr
    exact je.runs hr (.inr rfl) fin rfl rfl cl (yP (all2 (yw hP.1.b.okl.le) rfl))
   ·
    have hP := aeH h k1 o2
    refine ⟨_, _, hP, fun S => ?_⟩
    conv at hr =>
     rhs
     rw [hTe]
     simp only [je.code, je.rs, zSs, reduceIte, Nat.reduceEqDiff, Int.reduceEq, Int.reduceLT, Int.reduceLE, if_neg k2, a1, c1, i0, i1, i2, i3, i4, i5, kN, bd, s1, zB, wF g2, decide_eq_false k0, decide_eq_true k1, c2, zN, s2, vw g3 ne0, Wj (ZQ _), yO g3, s3]
    rw [hTe] at hr
    exact je.runs hr (.inr rfl) fin rfl rfl cl (yP (all2 (yw hP.1.b.okl.le) rfl))
  have hP := agi h k0 k1
  have c3 := fun S => jl.v hP.1 S
  have ln : ∀ S, ZM Try.prog 33 (by_ 1 r) S = some (.int .i64 r.length, S) := fun S => J7 Okl.read
  have s3 := Qh g2 ⟨a, b, c, d, e, f, ⟨0, 0⟩, bk0⟩
  have fin := vw (wQ A2 0 ⟨a, b, c, d, e, f, ⟨0, 0⟩, bk0⟩) (by show (0 : Nat) ≠ 2; decide)
  refine ⟨_, _, hP, fun S => ?_⟩
  conv at hr =>
   rhs
   rw [hTe]
   simp only [je.code, je.rs, zSs, reduceIte, Nat.reduceEqDiff, Int.reduceEq, Int.reduceLT, Int.reduceLE, if_neg k2, a1, c1, i0, i1, i2, i3, i4, i5, kN, bd, s1, zB, wF g2, decide_eq_false k0, decide_eq_false k1, ln, vw g2 ne0, zk (vw g2 ne0), zk (c3 _), gvw, Wj (ZQ _), yO g2, s3]
  rw [hTe] at hr
  exact je.runs hr (.inr rfl) fin rfl rfl cl (yP (all2 (yw hP.1.b.okl.le) rfl))
end Go.Proofs.Ytfjogganfjkckaa
namespace Go.Proofs.Ytfjogganfjkckaa
open Go.Abs
theorem Jp {x y : wM} : ZW x y = true ↔ x.kind = y.kind ∧ x.frm = y.frm ∧ x.index = y.index ∧ x.view = y.view ∧ x.value = y.value ∧ x.prep = y.prep ∧ x.tx = y.tx ∧ Zp x.b y.b = true := by
 simp [ZW]
theorem acD {a b : xu} (h : Zp a b = true) : Zp b a = true := by
 rw [Zh] at h ⊢; exact ⟨h.1.symm, h.2.1.symm, h.2.2.1.symm, h.2.2.2.1.symm, h.2.2.2.2.symm⟩
theorem aaP {a b c : xu} (h : Zp a b = true) (k : Zp b c = true) : Zp a c = true := by
 rw [Zh] at h k ⊢; exact ⟨h.1.trans k.1, h.2.1.trans k.2.1, h.2.2.1.trans k.2.2.1, h.2.2.2.1.trans k.2.2.2.1, h.2.2.2.2.trans k.2.2.2.2⟩
theorem like {x y : wM} (h : ZW x y = true) : qj y = qj x ∧ kX y = kX x ∧ WG y = WG x := by
 obtain ⟨h1, h2, h3, h4, h5, h6, h7, h8⟩ := Jp.1 h
 have e : y = { x with b := y.b } := mk_eq h1.symm h2.symm h3.symm h4.symm h5.symm h6.symm h7.symm rfl
 have hb : kX y = kX x := by
  obtain ⟨s1, s2, s3, s4, s5⟩ := Zh.1 h8
  simp only [kX, JX, ZH, Ku, ← h1, ← h2, ← h3, ← h4, ← h5, ← h6, ← h7, ← s1, ← s2, ← s3, ← s4, ← s5]
 refine ⟨?_, hb, ?_⟩
 ·
  rw [e]; exact XF h8
 ·
  simp only [WG, mkM, hb, ← h2]
theorem abW {x y : wM} (hx : qj x = true) (hy : qj y = true) (h : kX x = kX y) : ZW x y = true := by
 have e := Yf hx
 rw [h, Yf hy] at e
 simp only [Option.some.injEq, Prod.mk.injEq, JX, List.cons.injEq, and_true] at e
 obtain ⟨⟨h1, h2, h3, h4, h5, h6⟩, h7⟩ := e
 have fx := ZE hx; have fy := ZE hy
 refine Jp.2 ⟨h1.symm, h2.symm, h3.symm, h4.symm, h5.symm, h6.symm, ?_, ?_⟩
 ·
  by_cases k : x.kind = 0
  ·
   have ky : y.kind = 0 := by omega
   rw [ZH, ZH, if_pos k, if_pos ky] at h7
   exact (ae5 (r := []) (s := []) (fx.tx k) (fy.tx ky) (by rw [List.append_nil, List.append_nil, h7])).1
  ·
   rw [fx.notx k, fy.notx (by omega)]
 ·
  by_cases k : x.kind = 1
  ·
   have ky : y.kind = 1 := by omega
   rw [ZH, ZH, if_neg (show ¬ y.kind = 0 by omega), if_neg (show ¬ x.kind = 0 by omega), if_pos ky, if_pos k] at h7
   exact Zh.2 (ab5 (r := []) (s := []) (fx.blk k) (fy.blk ky) (by rw [List.append_nil, List.append_nil, h7])).1
  ·
   exact aaP (fx.noblk k) (acD (fy.noblk (by omega)))
theorem aah (m : wM) : mkM m < 2 ^ 64 := ais _ _
theorem agR {x y : wM} (hx : qj x = true) (hy : qj y = true) (h : WG x = WG y) : ZW x y = true :=
 abW hx hy (aiF (aah x) (aah y) h).2
def Xl (l : List UInt8) (m : wM) (e : Int) : Prop := m.Ok ∧ m.b.txs.length ≤ 3 ∧ ((e = 0 ∧ qj m = true ∧ l = WG m) ∨ (e = 121 ∧ m = m0 ∧ ∀ x, qj x = true → l ≠ WG x))
theorem aaU {l : List UInt8} (h : scan 0 0 l = none) : Xl l m0 121 := ⟨VZ, by simp, .inr ⟨rfl, rfl, fun x hx hl => by
 have := WL (aah x) (kX x)
 rw [show enc (mkM x) ++ kX x = l from hl.symm, h] at this
 cases this⟩⟩
theorem ab3 {l r : List UInt8} {n : Nat} (h : scan 0 0 l = some (n, r)) {x : wM} (hl : l = WG x) : n = mkM x ∧ r = kX x := by
 have := WL (aah x) (kX x)
 rw [show enc (mkM x) ++ kX x = l from hl.symm, h] at this
 simpa using this
theorem wu.v {k : Nat} {l : List UInt8} (hk : Okl k l) (k2 : k ≠ 2) (hl : l.length ≤ 140737488355328) : ∃ m e, Xl l m e ∧ ∀ S, zQ Try.prog O wu.id [by_ k l] S = some (.tuple #[mv m, .int .i64 e], S) := by
 have a1 : yJ Try.prog 48 zi.empty = some (.pointer (some ⟨0, 0, none⟩), YH m0) := Xy zi.empty
 have g1 := kZ m0
 have ne0 : (0 : Nat) ≠ 2 := by decide
 have cl : [by_ k l].all (jH 16) = true := all1 (qL (k := k) hk.le)
 obtain ⟨T, hTe⟩ : ∃ T, T = (by_ k l :: undef :: undef :: undef :: undef :: undef :: undef :: undef :: undef :: undef :: undef :: undef :: undef :: undef :: undef :: undef :: undef :: undef :: undef :: undef :: undef :: undef :: undef :: undef :: undef :: undef :: undef :: undef :: undef :: undef :: undef :: undef :: undef :: undef :: undef :: undef :: []) := ⟨_, rfl⟩
 have hr : zA Try.prog O false wu.code T zi.empty = zA Try.prog O false wu.code T zi.empty := rfl
 have c1 := fun S => jf.v hk k2 hl S
 unfold ad3 at c1
 have z0 : ∀ S, yu Try.prog 48 [] S = some (mv m0, S) := fun S => acY S
 cases h : scan 0 0 l with
 | none =>
  rw [h] at c1
  have s1 := Qh g1 m0
  refine ⟨m0, 121, aaU h, fun S => ?_⟩
  conv at hr =>
   rhs
   rw [hTe]
   simp only [wu.code, wu.rs, zSs, reduceIte, Nat.reduceEqDiff, Int.reduceEq, Int.reduceLT, Int.reduceLE, if_neg k2, a1, c1, z0, s1]
  rw [hTe] at hr
  exact wu.runs hr (.inr rfl) (vw (wQ _ 0 m0) ne0) rfl rfl cl rfl
 | some nr =>
  obtain ⟨n, r⟩ := nr
  rw [h] at c1
  obtain ⟨hn, hlr⟩ := aaK l 0 0 (by decide) (by decide) n r h
  obtain ⟨m, ok, ⟨mo, m3, hP⟩, c2⟩ := je.v (k := 1) (l := r) Okl.read (by decide) (by omega)
  have a2 : yJ Try.prog 48 (YH m0) = some (.pointer (some ⟨1, 0, none⟩), abt m0 m0) := Xy (YH m0)
  have s1 := Qh (afg m0 m0) m
  have g2 := wQ (abt m0 m0) 1 m
  have g3 : (qQ (abt m0 m0) 1 m).get 0 = some (.cells (fM m0) (.own []) 0) := (wY (by decide)).trans (ae4 m0 m0)
  generalize qQ (abt m0 m0) 1 m = A2 at s1 g2 g3
  have s2 := Qh g3 m0
  have f2 := vw (wQ A2 0 m0) ne0
  have s3 := Qh g3 m
  have f3 := vw (wQ A2 0 m) mo.b.ne
  rcases hP with ⟨rfl, hR, hb⟩ | ⟨rfl, hP⟩
  ·
   have ck := fun S => qX.v m.frm S
   have ct := fun S => yU.v (k := 1) (l := r) Okl.read rfl (by omega) (key := KA m.frm) (mark := n) S
   have em : JY (KA m.frm) r = (mkM m : Nat) := by rw [hb]; exact (aek _ _).symm
   by_cases hq : JY (KA m.frm) r = n
   ·
    refine ⟨m, 0, ⟨mo, m3, .inl ⟨rfl, hR, ?_⟩⟩, fun S => ?_⟩
    ·
     rw [(VD h).1, WG, ← hb]
     congr 2
     omega
    rw [decide_eq_true hq] at ct
    conv at hr =>
     rhs
     rw [hTe]
     simp only [wu.code, wu.rs, zSs, reduceIte, Nat.reduceEqDiff, Int.reduceEq, Int.reduceLT, Int.reduceLE, if_neg k2, a1, c1, c2, a2, s1, zJ, wX g2, ck, ct, vw g2 mo.b.ne, s3]
    rw [hTe] at hr
    exact wu.runs hr (.inr rfl) f3 rfl rfl cl (yP (all2 (yw mo.b.okl.le) rfl))
   ·
    refine ⟨m0, 121, ⟨VZ, by simp, .inr ⟨rfl, rfl, fun x hx hl => ?_⟩⟩, fun S => ?_⟩
    ·
     obtain ⟨i1, i2⟩ := ab3 h hl
     have hs := abW hx hR (by rw [← i2, hb])
     refine hq ?_
     rw [em, i1]
     simp only [mkM, (like hs).2.1, (Jp.1 hs).2.1]
    rw [decide_eq_false hq] at ct
    conv at hr =>
     rhs
     rw [hTe]
     simp only [wu.code, wu.rs, zSs, reduceIte, Nat.reduceEqDiff, Int.reduceEq, Int.reduceLT, Int.reduceLE, if_neg k2, a1, c1, c2, a2, s1, zJ, wX g2, ck, ct, z0, s2]
    rw [hTe] at hr
    exact wu.runs hr (.inr rfl) f2 rfl rfl cl rfl
  ·
   refine ⟨m0, 121, ⟨VZ, by simp, .inr ⟨rfl, rfl, fun x hx hl => hP x hx (ab3 h hl).2⟩⟩, fun S => ?_⟩
   conv at hr =>
    rhs
    rw [hTe]
    simp only [wu.code, wu.rs, zSs, reduceIte, Nat.reduceEqDiff, Int.reduceEq, Int.reduceLT, Int.reduceLE, if_neg k2, a1, c1, c2, a2, s1, z0, s2]
   rw [hTe] at hr
   exact wu.runs hr (.inr rfl) f2 rfl rfl cl rfl
end Go.Proofs.Ytfjogganfjkckaa
namespace Go.Proofs.Ytfjogganfjkckaa
open Go.Abs
theorem afm (m : wM) (S : zi) : ∃ S2, wU Try.prog 48 (.pointer (some ⟨S.next, 0, none⟩)) (mv m) (S.push (.cells (fM m0) (.own []) 0)) = some (undef, S2) ∧ S2.get S.next = some (.cells (fM m) (.own []) 0) ∧ Ext S S2 ∧ S.next < S2.next :=
 QO S (by rw [qm]; rfl) Kt rfl (ajK m)
theorem ab7 {m : wM} (h : qj m = true) : (WG m).length ≤ 210 := by
 unfold WG
 have := Vx (ZE h); have := ZN (aah m)
 rw [List.length_append]; omega
end Go.Proofs.Ytfjogganfjkckaa
namespace Go.Proofs.Ytfjogganfjkckaa
open Go.Abs
abbrev encS (s : List UInt8) : Value := .string ⟨s.toArray⟩
abbrev encI (n : Int) : Value := .int .i64 n
theorem adZ : ac3 encS .string := ⟨fun _ => rfl, fun a b => by
 show some (a.toArray == b.toArray) = _
 congr 1
 by_cases h : a = b
 ·
  subst h; simp
 ·
  rw [decide_eq_false h]
  refine beq_eq_false_iff_ne.2 fun h2 => h ?_
  have := congrArg Array.toList h2
  exact this⟩
abbrev aay (l : List (List UInt8)) : List (List UInt8 × Value) := l.map fun s => (s, .bool true)
abbrev YL (l : List (Int × List UInt8)) : List (Int × Value) := l.map fun p => (p.1, encS p.2)
theorem aha (l : List (List UInt8)) (s : List UInt8) : (KI (aay l) s).getD (.bool false) = .bool (decide (s ∈ l)) := by
 induction l with
 | nil => rfl
 | cons a l ih =>
  simp only [List.map_cons, KI]
  by_cases h : a = s
  ·
   simp [h]
  ·
   rw [if_neg h, ih]
   have : s ≠ a := fun h2 => h h2.symm
   simp [this]
theorem agE (l : List (List UInt8)) (s : List UInt8) : agO (aay l) s (.bool true) = aay (if s ∈ l then l else l ++ [s]) := by
 induction l with
 | nil => rfl
 | cons a l ih =>
  simp only [List.map_cons, agO]
  by_cases h : a = s
  ·
   simp [h]
  ·
   rw [if_neg h, ih]
   have : s ≠ a := fun h2 => h h2.symm
   by_cases h2 : s ∈ l <;> simp [h2, this]
def X6 : List (Int × List UInt8) → Int → Option (List UInt8)
 | [], _ => none
 | (a, t) :: l, n => if a = n then some t else X6 l n
theorem Qo (l : List (Int × List UInt8)) (n : Int) : KI (YL l) n = (X6 l n).map encS := by
 induction l with
 | nil => rfl
 | cons a l ih =>
  simp only [List.map_cons, KI, X6]
  by_cases h : a.1 = n
  ·
   rw [if_pos h, if_pos h]; rfl
  ·
   rw [if_neg h, if_neg h, ih]
theorem afl {l : List (Int × List UInt8)} {n : Int} (h : X6 l n = none) (t : List UInt8) : agO (YL l) n (encS t) = YL (l ++ [(n, t)]) := by
 rw [Xx (by rw [Qo, h]; rfl)]
 simp
structure Gt (S : zi) (q : Nat) (bad : List Int) (said : List (List UInt8)) (known : List (Int × List UInt8)) : Prop where
 lt : q < S.next
 cell : ∃ k a b, Okl k bad ∧ k ≠ 2 ∧ bad.length ≤ 17592186044416 ∧ a < S.next ∧ b < S.next ∧ a ≠ b ∧ S.get q = some (.cells [iz k bad, .map (some a), .map (some b)] (.own []) 0) ∧ MapAt encS S a (aay said) ∧ MapAt encI S b (YL known)
theorem Gt.ext {S S1 : zi} {q : Nat} {bad : List Int} {said : List (List UInt8)} {known : List (Int × List UInt8)} (h : Gt S q bad said known) (k : Ext S S1) : Gt S1 q bad said known := by
 obtain ⟨k0, a, b, h1, h2, h3, h4, h5, h6, h7, h8, h9⟩ := h.cell
 exact ⟨Nat.lt_of_lt_of_le h.lt k.1, k0, a, b, h1, h2, h3, Nat.lt_of_lt_of_le h4 k.1, Nat.lt_of_lt_of_le h5 k.1, h6, by rw [k.2 q h.lt]; exact h7, h8.keep (k.2 a h4), h9.keep (k.2 b h5)⟩
section
variable {S : zi} {q : Nat} {bad : List Int} {said : List (List UInt8)} {known : List (Int × List UInt8)}
theorem jV.v (h : Gt S q bad said known) (n : Int) : zQ Try.prog O jV.id [.pointer (some ⟨q, 0, none⟩), .int .i64 n] S = some (.bool (bad.any fun x => decide (n = x)), S) := by
 obtain ⟨T, hTe⟩ : ∃ T, T = (.pointer (some ⟨q, 0, none⟩) :: .int .i64 n :: undef :: undef :: undef :: undef :: undef :: undef :: undef :: undef :: undef :: []) := ⟨_, rfl⟩
 have hr : zA Try.prog O false jV.code T S = zA Try.prog O false jV.code T S := rfl
 obtain ⟨k0, a, b, h1, h2, h3, h4, h5, h6, h7, h8, h9⟩ := h.cell
 have l1 : zZ Try.prog false 24 (.pointer (some ⟨q, 0 + 0, none⟩)) S = some (iz k0 bad, S) := by
  have := Y2 (t := 24) (o := 0 + 0) h7 ah9 rfl (by intro l; unfold iz vs sv; split <;> (intro hh; cases hh))
  rwa [Xj, if_neg h2] at this
 have c1 := fun S => slices_Contains.v h1 h2 h3 (v := n) S
 conv at hr =>
  rhs
  rw [hTe]
  simp only [jV.code, jV.rs, zSs, reduceIte, Nat.reduceEqDiff, Int.reduceEq, Int.reduceLT, Int.reduceLE, qB, Kw, l1, if_neg h2, c1]
 rw [hTe] at hr
 exact jV.runs hr (.inr rfl)
end
def JZ (b : xu) : List UInt8 := if jI b then Ku b else []
theorem yE.v {b : xu} (hb : b.Ok) (S : zi) : zQ Try.prog O yE.id [bv b] S = some (encS (JZ b), S) := by
 obtain ⟨T, hTe⟩ : ∃ T, T = (bv b :: undef :: undef :: undef :: undef :: undef :: undef :: undef :: undef :: undef :: undef :: undef :: []) := ⟨_, rfl⟩
 have hr : zA Try.prog O false yE.code T zi.empty = zA Try.prog O false yE.code T zi.empty := rfl
 obtain ⟨k, x, e, h1, _, h3, h4⟩ := ads b
 have c1 := fun S => jT.v hb S
 rw [h3] at c1
 have hx : JZ b = x := by
  unfold JZ
  rcases h4 with ⟨_, g1, g2, _⟩ | ⟨_, g1, g2, _⟩
  ·
   rw [if_pos g1, g2]
  ·
   rw [g1, g2]; rfl
 have s1 : ∀ S, Jz Try.prog 33 9 (by_ (if k = 2 then 1 else k) x) S = some (.string ⟨x.toArray⟩, S) := fun S => aez h1.dem
 have lb := V4 (yM b) hb.ne
 rw [hx]
 conv at hr =>
  rhs
  rw [hTe]
  simp only [yE.code, yE.rs, zSs, reduceIte, Nat.reduceEqDiff, Int.reduceEq, Int.reduceLT, Int.reduceLE, Jb, lb, c1, Xj, s1]
 rw [hTe] at hr
 exact yE.runs hr (.inr rfl) (all1 (yx hb.okl.le)) rfl
theorem jS.v {k : Nat} {l : List Int} (hk : Okl k l) (k2 : k ≠ 2) (hl : l.length ≤ 17592186044416) (S : zi) : zQ Try.prog O jS.id [iz k l] S = some (iz (if k = 0 then 0 else 2) l, S) := by
 obtain ⟨T, hTe⟩ : ∃ T, T = (iz k l :: undef :: undef :: undef :: undef :: undef :: undef :: undef :: []) := ⟨_, rfl⟩
 have hr : zA Try.prog O false jS.code T S = zA Try.prog O false jS.code T S := rfl
 by_cases h0 : k = 0
 ·
  subst h0
  have := hk.nil rfl
  subst this
  conv at hr =>
   rhs
   rw [hTe]
   simp only [jS.code, jS.rs, zSs, reduceIte, Nat.reduceEqDiff, Int.reduceEq, Int.reduceLT, Int.reduceLE, iz]
  rw [hTe] at hr
  exact jS.runs hr (.inr rfl)
 ·
  have cp : ∀ S, yj Try.prog 24 24 (iz 2 []) (iz k l) S = some (iz 2 l, S) := fun S => by
   rw [Q5 Okl.own (by decide) hk (by simp; omega), if_neg (fun h => by have := h.1; omega), List.nil_append]
  have iz0 : ∀ S, jR Try.prog 24 0 [] S = some (iz 2 [], S) := fun S => by rw [acM]; rfl
  rw [if_neg h0]
  conv at hr =>
   rhs
   rw [hTe]
   simp only [jS.code, jS.rs, zSs, reduceIte, Nat.reduceEqDiff, Int.reduceEq, Int.reduceLT, Int.reduceLE, if_neg k2, agT hk, decide_eq_false h0, cp, iz0]
  rw [hTe] at hr
  exact jS.runs hr (.inr rfl)
theorem yY.v {k : Nat} {l : List Int} (hk : Okl k l) (k2 : k ≠ 2) (hl : l.length ≤ 17592186044416) (S : zi) : ∃ q S1, zQ Try.prog O yY.id [iz k l] S = some (.pointer (some ⟨q, 0, none⟩), S1) ∧ Gt S1 q l [] [] ∧ Ext S S1 ∧ S.next ≤ q := by
 obtain ⟨T, hTe⟩ : ∃ T, T = (iz k l :: undef :: undef :: undef :: undef :: undef :: undef :: undef :: undef :: []) := ⟨_, rfl⟩
 have hr : zA Try.prog O false yY.code T S = zA Try.prog O false yY.code T S := rfl
 have c1 := fun S => jS.v hk k2 hl S
 have hk0 : Okl (if k = 0 then 0 else 2) l := ⟨by split <;> omega, fun h => by split at h <;> first | (exact hk.nil ‹_›) | omega⟩
 generalize (if k = 0 then 0 else 2) = k0 at c1 hk0
 obtain ⟨S2, m1, m2, m3, m4, m5⟩ := aa6 (P := Try.prog) (t := 59) encS S
 obtain ⟨S3, n1, n2, n3, n4, n5⟩ := aa6 (P := Try.prog) (t := 60) encI S2
 have bd := fun S => Zy (y0 := iz (if k0 = 2 then 1 else k0) l) (y1 := .map (some S.next)) (y2 := .map (some S2.next)) Qa rfl rfl S
 have bd : ∀ S5, yu Try.prog 62 [(0, iz (if k0 = 2 then 1 else k0) l), (1, .map (some S.next)), (2, .map (some S2.next))] S5 = some (.agg [iz (if k0 = 2 then 1 else k0) l, .map (some S.next), .map (some S2.next)].toArray, S5) := fun S5 => Zy Qa rfl rfl S5
 obtain ⟨S4, b1, b2, b3, b4⟩ := ahZ (.agg [iz (if k0 = 2 then 1 else k0) l, .map (some S.next), .map (some S2.next)].toArray) S3
 have dm : dem (iz k0 l) = iz (if k0 = 2 then 1 else k0) l := Xj
 refine ⟨S3.next, S4, ?_, ⟨b4, _, S.next, S2.next, hk0.dem, QD _, hl, by omega, by omega, by omega, b2, ?_, ?_⟩, m5.trans (n5.trans b3), by omega⟩
 ·
  conv at hr =>
   rhs
   rw [hTe]
   simp only [yY.code, yY.rs, zSs, reduceIte, Nat.reduceEqDiff, Int.reduceEq, Int.reduceLT, Int.reduceLE, if_neg k2, c1, dm, m1, n1, bd, b1]
  rw [hTe] at hr
  exact yY.runs hr (.inr rfl)
 ·
  exact (m2.keep (n4 _ (by omega))).keep (b3.2 _ (by omega))
 ·
  exact n2.keep (b3.2 _ (by omega))
end Go.Proofs.Ytfjogganfjkckaa
namespace Go.Proofs.Ytfjogganfjkckaa
open Go.Abs
def vC (S S1 : zi) : Prop := S.next ≤ S1.next ∧ ∀ p cs own e, p < S.next → S.get p = some (.cells cs own e) → S1.get p = S.get p
theorem vC.refl (S : zi) : vC S S := ⟨Nat.le_refl _, fun _ _ _ _ _ _ => rfl⟩
theorem vC.trans {S S1 S2 : zi} (h : vC S S1) (k : vC S1 S2) : vC S S2 := ⟨Nat.le_trans h.1 k.1, fun p cs own e hp hg => by
 have h1 := h.2 p cs own e hp hg
 rw [k.2 p cs own e (Nat.lt_of_lt_of_le hp h.1) (h1.trans hg), h1]⟩
theorem vC.ext {S S1 : zi} (h : Ext S S1) : vC S S1 := ⟨h.1, fun p _ _ _ hp _ => h.2 p hp⟩
def ajt (said : List (List UInt8)) (data : List UInt8) : List (List UInt8) := if data ∈ said then said else said ++ [data]
def agy (known : List (Int × List UInt8)) (b : xu) : List (Int × List UInt8) := if (X6 known (nameOf b)).isSome then known else known ++ [(nameOf b, JZ b)]
def afQ (known : List (Int × List UInt8)) (m : wM) (e : Int) : List (Int × List UInt8) := if e = 0 ∧ m.kind = 1 then agy known m.b else known
section
variable {S : zi} {q : Nat} {bad : List Int} {said : List (List UInt8)} {known : List (Int × List UInt8)}
theorem Gt.say (h : Gt S q bad said known) {a b k : Nat} (h1 : Okl k bad) (h2 : k ≠ 2) (h3 : bad.length ≤ 17592186044416) (h4 : a < S.next) (h5 : b < S.next) (h6 : a ≠ b) (h7 : S.get q = some (.cells [iz k bad, .map (some a), .map (some b)] (.own []) 0)) (h8 : MapAt encS S a (aay said)) (h9 : MapAt encI S b (YL known)) (data : List UInt8) :
  ∃ S1, yL Try.prog 59 (.map (some a)) (encS data) (.bool true) S = some (undef, S1) ∧ S1.next = S.next ∧ S1.get q = some (.cells [iz k bad, .map (some a), .map (some b)] (.own []) 0) ∧ MapAt encS S1 a (aay (ajt said data)) ∧ MapAt encI S1 b (YL known) ∧ vC S S1 := by
 obtain ⟨S1, m1, m2, m3, m4, _⟩ := aaX adZ h8 Jr XC data (.bool true)
 obtain ⟨es, c, g, _⟩ := h8
 have hne : ∀ p cs own e, S.get p = some (.cells cs own e) → p ≠ a := fun p cs own e hp hpa => by rw [hpa, g] at hp; cases hp
 rw [agE] at m2
 exact ⟨S1, m1, m3, (m4 q (hne q _ _ _ h7)).trans h7, m2, h9.keep (m4 b (fun h => h6 h.symm)), Nat.le_of_eq m3.symm, fun p cs own e _ hg => m4 p (hne p _ _ _ hg)⟩
theorem Gt.know {a b k : Nat} (h4 : a < S.next) (h5 : b < S.next) (h6 : a ≠ b) (h7 : S.get q = some (.cells [iz k bad, .map (some a), .map (some b)] (.own []) 0)) (h8 : MapAt encS S a (aay said)) (h9 : MapAt encI S b (YL known)) {n : Int} {t : List UInt8} (hn : X6 known n = none) :
  ∃ S1, yL Try.prog 60 (.map (some b)) (encI n) (encS t) S = some (undef, S1) ∧ S1.next = S.next ∧ S1.get q = some (.cells [iz k bad, .map (some a), .map (some b)] (.own []) 0) ∧ MapAt encS S1 a (aay said) ∧ MapAt encI S1 b (YL (known ++ [(n, t)])) ∧ vC S S1 := by
 obtain ⟨S1, m1, m2, m3, m4, _⟩ := aaX QW h9 ZJ aaE n (encS t)
 obtain ⟨es, c, g, _⟩ := h9
 have hne : ∀ p cs own e, S.get p = some (.cells cs own e) → p ≠ b := fun p cs own e hp hpa => by rw [hpa, g] at hp; cases hp
 rw [afl hn] at m2
 exact ⟨S1, m1, m3, (m4 q (hne q _ _ _ h7)).trans h7, h8.keep (m4 a h6), m2, Nat.le_of_eq m3.symm, fun p cs own e _ hg => m4 p (hne p _ _ _ hg)⟩
theorem zX.v (h : Gt S q bad said known) {k : Nat} {data : List UInt8} (hk : Okl k data) (k2 : k ≠ 2) (hl : data.length ≤ 140737488355328) :
  ∃ m e S1, Xl data m e ∧ zQ Try.prog O zX.id [.pointer (some ⟨q, 0, none⟩), by_ k data] S = some (.tuple #[], S1) ∧ Gt S1 q bad (ajt said data) (afQ known m e) ∧ vC S S1 := by
 obtain ⟨T, hTe⟩ : ∃ T, T = (.pointer (some ⟨q, 0, none⟩) :: by_ k data :: undef :: undef :: undef :: undef :: undef :: undef :: undef :: undef :: undef :: undef :: undef :: undef :: undef :: undef :: undef :: undef :: undef :: undef :: undef :: undef :: undef :: undef :: undef :: undef :: undef :: undef :: undef :: undef :: undef :: undef :: undef :: undef :: undef :: undef :: undef :: undef :: undef :: undef :: undef :: undef :: undef :: undef :: undef :: undef :: undef :: undef :: undef :: []) := ⟨_, rfl⟩
 have hr : zA Try.prog O false zX.code T S = zA Try.prog O false zX.code T S := rfl
 obtain ⟨k0, a, b, h1, h2, h3, h4, h5, h6, h7, h8, h9⟩ := h.cell
 have l1 : zZ Try.prog false 59 (.pointer (some ⟨q, 0 + 1, none⟩)) S = some (.map (some a), S) := Y5 (t := 59) (o := 0 + 1) h7 Ju rfl
 have s1 : ∀ S, Jz Try.prog 33 9 (by_ k data) S = some (.string ⟨data.toArray⟩, S) := fun S => aez hk
 have s2 : ∀ S, qN Try.prog false false 33 9 (by_ k data) S = some (.string ⟨data.toArray⟩, S) := fun S => by rw [Yg]; exact s1 S
 obtain ⟨S1, m1, m2, m3, m4, m5, m6⟩ := h.say h1 h2 h3 h4 h5 h6 h7 h8 h9 data
 obtain ⟨m, e, hR, c1⟩ := wu.v hk k2 hl
 obtain ⟨S2, n1, n2, n3, n4⟩ := afm m S1
 have am : yJ Try.prog 48 S1 = some (.pointer (some ⟨S1.next, 0, none⟩), S1.push (.cells (fM m0) (.own []) 0)) := Xy S1
 have hq1 : q < S1.next := by rw [m2]; exact h.lt
 have st2 : vC S S2 := m6.trans (vC.ext n3)
 have G2 : Gt S2 q bad (ajt said data) known := ⟨Nat.lt_of_lt_of_le hq1 n3.1, k0, a, b, h1, h2, h3, by have := n3.1; omega, by have := n3.1; omega, h6, (n3.2 q hq1).trans m3, m4.keep (n3.2 a (by omega)), m5.keep (n3.2 b (by omega))⟩
 have hR2 := hR
 obtain ⟨ok, _, hcase⟩ := hR2
 by_cases he : e = 0
 ·
  subst he
  have d1 := wF n2
  by_cases hkd : m.kind = 1
  ·
   have dk := decide_eq_true hkd
   have g2q := (n3.2 q hq1).trans m3
   have l2 : zZ Try.prog false 60 (.pointer (some ⟨q, 0 + 2, none⟩)) S2 = some (.map (some b), S2) := Y5 (t := 60) (o := 0 + 2) g2q J4 rfl
   have c2 := fun S => wH.v ok.b S
   have lk := abM QW (m5.keep (n3.2 b (by omega))) ZJ aaE ab2 rfl (nameOf m.b)
   rw [Qo] at lk
   cases hf : X6 known (nameOf m.b) with
   | some t =>
    rw [hf] at lk
    simp only [Option.map_some, Option.map_none, Option.getD_some, Option.getD_none, Option.isSome_some, Option.isSome_none] at lk
    refine ⟨m, 0, S2, hR, ?_, ?_, st2⟩
    ·
     conv at hr =>
      rhs
      rw [hTe]
      simp only [zX.code, zX.rs, zSs, reduceIte, Nat.reduceEqDiff, Int.reduceEq, Int.reduceLT, Int.reduceLE, if_neg k2, qB, y8, l1, s1, s2, m1, c1, am, n1, zB, d1, dk, zN, yF n2 ok.b.ne, c2, xB, l2, lk]
     rw [hTe] at hr
     exact zX.runs hr (.inl rfl)
    ·
     rw [afQ, if_pos ⟨rfl, hkd⟩, agy, hf]; exact G2
   | none =>
    rw [hf] at lk
    simp only [Option.map_some, Option.map_none, Option.getD_some, Option.getD_none, Option.isSome_some, Option.isSome_none] at lk
    obtain ⟨S3, p1, p2, p3, p4, p5, p6⟩ := Gt.know (t := JZ m.b) (by have := n3.1; omega) (by have := n3.1; omega) h6 g2q (m4.keep (n3.2 a (by omega))) (m5.keep (n3.2 b (by omega))) hf
    have c3 := fun S => yE.v ok.b S
    have okm : okq 3 (.map (some b)) = true := rfl
    refine ⟨m, 0, S3, hR, ?_, ?_, st2.trans p6⟩
    ·
     conv at hr =>
      rhs
      rw [hTe]
      simp only [zX.code, zX.rs, zSs, reduceIte, Nat.reduceEqDiff, Int.reduceEq, Int.reduceLT, Int.reduceLE, if_neg k2, qB, y8, l1, s1, s2, m1, c1, am, n1, zB, d1, dk, zN, yF n2 ok.b.ne, c2, xB, l2, lk, Wj okm, Zf, c3, yO g2q, p1]
     rw [hTe] at hr
     exact zX.runs hr (.inl rfl)
    ·
     rw [afQ, if_pos ⟨rfl, hkd⟩, agy, hf]
     exact ⟨by rw [p2]; exact G2.lt, k0, a, b, h1, h2, h3, by have := n3.1; omega, by have := n3.1; omega, h6, p3, p4, p5⟩
  ·
   have dk := decide_eq_false hkd
   refine ⟨m, 0, S2, hR, ?_, ?_, st2⟩
   ·
    conv at hr =>
     rhs
     rw [hTe]
     simp only [zX.code, zX.rs, zSs, reduceIte, Nat.reduceEqDiff, Int.reduceEq, Int.reduceLT, Int.reduceLE, if_neg k2, qB, y8, l1, s1, s2, m1, c1, am, n1, zB, d1, dk]
    rw [hTe] at hr
    exact zX.runs hr (.inr rfl)
   ·
    rw [afQ, if_neg (fun hh => hkd hh.2)]; exact G2
 ·
  have de := decide_eq_false he
  refine ⟨m, e, S2, hR, ?_, ?_, st2⟩
  ·
   conv at hr =>
    rhs
    rw [hTe]
    simp only [zX.code, zX.rs, zSs, reduceIte, Nat.reduceEqDiff, Int.reduceEq, Int.reduceLT, Int.reduceLE, if_neg k2, qB, y8, l1, s1, s2, m1, c1, am, n1, de]
   rw [hTe] at hr
   exact zX.runs hr (.inr rfl)
  ·
   rw [afQ, if_neg (fun hh => he hh.1)]; exact G2
def isBad (bad : List Int) (n : Int) : Bool := bad.any fun x => decide (n = x)
def vk (bad : List Int) (said : List (List UInt8)) (known : List (Int × List UInt8)) (data : List UInt8) (m : wM) (e : Int) : Bool × List (Int × List UInt8) :=
 if e = 0 then (if data ∈ said then (true, known) else if isBad bad m.frm then (if m.kind = 1 then (match X6 known (nameOf m.b) with
  | some t => (decide (t = JZ m.b), known)
  | none => if isBad bad m.b.miner then (true, known ++ [(nameOf m.b, JZ m.b)]) else (false, known)) else (true, known)) else (false, known)) else (false, known)
theorem zy.v (h : Gt S q bad said known) {k : Nat} {data : List UInt8} (hk : Okl k data) (k2 : k ≠ 2) (hl : data.length ≤ 140737488355328) :
  ∃ m e S1, Xl data m e ∧ zQ Try.prog O zy.id [.pointer (some ⟨q, 0, none⟩), by_ k data] S = some (.bool (vk bad said known data m e).1, S1) ∧ Gt S1 q bad said (vk bad said known data m e).2 ∧ vC S S1 := by
 obtain ⟨T, hTe⟩ : ∃ T, T = (.pointer (some ⟨q, 0, none⟩) :: by_ k data :: undef :: undef :: undef :: undef :: undef :: undef :: undef :: undef :: undef :: undef :: undef :: undef :: undef :: undef :: undef :: undef :: undef :: undef :: undef :: undef :: undef :: undef :: undef :: undef :: undef :: undef :: undef :: undef :: undef :: undef :: undef :: undef :: undef :: undef :: undef :: undef :: undef :: undef :: undef :: undef :: undef :: undef :: undef :: undef :: undef :: undef :: undef :: undef :: undef :: undef :: undef :: undef :: undef :: undef :: undef :: undef :: undef :: undef :: undef :: undef :: undef :: undef :: undef :: undef :: undef :: undef :: []) := ⟨_, rfl⟩
 have hr : zA Try.prog O false zy.code T S = zA Try.prog O false zy.code T S := rfl
 obtain ⟨m, e, hR, c1⟩ := wu.v hk k2 hl
 obtain ⟨S2, n1, n2, n3, n4⟩ := afm m S
 have am : yJ Try.prog 48 S = some (.pointer (some ⟨S.next, 0, none⟩), S.push (.cells (fM m0) (.own []) 0)) := Xy S
 have st2 : vC S S2 := vC.ext n3
 have G2 := h.ext n3
 obtain ⟨k0, a, b, h1, h2, h3, h4, h5, h6, h7, h8, h9⟩ := G2.cell
 have hR2 := hR
 obtain ⟨ok, _, hcase⟩ := hR2
 by_cases he : e = 0
 ·
  subst he
  have l1 : zZ Try.prog false 59 (.pointer (some ⟨q, 0 + 1, none⟩)) S2 = some (.map (some a), S2) := Y5 (t := 59) (o := 0 + 1) h7 Ju rfl
  have s1 : ∀ S, Jz Try.prog 33 9 (by_ k data) S = some (.string ⟨data.toArray⟩, S) := fun S => aez hk
  have s2 : ∀ S, qN Try.prog false false 33 9 (by_ k data) S = some (.string ⟨data.toArray⟩, S) := fun S => by rw [Yg]; exact s1 S
  have lk := afn adZ h8 Jr XC ahu rfl data
  rw [aha] at lk
  by_cases hs : data ∈ said
  ·
   have ds := decide_eq_true hs
   rw [ds] at lk
   have hp : vk bad said known data m 0 = (true, known) := by rw [vk, if_pos rfl, if_pos hs]
   refine ⟨m, 0, S2, hR, ?_, by rw [hp]; exact G2, st2⟩
   rw [hp]
   conv at hr =>
    rhs
    rw [hTe]
    simp only [zy.code, zy.rs, zSs, reduceIte, Nat.reduceEqDiff, Int.reduceEq, Int.reduceLT, Int.reduceLE, if_neg k2, c1, am, n1, qB, y8, l1, s1, s2, lk]
   rw [hTe] at hr
   exact zy.runs hr (.inr rfl)
  ·
   have ds := decide_eq_false hs
   rw [ds] at lk
   have cb := jV.v G2 m.frm
   have d1 := wX n2
   have d0 := wF n2
   cases hb : isBad bad m.frm
   ·
    have hb2 : (bad.any fun x => decide (m.frm = x)) = false := hb
    rw [hb2] at cb
    have hp : vk bad said known data m 0 = (false, known) := by rw [vk, if_pos rfl, if_neg hs, hb]; rfl
    refine ⟨m, 0, S2, hR, ?_, by rw [hp]; exact G2, st2⟩
    rw [hp]
    conv at hr =>
     rhs
     rw [hTe]
     simp only [zy.code, zy.rs, zSs, reduceIte, Nat.reduceEqDiff, Int.reduceEq, Int.reduceLT, Int.reduceLE, if_neg k2, c1, am, n1, qB, y8, l1, s1, s2, lk, zJ, d1, cb]
    rw [hTe] at hr
    exact zy.runs hr (.inr rfl)
   ·
    have hb2 : (bad.any fun x => decide (m.frm = x)) = true := hb
    rw [hb2] at cb
    by_cases hkd : m.kind = 1
    ·
     have dk := decide_eq_true hkd
     have l2 : zZ Try.prog false 60 (.pointer (some ⟨q, 0 + 2, none⟩)) S2 = some (.map (some b), S2) := Y5 (t := 60) (o := 0 + 2) h7 J4 rfl
     have c2 := fun S => wH.v ok.b S
     have c3 := fun S => yE.v ok.b S
     have lk2 := abM QW h9 ZJ aaE ab2 rfl (nameOf m.b)
     rw [Qo] at lk2
     cases hf : X6 known (nameOf m.b) with
     | some t =>
      rw [hf] at lk2
      simp only [Option.map_some, Option.map_none, Option.getD_some, Option.getD_none, Option.isSome_some, Option.isSome_none] at lk2
      have hp : vk bad said known data m 0 = (decide (t = JZ m.b), known) := by rw [vk, if_pos rfl, if_neg hs, hb, if_pos rfl, if_pos hkd, hf]
      have cq : ∀ S, jX Try.prog .eql 9 (encS t) (encS (JZ m.b)) S = some (.bool (decide (t = JZ m.b)), S) := fun S => ajB (t := 9)
      refine ⟨m, 0, S2, hR, ?_, by rw [hp]; exact G2, st2⟩
      rw [hp]
      conv at hr =>
       rhs
       rw [hTe]
       simp only [zy.code, zy.rs, zSs, reduceIte, Nat.reduceEqDiff, Int.reduceEq, Int.reduceLT, Int.reduceLE, if_neg k2, c1, am, n1, qB, y8, l1, s1, s2, lk, zJ, d1, cb, zB, d0, dk, zN, yF n2 ok.b.ne, c2, xB, l2, lk2, c3, cq]
      rw [hTe] at hr
      exact zy.runs hr (.inr rfl)
     | none =>
      rw [hf] at lk2
      simp only [Option.map_some, Option.map_none, Option.getD_some, Option.getD_none, Option.isSome_some, Option.isSome_none] at lk2
      have cb2 := jV.v G2 m.b.miner
      have d2 : zZ Try.prog false 3 (.pointer (some ⟨S.next, 0 + 8 + 1, none⟩)) S2 = some (.int .i64 m.b.miner, S2) := qp (t := 3) (o := 0 + 8 + 1) n2 Zr rfl
      cases hb3 : isBad bad m.b.miner
      ·
       have hb4 : (bad.any fun x => decide (m.b.miner = x)) = false := hb3
       rw [hb4] at cb2
       have hp : vk bad said known data m 0 = (false, known) := by rw [vk, if_pos rfl, if_neg hs, hb, if_pos rfl, if_pos hkd, hf]; dsimp only; rw [hb3]; rfl
       refine ⟨m, 0, S2, hR, ?_, by rw [hp]; exact G2, st2⟩
       rw [hp]
       conv at hr =>
        rhs
        rw [hTe]
        simp only [zy.code, zy.rs, zSs, reduceIte, Nat.reduceEqDiff, Int.reduceEq, Int.reduceLT, Int.reduceLE, if_neg k2, c1, am, n1, qB, y8, l1, s1, s2, lk, zJ, d1, cb, zB, d0, dk, zN, yF n2 ok.b.ne, c2, xB, l2, lk2, jC, d2, cb2]
       rw [hTe] at hr
       exact zy.runs hr (.inr rfl)
      ·
       have hb4 : (bad.any fun x => decide (m.b.miner = x)) = true := hb3
       rw [hb4] at cb2
       have hp : vk bad said known data m 0 = (true, known ++ [(nameOf m.b, JZ m.b)]) := by rw [vk, if_pos rfl, if_neg hs, hb, if_pos rfl, if_pos hkd, hf]; dsimp only; rw [hb3]; rfl
       obtain ⟨S3, p1, p2, p3, p4, p5, p6⟩ := Gt.know (t := JZ m.b) h4 h5 h6 h7 h8 h9 hf
       have okm : okq 3 (.map (some b)) = true := rfl
       refine ⟨m, 0, S3, hR, ?_, ?_, st2.trans p6⟩
       ·
        rw [hp]
        conv at hr =>
         rhs
         rw [hTe]
         simp only [zy.code, zy.rs, zSs, reduceIte, Nat.reduceEqDiff, Int.reduceEq, Int.reduceLT, Int.reduceLE, if_neg k2, c1, am, n1, qB, y8, l1, s1, s2, lk, zJ, d1, cb, zB, d0, dk, zN, yF n2 ok.b.ne, c2, xB, l2, lk2, jC, d2, cb2, c3, Wj okm, Zf, yO h7, p1]
        rw [hTe] at hr
        exact zy.runs hr (.inr rfl)
       ·
        rw [hp]
        exact ⟨by rw [p2]; exact G2.lt, k0, a, b, h1, h2, h3, by omega, by omega, h6, p3, p4, p5⟩
    ·
     have dk := decide_eq_false hkd
     have hp : vk bad said known data m 0 = (true, known) := by rw [vk, if_pos rfl, if_neg hs, hb, if_pos rfl, if_neg hkd]
     refine ⟨m, 0, S2, hR, ?_, by rw [hp]; exact G2, st2⟩
     rw [hp]
     conv at hr =>
      rhs
      rw [hTe]
      simp only [zy.code, zy.rs, zSs, reduceIte, Nat.reduceEqDiff, Int.reduceEq, Int.reduceLT, Int.reduceLE, if_neg k2, c1, am, n1, qB, y8, l1, s1, s2, lk, zJ, d1, cb, zB, d0, dk]
     rw [hTe] at hr
     exact zy.runs hr (.inr rfl)
 ·
  have de := decide_eq_false he
  have hp : vk bad said known data m e = (false, known) := by rw [vk, if_neg he]
  refine ⟨m, e, S2, hR, ?_, by rw [hp]; exact G2, st2⟩
  rw [hp]
  conv at hr =>
   rhs
   rw [hTe]
   simp only [zy.code, zy.rs, zSs, reduceIte, Nat.reduceEqDiff, Int.reduceEq, Int.reduceLT, Int.reduceLE, if_neg k2, c1, am, n1, de]
  rw [hTe] at hr
  exact zy.runs hr (.inr rfl)
end
end Go.Proofs.Ytfjogganfjkckaa
namespace Go.Proofs.Ytfjogganfjkckaa
open Go.Abs
theorem QS {x m : wM} {e : Int} (hx : qj x = true) (h : Xl (WG x) m e) : e = 0 ∧ ZW x m = true := by
 obtain ⟨_, _, ⟨h1, h2, h3⟩ | ⟨_, _, h3⟩⟩ := h
 ·
  exact ⟨h1, agR hx h2 h3⟩
 ·
  exact absurd rfl (h3 x hx)
theorem abS {a b : xu} (h : Zp a b = true) : nameOf a = nameOf b ∧ JZ a = JZ b ∧ a.miner = b.miner := by
 obtain ⟨h1, h2, h3, h4, h5⟩ := Zh.1 h
 have hr : jI a = jI b := by unfold jI headB; rw [h1, h2, h3, h4, h5]
 refine ⟨by unfold nameOf; rw [hr, h1, h2, h3], ?_, h2⟩
 unfold JZ Ku
 rw [hr, h1, h2, h3, h4, h5]
theorem afD {x m : wM} (h : ZW x m = true) (bad : List Int) (said : List (List UInt8)) (known : List (Int × List UInt8)) (d : List UInt8) (e : Int) : vk bad said known d m e = vk bad said known d x e := by
 obtain ⟨h1, h2, _, _, _, _, _, h8⟩ := Jp.1 h
 obtain ⟨g1, g2, g3⟩ := abS h8
 unfold vk
 rw [h1, h2, g1, g2, g3]
theorem agv {x m : wM} (h : ZW x m = true) (known : List (Int × List UInt8)) (e : Int) : afQ known m e = afQ known x e := by
 obtain ⟨h1, h2, _, _, _, _, _, h8⟩ := Jp.1 h
 obtain ⟨g1, g2, g3⟩ := abS h8
 unfold afQ agy
 rw [h1, g1, g2]
section
variable {S : zi} {q : Nat} {bad : List Int} {said : List (List UInt8)} {known : List (Int × List UInt8)}
theorem WH (h : Gt S q bad said known) {x : wM} (hx : qj x = true) : ∃ S1, zQ Try.prog O zy.id [.pointer (some ⟨q, 0, none⟩), by_ 1 (WG x)] S = some (.bool (vk bad said known (WG x) x 0).1, S1) ∧ Gt S1 q bad said (vk bad said known (WG x) x 0).2 ∧ vC S S1 := by
 obtain ⟨m, e, S1, h1, h2, h3, h4⟩ := zy.v h (k := 1) (data := WG x) Okl.read (by decide) (by have := ab7 hx; omega)
 obtain ⟨rfl, hs⟩ := QS hx h1
 rw [afD hs] at h2 h3
 exact ⟨S1, h2, h3, h4⟩
theorem aiW (h : Gt S q bad said known) {x : wM} (hx : qj x = true) : ∃ S1, zQ Try.prog O zX.id [.pointer (some ⟨q, 0, none⟩), by_ 1 (WG x)] S = some (.tuple #[], S1) ∧ Gt S1 q bad (ajt said (WG x)) (afQ known x 0) ∧ vC S S1 := by
 obtain ⟨m, e, S1, h1, h2, h3, h4⟩ := zX.v h (k := 1) (data := WG x) Okl.read (by decide) (by have := ab7 hx; omega)
 obtain ⟨rfl, hs⟩ := QS hx h1
 rw [agv hs] at h3
 exact ⟨S1, h2, h3, h4⟩
end
abbrev mkm (f : Int) (b : xu) : wM := ⟨1, f, 0, 0, 0, 0, ⟨0, 0⟩, b⟩
theorem jA.v {f : Int} {b : xu} (hb : b.Ok) (hf : Big f) (hR : qj (mkm f b) = true) (S : zi) : ∃ S1, zQ Try.prog O jA.id [.int .i64 f, bv b] S = some (by_ 2 (WG (mkm f b)), S1) ∧ Ext S S1 := by
 obtain ⟨T, hTe⟩ : ∃ T, T = (.int .i64 f :: bv b :: undef :: undef :: undef :: undef :: undef :: undef :: undef :: undef :: undef :: undef :: undef :: undef :: undef :: []) := ⟨_, rfl⟩
 have hr : zA Try.prog O false jA.code T S = zA Try.prog O false jA.code T S := rfl
 obtain ⟨S2, b1, b2, b3, b4⟩ := ahZ (bv b) S
 have b2 : S2.get S.next = some (.cells (fBk b) (.own []) 0) := b2
 have z0 : Big 0 := by unfold Big; decide
 have z1 : Big 1 := by unfold Big; decide
 have ok : (mkm f b).Ok := ⟨hb, ⟨z0, z0⟩, z1, hf, z0, z0, z0, z0⟩
 have bd : ∀ S, yu Try.prog 48 [(0, .int .i64 1), (1, .int .i64 f), (7, bv b)] S = some (mv (mkm f b), S) := fun S => YX rfl rfl S
 have c1 := fun S => zD.v ok S
 unfold aiR at c1
 rw [hR] at c1
 refine ⟨S2, ?_, b3⟩
 conv at hr =>
  rhs
  rw [hTe]
  simp only [jA.code, jA.rs, zSs, reduceIte, Nat.reduceEqDiff, Int.reduceEq, Int.reduceLT, Int.reduceLE, b1, V4 b2 hb.ne, bd, c1]
 rw [hTe] at hr
 exact jA.runs hr (.inr rfl)
abbrev bbk : xu := ⟨1, 1, 0, 0, 0, []⟩
abbrev cbk : xu := ⟨1, 1, 0, 0, 1, [⟨1, 0⟩]⟩
theorem Wl : bbk.Ok := ⟨Okl.none, by decide, by decide, by decide⟩
theorem ahw : cbk.Ok := ⟨Okl.read, by decide, by decide, by decide⟩
theorem r1b : qj (mkm 1 bbk) = true := by kernel_rfl
theorem r2b : qj (mkm 2 bbk) = true := by kernel_rfl
theorem r3b : qj (mkm 3 bbk) = true := by kernel_rfl
theorem r2c : qj (mkm 2 cbk) = true := by kernel_rfl
abbrev K1 : List (Int × List UInt8) := [(nameOf bbk, JZ bbk)]
abbrev S1s : List (List UInt8) := [WG (mkm 1 bbk)]
theorem pa1 : vk [2] [] [] (WG (mkm 2 bbk)) (mkm 2 bbk) 0 = (false, []) := by kernel_rfl
theorem pa2 : vk [2] S1s K1 (WG (mkm 2 bbk)) (mkm 2 bbk) 0 = (true, K1) := by kernel_rfl
theorem pa3 : vk [2] S1s K1 (WG (mkm 2 cbk)) (mkm 2 cbk) 0 = (false, K1) := by kernel_rfl
theorem pa4 : vk [2] S1s K1 (WG (mkm 3 bbk)) (mkm 3 bbk) 0 = (false, K1) := by kernel_rfl
theorem pa5 : vk [2] S1s K1 (WG (mkm 1 bbk)) (mkm 1 bbk) 0 = (true, K1) := by kernel_rfl
theorem sa1 : ajt [] (WG (mkm 1 bbk)) = S1s := rfl
theorem sa2 : afQ [] (mkm 1 bbk) 0 = K1 := by kernel_rfl
theorem zL.v (S : zi) : zQ Try.prog O zL.id [] S = some (.bool true, S) := by
 obtain ⟨T, hTe⟩ : ∃ T, T = (undef :: undef :: undef :: undef :: undef :: undef :: undef :: undef :: undef :: undef :: undef :: undef :: undef :: undef :: undef :: undef :: undef :: undef :: undef :: undef :: undef :: undef :: undef :: undef :: undef :: undef :: undef :: undef :: undef :: undef :: undef :: undef :: undef :: undef :: undef :: undef :: undef :: undef :: undef :: undef :: undef :: undef :: undef :: undef :: undef :: undef :: undef :: undef :: undef :: undef :: undef :: undef :: undef :: undef :: undef :: undef :: undef :: undef :: []) := ⟨_, rfl⟩
 have hr : zA Try.prog O false zL.code T zi.empty = zA Try.prog O false zL.code T zi.empty := rfl
 have i0 : ∀ S, jR Try.prog 24 1 [(0, .int .i64 2)] S = some (iz 2 [2], S) := fun S => by kernel_rfl
 obtain ⟨q, S1, c1, G1, _, _⟩ := yY.v (k := 1) (l := [2]) Okl.read (by decide) (by decide) zi.empty
 have pn : ∀ S, jX Try.prog .eql 22 (.pointer (some ⟨q, 0, none⟩)) (.pointer none) S = some (.bool false, S) := fun S => rfl
 have bb : ∀ S, yu Try.prog 46 [(0, .int .i64 1), (1, .int .i64 1)] S = some (bv bbk, S) := fun S => Y0 rfl rfl S
 have bt : ∀ S, yu Try.prog 43 [(0, .int .i64 1)] S = some (tv ⟨1, 0⟩, S) := fun S => abA rfl S
 have bs := fun S => ahY ⟨1, 0⟩ S
 have bc : ∀ S, yu Try.prog 46 [(0, .int .i64 1), (1, .int .i64 1), (4, tl 1 [⟨1, 0⟩])] S = some (bv cbk, S) := fun S => WI rfl rfl Qa S
 have a1 := adh S1
 obtain ⟨A1, hA1⟩ : ∃ A1, A1 = S1.push (.cells (fBk bk0) (.own []) 0) := ⟨_, rfl⟩
 rw [← hA1] at a1
 have a2 := adh A1
 have n1 : A1.next = S1.next + 1 := by rw [hA1]; rfl
 obtain ⟨A2, hA2⟩ : ∃ A2, A2 = A1.push (.cells (fBk bk0) (.own []) 0) := ⟨_, rfl⟩
 rw [← hA2] at a2
 have E1 : Ext S1 A1 := by rw [hA1]; exact Ext.push _ _
 have E2 : Ext A1 A2 := by rw [hA2]; exact Ext.push _ _
 have g1 : A2.get S1.next = some (.cells (fBk bk0) (.own []) 0) := by rw [E2.2 _ (by omega), hA1, zi.yg, if_pos rfl]
 have g2 : A2.get A1.next = some (.cells (fBk bk0) (.own []) 0) := by rw [hA2, zi.yg, if_pos rfl]
 obtain ⟨A3, s1, s2, s3, s4, s5⟩ := acN bbk g1 (E1.trans E2) (Nat.le_refl _)
 have g3 : A3.get A1.next = some (.cells (fBk bk0) (.own []) 0) := (s5 _ (by omega)).trans g2
 obtain ⟨A4, t1, t2, t3, t4, t5⟩ := acN cbk g3 s3 (by omega)
 have G4 := G1.ext t3
 have m4 : A2.next = A1.next + 1 := by rw [hA2]; rfl
 have hb4 : A4.get S1.next = some (.cells (fBk bbk) (.own []) 0) := (t5 _ (by omega)).trans s2
 have hn4 : A1.next < A4.next := by omega
 have kp : ∀ {X Y : zi}, vC X Y → (A1.next < X.next ∧ X.get S1.next = some (.cells (fBk bbk) (.own []) 0) ∧ X.get A1.next = some (.cells (fBk cbk) (.own []) 0)) → (A1.next < Y.next ∧ Y.get S1.next = some (.cells (fBk bbk) (.own []) 0) ∧ Y.get A1.next = some (.cells (fBk cbk) (.own []) 0)) := fun h k => ⟨Nat.lt_of_lt_of_le k.1 h.1, (h.2 _ _ _ _ (by omega) k.2.1).trans k.2.1, (h.2 _ _ _ _ k.1 k.2.2).trans k.2.2⟩
 have k4 : A1.next < A4.next ∧ A4.get S1.next = some (.cells (fBk bbk) (.own []) 0) ∧ A4.get A1.next = some (.cells (fBk cbk) (.own []) 0) := ⟨hn4, hb4, t2⟩
 have z1 : Big 1 := by unfold Big; decide
 have z2 : Big 2 := by unfold Big; decide
 have z3 : Big 3 := by unfold Big; decide
 have l4 := V4 k4.2.1 Wl.ne
 obtain ⟨B1, c2, x1⟩ := jA.v Wl z2 r2b A4
 obtain ⟨B2, c3, G5, y1⟩ := WH (G4.ext x1) r2b
 rw [pa1] at c3 G5
 have k5 := kp y1 (kp (vC.ext x1) k4)
 have l5 := V4 k5.2.1 Wl.ne
 obtain ⟨B3, c4, x2⟩ := jA.v Wl z1 r1b B2
 obtain ⟨B4, c5, G6, y2⟩ := aiW (G5.ext x2) r1b
 rw [sa1, sa2] at G6
 have k6 := kp y2 (kp (vC.ext x2) k5)
 have l6 := V4 k6.2.1 Wl.ne
 obtain ⟨B5, c6, x3⟩ := jA.v Wl z2 r2b B4
 obtain ⟨B6, c7, G7, y3⟩ := WH (G6.ext x3) r2b
 rw [pa2] at c7 G7
 have k7 := kp y3 (kp (vC.ext x3) k6)
 have l7 := V4 k7.2.2 ahw.ne
 obtain ⟨B7, c8, x4⟩ := jA.v ahw z2 r2c B6
 obtain ⟨B8, c9, G8, y4⟩ := WH (G7.ext x4) r2c
 rw [pa3] at c9 G8
 have k8 := kp y4 (kp (vC.ext x4) k7)
 have l8 := V4 k8.2.1 Wl.ne
 obtain ⟨B9, c10, x5⟩ := jA.v Wl z3 r3b B8
 obtain ⟨B10, c11, G9, y5⟩ := WH (G8.ext x5) r3b
 rw [pa4] at c11 G9
 have k9 := kp y5 (kp (vC.ext x5) k8)
 have l9 := V4 k9.2.1 Wl.ne
 obtain ⟨B11, c12, x6⟩ := jA.v Wl z1 r1b B10
 obtain ⟨B12, c13, G10, y6⟩ := WH (G9.ext x6) r1b
 rw [pa5] at c13 G10
 have c14 : zQ Try.prog O jV.id [.pointer (some ⟨q, 0, none⟩), .int .i64 2] B12 = some (.bool true, B12) := jV.v G10 2
 have c15 : zQ Try.prog O jV.id [.pointer (some ⟨q, 0, none⟩), .int .i64 1] B12 = some (.bool false, B12) := jV.v G10 1
 conv at hr =>
  rhs
  rw [hTe]
  simp only [zL.code, zL.rs, zSs, reduceIte, Nat.reduceEqDiff, Int.reduceEq, Int.reduceLT, Int.reduceLE, i0, c1, pn, bb, bt, bs, bc, a1, a2, s1, t1, l4, c2, c3, l5, c4, c5, l6, c6, c7, l7, c8, c9, l8, c10, c11, l9, c12, c13, c14, c15]
 rw [hTe] at hr
 exact zL.runs hr (.inr rfl) rfl rfl
end Go.Proofs.Ytfjogganfjkckaa
namespace Go.Proofs.Ytfjogganfjkckaa
open Go.Abs
theorem reads_nil {m : wM} {e : Int} (h : Xl [] m e) : e ≠ 0 := by
 obtain ⟨_, _, ⟨_, _, h3⟩ | ⟨h1, _, _⟩⟩ := h
 ·
  have := congrArg List.length h3
  unfold WG at this
  have h2 := aa5 (mkM m)
  rw [List.length_append, List.length_nil] at this
  omega
 ·
  rw [h1]; decide
namespace gateNames
def codes : List (Bool × Ty) := []
theorem coded : Xb Try.prog 9 [] = some codes := rfl
theorem run : ∃ S', zQ Try.prog O 3 [] zi.empty = some (.bool true, S') := by
 obtain ⟨T, hTe⟩ : ∃ T, T = (undef :: undef :: undef :: undef :: undef :: undef :: undef :: undef :: undef :: undef :: undef :: undef :: undef :: undef :: undef :: []) := ⟨_, rfl⟩
 have hr : zA Try.prog O false jw.code T zi.empty = zA Try.prog O false jw.code T zi.empty := rfl
 have i0 : ∀ S, jR Try.prog 24 1 [(0, .int .i64 0)] S = some (iz 2 [0], S) := fun S => by kernel_rfl
 obtain ⟨q, S1, c1, G1, _, _⟩ := yY.v (k := 1) (l := [0]) Okl.read (by decide) (by decide) zi.empty
 have c0 := fun S => zL.v S
 obtain ⟨m, e, S2, r1, r2, r3, r4⟩ := zy.v G1 (k := 0) (data := []) Okl.none (by decide) (by decide)
 have hp : vk [0] [] [] [] m e = (false, []) := by rw [vk, if_neg (reads_nil r1)]
 rw [hp] at r2
 have r2 : zQ Try.prog O zy.id [.pointer (some ⟨q, 0, none⟩), .slice none 0 0] S1 = some (.bool false, S2) := r2
 obtain ⟨q2, S3, c2, G2, _, _⟩ := yY.v (k := 0) (l := []) Okl.none (by decide) (by decide) S2
 have c2 : zQ Try.prog O yY.id [.slice none 0 0] S2 = some (.pointer (some ⟨q2, 0, none⟩), S3) := c2
 have c3 : zQ Try.prog O jV.id [.pointer (some ⟨q2, 0, none⟩), .int .i64 0] S3 = some (.bool false, S3) := jV.v G2 0
 refine ⟨S3, ?_⟩
 conv at hr =>
  rhs
  rw [hTe]
  simp only [jw.code, jw.rs, zSs, reduceIte, Nat.reduceEqDiff, Int.reduceEq, Int.reduceLT, Int.reduceLE, i0, c1, c0, r2, c2, c3]
 rw [hTe] at hr
 exact jw.runs hr (.inr rfl)
theorem law (x : Args codes) (h : Args.Good codes x) : ∃ k, (ZO Try.prog k 3 (Args.place codes x zi.empty).1 (Args.place codes x zi.empty).2).map (·.1) = some (.bool true) := by
 obtain ⟨S', e⟩ := run
 refine aaW ajz (S' := S') ?_
 exact e
end gateNames
end Go.Proofs.Ytfjogganfjkckaa
namespace Go.Proofs.Ytfjogganfjkckaa.gateNames
open Go.ChangeShapes Go.WideShapes Go.ChangeAt Go.RowKit Go.Abs
theorem own : ownKnob Try.prog.godebug = none := by kernel_rfl
theorem laidOut : laidOutB Try.prog = true := by kernel_rfl
theorem mixes : Try.prog.follows .mixedOrders = true := by kernel_rfl
set_option maxRecDepth 100000 in
theorem lifted (os : Os) (started : os.Started) (H : Type) (enc : TypeId × Value → H) :
  ReturnsInHanded {} Try.checked os 3 .any (Rows.gateNamesSpec.pre6 enc Try.prog Try.f3 Rows.gateNamesRow.domain false) (Rows.gateNamesSpec.post enc Try.prog Try.f3 false true false false) := by
 refine returnsInHanded_of_change_sized (C := Try.checked) own started (by kernel_rfl) Try.func3
  (ChangeSpec.witness6 (enc := enc) (C := Try.checked) false ⟨#[], #[], []⟩ 8 (by kernel_rfl) (by kernel_rfl) (by kernel_rfl) (by kernel_rfl)) ?_
 intro W base args ds gs before hval0 hW hcnd hsz0 _
 have hW' := hW
 obtain ⟨p, q, hA0, hV, rfl, hfz, hnd⟩ := hW
 obtain ⟨rfl, rfl⟩ := trodVars_none hV
 have hsz1 : (DataW.weightsEach Try.prog (Try.f3.params.toList ++ Rows.gateNamesSpec.plain.varTypes Try.prog) (ds ++ [])).all (· ≤ reachBytes) = true := hsz0
 have hval : ∀ (j : Nat) t v, Try.f3.params[j]? = some t → args[j]? = some v → Value.okWide Try.prog W .any base t v := hval0
 have hA1 : DataW.TrodAll enc Try.prog W 0 (fun _ => true) true Try.f3.params.toList args.toList ds p := hA0
 rw [Try.params3] at hA1 hsz1 hval
 have hA : DataW.TrodAll enc Try.prog W 0 (fun _ => true) true [] args.toList ds p := hA1
 have hsz : (DataW.weightsEach Try.prog [] ds).all (· ≤ reachBytes) = true := by rw [List.append_nil ds] at hsz1; exact hsz1
 clear hA0 hA1 hval0 hsz0 hsz1
 have r := hA
 obtain ⟨_, rfl, _⟩ := trodAll_nil r
 refine (ad8 mixes coded law hA (fun j t v h1 h2 => hval j t v (by rw [List.getElem?_toArray]; exact h1) h2) hsz).mono fun e W' ⟨he, bel⟩ => ?_
 subst he
 exact ⟨_, rfl, _, _, _, [], _, [], hW', trodAll_mk1 (shut_bool (by kernel_rfl) _), afW laidOut bel _ _ _ _ (by kernel_rfl) hA, rfl, bel.frame _, fun h => by cases h⟩
theorem over : Rows.gateNamesRow.holds Try.pinned (OpenSpec.ofChange Rows.gateNamesSpec) :=
 OpenClaim.holds_of_wide 3 Try.f3 rfl rfl rfl rfl rfl rfl rfl ⟨rfl, rfl, rfl, rfl, rfl⟩ rfl rfl rfl rfl rfl (by kernel_rfl) Try.func3 (by kernel_rfl)
  (of_decide_eq_true (by kernel_rfl)) (by unfold Func.isWrapper; first | (rw [if_pos (by decide +kernel)]; kernel_rfl) | (rw [if_neg (by decide +kernel)]; exact ⟨rfl, rfl⟩))
  (fun os started H enc _ => lifted os started H enc)
theorem proved : Rows.GateNamesSaid := over
end Go.Proofs.Ytfjogganfjkckaa.gateNames
namespace Go.Proofs.Ytfjogganfjkckaa
theorem gateNames_holds : Rows.GateNamesSaid := gateNames.proved
#print axioms gateNames_holds
end Go.Proofs.Ytfjogganfjkckaa
