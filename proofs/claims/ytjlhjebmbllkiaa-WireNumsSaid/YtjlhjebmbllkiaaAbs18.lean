/-
The interpreter without rounds: what its runs come to as the rounds grow. Loops and calls by equations.
-/
import Derived.Test.YtjlhjebmbllkiaaAbs17
set_option linter.unusedVariables false
set_option linter.unusedSimpArgs false
namespace Go.Abs
open Go.RowKit
open Classical

/-- A call's answer, with rounds enough. -/
noncomputable def lim (P : Program) (g : FuncId) (args : List Value) : M Value := fun H =>
  if h : ∃ r, ∃ k0, ∀ k, k0 ≤ k → acall P k g args H = some r then some (Classical.choose h) else none

section
variable {P : Program}

theorem lim_some {g : FuncId} {args : List Value} {H : AHeap} {r : Value × AHeap} (h : lim P g args H = some r) : ∃ k0, ∀ k, k0 ≤ k → acall P k g args H = some r := by
  unfold lim at h
  split at h
  · rename_i hx
    have := Classical.choose_spec hx
    cases h
    exact this
  · cases h
theorem lim_of {g : FuncId} {args : List Value} {H : AHeap} {r : Value × AHeap} (h : ∃ k0, ∀ k, k0 ≤ k → acall P k g args H = some r) : lim P g args H = some r := by
  have hx : ∃ r, ∃ k0, ∀ k, k0 ≤ k → acall P k g args H = some r := ⟨r, h⟩
  unfold lim
  rw [dif_pos hx]
  obtain ⟨k0, h0⟩ := h
  obtain ⟨k1, h1⟩ := Classical.choose_spec hx
  have e0 := h0 (max k0 k1) (Nat.le_max_left _ _)
  have e1 := h1 (max k0 k1) (Nat.le_max_right _ _)
  rw [e0] at e1
  exact e1.symm

theorem aStep_lim {T : List Value} {o : Oper} {H : AHeap} {r : Value × AHeap} (h : aStep P (lim P) T o H = some r) : ∃ k0, ∀ k, k0 ≤ k → aStep P (acall P k) T o H = some r := by
  unfold aStep at h
  split at h
  · rename_i hok
    split at h
    · rename_i c hop
      split at h
      · rename_i f hf
        split at h
        · rename_i g first captured hev
          obtain ⟨k0, hk⟩ := lim_some h
          refine ⟨k0, fun k hkk => ?_⟩
          unfold aStep
          rw [if_pos hok]
          simp only [hop, hf, hev]
          exact hk k hkk
        · cases h
      · rename_i b hb
        refine ⟨0, fun k _ => ?_⟩
        unfold aStep
        rw [if_pos hok]
        simp only [hop, hb]
        exact h
      · cases h
    · rename_i hop
      refine ⟨0, fun k _ => ?_⟩
      unfold aStep
      rw [if_pos hok]
      split
      · rename_i c hc; exact absurd hc (hop c)
      · exact h
  · cases h

theorem aOps_lim {ops : Array Oper} : ∀ (l : List Oper) (T : List Value) (H : AHeap) (r : List Value × AHeap), aOps P (lim P) ops l T H = some r → ∃ k0, ∀ k, k0 ≤ k → aOps P (acall P k) ops l T H = some r := by
  intro l
  induction l with
  | nil => intro T H r h; exact ⟨0, fun k _ => h⟩
  | cons o l ih =>
    intro T H r h
    simp only [aOps] at h
    split at h
    · rename_i hw
      split at h
      · rename_i v H' hs
        obtain ⟨k1, h1⟩ := aStep_lim hs
        obtain ⟨k2, h2⟩ := ih _ _ _ h
        refine ⟨max k1 k2, fun k hk => ?_⟩
        simp only [aOps, hw, if_true, h1 k (by omega)]
        exact h2 k (by omega)
      · cases h
    · rename_i hw
      obtain ⟨k2, h2⟩ := ih _ _ _ h
      refine ⟨k2, fun k hk => ?_⟩
      simp only [aOps, hw, if_false]
      exact h2 k hk

theorem aTrace_lim {ops : Array Oper} : ∀ (l : List Oper) (T : List Value) (H : AHeap) (r), aTrace P (lim P) ops l T H = some r → ∃ k0, ∀ k, k0 ≤ k → aTrace P (acall P k) ops l T H = some r := by
  intro l
  induction l with
  | nil => intro T H r h; exact ⟨0, fun k _ => h⟩
  | cons o l ih =>
    intro T H r h
    simp only [aTrace] at h
    split at h
    · rename_i hw
      split at h
      · rename_i v H' hs
        split at h
        · rename_i tr T2 H2 ht
          obtain ⟨k1, h1⟩ := aStep_lim hs
          obtain ⟨k2, h2⟩ := ih _ _ _ ht
          refine ⟨max k1 k2, fun k hk => ?_⟩
          simp only [aTrace, hw, if_true, h1 k (by omega), h2 k (by omega)]
          exact h
        · cases h
      · cases h
    · rename_i hw
      split at h
      · rename_i tr T2 H2 ht
        obtain ⟨k2, h2⟩ := ih _ _ _ ht
        refine ⟨k2, fun k hk => ?_⟩
        simp only [aTrace, hw, if_false, h2 k hk]
        exact h
      · cases h

theorem aDrawn_lim {ops : Array Oper} {T : List Value} {H : AHeap} {r : List Value × AHeap} (h : aDrawn P (lim P) ops T H = some r) : ∃ k0, ∀ k, k0 ≤ k → aDrawn P (acall P k) ops T H = some r := by
  unfold aDrawn at h
  split at h
  · rename_i hd
    split at h
    · rename_i tr T' H' ht
      obtain ⟨k0, h0⟩ := aTrace_lim _ _ _ _ ht
      refine ⟨k0, fun k hk => ?_⟩
      unfold aDrawn
      rw [if_pos hd]
      simp only [h0 k hk]
      exact h
    · cases h
  · cases h

theorem aLoop_succ {f : List Value → AHeap → St} : ∀ (n : Nat) (T : List Value) (H : AHeap) (r), aLoop n f T H = some r → aLoop (n + 1) f T H = some r := by
  intro n
  induction n with
  | zero => intro T H r h; cases h
  | succ n ih =>
    intro T H r h
    simp only [aLoop] at h
    split at h
    · rename_i T1 H1 hf
      have := ih _ _ _ h
      rw [aLoop]
      simp only [hf]
      exact this
    · rename_i hne
      rw [aLoop]
      split
      · rename_i T1 H1 hf; exact absurd hf (hne T1 H1)
      · exact h
theorem aLoop_le {f : List Value → AHeap → St} {n k : Nat} (hk : n ≤ k) {T : List Value} {H : AHeap} {r} (h : aLoop n f T H = some r) : aLoop k f T H = some r := by
  induction hk with
  | refl => exact h
  | step _ ih => exact aLoop_succ _ _ _ _ ih

/-- A loop's answer, with rounds enough. -/
noncomputable def loopV (f : List Value → AHeap → St) (T : List Value) (H : AHeap) : St :=
  if h : ∃ r, ∃ n, aLoop n f T H = some r then some (Classical.choose h) else none
theorem loopV_some {f : List Value → AHeap → St} {T : List Value} {H : AHeap} {r} (h : loopV f T H = some r) : ∃ n, aLoop n f T H = some r := by
  unfold loopV at h
  split at h
  · rename_i hx
    have := Classical.choose_spec hx
    cases h
    exact this
  · cases h
theorem loopV_of {f : List Value → AHeap → St} {T : List Value} {H : AHeap} {r} {n : Nat} (h : aLoop n f T H = some r) : loopV f T H = some r := by
  have hx : ∃ r, ∃ n, aLoop n f T H = some r := ⟨r, n, h⟩
  unfold loopV
  rw [dif_pos hx]
  obtain ⟨k, hk⟩ := Classical.choose_spec hx
  have e0 := aLoop_le (Nat.le_max_left n k) h
  have e1 := aLoop_le (Nat.le_max_right n k) hk
  rw [e0] at e1
  exact e1.symm
/-- A loop is its round, and the loop again. -/
theorem loopV_step {f : List Value → AHeap → St} {T : List Value} {H : AHeap} {T1 : List Value} {H1 : AHeap} (h : f T H = some (.normal, T1, H1)) : loopV f T H = loopV f T1 H1 := by
  cases h1 : loopV f T1 H1 with
  | some r =>
    obtain ⟨n, hn⟩ := loopV_some h1
    exact loopV_of (n := n + 1) (by simp only [aLoop, h]; exact hn)
  | none =>
    cases h0 : loopV f T H with
    | none => rfl
    | some r =>
      obtain ⟨n, hn⟩ := loopV_some h0
      cases n with
      | zero => cases hn
      | succ n =>
        simp only [aLoop, h] at hn
        rw [loopV_of hn] at h1
        cases h1
theorem loopV_exit {f : List Value → AHeap → St} {T : List Value} {H : AHeap} {e : AEx} {T1 : List Value} {H1 : AHeap} (h : f T H = some (e, T1, H1)) (he : e ≠ .normal) : loopV f T H = some (e, T1, H1) := by
  refine loopV_of (n := 1) ?_
  simp only [aLoop, h]
  cases e <;> first | rfl | exact absurd rfl he

/-- Code, without rounds. -/
noncomputable def codeV (P : Program) : Code → List Value → AHeap → St
  | .skip, T, H => some (.normal, T, H)
  | .region _ ops false, T, H => match aOps P (lim P) ops ops.toList T H with
    | some (T1, H1) => some (.normal, T1, H1)
    | none => none
  | .region _ ops true, T, H => match aDrawn P (lim P) ops T H with
    | some (T1, H1) => some (.normal, T1, H1)
    | none => none
  | .seq x y, T, H => match codeV P x T H with
    | some (.normal, T1, H1) => codeV P y T1 H1
    | r => r
  | .cond c x y, T, H => if okArg c then
      match evalT T c with
      | .bool true => codeV P x T H
      | .bool false => codeV P y T H
      | _ => none
    else none
  | .block id c, T, H => match codeV P c T H with
    | some (.exit id', T1, H1) => if id' = id then some (.normal, T1, H1) else some (.exit id', T1, H1)
    | r => r
  | .loop c, T, H => loopV (codeV P c) T H
  | .exit id, T, H => some (.exit id, T, H)
  | .ret, T, H => some (.ret, T, H)
  | _, _, _ => none

theorem codeV_lim : ∀ (c : Code) (T : List Value) (H : AHeap) (r), codeV P c T H = some r → ∃ k0, ∀ k fuel, k0 ≤ k → k0 ≤ fuel → aCode P (acall P k) fuel c T H = some r := by
  intro c
  induction c with
  | skip => intro T H r h; exact ⟨0, fun k fuel _ _ => h⟩
  | region i ops d =>
    intro T H r h
    cases d with
    | false =>
      simp only [codeV] at h
      split at h
      · rename_i T1 H1 ho
        obtain ⟨k0, h0⟩ := aOps_lim _ _ _ _ ho
        exact ⟨k0, fun k fuel hk _ => by simp only [aCode, h0 k hk]; exact h⟩
      · cases h
    | true =>
      simp only [codeV] at h
      split at h
      · rename_i T1 H1 ho
        obtain ⟨k0, h0⟩ := aDrawn_lim ho
        exact ⟨k0, fun k fuel hk _ => by simp only [aCode, h0 k hk]; exact h⟩
      · cases h
  | seq x y ihx ihy =>
    intro T H r h
    simp only [codeV] at h
    split at h
    · rename_i T1 H1 hx
      obtain ⟨k1, h1⟩ := ihx _ _ _ hx
      obtain ⟨k2, h2⟩ := ihy _ _ _ h
      exact ⟨max k1 k2, fun k fuel hk hf => by simp only [aCode, h1 k fuel (by omega) (by omega)]; exact h2 k fuel (by omega) (by omega)⟩
    · rename_i hne
      obtain ⟨k1, h1⟩ := ihx _ _ _ h
      refine ⟨k1, fun k fuel hk hf => ?_⟩
      simp only [aCode, h1 k fuel hk hf]
      split
      · rename_i T1 H1 he; exact absurd (h.trans he) (hne T1 H1)
      · rfl
  | cond c x y ihx ihy =>
    intro T H r h
    simp only [codeV] at h
    split at h
    · rename_i hok
      split at h
      · rename_i hb
        obtain ⟨k1, h1⟩ := ihx _ _ _ h
        exact ⟨k1, fun k fuel hk hf => by simp only [aCode, hok, if_true, hb]; exact h1 k fuel hk hf⟩
      · rename_i hb
        obtain ⟨k1, h1⟩ := ihy _ _ _ h
        exact ⟨k1, fun k fuel hk hf => by simp only [aCode, hok, if_true, hb]; exact h1 k fuel hk hf⟩
      · cases h
    · cases h
  | block id c ih =>
    intro T H r h
    simp only [codeV] at h
    split at h
    · rename_i id' T1 H1 hc
      obtain ⟨k1, h1⟩ := ih _ _ _ hc
      exact ⟨k1, fun k fuel hk hf => by simp only [aCode, h1 k fuel hk hf]; exact h⟩
    · rename_i hne
      obtain ⟨k1, h1⟩ := ih _ _ _ h
      refine ⟨k1, fun k fuel hk hf => ?_⟩
      simp only [aCode, h1 k fuel hk hf]
      split
      · rename_i id' T1 H1 he; exact absurd (h.trans he) (hne id' T1 H1)
      · rfl
  | loop c ih =>
    intro T H r h
    simp only [codeV] at h
    obtain ⟨n, hn⟩ := loopV_some h
    have key : ∀ (n : Nat) (T : List Value) (H : AHeap), aLoop n (codeV P c) T H = some r → ∃ k0, ∀ k fuel, k0 ≤ k → k0 ≤ fuel → ∀ j, n ≤ j → aLoop j (aCode P (acall P k) fuel c) T H = some r := by
      intro n
      induction n with
      | zero => intro T H h; cases h
      | succ n ihn =>
        intro T H h
        simp only [aLoop] at h
        split at h
        · rename_i T1 H1 hf
          obtain ⟨k1, h1⟩ := ih _ _ _ hf
          obtain ⟨k2, h2⟩ := ihn _ _ h
          refine ⟨max k1 k2, fun k fuel hk hfu j hj => ?_⟩
          obtain ⟨j, rfl⟩ : ∃ i, j = i + 1 := ⟨j - 1, by omega⟩
          simp only [aLoop, h1 k fuel (by omega) (by omega)]
          exact h2 k fuel (by omega) (by omega) j (by omega)
        · rename_i hne
          obtain ⟨k1, h1⟩ := ih _ _ _ h
          refine ⟨k1, fun k fuel hk hfu j hj => ?_⟩
          obtain ⟨j, rfl⟩ : ∃ i, j = i + 1 := ⟨j - 1, by omega⟩
          simp only [aLoop, h1 k fuel hk hfu]
          split
          · rename_i T1 H1 he; exact absurd (h.trans he) (hne T1 H1)
          · rfl
    obtain ⟨k0, h0⟩ := key n T H hn
    exact ⟨max k0 n, fun k fuel hk hf => by simp only [aCode]; exact h0 k fuel (by omega) (by omega) fuel (by omega)⟩
  | exit id => intro T H r h; exact ⟨0, fun k fuel _ _ => h⟩
  | ret => intro T H r h; exact ⟨0, fun k fuel _ _ => h⟩
  | _ => intro T H r h; simp only [codeV] at h; cases h

/-- A call of a function is its code. -/
theorem lim_code {f : FuncId} {fn : Func} {c : Code} {args : List Value} {H H1 H' : AHeap} {e : AEx} {T : List Value} {v : Value} (hf : P.funcs[f]? = some fn) (hn : fn.name ≠ "runtime.NumGoroutine") (hb : fn.body = some c)
    (h : codeV P c (args ++ List.replicate (fn.ntmps - args.length) undef) H = some (e, T, H1)) (he : e = .normal ∨ e = .ret) (hres : aRes P fn T H1 = some (v, H')) : lim P f args H = some (v, H') := by
  obtain ⟨k0, h0⟩ := codeV_lim _ _ _ _ h
  refine lim_of ⟨k0 + 1, fun k hk => ?_⟩
  obtain ⟨k, rfl⟩ : ∃ i, k = i + 1 := ⟨k - 1, by omega⟩
  simp only [acall, hf, if_neg hn, hb, h0 k k (by omega) (by omega)]
  rcases he with rfl | rfl <;> exact hres

theorem law_of_lim {f : FuncId} {args : List Value} {H H' : AHeap} (h : lim P f args H = some (.bool true, H')) : ∃ k, (acall P k f args H).map (·.1) = some (.bool true) := by
  obtain ⟨k, hk⟩ := lim_some h
  exact ⟨k, by rw [hk k (Nat.le_refl k)]; rfl⟩

end
end Go.Abs
