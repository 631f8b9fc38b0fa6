/-
The interpreter over an abstract heap, and what it says of the program's runs: part AbsC.
-/
import Derived.Test.YtooljmmlekmkeaaAbsB
set_option linter.unusedVariables false
set_option linter.unusedSimpArgs false
/-
The interpreter without rounds: what its runs come to as the rounds grow. Loops and calls by equations.
-/
namespace Go.Abs
open Go.RowKit
open Classical

/-- A call's answer, with rounds enough. -/
noncomputable def lim (P : Program) (g : FuncId) (args : List Value) : M Value := fun H =>
  if h : ∃ r, ∃ k0, ∀ k, k0 ≤ k → acall P k g args H = some r then some (Classical.choose h) else none

section
variable {P : Program}

theorem lim_some {g : FuncId} {args : List Value} {H : AHeap} {r : Value × AHeap} (h : lim P g args H = some r) : ∃ k0, ∀ k, k0 ≤ k → acall P k g args H = some r := by
  unfold lim at h
  split at h
  · rename_i hx
    have := Classical.choose_spec hx
    cases h
    exact this
  · cases h
theorem lim_of {g : FuncId} {args : List Value} {H : AHeap} {r : Value × AHeap} (h : ∃ k0, ∀ k, k0 ≤ k → acall P k g args H = some r) : lim P g args H = some r := by
  have hx : ∃ r, ∃ k0, ∀ k, k0 ≤ k → acall P k g args H = some r := ⟨r, h⟩
  unfold lim
  rw [dif_pos hx]
  obtain ⟨k0, h0⟩ := h
  obtain ⟨k1, h1⟩ := Classical.choose_spec hx
  have e0 := h0 (max k0 k1) (Nat.le_max_left _ _)
  have e1 := h1 (max k0 k1) (Nat.le_max_right _ _)
  rw [e0] at e1
  exact e1.symm

theorem aStep_lim {T : List Value} {o : Oper} {H : AHeap} {r : Value × AHeap} (h : aStep P (lim P) T o H = some r) : ∃ k0, ∀ k, k0 ≤ k → aStep P (acall P k) T o H = some r := by
  unfold aStep at h
  split at h
  · rename_i hok
    split at h
    · rename_i c hop
      split at h
      · rename_i f hf
        split at h
        · rename_i g first captured hev
          obtain ⟨k0, hk⟩ := lim_some h
          refine ⟨k0, fun k hkk => ?_⟩
          unfold aStep
          rw [if_pos hok]
          simp only [hop, hf, hev]
          exact hk k hkk
        · cases h
      · rename_i b hb
        refine ⟨0, fun k _ => ?_⟩
        unfold aStep
        rw [if_pos hok]
        simp only [hop, hb]
        exact h
      · cases h
    · rename_i hop
      refine ⟨0, fun k _ => ?_⟩
      unfold aStep
      rw [if_pos hok]
      split
      · rename_i c hc; exact absurd hc (hop c)
      · exact h
  · cases h

theorem aOps_lim {ops : Array Oper} : ∀ (l : List Oper) (T : List Value) (H : AHeap) (r : List Value × AHeap), aOps P (lim P) ops l T H = some r → ∃ k0, ∀ k, k0 ≤ k → aOps P (acall P k) ops l T H = some r := by
  intro l
  induction l with
  | nil => intro T H r h; exact ⟨0, fun k _ => h⟩
  | cons o l ih =>
    intro T H r h
    simp only [aOps] at h
    split at h
    · rename_i hw
      split at h
      · rename_i v H' hs
        obtain ⟨k1, h1⟩ := aStep_lim hs
        obtain ⟨k2, h2⟩ := ih _ _ _ h
        refine ⟨max k1 k2, fun k hk => ?_⟩
        simp only [aOps, hw, if_true, h1 k (by omega)]
        exact h2 k (by omega)
      · cases h
    · rename_i hw
      obtain ⟨k2, h2⟩ := ih _ _ _ h
      refine ⟨k2, fun k hk => ?_⟩
      simp only [aOps, hw, if_false]
      exact h2 k hk

theorem aTrace_lim {ops : Array Oper} : ∀ (l : List Oper) (T : List Value) (H : AHeap) (r), aTrace P (lim P) ops l T H = some r → ∃ k0, ∀ k, k0 ≤ k → aTrace P (acall P k) ops l T H = some r := by
  intro l
  induction l with
  | nil => intro T H r h; exact ⟨0, fun k _ => h⟩
  | cons o l ih =>
    intro T H r h
    simp only [aTrace] at h
    split at h
    · rename_i hw
      split at h
      · rename_i v H' hs
        split at h
        · rename_i tr T2 H2 ht
          obtain ⟨k1, h1⟩ := aStep_lim hs
          obtain ⟨k2, h2⟩ := ih _ _ _ ht
          refine ⟨max k1 k2, fun k hk => ?_⟩
          simp only [aTrace, hw, if_true, h1 k (by omega), h2 k (by omega)]
          exact h
        · cases h
      · cases h
    · rename_i hw
      split at h
      · rename_i tr T2 H2 ht
        obtain ⟨k2, h2⟩ := ih _ _ _ ht
        refine ⟨k2, fun k hk => ?_⟩
        simp only [aTrace, hw, if_false, h2 k hk]
        exact h
      · cases h

theorem aDrawn_lim {ops : Array Oper} {T : List Value} {H : AHeap} {r : List Value × AHeap} (h : aDrawn P (lim P) ops T H = some r) : ∃ k0, ∀ k, k0 ≤ k → aDrawn P (acall P k) ops T H = some r := by
  unfold aDrawn at h
  split at h
  · rename_i hd
    split at h
    · rename_i tr T' H' ht
      obtain ⟨k0, h0⟩ := aTrace_lim _ _ _ _ ht
      refine ⟨k0, fun k hk => ?_⟩
      unfold aDrawn
      rw [if_pos hd]
      simp only [h0 k hk]
      exact h
    · cases h
  · cases h

theorem aLoop_succ {f : List Value → AHeap → St} : ∀ (n : Nat) (T : List Value) (H : AHeap) (r), aLoop n f T H = some r → aLoop (n + 1) f T H = some r := by
  intro n
  induction n with
  | zero => intro T H r h; cases h
  | succ n ih =>
    intro T H r h
    simp only [aLoop] at h
    split at h
    · rename_i T1 H1 hf
      have := ih _ _ _ h
      rw [aLoop]
      simp only [hf]
      exact this
    · rename_i hne
      rw [aLoop]
      split
      · rename_i T1 H1 hf; exact absurd hf (hne T1 H1)
      · exact h
theorem aLoop_le {f : List Value → AHeap → St} {n k : Nat} (hk : n ≤ k) {T : List Value} {H : AHeap} {r} (h : aLoop n f T H = some r) : aLoop k f T H = some r := by
  induction hk with
  | refl => exact h
  | step _ ih => exact aLoop_succ _ _ _ _ ih

/-- A loop's answer, with rounds enough. -/
noncomputable def loopV (f : List Value → AHeap → St) (T : List Value) (H : AHeap) : St :=
  if h : ∃ r, ∃ n, aLoop n f T H = some r then some (Classical.choose h) else none
theorem loopV_some {f : List Value → AHeap → St} {T : List Value} {H : AHeap} {r} (h : loopV f T H = some r) : ∃ n, aLoop n f T H = some r := by
  unfold loopV at h
  split at h
  · rename_i hx
    have := Classical.choose_spec hx
    cases h
    exact this
  · cases h
theorem loopV_of {f : List Value → AHeap → St} {T : List Value} {H : AHeap} {r} {n : Nat} (h : aLoop n f T H = some r) : loopV f T H = some r := by
  have hx : ∃ r, ∃ n, aLoop n f T H = some r := ⟨r, n, h⟩
  unfold loopV
  rw [dif_pos hx]
  obtain ⟨k, hk⟩ := Classical.choose_spec hx
  have e0 := aLoop_le (Nat.le_max_left n k) h
  have e1 := aLoop_le (Nat.le_max_right n k) hk
  rw [e0] at e1
  exact e1.symm
/-- A loop is its round, and the loop again. -/
theorem loopV_step {f : List Value → AHeap → St} {T : List Value} {H : AHeap} {T1 : List Value} {H1 : AHeap} (h : f T H = some (.normal, T1, H1)) : loopV f T H = loopV f T1 H1 := by
  cases h1 : loopV f T1 H1 with
  | some r =>
    obtain ⟨n, hn⟩ := loopV_some h1
    exact loopV_of (n := n + 1) (by simp only [aLoop, h]; exact hn)
  | none =>
    cases h0 : loopV f T H with
    | none => rfl
    | some r =>
      obtain ⟨n, hn⟩ := loopV_some h0
      cases n with
      | zero => cases hn
      | succ n =>
        simp only [aLoop, h] at hn
        rw [loopV_of hn] at h1
        cases h1
theorem loopV_exit {f : List Value → AHeap → St} {T : List Value} {H : AHeap} {e : AEx} {T1 : List Value} {H1 : AHeap} (h : f T H = some (e, T1, H1)) (he : e ≠ .normal) : loopV f T H = some (e, T1, H1) := by
  refine loopV_of (n := 1) ?_
  simp only [aLoop, h]
  cases e <;> first | rfl | exact absurd rfl he

/-- Code, without rounds. -/
noncomputable def codeV (P : Program) : Code → List Value → AHeap → St
  | .skip, T, H => some (.normal, T, H)
  | .region _ ops false, T, H => match aOps P (lim P) ops ops.toList T H with
    | some (T1, H1) => some (.normal, T1, H1)
    | none => none
  | .region _ ops true, T, H => match aDrawn P (lim P) ops T H with
    | some (T1, H1) => some (.normal, T1, H1)
    | none => none
  | .seq x y, T, H => match codeV P x T H with
    | some (.normal, T1, H1) => codeV P y T1 H1
    | r => r
  | .cond c x y, T, H => if okArg c then
      match evalT T c with
      | .bool true => codeV P x T H
      | .bool false => codeV P y T H
      | _ => none
    else none
  | .block id c, T, H => match codeV P c T H with
    | some (.exit id', T1, H1) => if id' = id then some (.normal, T1, H1) else some (.exit id', T1, H1)
    | r => r
  | .loop c, T, H => loopV (codeV P c) T H
  | .exit id, T, H => some (.exit id, T, H)
  | .ret, T, H => some (.ret, T, H)
  | _, _, _ => none

theorem codeV_lim : ∀ (c : Code) (T : List Value) (H : AHeap) (r), codeV P c T H = some r → ∃ k0, ∀ k fuel, k0 ≤ k → k0 ≤ fuel → aCode P (acall P k) fuel c T H = some r := by
  intro c
  induction c with
  | skip => intro T H r h; exact ⟨0, fun k fuel _ _ => h⟩
  | region i ops d =>
    intro T H r h
    cases d with
    | false =>
      simp only [codeV] at h
      split at h
      · rename_i T1 H1 ho
        obtain ⟨k0, h0⟩ := aOps_lim _ _ _ _ ho
        exact ⟨k0, fun k fuel hk _ => by simp only [aCode, h0 k hk]; exact h⟩
      · cases h
    | true =>
      simp only [codeV] at h
      split at h
      · rename_i T1 H1 ho
        obtain ⟨k0, h0⟩ := aDrawn_lim ho
        exact ⟨k0, fun k fuel hk _ => by simp only [aCode, h0 k hk]; exact h⟩
      · cases h
  | seq x y ihx ihy =>
    intro T H r h
    simp only [codeV] at h
    split at h
    · rename_i T1 H1 hx
      obtain ⟨k1, h1⟩ := ihx _ _ _ hx
      obtain ⟨k2, h2⟩ := ihy _ _ _ h
      exact ⟨max k1 k2, fun k fuel hk hf => by simp only [aCode, h1 k fuel (by omega) (by omega)]; exact h2 k fuel (by omega) (by omega)⟩
    · rename_i hne
      obtain ⟨k1, h1⟩ := ihx _ _ _ h
      refine ⟨k1, fun k fuel hk hf => ?_⟩
      simp only [aCode, h1 k fuel hk hf]
      split
      · rename_i T1 H1 he; exact absurd (h.trans he) (hne T1 H1)
      · rfl
  | cond c x y ihx ihy =>
    intro T H r h
    simp only [codeV] at h
    split at h
    · rename_i hok
      split at h
      · rename_i hb
        obtain ⟨k1, h1⟩ := ihx _ _ _ h
        exact ⟨k1, fun k fuel hk hf => by simp only [aCode, hok, if_true, hb]; exact h1 k fuel hk hf⟩
      · rename_i hb
        obtain ⟨k1, h1⟩ := ihy _ _ _ h
        exact ⟨k1, fun k fuel hk hf => by simp only [aCode, hok, if_true, hb]; exact h1 k fuel hk hf⟩
      · cases h
    · cases h
  | block id c ih =>
    intro T H r h
    simp only [codeV] at h
    split at h
    · rename_i id' T1 H1 hc
      obtain ⟨k1, h1⟩ := ih _ _ _ hc
      exact ⟨k1, fun k fuel hk hf => by simp only [aCode, h1 k fuel hk hf]; exact h⟩
    · rename_i hne
      obtain ⟨k1, h1⟩ := ih _ _ _ h
      refine ⟨k1, fun k fuel hk hf => ?_⟩
      simp only [aCode, h1 k fuel hk hf]
      split
      · rename_i id' T1 H1 he; exact absurd (h.trans he) (hne id' T1 H1)
      · rfl
  | loop c ih =>
    intro T H r h
    simp only [codeV] at h
    obtain ⟨n, hn⟩ := loopV_some h
    have key : ∀ (n : Nat) (T : List Value) (H : AHeap), aLoop n (codeV P c) T H = some r → ∃ k0, ∀ k fuel, k0 ≤ k → k0 ≤ fuel → ∀ j, n ≤ j → aLoop j (aCode P (acall P k) fuel c) T H = some r := by
      intro n
      induction n with
      | zero => intro T H h; cases h
      | succ n ihn =>
        intro T H h
        simp only [aLoop] at h
        split at h
        · rename_i T1 H1 hf
          obtain ⟨k1, h1⟩ := ih _ _ _ hf
          obtain ⟨k2, h2⟩ := ihn _ _ h
          refine ⟨max k1 k2, fun k fuel hk hfu j hj => ?_⟩
          obtain ⟨j, rfl⟩ : ∃ i, j = i + 1 := ⟨j - 1, by omega⟩
          simp only [aLoop, h1 k fuel (by omega) (by omega)]
          exact h2 k fuel (by omega) (by omega) j (by omega)
        · rename_i hne
          obtain ⟨k1, h1⟩ := ih _ _ _ h
          refine ⟨k1, fun k fuel hk hfu j hj => ?_⟩
          obtain ⟨j, rfl⟩ : ∃ i, j = i + 1 := ⟨j - 1, by omega⟩
          simp only [aLoop, h1 k fuel hk hfu]
          split
          · rename_i T1 H1 he; exact absurd (h.trans he) (hne T1 H1)
          · rfl
    obtain ⟨k0, h0⟩ := key n T H hn
    exact ⟨max k0 n, fun k fuel hk hf => by simp only [aCode]; exact h0 k fuel (by omega) (by omega) fuel (by omega)⟩
  | exit id => intro T H r h; exact ⟨0, fun k fuel _ _ => h⟩
  | ret => intro T H r h; exact ⟨0, fun k fuel _ _ => h⟩
  | _ => intro T H r h; simp only [codeV] at h; cases h

/-- A call of a function is its code. -/
theorem lim_code {f : FuncId} {fn : Func} {c : Code} {args : List Value} {H H1 H' : AHeap} {e : AEx} {T : List Value} {v : Value} (hf : P.funcs[f]? = some fn) (hn : fn.name ≠ "runtime.NumGoroutine") (hb : fn.body = some c)
    (h : codeV P c (args ++ List.replicate (fn.ntmps - args.length) undef) H = some (e, T, H1)) (he : e = .normal ∨ e = .ret) (hres : aRes P fn T H1 = some (v, H')) : lim P f args H = some (v, H') := by
  obtain ⟨k0, h0⟩ := codeV_lim _ _ _ _ h
  refine lim_of ⟨k0 + 1, fun k hk => ?_⟩
  obtain ⟨k, rfl⟩ : ∃ i, k = i + 1 := ⟨k - 1, by omega⟩
  simp only [acall, hf, if_neg hn, hb, h0 k k (by omega) (by omega)]
  rcases he with rfl | rfl <;> exact hres

theorem law_of_lim {f : FuncId} {args : List Value} {H H' : AHeap} (h : lim P f args H = some (.bool true, H')) : ∃ k, (acall P k f args H).map (·.1) = some (.bool true) := by
  obtain ⟨k, hk⟩ := lim_some h
  exact ⟨k, by rw [hk k (Nat.le_refl k)]; rfl⟩

end
end Go.Abs

/-
Words for the shallow forms, and how a structured piece of code goes on.
-/
namespace Go.Abs
open Go.RowKit

/-- The regions of code, by their numbers. -/
def regs : Code → List (Nat × Array Oper)
  | .region i ops _ => [(i, ops)]
  | .seq x y => regs x ++ regs y
  | .cond _ x y => regs x ++ regs y
  | .block _ c => regs c
  | .loop c => regs c
  | _ => []
def reg (f : Func) (i : Nat) : Array Oper :=
  match f.body with
  | some c => match (regs c).find? (fun p => Nat.beq p.1 i) with
    | some p => p.2
    | none => #[]
  | none => #[]

section
variable {R : Type} {P : Program}

def andThen (s : Option (Value × AHeap)) (K : Value → AHeap → Option R) : Option R :=
  match s with
  | some (v, H) => K v H
  | none => none
@[simp] theorem andThen_some (v : Value) (H : AHeap) (K : Value → AHeap → Option R) : andThen (some (v, H)) K = K v H := Eq.trans rfl rfl
def vb (v : Value) : Option Bool :=
  match v with
  | .bool b => some b
  | _ => none
/-- A guarded operation. -/
def gd (v : Value) (b : Bool) (s : M Value) (H : AHeap) (K : Value → AHeap → Option R) : Option R :=
  if (vb v == some b) = true then andThen (s H) K else K undef H
@[simp] theorem gd_tt (s : M Value) (H : AHeap) (K : Value → AHeap → Option R) : gd (.bool true) true s H K = andThen (s H) K := Eq.trans rfl rfl
@[simp] theorem gd_ff (s : M Value) (H : AHeap) (K : Value → AHeap → Option R) : gd (.bool false) false s H K = andThen (s H) K := Eq.trans rfl rfl
@[simp] theorem gd_tf (s : M Value) (H : AHeap) (K : Value → AHeap → Option R) : gd (.bool true) false s H K = K undef H := Eq.trans rfl rfl
@[simp] theorem gd_ft (s : M Value) (H : AHeap) (K : Value → AHeap → Option R) : gd (.bool false) true s H K = K undef H := Eq.trans rfl rfl
@[simp] theorem gd_ut (s : M Value) (b : Bool) (H : AHeap) (K : Value → AHeap → Option R) : gd undef b s H K = K undef H := Eq.trans rfl rfl
@[simp] theorem ret_run {α : Type} (a : α) (H : AHeap) : ret a H = some (a, H) := Eq.trans rfl rfl
def aDyn (call : FuncId → List Value → M Value) (f : Value) (args : List Value) : M Value := fun H =>
  match f with
  | .func (.func g) first captured => call g (first.toList ++ args ++ captured.toList) H
  | _ => none

theorem list_getD (T : List Value) (n : Nat) (h : T.length = n) : T = (List.range n).map (T.getD · undef) := by
  apply List.ext_getElem
  · simp [h]
  · intro i h1 h2
    simp [List.getElem?_eq_getElem h1]
/-- An operation of a region, by its place. -/
def opAt (f : Func) (i k : Nat) : Oper := (reg f i).toList.getD k default
theorem aOps_pure {call : FuncId → List Value → M Value} {ops : Array Oper} {l rest : List Oper} {o : Oper} {T : List Value} {H : AHeap} {d : Nat} {v : Value} {r : Option (List Value × AHeap)} (hl : l = o :: rest) (hg : o.guard = none) (hd : o.dst = some d)
    (hs : aStep P call T o H = some (v, H)) (hK : aOps P call ops rest (T.set d v) H = r) : aOps P call ops l T H = r := by
  subst hl
  simp only [aOps, Region.wanted, hg, if_true, hs, hd, putT]
  exact hK
theorem aOps_do {call : FuncId → List Value → M Value} {ops : Array Oper} {l rest : List Oper} {o : Oper} {T : List Value} {H : AHeap} {d : Nat} {s : Option (Value × AHeap)} {K : Value → AHeap → Option (List Value × AHeap)} (hl : l = o :: rest) (hg : o.guard = none) (hd : o.dst = some d)
    (hs : aStep P call T o H = s) (hK : ∀ v H1, aOps P call ops rest (T.set d v) H1 = K v H1) : aOps P call ops l T H = andThen s K := by
  subst hl
  subst hs
  simp only [aOps, Region.wanted, hg, if_true, hd, putT, hK]
  rfl
theorem aOps_doN {call : FuncId → List Value → M Value} {ops : Array Oper} {l rest : List Oper} {o : Oper} {T : List Value} {H : AHeap} {s : Option (Value × AHeap)} {K : Value → AHeap → Option (List Value × AHeap)} (hl : l = o :: rest) (hg : o.guard = none) (hd : o.dst = none)
    (hs : aStep P call T o H = s) (hK : ∀ v H1, aOps P call ops rest T H1 = K v H1) : aOps P call ops l T H = andThen s K := by
  subst hl
  subst hs
  simp only [aOps, Region.wanted, hg, if_true, hd, putT]
  cases aStep P call T o H with
  | none => rfl
  | some r => exact hK r.1 r.2
theorem aOps_gd {call : FuncId → List Value → M Value} {ops : Array Oper} {l rest : List Oper} {o : Oper} {T : List Value} {H : AHeap} {d j : Nat} {b : Bool} {g : Value} {s : M Value} {K : Value → AHeap → Option (List Value × AHeap)} (hl : l = o :: rest) (hg : o.guard = some (j, b)) (hd : o.dst = some d)
    (hy : ynd ops T j = vb g) (hs : aStep P call T o H = s H) (hK : ∀ v H1, aOps P call ops rest (T.set d v) H1 = K v H1) : aOps P call ops l T H = gd g b s H K := by
  subst hl
  simp only [aOps, Region.wanted, hg, hy, hs, hd, putT, hK, gd]
  rfl
theorem aOps_gdN {call : FuncId → List Value → M Value} {ops : Array Oper} {l rest : List Oper} {o : Oper} {T : List Value} {H : AHeap} {j : Nat} {b : Bool} {g : Value} {s : M Value} {K : Value → AHeap → Option (List Value × AHeap)} (hl : l = o :: rest) (hg : o.guard = some (j, b)) (hd : o.dst = none)
    (hy : ynd ops T j = vb g) (hs : aStep P call T o H = s H) (hK : ∀ v H1, aOps P call ops rest T H1 = K v H1) : aOps P call ops l T H = gd g b s H K := by
  subst hl
  simp only [aOps, Region.wanted, hg, hy, hs, hd, putT, gd]
  split
  · cases s H with
    | none => rfl
    | some r => exact hK r.1 r.2
  · exact hK undef H

/-- What code has come to, and what goes on behind it. -/
def regV (s : Option (List Value × AHeap)) : St :=
  match s with
  | some (T, H) => some (.normal, T, H)
  | none => none
def seqV (s : St) (f : List Value → AHeap → St) : St :=
  match s with
  | some (.normal, T, H) => f T H
  | r => r
def blockV (id : Nat) (s : St) : St :=
  match s with
  | some (.exit id', T, H) => if id' = id then some (.normal, T, H) else some (.exit id', T, H)
  | r => r
def condV (v : Value) (s1 s2 : St) : St :=
  match v with
  | .bool true => s1
  | .bool false => s2
  | _ => none
@[simp] theorem regV_some (T : List Value) (H : AHeap) : regV (some (T, H)) = some (.normal, T, H) := Eq.trans rfl rfl
@[simp] theorem seqV_normal (T : List Value) (H : AHeap) (f : List Value → AHeap → St) : seqV (some (.normal, T, H)) f = f T H := Eq.trans rfl rfl
@[simp] theorem seqV_exit (i : Nat) (T : List Value) (H : AHeap) (f : List Value → AHeap → St) : seqV (some (.exit i, T, H)) f = some (.exit i, T, H) := Eq.trans rfl rfl
@[simp] theorem seqV_ret (T : List Value) (H : AHeap) (f : List Value → AHeap → St) : seqV (some (.ret, T, H)) f = some (.ret, T, H) := Eq.trans rfl rfl
@[simp] theorem blockV_normal (i : Nat) (T : List Value) (H : AHeap) : blockV i (some (.normal, T, H)) = some (.normal, T, H) := Eq.trans rfl rfl
@[simp] theorem blockV_ret (i : Nat) (T : List Value) (H : AHeap) : blockV i (some (.ret, T, H)) = some (.ret, T, H) := Eq.trans rfl rfl
@[simp] theorem blockV_exit (i j : Nat) (T : List Value) (H : AHeap) : blockV i (some (.exit j, T, H)) = if j = i then some (.normal, T, H) else some (.exit j, T, H) := Eq.trans rfl rfl
@[simp] theorem condV_true (s1 s2 : St) : condV (.bool true) s1 s2 = s1 := Eq.trans rfl rfl
@[simp] theorem condV_false (s1 s2 : St) : condV (.bool false) s1 s2 = s2 := Eq.trans rfl rfl
@[simp] theorem codeV_skip (T : List Value) (H : AHeap) : codeV P .skip T H = some (.normal, T, H) := Eq.trans rfl rfl
@[simp] theorem codeV_ret (T : List Value) (H : AHeap) : codeV P .ret T H = some (.ret, T, H) := Eq.trans rfl rfl
@[simp] theorem codeV_exit (i : Nat) (T : List Value) (H : AHeap) : codeV P (.exit i) T H = some (.exit i, T, H) := Eq.trans rfl rfl
@[simp] theorem codeV_region (i : Nat) (ops : Array Oper) (T : List Value) (H : AHeap) : codeV P (.region i ops false) T H = regV (aOps P (lim P) ops ops.toList T H) := Eq.trans rfl rfl
@[simp] theorem codeV_drawn (i : Nat) (ops : Array Oper) (T : List Value) (H : AHeap) : codeV P (.region i ops true) T H = regV (aDrawn P (lim P) ops T H) := Eq.trans rfl rfl
@[simp] theorem codeV_seq (x y : Code) (T : List Value) (H : AHeap) : codeV P (.seq x y) T H = seqV (codeV P x T H) (codeV P y) := Eq.trans rfl rfl
@[simp] theorem codeV_block (i : Nat) (c : Code) (T : List Value) (H : AHeap) : codeV P (.block i c) T H = blockV i (codeV P c T H) := Eq.trans rfl rfl
@[simp] theorem codeV_loop (c : Code) (T : List Value) (H : AHeap) : codeV P (.loop c) T H = loopV (codeV P c) T H := Eq.trans rfl rfl
@[simp] theorem codeV_cond (t : Tmp) (x y : Code) (T : List Value) (H : AHeap) : codeV P (.cond (.tmp t) x y) T H = condV (T.getD t undef) (codeV P x T H) (codeV P y T H) := by
  simp only [codeV, okArg, if_true, evalT]
  rfl
end
end Go.Abs

/-
Laws of the single operations, on values that are known in part.
-/
namespace Go.Abs
open Go.RowKit

section
variable {P : Program} {t : TypeId} {H : AHeap}

theorem ground_int (k : IntKind) (a : Int) : ground (.int k a) = true := rfl
theorem ground_bool (b : Bool) : ground (.bool b) = true := rfl
theorem aGround_pure {args : List Value} {s : Sem Value} {v : Value} (ha : args.all ground = true) (hs : pureRun P s = some v) (hv : ground v = true) : aGround P args s H = some (v, H) := by
  unfold aGround
  rw [if_pos ha, hs]
  simp only [hv, if_true]

@[simp] theorem aBin_add (k : IntKind) (a b : Int) : aBin P .add t (.int k a) (.int k b) H = some (.int k (k.wrap (a + b)), H) :=
  aGround_pure rfl (by simp [binOp, Op.intArith, pureRun_pure]) rfl
@[simp] theorem aBin_sub (k : IntKind) (a b : Int) : aBin P .sub t (.int k a) (.int k b) H = some (.int k (k.wrap (a - b)), H) :=
  aGround_pure rfl (by simp [binOp, Op.intArith, pureRun_pure]) rfl
@[simp] theorem aBin_mul (k : IntKind) (a b : Int) : aBin P .mul t (.int k a) (.int k b) H = some (.int k (k.wrap (a * b)), H) :=
  aGround_pure rfl (by simp [binOp, Op.intArith, pureRun_pure]) rfl
theorem aBin_quo (k : IntKind) (a b : Int) (h : b ≠ 0) : aBin P .quo t (.int k a) (.int k b) H = some (.int k (k.wrap (a.tdiv b)), H) :=
  aGround_pure rfl (by simp [binOp, Op.intDiv, h, pureRun_pure]) rfl
theorem aBin_rem (k : IntKind) (a b : Int) (h : b ≠ 0) : aBin P .rem t (.int k a) (.int k b) H = some (.int k (a.tmod b), H) :=
  aGround_pure rfl (by simp [binOp, Op.intDiv, h, pureRun_pure]) rfl
def andI (k : IntKind) (a b : Int) : Int := k.wrap (BitVec.ofInt k.bits a &&& BitVec.ofInt k.bits b).toNat
def orI (k : IntKind) (a b : Int) : Int := k.wrap (BitVec.ofInt k.bits a ||| BitVec.ofInt k.bits b).toNat
def xorI (k : IntKind) (a b : Int) : Int := k.wrap (BitVec.ofInt k.bits a ^^^ BitVec.ofInt k.bits b).toNat
@[simp] theorem aBin_and (k : IntKind) (a b : Int) : aBin P .and t (.int k a) (.int k b) H = some (.int k (andI k a b), H) :=
  aGround_pure rfl (by simp [binOp, Op.intBits, pureRun_pure, andI]) rfl
@[simp] theorem aBin_or (k : IntKind) (a b : Int) : aBin P .or t (.int k a) (.int k b) H = some (.int k (orI k a b), H) :=
  aGround_pure rfl (by simp [binOp, Op.intBits, pureRun_pure, orI]) rfl
@[simp] theorem aBin_xor (k : IntKind) (a b : Int) : aBin P .xor t (.int k a) (.int k b) H = some (.int k (xorI k a b), H) :=
  aGround_pure rfl (by simp [binOp, Op.intBits, pureRun_pure, xorI]) rfl
@[simp] theorem aBin_eql (k : IntKind) (a b : Int) : aBin P .eql t (.int k a) (.int k b) H = some (.bool (decide (a = b)), H) :=
  aGround_pure rfl (by simp [binOp, Op.intCmp, pureRun_pure]; exact Bool.eq_iff_iff.2 (by simp)) rfl
@[simp] theorem aBin_neq (k : IntKind) (a b : Int) : aBin P .neq t (.int k a) (.int k b) H = some (.bool (!decide (a = b)), H) :=
  aGround_pure rfl (by simp [binOp, Op.intCmp, pureRun_pure, bne]; exact Bool.eq_iff_iff.2 (by simp)) rfl
@[simp] theorem aBin_lss (k : IntKind) (a b : Int) : aBin P .lss t (.int k a) (.int k b) H = some (.bool (decide (a < b)), H) :=
  aGround_pure rfl (by simp [binOp, Op.intCmp, pureRun_pure]) rfl
@[simp] theorem aBin_leq (k : IntKind) (a b : Int) : aBin P .leq t (.int k a) (.int k b) H = some (.bool (decide (a ≤ b)), H) :=
  aGround_pure rfl (by simp [binOp, Op.intCmp, pureRun_pure]) rfl
@[simp] theorem aBin_gtr (k : IntKind) (a b : Int) : aBin P .gtr t (.int k a) (.int k b) H = some (.bool (decide (b < a)), H) :=
  aGround_pure rfl (by simp [binOp, Op.intCmp, pureRun_pure]) rfl
@[simp] theorem aBin_geq (k : IntKind) (a b : Int) : aBin P .geq t (.int k a) (.int k b) H = some (.bool (decide (b ≤ a)), H) :=
  aGround_pure rfl (by simp [binOp, Op.intCmp, pureRun_pure]) rfl
theorem aBin_shl (k k' : IntKind) (a b : Int) (h : 0 ≤ b) : aBin P .shl t (.int k a) (.int k' b) H = some (.int k (k.wrap (a * 2 ^ (min b.toNat k.bits))), H) :=
  aGround_pure rfl (by simp [binOp, Op.shift, Int.not_lt.2 h, pureRun_pure]) rfl
theorem aBin_shr (k k' : IntKind) (a b : Int) (h : 0 ≤ b) : aBin P .shr t (.int k a) (.int k' b) H = some (.int k (a.fdiv (2 ^ (min b.toNat k.bits))), H) :=
  aGround_pure rfl (by simp [binOp, Op.shift, Int.not_lt.2 h, pureRun_pure]) rfl
@[simp] theorem aBin_streq (a b : ByteArray) : aBin P .eql t (.string a) (.string b) H = some (.bool (decide (a.data.toList = b.data.toList)), H) := Eq.trans rfl rfl
@[simp] theorem aBin_strne (a b : ByteArray) : aBin P .neq t (.string a) (.string b) H = some (.bool (!decide (a.data.toList = b.data.toList)), H) := Eq.trans rfl rfl
theorem aBin_stradd (a b : ByteArray) (h : a.data.toList.length + b.data.toList.length ≤ 9223372036854775807) : aBin P .add t (.string a) (.string b) H = some (.string ⟨(a.data.toList ++ b.data.toList).toArray⟩, H) := by
  simp only [aBin, aStr, if_pos h]
@[simp] theorem aPick_bool (b : Bool) (x y : Value) : aPick (.bool b) x y H = some (if b then x else y, H) := Eq.trans rfl rfl
@[simp] theorem aUn_not (b : Bool) : aUn P .not (.bool b) H = some (.bool (!b), H) :=
  aGround_pure rfl (by simp [Op.unary, pureRun_pure]) rfl
theorem pureRun_underlying {t : TypeId} {d : TypeDesc} (h : P.underlying t = some d) : pureRun P (underlying t) = some d := by
  unfold underlying
  rw [pureRun_bind, show pureRun P program = some P from rfl, Option.bind_some, h]
  rfl
theorem aConv_int {src dst : TypeId} {d : TypeDesc} {k : IntKind} (hs : P.underlying src = some d) (hd : P.underlying dst = some (.int k)) (k' : IntKind) (n : Int) : aConv P src dst (.int k' n) H = some (.int k (k.wrap n), H) := by
  refine aGround_pure rfl ?_ rfl
  rw [convert, pureRun_bind, pureRun_underlying hs, Option.bind_some, pureRun_bind, pureRun_underlying hd, Option.bind_some]
  rfl

/-! The heap. -/
/-- What lies below b stays; nothing is taken back. -/
def Keeps (b : Nat) (H H' : AHeap) : Prop := H.next ≤ H'.next ∧ ∀ r, r < b → H'.get r = H.get r
theorem Keeps.refl (b : Nat) (H : AHeap) : Keeps b H H := ⟨Nat.le_refl _, fun _ _ => rfl⟩
theorem Keeps.trans {b : Nat} {H1 H2 H3 : AHeap} (h : Keeps b H1 H2) (k : Keeps b H2 H3) : Keeps b H1 H3 := ⟨Nat.le_trans h.1 k.1, fun r hr => (k.2 r hr).trans (h.2 r hr)⟩
theorem Keeps.mono {b c : Nat} {H H' : AHeap} (h : Keeps b H H') (hc : c ≤ b) : Keeps c H H' := ⟨h.1, fun r hr => h.2 r (Nat.lt_of_lt_of_le hr hc)⟩
theorem Keeps.push {b : Nat} {H : AHeap} (o : AObj) (hb : b ≤ H.next) : Keeps b H (H.push o) :=
  ⟨by simp, fun r hr => by rw [AHeap.get_push, if_neg (by omega)]⟩
theorem Keeps.set {b : Nat} {H : AHeap} {r : Nat} (o : AObj) (hr : b ≤ r) : Keeps b H (H.set r o) :=
  ⟨by simp, fun k hk => by rw [AHeap.get_set, if_neg (by omega)]⟩

/-- A slice that reads so: n elements of esz cells each. -/
def Sl (H : AHeap) (esz n : Nat) (l : List Value) (v : Value) : Prop :=
  l.length = n * esz ∧ ((v = .slice none 0 0 ∧ n = 0) ∨ (v = .slice (some ⟨0, 0, some 0⟩) 0 0 ∧ n = 0) ∨
    ∃ r o cs own, v = .slice (some ⟨r, o, none⟩) n n ∧ r < H.next ∧ H.get r = some (.cells cs own esz) ∧ o + n * esz ≤ cs.length ∧ (cs.drop o).take (n * esz) = l)
/-- A slice of one's own, laid at b or behind it. -/
def So (b : Nat) (H : AHeap) (esz n : Nat) (l : List Value) (v : Value) : Prop :=
  l.length = n * esz ∧ ((v = .slice none 0 0 ∧ n = 0) ∨
    ∃ r anc, v = .slice (some ⟨r, 0, none⟩) n n ∧ b ≤ r ∧ r < H.next ∧ H.get r = some (.cells l (.own anc) esz))
theorem So.sl {b : Nat} {H : AHeap} {esz n : Nat} {l : List Value} {v : Value} (h : So b H esz n l v) : Sl H esz n l v := by
  obtain ⟨hl, h⟩ := h
  refine ⟨hl, ?_⟩
  rcases h with h | ⟨r, anc, hv, _, hr, hg⟩
  · exact .inl h
  · exact .inr (.inr ⟨r, 0, l, .own anc, hv, hr, hg, by omega, by rw [List.drop_zero, ← hl, List.take_length]⟩)
theorem Sl.keeps {H H' : AHeap} {esz n : Nat} {l : List Value} {v : Value} (h : Sl H esz n l v) (hk : Keeps H.next H H') : Sl H' esz n l v := by
  obtain ⟨hl, h⟩ := h
  refine ⟨hl, ?_⟩
  rcases h with h | h | ⟨r, o, cs, own, hv, hr, hg, h1, h2⟩
  · exact .inl h
  · exact .inr (.inl h)
  · exact .inr (.inr ⟨r, o, cs, own, hv, Nat.lt_of_lt_of_le hr hk.1, by rw [hk.2 r hr, hg], h1, h2⟩)
theorem So.keeps {b : Nat} {H H' : AHeap} {esz n : Nat} {l : List Value} {v : Value} (h : So b H esz n l v) (hk : Keeps H.next H H') : So b H' esz n l v := by
  obtain ⟨hl, h⟩ := h
  refine ⟨hl, ?_⟩
  rcases h with h | ⟨r, anc, hv, hb, hr, hg⟩
  · exact .inl h
  · exact .inr ⟨r, anc, hv, hb, Nat.lt_of_lt_of_le hr hk.1, by rw [hk.2 r hr, hg]⟩
theorem So.lower {b c : Nat} {H : AHeap} {esz n : Nat} {l : List Value} {v : Value} (h : So b H esz n l v) (hc : c ≤ b) : So c H esz n l v := by
  obtain ⟨hl, h⟩ := h
  refine ⟨hl, ?_⟩
  rcases h with h | ⟨r, anc, hv, hb, hr, hg⟩
  · exact .inl h
  · exact .inr ⟨r, anc, hv, Nat.le_trans hc hb, hr, hg⟩
theorem So.nil (b : Nat) (H : AHeap) (esz : Nat) : So b H esz 0 [] (.slice none 0 0) := ⟨by simp, .inl ⟨rfl, rfl⟩⟩

theorem aLen_sl {e : TypeId} {esz n : Nat} {l : List Value} {v : Value} (ht : P.underlying t = some (.slice e)) (h : Sl H esz n l v) : aLen P t v H = some (goInt n, H) := by
  obtain ⟨_, h⟩ := h
  rcases h with ⟨rfl, rfl⟩ | ⟨rfl, rfl⟩ | ⟨r, o, cs, own, rfl, _⟩ <;> simp only [aLen, ht] <;> rfl

/-- The address of an element, and what is read there. -/
theorem aIndexAddr_sl {e : TypeId} {esz n : Nat} {l : List Value} {v : Value} (ht : P.underlying t = some (.slice e)) (he : szOf P e = some esz) (h : Sl H esz n l v) {k : IntKind} {i : Int} (h0 : 0 ≤ i) (hi : i < n) :
    ∃ r o cs own, aIndexAddr P t v (.int k i) H = some (.pointer (some ⟨r, o, none⟩), H) ∧ H.get r = some (.cells cs own esz) ∧ o + esz ≤ cs.length ∧ (cs.drop o).take esz = (l.drop (i.toNat * esz)).take esz := by
  obtain ⟨hl, h⟩ := h
  rcases h with ⟨rfl, rfl⟩ | ⟨rfl, rfl⟩ | ⟨r, o, cs, own, rfl, hr, hg, h1, h2⟩
  · omega
  · omega
  · have hin : i.toNat < n := by omega
    have hmul : i.toNat * esz + esz ≤ n * esz := by rw [← Nat.succ_mul]; exact Nat.mul_le_mul_right _ hin
    refine ⟨r, o + i.toNat * esz, cs, own, ?_, hg, by omega, ?_⟩
    · simp only [aIndexAddr, ht, he]
      rw [if_pos ⟨h0, hi⟩]
    · rw [← h2, List.drop_take, List.take_take, List.drop_drop, Nat.min_eq_left (by omega)]
theorem aLoad_cell {te : TypeId} {r o esz : Nat} {cs : List Value} {own : Own} {v : Value} (ha : isAgg? P te = some false) (hg : H.get r = some (.cells cs own esz)) (hv : cs[o]? = some v) : aLoad P te (.pointer (some ⟨r, o, none⟩)) H = some (v, H) := by
  simp only [aLoad, hg, ha, hv]
theorem aLoad_agg {te : TypeId} {r o esz n : Nat} {cs : List Value} {own : Own} (ha : isAgg? P te = some true) (hs : szOf P te = some n) (hg : H.get r = some (.cells cs own esz)) (hn : o + n ≤ cs.length) :
    aLoad P te (.pointer (some ⟨r, o, none⟩)) H = some (.agg ((cs.drop o).take n).toArray, H) := by
  simp only [aLoad, hg, ha, hs, if_pos hn]

/-- A piece of a slice. -/
theorem aSlice_sl {e : TypeId} {esz n : Nat} {l : List Value} {v : Value} (ht : P.underlying t = some (.slice e)) (he : szOf P e = some esz) (h : Sl H esz n l v) {lo hi : Option Value} {i j : Int} (hlo : intOr 0 lo = some i) (hhi : intOr n hi = some j)
    (h0 : 0 ≤ i) (hij : i ≤ j) (hj : j ≤ n) : ∃ v', aSlice P t v lo hi H = some (v', H) ∧ Sl H esz (j.toNat - i.toNat) ((l.drop (i.toNat * esz)).take ((j.toNat - i.toNat) * esz)) v' := by
  obtain ⟨hl, h⟩ := h
  have e1 : j.toNat ≤ n := by omega
  have e2 : (i.toNat + (j.toNat - i.toNat)) * esz ≤ n * esz := Nat.mul_le_mul_right _ (by omega)
  rw [Nat.add_mul] at e2
  have hlen : ((l.drop (i.toNat * esz)).take ((j.toNat - i.toNat) * esz)).length = (j.toNat - i.toNat) * esz := by simp; omega
  rcases h with ⟨rfl, rfl⟩ | ⟨rfl, rfl⟩ | ⟨r, o, cs, own, rfl, hr, hg, h1, h2⟩
  · refine ⟨.slice none 0 0, ?_, hlen, .inl ⟨rfl, by omega⟩⟩
    simp only [aSlice, ht, he, hlo, hhi, if_pos h0, if_pos hij]
    rw [if_pos (by simpa using hj)]
    rfl
  · refine ⟨.slice (some ⟨0, 0, some 0⟩) 0 0, ?_, hlen, .inr (.inl ⟨rfl, by omega⟩)⟩
    simp only [aSlice, ht, he, hlo, hhi, if_pos h0, if_pos hij]
    rw [if_pos (by simpa using hj)]
    rfl
  · refine ⟨.slice (some ⟨r, o + i.toNat * esz, none⟩) (j.toNat - i.toNat) (j.toNat - i.toNat), ?_, hlen, .inr (.inr ⟨r, o + i.toNat * esz, cs, own, rfl, hr, hg, by omega, ?_⟩)⟩
    · simp only [aSlice, ht, he, hlo, hhi, if_pos h0, if_pos hij, if_pos hj, hg, if_true]
    · rw [← h2, List.drop_take, List.take_take, List.drop_drop, Nat.min_eq_left (by omega)]

theorem aCells_sl {esz n : Nat} {l : List Value} {v : Value} (h : Sl H esz n l v) : aCells v (n * esz) H = some l := by
  obtain ⟨hl, h⟩ := h
  rcases h with ⟨rfl, rfl⟩ | ⟨rfl, rfl⟩ | ⟨r, o, cs, own, rfl, hr, hg, h1, h2⟩
  · rw [Nat.zero_mul] at hl
    simp only [aCells, Nat.zero_mul, if_true, List.length_eq_zero_iff.1 hl]
  · rw [Nat.zero_mul] at hl
    simp only [aCells, Nat.zero_mul, if_true, List.length_eq_zero_iff.1 hl]
  · simp only [aCells, hg, if_pos h1, h2]
theorem sl_len {esz n : Nat} {l : List Value} {v : Value} (h : Sl H esz n l v) : ∃ a, v = .slice a n n := by
  obtain ⟨hl, h⟩ := h
  rcases h with ⟨rfl, rfl⟩ | ⟨rfl, rfl⟩ | ⟨r, o, cs, own, rfl, _⟩ <;> exact ⟨_, rfl⟩

/-- Appending to one's own. -/
theorem aAppend_so {b : Nat} {tx e ex : TypeId} {esz n k bytes : Nat} {l l2 : List Value} {s x z : Value} (ht : P.underlying t = some (.slice e)) (he : szOf P e = some esz) (hz : zeroOf P e = some z) (hzs : z.cells.size = esz) (hb : bytesOf P e = some bytes) (hp : 0 < esz)
    (htx : P.underlying tx = some (.slice ex)) (hs : So b H esz n l s) (hx : Sl H esz k l2 x) (h1 : l.all (·.oneCell') = true) (h2 : l2.all (·.oneCell') = true) (hbn : b ≤ H.next)
    (hlim : (n + k) * bytes ≤ 140737488355328) (hmax : n + k ≤ 4611686018427387903) :
    ∃ v H', aAppend P t tx s x H = some (v, H') ∧ Keeps b H H' ∧ So b H' esz (n + k) (l ++ l2) v := by
  have hsrc : srcCells P tx esz x H = some (k, l2) := by
    have := aCells_sl hx
    obtain ⟨a, rfl⟩ := sl_len hx
    simp only [srcCells, htx, this, h2, if_true]
  obtain ⟨hl, hs⟩ := hs
  have hl2 := hx.1
  have hlen : (l ++ l2).length = (n + k) * esz := by rw [List.length_append, hl, hl2, Nat.add_mul]
  have hel : elemOf? P t = some e := by simp only [elemOf?, ht]
  rcases hs with ⟨rfl, rfl⟩ | ⟨r, anc, rfl, hbr, hr, hg⟩
  · have hl0 : l = [] := by rw [Nat.zero_mul] at hl; exact List.length_eq_zero_iff.1 hl
    subst hl0
    by_cases hk : k = 0
    · subst hk
      have : l2 = [] := by rw [Nat.zero_mul] at hl2; exact List.length_eq_zero_iff.1 hl2
      subst this
      refine ⟨.slice none 0 0, H, ?_, Keeps.refl _ _, hlen, .inl ⟨rfl, rfl⟩⟩
      simp only [aAppend, hel, he, hz, hb, if_pos hp, if_pos hzs, hsrc, if_true]
    · refine ⟨.slice (some ⟨H.next, 0, none⟩) k k, H.push (.cells l2 (.own []) esz), ?_, Keeps.push _ hbn, hlen, .inr ⟨H.next, [], by rw [Nat.zero_add], hbn, by simp, by rw [AHeap.get_push, if_pos rfl]; rfl⟩⟩
      rw [Nat.zero_add] at hlim hmax
      simp only [aAppend, hel, he, hz, hb, if_pos hp, if_pos hzs, hsrc, if_neg hk, if_pos hlim, if_pos hmax]
  · refine ⟨.slice (some ⟨H.next, 0, none⟩) (n + k) (n + k), (H.set r (.cells l .ro esz)).push (.cells (l ++ l2) (.own (if n * esz = 0 then [] else r :: anc)) esz), ?_, (Keeps.set _ hbr).trans (Keeps.push _ (by simpa using hbn)), hlen,
      .inr ⟨H.next, _, rfl, hbn, by simp, by rw [AHeap.get_push, if_pos (by simp)]⟩⟩
    have htk : (l.drop 0).take (n * esz) = l := by rw [List.drop_zero, ← hl, List.take_length]
    have hap : appendTo H r (.own anc) l (0 + n * esz) (n * esz) esz = some (H.set r (.cells l .ro esz), if n * esz = 0 then [] else r :: anc) := by
      simp only [appendTo]
      rw [if_pos (by omega)]
    simp only [aAppend, hel, he, hz, hb, if_pos hp, if_pos hzs, hsrc, hg, if_true, htk, h1, if_pos hlim, if_pos hmax]
    rw [if_pos (by omega)]
    simp only [hap]

end
end Go.Abs

/-
Bytes: slices of bytes, strings; whole numbers' wrapping.
-/
namespace Go.Abs
open Go.RowKit

/-- Bytes as cells. -/
def bc (l : List UInt8) : List Value := l.map fun b => .int .u8 b.toNat
@[simp] theorem bc_length (l : List UInt8) : (bc l).length = l.length := by simp [bc]
@[simp] theorem bc_nil : bc [] = [] := rfl
@[simp] theorem bc_append (a b : List UInt8) : bc (a ++ b) = bc a ++ bc b := by simp [bc]
theorem bc_one (l : List UInt8) : (bc l).all (·.oneCell') = true := by
  simp [bc, List.all_eq_true, Value.oneCell']
/-- A slice of bytes. -/
def Sb (H : AHeap) (l : List UInt8) (v : Value) : Prop := Sl H 1 l.length (bc l) v
def Sob (b : Nat) (H : AHeap) (l : List UInt8) (v : Value) : Prop := So b H 1 l.length (bc l) v
theorem Sob.sb {b : Nat} {H : AHeap} {l : List UInt8} {v : Value} (h : Sob b H l v) : Sb H l v := So.sl h
theorem Sb.keeps {H H' : AHeap} {l : List UInt8} {v : Value} (h : Sb H l v) (hk : Keeps H.next H H') : Sb H' l v := Sl.keeps h hk
theorem Sob.keeps {b : Nat} {H H' : AHeap} {l : List UInt8} {v : Value} (h : Sob b H l v) (hk : Keeps H.next H H') : Sob b H' l v := So.keeps h hk
theorem Sob.lower {b c : Nat} {H : AHeap} {l : List UInt8} {v : Value} (h : Sob b H l v) (hc : c ≤ b) : Sob c H l v := So.lower h hc
theorem Sob.nil (b : Nat) (H : AHeap) : Sob b H [] (.slice none 0 0) := So.nil b H 1
theorem bytesOf_bc (l : List UInt8) : bytesOf? (bc l) = some l := by
  induction l with
  | nil => rfl
  | cons b l ih =>
    have : bc (b :: l) = .int .u8 b.toNat :: bc l := rfl
    rw [this]
    simp only [bytesOf?, byteOf?, ih]
    simp

section
variable {P : Program} {t : TypeId} {H : AHeap}
theorem aConv_bytes {src dst e : TypeId} (hs : P.underlying src = some (.slice e)) (he : P.underlying e = some (.int .u8)) (hd : P.underlying dst = some .string) {l : List UInt8} {v : Value} (h : Sb H l v) : aConv P src dst v H = some (.string ⟨l.toArray⟩, H) := by
  have hc := aCells_sl h
  rw [Nat.mul_one] at hc
  obtain ⟨a, rfl⟩ := sl_len h
  simp only [aConv, hs, hd, he, hc, bytesOf_bc]
theorem aConv_text {src dst e : TypeId} {d : TypeDesc} (hs : P.underlying src = some d) (he : P.underlying e = some (.int .u8)) (hd : P.underlying dst = some (.slice e)) (s : ByteArray) : ∃ v H', aConv P src dst (.string s) H = some (v, H') ∧ Keeps H.next H H' ∧ Sob H.next H' s.data.toList v := by
  refine ⟨.slice (some ⟨H.next, 0, none⟩) s.size s.size, H.push (.cells (byteCells s) (.own []) 1), ?_, Keeps.push _ (Nat.le_refl _), ?_⟩
  · simp only [aConv, hs, hd, he]
  · have e : s.size = s.data.toList.length := Array.length_toList.symm
    rw [e]
    exact ⟨by simp, .inr ⟨H.next, [], rfl, Nat.le_refl _, by simp, by rw [AHeap.get_push, if_pos rfl]; rfl⟩⟩
theorem Sob.push (l : List UInt8) {n : Nat} (hn : l.length = n) : Sob H.next (H.push (.cells (bc l) (.own []) 1)) l (.slice (some ⟨H.next, 0, none⟩) n n) := by
  subst hn
  exact ⟨by simp, .inr ⟨H.next, [], rfl, Nat.le_refl _, by simp, by rw [AHeap.get_push, if_pos rfl]⟩⟩
theorem aAppend_bytes {b : Nat} {tx e ex : TypeId} {z : Value} (ht : P.underlying t = some (.slice e)) (he : szOf P e = some 1) (hz : zeroOf P e = some z) (hzs : z.cells.size = 1) (hb : bytesOf P e = some 1)
    (htx : P.underlying tx = some (.slice ex)) {l l2 : List UInt8} {s x : Value} (hs : Sob b H l s) (hx : Sb H l2 x) (hbn : b ≤ H.next) (hlim : l.length + l2.length ≤ 140737488355328) :
    ∃ v H', aAppend P t tx s x H = some (v, H') ∧ Keeps b H H' ∧ Sob b H' (l ++ l2) v := by
  obtain ⟨v, H', h1, h2, h3⟩ := aAppend_so ht he hz hzs hb (by omega) htx hs hx (bc_one l) (bc_one l2) hbn (by omega) (by omega)
  refine ⟨v, H', h1, h2, ?_⟩
  rw [← bc_append] at h3
  unfold Sob
  rw [List.length_append]
  exact h3
/-- The byte at a place. -/
theorem aByte {e : TypeId} (ht : P.underlying t = some (.slice e)) (he : szOf P e = some 1) (ha : isAgg? P e = some false) {l : List UInt8} {v : Value} (h : Sb H l v) {k : IntKind} {i : Int} (h0 : 0 ≤ i) (hi : i < l.length) :
    ∃ p, aIndexAddr P t v (.int k i) H = some (p, H) ∧ aLoad P e p H = some (.int .u8 (l.getD i.toNat 0).toNat, H) := by
  obtain ⟨r, o, cs, own, h1, h2, h3, h4⟩ := aIndexAddr_sl ht he h h0 (k := k) hi
  refine ⟨_, h1, aLoad_cell ha h2 ?_⟩
  rw [Nat.mul_one] at h4
  have e1 : ((cs.drop o).take 1)[0]? = cs[o]? := by simp
  have e2 : (((bc l).drop i.toNat).take 1)[0]? = (bc l)[i.toNat]? := by simp
  have hlt : i.toNat < l.length := by omega
  rw [← e1, h4, e2]
  simp [bc, List.getElem?_eq_getElem hlt]
theorem aSlice_bytes {e : TypeId} (ht : P.underlying t = some (.slice e)) (he : szOf P e = some 1) {l : List UInt8} {v : Value} (h : Sb H l v) {lo hi : Option Value} {i j : Int} (hlo : intOr 0 lo = some i) (hhi : intOr l.length hi = some j)
    (h0 : 0 ≤ i) (hij : i ≤ j) (hj : j ≤ l.length) : ∃ v', aSlice P t v lo hi H = some (v', H) ∧ Sb H ((l.drop i.toNat).take (j.toNat - i.toNat)) v' := by
  obtain ⟨v', h1, h2⟩ := aSlice_sl ht he h hlo hhi h0 hij hj
  refine ⟨v', h1, ?_⟩
  have e1 : ((l.drop i.toNat).take (j.toNat - i.toNat)).length = j.toNat - i.toNat := by simp; omega
  unfold Sb
  rw [e1, show bc ((l.drop i.toNat).take (j.toNat - i.toNat)) = ((bc l).drop (i.toNat * 1)).take ((j.toNat - i.toNat) * 1) by simp [bc, List.map_take, List.map_drop]]
  exact h2
end
end Go.Abs

/-
Regions that draw their order, out of the text's order: which operations are to be asked again, and where.
-/
namespace Go.Abs
open Go.RowKit

abbrev TraceRow := List Value × AHeap × Value
/-- The pairs without an order: the first only reads, the second may change the heap. -/
def need (P : Program) (ops : Array Oper) : List (Nat × Nat) :=
  (List.range ops.toList.length).flatMap fun i => (List.range ops.toList.length).filterMap fun j => match ops.toList[i]?, ops.toList[j]? with
    | some oi, some oj => if !isCh P oi && isCh P oj && !(pre (masks ops.toList []) i j || pre (masks ops.toList []) j i) then some (i, j) else none
    | _, _ => none
def recheckAt (P : Program) (ops : Array Oper) (tr : List TraceRow) (Hs : List AHeap) (i j : Nat) : Bool :=
  match ops.toList[i]?, tr[i]?, Hs[if j < i then j else j + 1]? with
  | some o, some (T, _, v), some G => !Region.wanted o (ynd ops T) || recheck P T o v G
  | _, _, _ => false

section
variable {P : Program} {call : FuncId → List Value → M Value} {ops : Array Oper}

theorem aTrace_length : ∀ (l : List Oper) (T : List Value) (H : AHeap) (tr : List TraceRow) (T' : List Value) (H' : AHeap), aTrace P call ops l T H = some (tr, T', H') → tr.length = l.length := by
  intro l
  induction l with
  | nil => intro T H tr T' H' h; simp only [aTrace, Option.some.injEq, Prod.mk.injEq] at h; rw [← h.1]; rfl
  | cons o l ih =>
    intro T H tr T' H' h
    simp only [aTrace] at h
    split at h
    · split at h
      · split at h
        · rename_i ht
          simp only [Option.some.injEq, Prod.mk.injEq] at h
          rw [← h.1, List.length_cons, List.length_cons, ih _ _ _ _ _ ht]
        · cases h
      · cases h
    · split at h
      · rename_i ht
        simp only [Option.some.injEq, Prod.mk.injEq] at h
        rw [← h.1, List.length_cons, List.length_cons, ih _ _ _ _ _ ht]
      · cases h

theorem drawn_of {T T' : List Value} {H H' : AHeap} {tr : List TraceRow} (hd : drawOk P ops = true) (ht : aTrace P call ops ops.toList T H = some (tr, T', H'))
    (hn : ∀ p ∈ need P ops, recheckAt P ops tr (tr.map (·.2.1) ++ [H']) p.1 p.2 = true) : aDrawn P call ops T H = some (T', H') := by
  unfold aDrawn
  rw [if_pos hd, ht]
  dsimp only
  rw [if_pos]
  rw [List.all_eq_true]
  intro i hi
  have hi' : i < ops.toList.length := List.mem_range.1 hi
  have hlen := aTrace_length _ _ _ _ _ _ ht
  have ho : ops.toList[i]? = some ops.toList[i] := List.getElem?_eq_getElem hi'
  have htr : tr[i]? = some tr[i] := List.getElem?_eq_getElem (by omega)
  unfold chkOne
  rw [ho, htr]
  dsimp only
  split
  · rfl
  · rename_i hc
    rw [List.all_eq_true]
    intro j hj
    have hj' : j < ops.toList.length := List.mem_range.1 hj
    have hoj : ops.toList[j]? = some ops.toList[j] := List.getElem?_eq_getElem hj'
    rw [hoj]
    dsimp only
    split
    · rename_i hcond
      simp only [Bool.or_eq_true, Bool.not_eq_true', not_or, Bool.not_eq_true, Bool.not_eq_false] at hc
      have hmem : (i, j) ∈ need P ops := by
        unfold need
        rw [List.mem_flatMap]
        refine ⟨i, hi, List.mem_filterMap.2 ⟨j, hj, ?_⟩⟩
        rw [ho, hoj]
        dsimp only
        rw [if_pos]
        simp only [hc.1, Bool.not_false, Bool.true_and]
        exact hcond
      have := hn _ hmem
      unfold recheckAt at this
      rw [ho, htr] at this
      dsimp only at this
      cases hG : (tr.map (·.2.1) ++ [H'])[if j < i then j else j + 1]? with
      | none => rw [hG] at this; cases this
      | some G =>
        rw [hG] at this
        dsimp only at this ⊢
        rw [hc.2] at this
        simpa using this
    · rfl

theorem aTrace_cons {l rest : List Oper} {o : Oper} {T T2 : List Value} {H H1 H2 : AHeap} {v : Value} {tr : List TraceRow} (hl : l = o :: rest) (hs : (if Region.wanted o (ynd ops T) = true then aStep P call T o H else some (undef, H)) = some (v, H1))
    (hk : aTrace P call ops rest (putT T o.dst v) H1 = some (tr, T2, H2)) : aTrace P call ops l T H = some ((T, H, v) :: tr, T2, H2) := by
  subst hl
  simp only [aTrace]
  split at hs
  · rename_i hw
    rw [if_pos hw, hs]
    dsimp only
    rw [hk]
  · rename_i hw
    rw [if_neg hw]
    simp only [Option.some.injEq, Prod.mk.injEq] at hs
    rw [hs.1, hs.2, hk]
theorem aTrace_nil {T : List Value} {H : AHeap} : aTrace P call ops [] T H = some ([], T, H) := rfl

/-- A guarded step. -/
def gst (g : Value) (b : Bool) (s : M Value) (H : AHeap) : Option (Value × AHeap) := if (vb g == some b) = true then s H else some (undef, H)
@[simp] theorem gst_tt (s : M Value) (H : AHeap) : gst (.bool true) true s H = s H := rfl
@[simp] theorem gst_ff (s : M Value) (H : AHeap) : gst (.bool false) false s H = s H := rfl
@[simp] theorem gst_tf (s : M Value) (H : AHeap) : gst (.bool true) false s H = some (undef, H) := rfl
@[simp] theorem gst_ft (s : M Value) (H : AHeap) : gst (.bool false) true s H = some (undef, H) := rfl

theorem recheckAt_of {tr : List TraceRow} {Hs : List AHeap} {i j : Nat} {o : Oper} {T : List Value} {H0 G : AHeap} {v : Value} (ho : ops.toList[i]? = some o) (ht : tr[i]? = some (T, H0, v)) (hG : Hs[if j < i then j else j + 1]? = some G)
    (h : Region.wanted o (ynd ops T) = true → ∃ G', aOp P (evalT T) o G = some (v, G')) (hv : veqN 3 v v = true) : recheckAt P ops tr Hs i j = true := by
  unfold recheckAt
  rw [ho, ht, hG]
  dsimp only
  cases hw : Region.wanted o (ynd ops T) with
  | false => rfl
  | true =>
    obtain ⟨G', hg⟩ := h hw
    unfold recheck
    rw [hg]
    simpa using hv
/-- An operation that does not read the heap. -/
def HFree (s : M Value) : Prop := ∃ o : Option Value, ∀ H, s H = o.map fun v => (v, H)
theorem HFree.at {s : M Value} (hs : HFree s) {H H1 G : AHeap} {v : Value} (h : s H = some (v, H1)) : ∃ G', s G = some (v, G') := by
  obtain ⟨o, ho⟩ := hs
  rw [ho] at h
  cases o with
  | none => cases h
  | some w =>
    simp only [Option.map_some, Option.some.injEq, Prod.mk.injEq] at h
    exact ⟨G, by rw [ho, h.1]; rfl⟩
theorem HFree.atG {s : M Value} (hs : HFree s) {g : Value} {b : Bool} {H H1 G : AHeap} {v : Value} (h : gst g b s H = some (v, H1)) (hw : (vb g == some b) = true) : ∃ G', s G = some (v, G') := by
  unfold gst at h
  rw [if_pos hw] at h
  exact hs.at h
theorem hfree_ret (x : Value) : HFree (ret x) := ⟨some x, fun H => rfl⟩
theorem hfree_ground (args : List Value) (s : Sem Value) : HFree (aGround P args s) := by
  refine ⟨(aGround P args s AHeap.empty).map (·.1), fun H => ?_⟩
  unfold aGround
  split
  · split
    · split <;> rfl
    · rfl
  · rfl
theorem hfree_pick (c a b : Value) : HFree (aPick c a b) := by
  refine ⟨(aPick c a b AHeap.empty).map (·.1), fun H => ?_⟩
  unfold aPick
  split <;> rfl
theorem hfree_un (op : UnOp) (x : Value) : HFree (aUn P op x) := hfree_ground _ _
theorem hfree_bin (op : BinOp) (t : TypeId) (x y : Value) : HFree (aBin P op t x y) := by
  unfold aBin
  split
  · exact hfree_ground _ _
  · rename_i a b
    refine ⟨aStr op a b, fun H => ?_⟩
    dsimp only
    cases aStr op a b <;> rfl
  · cases hn : nilTest P op t x y with
    | some b => exact ⟨some (.bool b), fun H => rfl⟩
    | none => exact hfree_ground _ _
theorem hfree_extract (t : Value) (i : Nat) : HFree (aExtract t i) := by
  refine ⟨(aExtract t i AHeap.empty).map (·.1), fun H => ?_⟩
  unfold aExtract
  split
  · split <;> rfl
  · rfl
theorem hfree_field (t : TypeId) (x : Value) (f : Nat) : HFree (aField P t x f) := by
  refine ⟨(aField P t x f AHeap.empty).map (·.1), fun H => ?_⟩
  unfold aField
  split
  · split
    · split <;> rfl
    · rfl
  · rfl
theorem hfree_fieldAddr (t : TypeId) (x : Value) (f : Nat) : HFree (aFieldAddr P t x f) := by
  refine ⟨(aFieldAddr P t x f AHeap.empty).map (·.1), fun H => ?_⟩
  unfold aFieldAddr
  split
  · split
    · split
      · split <;> rfl
      · rfl
    · rfl
  · rfl
theorem hfree_indexAddr (t : TypeId) (x i : Value) : HFree (aIndexAddr P t x i) := by
  refine ⟨(aIndexAddr P t x i AHeap.empty).map (·.1), fun H => ?_⟩
  unfold aIndexAddr
  split
  · split
    · split <;> rfl
    · rfl
  · split
    · split <;> rfl
    · rfl
  · rfl
theorem veqN_refl : ∀ (v : Value), sg v = true → veqN 3 v v = true := by
  intro v h
  cases v <;> simp_all [veqN, sg]
end
end Go.Abs
