/-
Words for the shallow forms, and how a structured piece of code goes on.
-/
import Derived.Test.YtjlhjebmbllkiaaAbs18
set_option linter.unusedVariables false
set_option linter.unusedSimpArgs false
namespace Go.Abs
open Go.RowKit

/-- The regions of code, by their numbers. -/
def regs : Code → List (Nat × Array Oper)
  | .region i ops _ => [(i, ops)]
  | .seq x y => regs x ++ regs y
  | .cond _ x y => regs x ++ regs y
  | .block _ c => regs c
  | .loop c => regs c
  | _ => []
def reg (f : Func) (i : Nat) : Array Oper :=
  match f.body with
  | some c => match (regs c).find? (fun p => Nat.beq p.1 i) with
    | some p => p.2
    | none => #[]
  | none => #[]

section
variable {R : Type} {P : Program}

def andThen (s : Option (Value × AHeap)) (K : Value → AHeap → Option R) : Option R :=
  match s with
  | some (v, H) => K v H
  | none => none
@[simp] theorem andThen_some (v : Value) (H : AHeap) (K : Value → AHeap → Option R) : andThen (some (v, H)) K = K v H := Eq.trans rfl rfl
def vb (v : Value) : Option Bool :=
  match v with
  | .bool b => some b
  | _ => none
/-- A guarded operation. -/
def gd (v : Value) (b : Bool) (s : M Value) (H : AHeap) (K : Value → AHeap → Option R) : Option R :=
  if (vb v == some b) = true then andThen (s H) K else K undef H
@[simp] theorem gd_tt (s : M Value) (H : AHeap) (K : Value → AHeap → Option R) : gd (.bool true) true s H K = andThen (s H) K := Eq.trans rfl rfl
@[simp] theorem gd_ff (s : M Value) (H : AHeap) (K : Value → AHeap → Option R) : gd (.bool false) false s H K = andThen (s H) K := Eq.trans rfl rfl
@[simp] theorem gd_tf (s : M Value) (H : AHeap) (K : Value → AHeap → Option R) : gd (.bool true) false s H K = K undef H := Eq.trans rfl rfl
@[simp] theorem gd_ft (s : M Value) (H : AHeap) (K : Value → AHeap → Option R) : gd (.bool false) true s H K = K undef H := Eq.trans rfl rfl
@[simp] theorem gd_ut (s : M Value) (b : Bool) (H : AHeap) (K : Value → AHeap → Option R) : gd undef b s H K = K undef H := Eq.trans rfl rfl
@[simp] theorem ret_run {α : Type} (a : α) (H : AHeap) : ret a H = some (a, H) := Eq.trans rfl rfl
def aDyn (call : FuncId → List Value → M Value) (f : Value) (args : List Value) : M Value := fun H =>
  match f with
  | .func (.func g) first captured => call g (first.toList ++ args ++ captured.toList) H
  | _ => none

theorem list_getD (T : List Value) (n : Nat) (h : T.length = n) : T = (List.range n).map (T.getD · undef) := by
  apply List.ext_getElem
  · simp [h]
  · intro i h1 h2
    simp [List.getElem?_eq_getElem h1]
/-- An operation of a region, by its place. -/
def opAt (f : Func) (i k : Nat) : Oper := (reg f i).toList.getD k default
theorem aOps_pure {call : FuncId → List Value → M Value} {ops : Array Oper} {l rest : List Oper} {o : Oper} {T : List Value} {H : AHeap} {d : Nat} {v : Value} {r : Option (List Value × AHeap)} (hl : l = o :: rest) (hg : o.guard = none) (hd : o.dst = some d)
    (hs : aStep P call T o H = some (v, H)) (hK : aOps P call ops rest (T.set d v) H = r) : aOps P call ops l T H = r := by
  subst hl
  simp only [aOps, Region.wanted, hg, if_true, hs, hd, putT]
  exact hK
theorem aOps_do {call : FuncId → List Value → M Value} {ops : Array Oper} {l rest : List Oper} {o : Oper} {T : List Value} {H : AHeap} {d : Nat} {s : Option (Value × AHeap)} {K : Value → AHeap → Option (List Value × AHeap)} (hl : l = o :: rest) (hg : o.guard = none) (hd : o.dst = some d)
    (hs : aStep P call T o H = s) (hK : ∀ v H1, aOps P call ops rest (T.set d v) H1 = K v H1) : aOps P call ops l T H = andThen s K := by
  subst hl
  subst hs
  simp only [aOps, Region.wanted, hg, if_true, hd, putT, hK]
  rfl
theorem aOps_doN {call : FuncId → List Value → M Value} {ops : Array Oper} {l rest : List Oper} {o : Oper} {T : List Value} {H : AHeap} {s : Option (Value × AHeap)} {K : Value → AHeap → Option (List Value × AHeap)} (hl : l = o :: rest) (hg : o.guard = none) (hd : o.dst = none)
    (hs : aStep P call T o H = s) (hK : ∀ v H1, aOps P call ops rest T H1 = K v H1) : aOps P call ops l T H = andThen s K := by
  subst hl
  subst hs
  simp only [aOps, Region.wanted, hg, if_true, hd, putT]
  cases aStep P call T o H with
  | none => rfl
  | some r => exact hK r.1 r.2
theorem aOps_gd {call : FuncId → List Value → M Value} {ops : Array Oper} {l rest : List Oper} {o : Oper} {T : List Value} {H : AHeap} {d j : Nat} {b : Bool} {g : Value} {s : M Value} {K : Value → AHeap → Option (List Value × AHeap)} (hl : l = o :: rest) (hg : o.guard = some (j, b)) (hd : o.dst = some d)
    (hy : ynd ops T j = vb g) (hs : aStep P call T o H = s H) (hK : ∀ v H1, aOps P call ops rest (T.set d v) H1 = K v H1) : aOps P call ops l T H = gd g b s H K := by
  subst hl
  simp only [aOps, Region.wanted, hg, hy, hs, hd, putT, hK, gd]
  rfl
theorem aOps_gdN {call : FuncId → List Value → M Value} {ops : Array Oper} {l rest : List Oper} {o : Oper} {T : List Value} {H : AHeap} {j : Nat} {b : Bool} {g : Value} {s : M Value} {K : Value → AHeap → Option (List Value × AHeap)} (hl : l = o :: rest) (hg : o.guard = some (j, b)) (hd : o.dst = none)
    (hy : ynd ops T j = vb g) (hs : aStep P call T o H = s H) (hK : ∀ v H1, aOps P call ops rest T H1 = K v H1) : aOps P call ops l T H = gd g b s H K := by
  subst hl
  simp only [aOps, Region.wanted, hg, hy, hs, hd, putT, gd]
  split
  · cases s H with
    | none => rfl
    | some r => exact hK r.1 r.2
  · exact hK undef H

/-- What code has come to, and what goes on behind it. -/
def regV (s : Option (List Value × AHeap)) : St :=
  match s with
  | some (T, H) => some (.normal, T, H)
  | none => none
def seqV (s : St) (f : List Value → AHeap → St) : St :=
  match s with
  | some (.normal, T, H) => f T H
  | r => r
def blockV (id : Nat) (s : St) : St :=
  match s with
  | some (.exit id', T, H) => if id' = id then some (.normal, T, H) else some (.exit id', T, H)
  | r => r
def condV (v : Value) (s1 s2 : St) : St :=
  match v with
  | .bool true => s1
  | .bool false => s2
  | _ => none
@[simp] theorem regV_some (T : List Value) (H : AHeap) : regV (some (T, H)) = some (.normal, T, H) := Eq.trans rfl rfl
@[simp] theorem seqV_normal (T : List Value) (H : AHeap) (f : List Value → AHeap → St) : seqV (some (.normal, T, H)) f = f T H := Eq.trans rfl rfl
@[simp] theorem seqV_exit (i : Nat) (T : List Value) (H : AHeap) (f : List Value → AHeap → St) : seqV (some (.exit i, T, H)) f = some (.exit i, T, H) := Eq.trans rfl rfl
@[simp] theorem seqV_ret (T : List Value) (H : AHeap) (f : List Value → AHeap → St) : seqV (some (.ret, T, H)) f = some (.ret, T, H) := Eq.trans rfl rfl
@[simp] theorem blockV_normal (i : Nat) (T : List Value) (H : AHeap) : blockV i (some (.normal, T, H)) = some (.normal, T, H) := Eq.trans rfl rfl
@[simp] theorem blockV_ret (i : Nat) (T : List Value) (H : AHeap) : blockV i (some (.ret, T, H)) = some (.ret, T, H) := Eq.trans rfl rfl
@[simp] theorem blockV_exit (i j : Nat) (T : List Value) (H : AHeap) : blockV i (some (.exit j, T, H)) = if j = i then some (.normal, T, H) else some (.exit j, T, H) := Eq.trans rfl rfl
@[simp] theorem condV_true (s1 s2 : St) : condV (.bool true) s1 s2 = s1 := Eq.trans rfl rfl
@[simp] theorem condV_false (s1 s2 : St) : condV (.bool false) s1 s2 = s2 := Eq.trans rfl rfl
@[simp] theorem codeV_skip (T : List Value) (H : AHeap) : codeV P .skip T H = some (.normal, T, H) := Eq.trans rfl rfl
@[simp] theorem codeV_ret (T : List Value) (H : AHeap) : codeV P .ret T H = some (.ret, T, H) := Eq.trans rfl rfl
@[simp] theorem codeV_exit (i : Nat) (T : List Value) (H : AHeap) : codeV P (.exit i) T H = some (.exit i, T, H) := Eq.trans rfl rfl
@[simp] theorem codeV_region (i : Nat) (ops : Array Oper) (T : List Value) (H : AHeap) : codeV P (.region i ops false) T H = regV (aOps P (lim P) ops ops.toList T H) := Eq.trans rfl rfl
@[simp] theorem codeV_drawn (i : Nat) (ops : Array Oper) (T : List Value) (H : AHeap) : codeV P (.region i ops true) T H = regV (aDrawn P (lim P) ops T H) := Eq.trans rfl rfl
@[simp] theorem codeV_seq (x y : Code) (T : List Value) (H : AHeap) : codeV P (.seq x y) T H = seqV (codeV P x T H) (codeV P y) := Eq.trans rfl rfl
@[simp] theorem codeV_block (i : Nat) (c : Code) (T : List Value) (H : AHeap) : codeV P (.block i c) T H = blockV i (codeV P c T H) := Eq.trans rfl rfl
@[simp] theorem codeV_loop (c : Code) (T : List Value) (H : AHeap) : codeV P (.loop c) T H = loopV (codeV P c) T H := Eq.trans rfl rfl
@[simp] theorem codeV_cond (t : Tmp) (x y : Code) (T : List Value) (H : AHeap) : codeV P (.cond (.tmp t) x y) T H = condV (T.getD t undef) (codeV P x T H) (codeV P y T H) := by
  simp only [codeV, okArg, if_true, evalT]
  rfl
end
end Go.Abs
