/-
Regions: in the text's order; and those that draw their order.
-/
import Derived.Test.YtjlhjebmbllkiaaAbs9
set_option linter.unusedVariables false
set_option linter.unusedSimpArgs false
namespace Go.Abs
open Go.RowKit

def putT (T : List Value) (d : Option Tmp) (v : Value) : List Value :=
  match d with
  | some d => T.set d v
  | none => T
def ynd (ops : Array Oper) (T : List Value) (j : Nat) : Option Bool :=
  match ((ops[j]?).bind (·.dst)).bind (T[·]?) with
  | some (.bool b) => some b
  | _ => none

def aOps (P : Program) (call : FuncId → List Value → M Value) (ops : Array Oper) : List Oper → List Value → AHeap → Option (List Value × AHeap)
  | [], T, H => some (T, H)
  | o :: rest, T, H =>
    if Region.wanted o (ynd ops T) then
      match aStep P call T o H with
      | some (v, H') => aOps P call ops rest (putT T o.dst v) H'
      | none => none
    else aOps P call ops rest (putT T o.dst undef) H

section
variable {P : Program} {B : Nat} {w0 : World} {m : Mp} {H H' : AHeap} {w : World}

theorem LR.put {T : List Value} {a : Act} (hT : LR m T a.tmps.toList) (d : Option Tmp) {v v' : Value} (hv : VR m v v') : LR m (putT T d v) (a.put d v').tmps.toList := by
  cases d with
  | none => exact hT
  | some d => simpa [putT, Act.put] using hT.set d hv
theorem ynd_eq {ops : Array Oper} {T : List Value} {a : Act} (hT : LR m T a.tmps.toList) (j : Nat) : yielded ops a.tmps j = ynd ops T j := by
  unfold yielded ynd
  cases hd : (ops[j]?).bind (·.dst) with
  | none => rfl
  | some d =>
    simp only [Option.bind_some]
    have := hT.2 d
    have e : T.length = a.tmps.size := by simpa using hT.1
    by_cases hlt : d < T.length
    · have hlt' : d < a.tmps.size := by rw [← e]; exact hlt
      simp only [List.getD_eq_getElem?_getD, Array.getElem?_toList, List.getElem?_eq_getElem hlt, Array.getElem?_eq_getElem hlt', Option.getD_some] at this
      rw [List.getElem?_eq_getElem hlt, Array.getElem?_eq_getElem hlt']
      generalize T[d] = u at *
      generalize a.tmps[d] = u' at *
      cases this <;> rfl
    · have hlt' : ¬ d < a.tmps.size := by rw [← e]; exact hlt
      rw [List.getElem?_eq_none (Nat.le_of_not_lt hlt), Array.getElem?_eq_none (Nat.le_of_not_lt hlt')]

/-- What stands behind a piece of the interpreter's run. -/
def Post (B : Nat) (w0 : World) (m : Mp) (T' : List Value) (H' : AHeap) (a' : Act) (w' : World) : Prop :=
  ∃ m', m.le m' ∧ LR m' T' a'.tmps.toList ∧ a'.defers = [] ∧ Rel B w0 m' H' w'

theorem sim_ops {call : FuncId → List Value → M Value} (hc : CallOK P B w0 call) {ops : Array Oper} {Q : Exit → Act → World → Prop} : ∀ (l : List Oper) (T T' : List Value) (H H' : AHeap),
    aOps P call ops l T H = some (T', H') → ∀ (m : Mp) (a : Act) (w : World), LR m T a.tmps.toList → a.defers = [] → Rel B w0 m H w →
    (∀ a' w', Post B w0 m T' H' a' w' → Q .normal a' w') → wpList P ops Q l a w := by
  intro l
  induction l with
  | nil =>
    intro T T' H H' h m a w hT hd hr hQ
    simp only [aOps, Option.some.injEq, Prod.mk.injEq] at h
    obtain ⟨rfl, rfl⟩ := h
    exact wpList_nil (hQ a w ⟨m, Mp.le_refl m, hT, hd, hr⟩)
  | cons o rest ih =>
    intro T T' H H' h m a w hT hd hr hQ
    simp only [aOps] at h
    unfold wpList
    have hy : Region.wanted o (yielded ops a.tmps) = Region.wanted o (ynd ops T) := by
      unfold Region.wanted
      cases o.guard with
      | none => rfl
      | some g => simp only [ynd_eq hT]
    rw [hy]
    split at h
    · rename_i hw
      rw [if_pos hw]
      split at h
      · rename_i v H1 hs
        refine .inl (step_wp hc hr hT hs ?_)
        intro v' w' m' hv hm hr'
        refine ih _ _ _ _ h m' _ w' ((hT.mono hm).put o.dst hv) ?_ hr' ?_
        · cases o.dst <;> exact hd
        · rintro a' w'' ⟨m2, h1, h2, h3, h4⟩
          exact hQ a' w'' ⟨m2, Mp.le_trans hm h1, h2, h3, h4⟩
      · cases h
    · rename_i hw
      rw [if_neg hw]
      refine ih _ _ _ _ h m _ w (hT.put o.dst VR.undef) ?_ hr hQ
      cases o.dst <;> exact hd

theorem sim_region {call : FuncId → List Value → M Value} (hc : CallOK P B w0 call) {id : Nat} {ops : Array Oper} {T T' : List Value} {Q : Exit → Act → World → Prop} {a : Act}
    (h : aOps P call ops ops.toList T H = some (T', H')) (hT : LR m T a.tmps.toList) (hd : a.defers = []) (hr : Rel B w0 m H w) (hQ : ∀ a' w', Post B w0 m T' H' a' w' → Q .normal a' w') :
    (Code.region id ops false).wp P Q a w := wp_region_list (sim_ops hc _ _ _ _ _ h m a w hT hd hr hQ)

end
end Go.Abs
