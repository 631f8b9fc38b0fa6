/-
Slices in memory, and calls that they are lent to.
-/
import Derived.Test.YtooljmmlekmkeaaValB
set_option linter.unusedVariables false
set_option linter.unusedSimpArgs false
namespace Go.Abs
open Go.RowKit

/-- A slice in memory. -/
abbrev ms (q n : Nat) : Value := .slice (some ⟨q, 0, none⟩) n n
theorem nh_sv {k e n : Nat} {cs : List Value} : isHs (sv k e n cs) = false := by unfold sv; split <;> rfl
theorem nh_vs {α : Type} {f : α → List Value} {e k : Nat} {l : List α} : isHs (vs f e k l) = false := nh_sv
theorem cz_nh {P : Program} {O : Ora} {g : FuncId} {args : List Value} {S : AHeap} {r : Option (Value × AHeap)} (h : vlim P O g args S = r) (ha : args.all (fun x => !isHs x) = true) : callZ (vlim P O) g args S = r := (callZ_nh ha).trans h
theorem freeze_ms {α : Type} {f : α → List Value} {e q : Nat} {l : List α} {rest : List Value} {anc : List Nat} {S : AHeap} (hf : ∀ x, (f x).length = e) (hg : S.get q = some (.cells (l.flatMap f ++ rest) (.own anc) e)) :
    freeze1 (ms q l.length) S = some (vs f e 1 l, S.set q .dead) := by
  have hl := flatMap_len hf l
  rw [freeze1_hs hg (by rw [List.length_append, hl]; omega), List.drop_zero, ← hl, List.take_left]
  rfl
theorem freezeL_1 {x y : Value} {args : List Value} {S S1 : AHeap} (h : freeze1 x S = some (y, S1)) (ha : args.all (fun x => !isHs x) = true) : freezeL (x :: args) S = some (y :: args, S1) := by
  simp only [freezeL, h, freezeL_nh ha]
theorem freezeL_2 {x y x2 y2 : Value} {args : List Value} {S S1 S2 : AHeap} (h : freeze1 x S = some (y, S1)) (h2 : freeze1 x2 S1 = some (y2, S2)) (ha : args.all (fun x => !isHs x) = true) : freezeL (x :: x2 :: args) S = some (y :: y2 :: args, S2) := by
  simp only [freezeL, h, h2, freezeL_nh ha]
section
variable {P : Program} {O : Ora} {α : Type} {f : α → List Value} {e q : Nat} {l : List α} {rest : List Value} {anc : List Nat} {S : AHeap}
/-- A call that a slice in memory is lent to. -/
theorem lend1 (hf : ∀ x, (f x).length = e) (hg : S.get q = some (.cells (l.flatMap f ++ rest) (.own anc) e)) {g : FuncId} {args : List Value} {v : Value} (ha : args.all (fun x => !isHs x) = true) (hv : ground v = true) (hc : ∀ S, vlim P O g (vs f e 1 l :: args) S = some (v, S)) :
    callZ (vlim P O) g (ms q l.length :: args) S = some (v, S) :=
  callZ_lend (freezeL_1 (freeze_ms hf hg) ha) (hc _) (by simp [isHs]) hv rfl
theorem lend2 (hf : ∀ x, (f x).length = e) (hg : S.get q = some (.cells (l.flatMap f ++ rest) (.own anc) e)) {α2 : Type} {f2 : α2 → List Value} {e2 q2 : Nat} {l2 : List α2} {rest2 : List Value} {anc2 : List Nat} (hf2 : ∀ x, (f2 x).length = e2) (hg2 : S.get q2 = some (.cells (l2.flatMap f2 ++ rest2) (.own anc2) e2)) (hne : q2 ≠ q)
    {g : FuncId} {args : List Value} {v : Value} (ha : args.all (fun x => !isHs x) = true) (hv : ground v = true) (hc : ∀ S, vlim P O g (vs f e 1 l :: vs f2 e2 1 l2 :: args) S = some (v, S)) :
    callZ (vlim P O) g (ms q l.length :: ms q2 l2.length :: args) S = some (v, S) :=
  callZ_lend (freezeL_2 (freeze_ms hf hg) (freeze_ms hf2 (by rw [AHeap.get_set, if_neg hne]; exact hg2)) ha) (hc _) (by simp [isHs]) hv rfl
end
end Go.Abs
