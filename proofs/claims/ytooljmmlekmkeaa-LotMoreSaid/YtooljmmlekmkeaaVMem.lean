/-
What comes in; new objects of memory: small facts for all seats.
-/
import Derived.Test.YtooljmmlekmkeaaValB
set_option linter.unusedVariables false
set_option linter.unusedSimpArgs false
namespace Go.Abs
open Go.RowKit

theorem in_slc {b : Nat} {e : Ty} {α : Type} (f : α → List Value) (Q : α → Prop) (h : ∀ x, e.Good x → ∃ y, e.vval x = f y ∧ Q y) (hf : ∀ y, (f y).length = e.sz) (x : (Ty.slc b e).Val) (hg : (Ty.slc b e).Good x) :
    ∃ k l, Okl k l ∧ k ≠ 2 ∧ (Ty.slc b e).vval x = [vs f e.sz k l] ∧ l.length * b ≤ 140737488351232 ∧ ∀ y ∈ l, Q y := by
  match x, hg with
  | none, _ => exact ⟨0, [], Okl.none, by decide, rfl, by simp, fun y hy => by cases hy⟩
  | some xs, hg =>
    obtain ⟨h1, h2, h3⟩ := hg
    have key : ∀ xs : List e.Val, (∀ n ∈ xs, e.Good n) → ∃ l : List α, xs.flatMap e.vval = l.flatMap f ∧ l.length = xs.length ∧ ∀ y ∈ l, Q y := by
      intro xs
      induction xs with
      | nil => intro _; exact ⟨[], rfl, rfl, fun y hy => by cases hy⟩
      | cons n xs ih =>
        intro hn
        obtain ⟨y, hy, hq⟩ := h n (hn n (by simp))
        obtain ⟨l, k1, k2, k3⟩ := ih (fun m hm => hn m (by simp [hm]))
        refine ⟨y :: l, by rw [List.flatMap_cons, List.flatMap_cons, hy, k1], by simp [k2], fun z hz => ?_⟩
        rcases List.mem_cons.1 hz with rfl | hz
        · exact hq
        · exact k3 z hz
    obtain ⟨l, k1, k2, k3⟩ := key xs h3
    refine ⟨1, l, Okl.read, by decide, ?_, by rw [k2]; exact h1, k3⟩
    show [SL 1 e.sz (List.length xs) (List.flatMap e.vval xs)] = [_]
    unfold vs
    rw [sv1, k1, k2]

theorem splice_all {cs xs : List Value} (h : cs.length = xs.length) : splice cs 0 xs = xs := by
  unfold splice
  rw [List.take_zero, List.nil_append, Nat.zero_add, ← h, List.drop_length, List.append_nil]
theorem one_sv {k e n : Nat} {cs : List Value} : (sv k e n cs).oneCell' = true := by unfold sv; split <;> rfl
theorem one_vs {α : Type} {f : α → List Value} {e k : Nat} {l : List α} : (vs f e k l).oneCell' = true := one_sv
theorem one_int {k : IntKind} {n : Int} : (Value.int k n).oneCell' = true := rfl
theorem one_bool {b : Bool} : (Value.bool b).oneCell' = true := rfl
theorem one_string {s : ByteArray} : (Value.string s).oneCell' = true := rfl
theorem one_slice {a : Option Addr} {n c : Nat} : (Value.slice a n c).oneCell' = true := rfl
theorem one_pointer {a : Option Addr} : (Value.pointer a).oneCell' = true := rfl
/-- A new object is filled. -/
theorem new_store {P : Program} {t : TypeId} {z xs : List Value} {x : Value} (S : AHeap) (hx : x.cells.toList = xs) (hs : szOf P t = some z.length) (hl : xs.length = z.length) (h1 : xs.all (·.oneCell') = true) :
    ∃ S2, vStore P t (.pointer (some ⟨S.next, 0, none⟩)) x (S.push (.cells z (.own []) 0)) = some (undef, S2) ∧ S2.get S.next = some (.cells xs (.own []) 0) ∧ Ext S S2 ∧ S.next < S2.next := by
  have hg : (S.push (.cells z (.own []) 0)).get S.next = some (.cells z (.own []) 0) := by rw [AHeap.get_push, if_pos rfl]
  refine ⟨_, store_mem hg hs (by rw [← Array.length_toList, hx, hl]) (by rw [hx]; exact h1) (by simp), ?_, (Ext.push S _).set (Nat.le_refl _) _, by simp [AHeap.kills]⟩
  rw [AHeap.get_set, if_pos rfl, hx, splice_all hl.symm]
/-- An object gets other cells. -/
theorem mem_store {P : Program} {t : TypeId} {q o n : Nat} {cs : List Value} {e : Nat} {x : Value} {S S0 : AHeap} (hg : S.get q = some (.cells cs (.own []) e)) (hs : szOf P t = some n) (hn : x.cells.size = n) (h1 : x.cells.toList.all (·.oneCell') = true) (hle : o + n ≤ cs.length) (hE : Ext S0 S) (hq : S0.next ≤ q) :
    ∃ S2, vStore P t (.pointer (some ⟨q, o, none⟩)) x S = some (undef, S2) ∧ S2.get q = some (.cells (splice cs o x.cells.toList) (.own []) e) ∧ Ext S0 S2 ∧ S2.next = S.next ∧ ∀ k, k ≠ q → S2.get k = S.get k := by
  exact ⟨_, store_mem hg hs hn h1 hle, by rw [AHeap.get_set, if_pos rfl], hE.set hq _, by simp [AHeap.kills], fun k hk => by rw [AHeap.get_set, if_neg hk]; rfl⟩
/-- A boxed value. -/
theorem box_at (x : Value) (S : AHeap) : ∃ S2, aBox x S = some (.pointer (some ⟨S.next, 0, none⟩), S2) ∧ S2.get S.next = some (.cells x.cells.toList (.own []) 0) ∧ Ext S S2 ∧ S.next < S2.next :=
  ⟨_, rfl, by rw [AHeap.get_push, if_pos rfl], Ext.push _ _, by simp⟩
end Go.Abs
