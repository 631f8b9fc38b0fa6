/-
Numbers in order; who wins where, with one more winner.
-/
import Derived.Test.YtooljmmlekmkeaaVL4
set_option linter.unusedVariables false
set_option linter.unusedSimpArgs false
namespace Go.Proofs.Ytooljmmlekmkeaa
open Go.Abs

theorem ints_nodup : ∀ (m : Nat) (i : Int), (ints i m).Nodup
  | 0, _ => List.nodup_nil
  | m + 1, i => by
    rw [ints, List.nodup_cons]
    exact ⟨fun h => by have := (mem_ints m (i + 1) i).1 h; omega, ints_nodup m (i + 1)⟩
theorem mem_winners {l : List Int} {s n : Int} : n ∈ winners l s ↔ (0 ≤ n ∧ n < 7) ∧ winB l s n = true := by
  unfold winners
  rw [List.mem_filter, mem_ints]
  simp
theorem two_of {w : List Int} (hn : w.Nodup) (h : 1 < w.length) : ∃ a b, a ∈ w ∧ b ∈ w ∧ a ≠ b := by
  match w, hn, h with
  | a :: b :: w, hn, _ =>
    rw [List.nodup_cons] at hn
    exact ⟨a, b, by simp, by simp, fun h => hn.1 (by simp [h])⟩
theorem one_of {w : List Int} (h : w.length ≤ 1) {a b : Int} (ha : a ∈ w) (hb : b ∈ w) : a = b := by
  match w, h with
  | [x], _ => rw [List.mem_singleton.1 ha, List.mem_singleton.1 hb]
theorem single_one {l who : List Int} {m : Nat} (h : single l who 1 m = true) {s : Int} (h1 : 1 ≤ s) (h2 : s ≤ m) : (winners l s).length ≤ 1 := by
  unfold single at h
  have := List.all_eq_true.1 h s ((mem_ints _ _ _).2 (by omega))
  match winners l s, this with
  | [], _ => simp
  | [x], _ => simp
  | x :: y :: w, h => simp [oneOf] at h

/-- One more winner. -/
def orD (d node : Int) : Int := orI .i64 d (IntKind.i64.wrap (1 * 2 ^ (min node.toNat (IntKind.bits .i64))))
theorem orD0 : ∀ d : Fin 128, ∀ n : Fin 7, (decide (0 ≤ orD (d.val : Int) (n.val : Int) ∧ orD (d.val : Int) (n.val : Int) ≤ 127) && decide (∀ j : Fin 7, (orD (d.val : Int) (n.val : Int)).toNat.testBit j.val = (d.val.testBit j.val || decide (j = n)))) = true := by decide +kernel
theorem orD_ok {d n : Int} (h0 : 0 ≤ d) (h1 : d ≤ 127) (n0 : 0 ≤ n) (n7 : n < 7) : 0 ≤ orD d n ∧ orD d n ≤ 127 ∧ ∀ j : Int, 0 ≤ j → j < 7 → (orD d n).toNat.testBit j.toNat = (d.toNat.testBit j.toNat || decide (j = n)) := by
  have := orD0 ⟨d.toNat, by omega⟩ ⟨n.toNat, by omega⟩
  simp only [Int.toNat_of_nonneg h0, Int.toNat_of_nonneg n0, Bool.and_eq_true, decide_eq_true_eq] at this
  refine ⟨this.1.1, this.1.2, fun j j0 j7 => ?_⟩
  have h := this.2 ⟨j.toNat, by omega⟩
  simp only [Fin.mk.injEq] at h
  rw [h]
  congr 1
  rw [decide_eq_decide]
  omega
def moreL (l : List Int) (slot node : Int) : List Int := l.set (slot - 1).toNat (orD (l.getD (slot - 1).toNat 0) node)
section
variable {l : List Int} {slot node : Int}
theorem moreL_len : (moreL l slot node).length = l.length := by simp [moreL]
theorem moreL_in (hd : ∀ d ∈ l, 0 ≤ d ∧ d ≤ 127) (h1 : 1 ≤ slot) (h2 : slot ≤ l.length) (n0 : 0 ≤ node) (n7 : node < 7) : ∀ d ∈ moreL l slot node, 0 ≤ d ∧ d ≤ 127 := by
  intro d h
  obtain ⟨g1, g2⟩ := getD_in hd (i := slot - 1) (by omega) (by omega)
  have := orD_ok g1 g2 n0 n7
  rcases List.mem_or_eq_of_mem_set h with h | h
  · exact hd d h
  · rw [h]; exact ⟨this.1, this.2.1⟩
theorem moreL_win (hd : ∀ d ∈ l, 0 ≤ d ∧ d ≤ 127) (h1 : 1 ≤ slot) (h2 : slot ≤ l.length) (n0 : 0 ≤ node) (n7 : node < 7) (s k : Int) : winB (moreL l slot node) s k = (winB l s k || (decide (s = slot) && decide (k = node))) := by
  obtain ⟨g1, g2⟩ := getD_in hd (i := slot - 1) (by omega) (by omega)
  obtain ⟨_, _, ho⟩ := orD_ok g1 g2 n0 n7
  unfold winB
  rw [moreL_len]
  by_cases c1 : 1 ≤ s
  · by_cases c2 : s ≤ l.length
    · by_cases c3 : 0 ≤ k
      · by_cases c4 : k < 7
        · simp only [c1, c2, c3, c4, decide_true, Bool.true_and]
          by_cases e : s = slot
          · subst e
            have : (moreL l s node).getD (s - 1).toNat 0 = orD (l.getD (s - 1).toNat 0) node := by
              unfold moreL
              rw [List.getD_eq_getElem?_getD, List.getElem?_set, if_pos rfl, if_pos (by omega)]; rfl
            rw [this, ho k c3 c4, decide_eq_true rfl, Bool.true_and]
          · have : (moreL l slot node).getD (s - 1).toNat 0 = l.getD (s - 1).toNat 0 := by
              unfold moreL
              rw [List.getD_eq_getElem?_getD, List.getElem?_set, if_neg (by omega), ← List.getD_eq_getElem?_getD]
            rw [this, decide_eq_false e, Bool.false_and, Bool.or_false]
        · rw [decide_eq_false c4, decide_eq_false (show ¬ k = node by omega)]; simp
      · rw [decide_eq_false c3, decide_eq_false (show ¬ k = node by omega)]; simp
    · rw [decide_eq_false c2, decide_eq_false (show ¬ s = slot by omega)]; simp
  · rw [decide_eq_false c1, decide_eq_false (show ¬ s = slot by omega)]; simp
theorem moreL_chk (hl : l.length ≤ 200) (hd : ∀ d ∈ l, 0 ≤ d ∧ d ≤ 127) (h1 : 1 ≤ slot) (h2 : slot ≤ l.length) (n0 : 0 ≤ node) (n7 : node < 7) : chkN (moreL l slot node) = 0 := by
  unfold chkN
  rw [if_neg]
  rintro (h | h)
  · rw [moreL_len] at h; omega
  · obtain ⟨d, h3, h4⟩ := List.any_eq_true.1 h
    have := moreL_in hd h1 h2 n0 n7 d h3
    simp only [badD, Bool.or_eq_true, decide_eq_true_eq] at h4
    omega
/-- In a slot that somebody else wins it isn't one's alone. -/
theorem moreL_single {who : List Int} (hd : ∀ d ∈ l, 0 ≤ d ∧ d ≤ 127) (h1 : 1 ≤ slot) (h2 : slot ≤ l.length) (n0 : 0 ≤ node) (n7 : node < 7) (ho : 1 < (winners l slot).length ∨ ∃ x, x ∈ winners l slot ∧ x ≠ node) : single (moreL l slot node) who 1 l.length = false := by
  rw [Bool.eq_false_iff]
  intro h
  have h1' := single_one h h1 h2
  have sub : ∀ x, x ∈ winners l slot → x ∈ winners (moreL l slot node) slot := fun x hx => by
    rw [mem_winners] at hx ⊢
    exact ⟨hx.1, by rw [moreL_win hd h1 h2 n0 n7, hx.2, Bool.true_or]⟩
  have me : node ∈ winners (moreL l slot node) slot := mem_winners.2 ⟨⟨n0, n7⟩, by rw [moreL_win hd h1 h2 n0 n7]; simp⟩
  rcases ho with ho | ⟨x, hx, hne⟩
  · obtain ⟨a, b, ha, hb, hab⟩ := two_of ((ints_nodup 7 0).filter _) ho
    exact hab (one_of h1' (sub a ha) (sub b hb))
  · exact hne (one_of h1' (sub x hx) me)
end
end Go.Proofs.Ytooljmmlekmkeaa
