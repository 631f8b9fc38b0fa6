/-
Numbers' bytes: there and back; one form; cut off they aren't read. No program in sight.
-/
import Derived.Test.YtjlhjebmbllkiaaVW4
set_option linter.unusedVariables false
set_option linter.unusedSimpArgs false
namespace Go.Proofs.Ytjlhjebmbllkiaa
open Go.Abs

theorem toNat_small {n : Nat} (h : n < 256) : (UInt8.ofNat n).toNat = n := by rw [UInt8.toNat_ofNat']; omega
theorem scan_enc_at : ∀ (n i acc : Nat) (r : List UInt8), i ≤ 9 → (0 < i → 0 < n) → n * 128 ^ i < 2 ^ 64 → scan i acc (enc n ++ r) = some (acc + n * 128 ^ i, r) := by
  intro n
  induction n using Nat.strongRecOn with
  | _ n ih =>
    intro i acc r hi hn hlt
    have h9 : i = 9 → n ≤ 1 := by
      intro h; subst h
      have : (128 : Nat) ^ 9 = 2 ^ 63 := by decide
      omega
    by_cases hs : n < 128
    · rw [enc_small hs, List.singleton_append, scan, toNat_small (by omega), if_neg (by rintro (⟨h1, h2⟩ | ⟨h1, h2⟩); exact absurd (h9 h1) (by omega); exact absurd (hn h1) (by omega)), if_pos hs]
    · rw [enc_big hs, List.cons_append, scan, toNat_small (by omega)]
      have hi9 : i ≠ 9 := fun h => by have := h9 h; omega
      rw [if_neg (by rintro (⟨h1, h2⟩ | ⟨h1, h2⟩); exact hi9 h1; omega), if_neg (by omega)]
      have hmul : n / 128 * 128 ^ (i + 1) ≤ n * 128 ^ i := by
        rw [Nat.pow_succ, ← Nat.mul_assoc, Nat.mul_right_comm]
        exact Nat.mul_le_mul_right _ (by omega)
      rw [ih (n / 128) (by omega) (i + 1) _ r (by omega) (fun _ => by omega) (Nat.lt_of_le_of_lt hmul hlt)]
      congr 2
      have : n = n % 128 + n / 128 * 128 := by omega
      have e1 : (n % 128 + 128 - 128) * 128 ^ i + n / 128 * 128 ^ (i + 1) = n * 128 ^ i := by
        rw [Nat.pow_succ]
        conv => rhs; rw [this, Nat.add_mul]
        rw [Nat.add_sub_cancel, Nat.mul_comm (128 ^ i) 128, ← Nat.mul_assoc]
      omega
theorem scan_enc {n : Nat} (h : n < 2 ^ 64) (r : List UInt8) : scan 0 0 (enc n ++ r) = some (n, r) := by
  rw [scan_enc_at n 0 0 r (by omega) (by omega) (by simpa using h)]; simp
theorem scan_form_at : ∀ (l : List UInt8) (i acc m : Nat) (r : List UInt8), scan i acc l = some (m, r) → ∃ n, l = enc n ++ r ∧ m = acc + n * 128 ^ i ∧ (0 < i → 0 < n) := by
  intro l
  induction l with
  | nil => intro i acc m r h; cases h
  | cons x l ih =>
    intro i acc m r h
    rw [scan] at h
    have hx := x.toNat_lt
    split at h
    · cases h
    · rename_i hs
      split at h
      · rename_i hx2
        cases h
        refine ⟨x.toNat, ?_, rfl, fun hi => by omega⟩
        rw [enc_small hx2]; simp
      · rename_i hx2
        obtain ⟨n, h1, h2, h3⟩ := ih _ _ _ _ h
        refine ⟨x.toNat - 128 + n * 128, ?_, ?_, fun _ => ?_⟩
        · have hn := h3 (by omega)
          rw [enc_big (by omega), show (x.toNat - 128 + n * 128) / 128 = n by omega, show (x.toNat - 128 + n * 128) % 128 + 128 = x.toNat by omega, h1]
          simp
        · rw [h2, Nat.pow_succ, Nat.add_mul]
          rw [Nat.mul_comm (128 ^ i) 128, ← Nat.mul_assoc]; omega
        · have := h3 (by omega); omega
theorem scan_form {l r : List UInt8} {m : Nat} (h : scan 0 0 l = some (m, r)) : l = enc m ++ r ∧ m < 2 ^ 64 := by
  obtain ⟨n, h1, h2, _⟩ := scan_form_at l 0 0 m r h
  have : m = n := by simpa using h2
  subst this
  exact ⟨h1, (scan_lt l 0 0 (by decide) (by omega) m r h).1⟩
theorem enc_inj {a b : Nat} (ha : a < 2 ^ 64) (hb : b < 2 ^ 64) {r s : List UInt8} (h : enc a ++ r = enc b ++ s) : a = b ∧ r = s := by
  have h1 := scan_enc ha r
  rw [h, scan_enc hb s] at h1
  simp only [Option.some.injEq, Prod.mk.injEq] at h1
  exact ⟨h1.1.symm, h1.2.symm⟩
theorem scan_cut {n cut : Nat} (hn : n < 2 ^ 64) (hc : cut < (enc n).length) : scan 0 0 ((enc n).take cut) = none := by
  cases h : scan 0 0 ((enc n).take cut) with
  | none => rfl
  | some mr =>
    obtain ⟨m, r⟩ := mr
    obtain ⟨h1, h2⟩ := scan_form h
    have h3 : enc n ++ [] = enc m ++ (r ++ (enc n).drop cut) := by
      rw [← List.append_assoc, ← h1, List.append_nil, List.take_append_drop]
    obtain ⟨_, h4⟩ := enc_inj hn h2 h3
    have := congrArg List.length h4
    simp at this
    omega
theorem enc_mono {a b : Nat} : a ≤ b → (enc a).length ≤ (enc b).length := by
  induction b using Nat.strongRecOn generalizing a with
  | _ b ih =>
    intro h
    by_cases hb : b < 128
    · rw [enc_small hb, enc_small (by omega)]; simp
    · by_cases ha : a < 128
      · rw [enc_small ha]; have := enc_pos b; simp; omega
      · rw [enc_big ha, enc_big hb, List.length_cons, List.length_cons]
        have := ih (b / 128) (by omega) (a := a / 128) (by omega)
        omega
theorem enc_len1 {n : Nat} (h : n < 128) : (enc n).length = 1 := by rw [enc_small h]; rfl
theorem enc_len2 {n : Nat} (h : ¬ n < 128) (h2 : n < 16384) : (enc n).length = 2 := by rw [enc_big h, enc_small (by omega)]; rfl

/-- Texts. -/
theorem scanT_encT {l r : List UInt8} (h : l.length ≤ 4096) : scanT (encT l ++ r) = some (l, r) := by
  unfold scanT encT
  rw [List.append_assoc, scan_enc (by omega)]
  dsimp only
  rw [if_pos ⟨h, by simp⟩]
  simp
theorem scanT_form {l a b : List UInt8} (h : scanT l = some (a, b)) : l = encT a ++ b ∧ a.length ≤ 4096 := by
  unfold scanT at h
  cases hs : scan 0 0 l with
  | none => rw [hs] at h; cases h
  | some mr =>
    obtain ⟨m, rest⟩ := mr
    rw [hs] at h
    dsimp only at h
    split at h
    · rename_i hc
      cases h
      obtain ⟨h1, h2⟩ := scan_form hs
      have hl : (rest.take m).length = m := by simp; omega
      refine ⟨?_, by omega⟩
      unfold encT
      rw [hl, List.append_assoc, List.take_append_drop]
      exact h1
    · cases h
theorem scanT_cut {l : List UInt8} {cut : Nat} (h : l.length ≤ 4096) (hc : cut < (encT l).length) : scanT ((encT l).take cut) = none := by
  cases hs : scanT ((encT l).take cut) with
  | none => rfl
  | some ab =>
    obtain ⟨a, b⟩ := ab
    obtain ⟨h1, h2⟩ := scanT_form hs
    have h3 : encT l ++ [] = encT a ++ (b ++ (encT l).drop cut) := by
      rw [← List.append_assoc, ← h1, List.append_nil, List.take_append_drop]
    have h4 := scanT_encT (r := []) h
    rw [h3, scanT_encT h2] at h4
    simp only [Option.some.injEq, Prod.mk.injEq] at h4
    have := congrArg List.length h4.2
    simp at this
    omega
end Go.Proofs.Ytjlhjebmbllkiaa
