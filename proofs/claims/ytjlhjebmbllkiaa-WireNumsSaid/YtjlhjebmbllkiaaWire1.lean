/-
Numbers as bytes: what wire.Num answers.
-/
import Derived.Test.YtjlhjebmbllkiaaF14
import Derived.Test.YtjlhjebmbllkiaaTy
set_option linter.unusedVariables false
set_option linter.unusedSimpArgs false
namespace Go.Proofs.Ytjlhjebmbllkiaa
open Go.Abs

/-- A number's bytes. -/
def enc (n : Nat) : List UInt8 := if n < 128 then [UInt8.ofNat n] else UInt8.ofNat (n % 128 + 128) :: enc (n / 128)
termination_by n
decreasing_by omega

theorem enc_small {n : Nat} (h : n < 128) : enc n = [UInt8.ofNat n] := by rw [enc, if_pos h]
theorem enc_big {n : Nat} (h : ¬ n < 128) : enc n = UInt8.ofNat (n % 128 + 128) :: enc (n / 128) := by rw [enc, if_neg h]

theorem push1 {H : AHeap} (x : UInt8) : Sob H.next (H.push (.cells [.int .u8 x.toNat] true 1)) [x] (.slice (some ⟨H.next, 0, none⟩) 1 1) := Sob.push [x] rfl
theorem push0 {H : AHeap} : Sob H.next (H.push (.cells [] true 1)) [] (.slice (some ⟨H.next, 0, none⟩) 0 0) := Sob.push [] rfl
/-- One more byte. -/
theorem more_byte {b : Nat} {H : AHeap} {l : List UInt8} {s : Value} (x : UInt8) (hs : Sob b H l s) (hb : b ≤ H.next) (hl : l.length ≤ 140737488355000) :
    ∃ v H', aAppend Try.prog 23 23 s (.slice (some ⟨H.next, 0, none⟩) 1 1) (H.push (.cells [.int .u8 x.toNat] true 1)) = some (v, H') ∧ Keeps b H H' ∧ Sob b H' (l ++ [x]) v := by
  obtain ⟨v, H2, e1, e2, e3⟩ := aAppend_bytes u_L_uint8 s_uint8 o_uint8 rfl b_uint8 u_L_uint8 (hs.keeps (Keeps.push _ (Nat.le_refl _))) (push1 x).sb (by simp; omega) (by simp; omega)
  exact ⟨v, H2, e1, (Keeps.push _ hb).trans e2, e3⟩

theorem wrap_u8 (n : Nat) : IntKind.u8.wrap (n : Int) = ((n % 256 : Nat) : Int) := by
  simp [IntKind.wrap, IntKind.bits, IntKind.signed]
theorem wrap_u64 (n : Nat) : IntKind.u64.wrap (n : Int) = ((n % 2 ^ 64 : Nat) : Int) := by
  simp [IntKind.wrap, IntKind.bits, IntKind.signed]
theorem or128 : ∀ m : Fin 256, orI .u8 (m.val : Int) 128 = ((m.val % 128 + 128 : Nat) : Int) := by decide +kernel
theorem or128_n (n : Nat) : orI .u8 (IntKind.u8.wrap (n : Int)) 128 = ((UInt8.ofNat (n % 128 + 128)).toNat : Int) := by
  rw [wrap_u8, or128 ⟨n % 256, by omega⟩]
  simp only [UInt8.toNat_ofNat']
  omega
theorem small_n {n : Nat} : IntKind.u8.wrap (n : Int) = ((UInt8.ofNat n).toNat : Int) := by
  rw [wrap_u8]
  simp
theorem shr7 (n : Nat) : (n : Int).fdiv (2 ^ min (Int.toNat 7) (IntKind.bits .u64)) = ((n / 128 : Nat) : Int) := by
  have : (2 : Int) ^ min (Int.toNat 7) (IntKind.bits .u64) = 128 := by decide
  rw [this, Int.fdiv_eq_ediv_of_nonneg _ (by omega)]
  omega

theorem enc_len (k : Nat) : ∀ n, n < 128 ^ (k + 1) → (enc n).length ≤ k + 1 := by
  induction k with
  | zero => intro n h; rw [enc_small (by omega)]; simp
  | succ k ih =>
    intro n h
    by_cases hn : n < 128
    · rw [enc_small hn]; simp
    · rw [enc_big hn]
      have := ih (n / 128) (by rw [Nat.div_lt_iff_lt_mul (by omega)]; exact h)
      simp only [List.length_cons]; omega
theorem enc_len10 {n : Nat} (h : n < 2 ^ 64) : (enc n).length ≤ 10 := enc_len 9 n (Nat.lt_of_lt_of_le h (by decide))

theorem wire_Num.round : ∀ (n : Nat) (l : List UInt8) (b : Nat) {T : List Value} {H : AHeap} {s : Value} {r : St}, loopV (codeV Try.prog wire_Num.loop1) T H = r → T.length = 19 → T.getD 0 undef = .int .u64 n → T.getD 3 undef = s →
    Sob b H l s → b ≤ H.next → n * 2 ^ l.length < 2 ^ 64 → ∃ T' H' s' l' n', r = some (.exit 0, T', H') ∧ T'.length = 19 ∧ T'.getD 0 undef = .int .u64 (n' : Nat) ∧ T'.getD 3 undef = s' ∧
      Sob b H' l' s' ∧ Keeps b H H' ∧ n' < 128 ∧ l' ++ [UInt8.ofNat n'] = l ++ enc n := by
  intro n
  induction n using Nat.strongRecOn with
  | _ n ih =>
    intro l b T H s r hL hT h0 h3 hs hb hl
    obtain ⟨x0, x1, x2, x3, x4, x5, x6, x7, x8, x9, x10, x11, x12, x13, x14, x15, x16, x17, x18, hTe⟩ := wire_Num.list hT
    rw [hTe] at h0 h3
    simp only [List.getD_cons_succ, List.getD_cons_zero] at h0 h3
    subst h0 h3
    have hr : codeV Try.prog wire_Num.loop1 T H = codeV Try.prog wire_Num.loop1 T H := rfl
    by_cases hlt : n < 128
    · have hd : decide ((128 : Int) ≤ (n : Int)) = false := by simp; omega
      conv at hr =>
        rhs
        rw [hTe]
        simp only [wire_Num.loop1, codeV_seq, codeV_region, codeV_block, codeV_skip, codeV_ret, codeV_exit, codeV_cond, codeV_loop, andThen_some, regV_some, seqV_normal, seqV_exit, seqV_ret, blockV_normal, blockV_ret, blockV_exit, condV_true, condV_false, List.getD_cons_succ, List.getD_cons_zero, gd_tt, gd_ff, gd_tf, gd_ft, gd_ut, ret_run, aPick_bool, if_true, if_false, reduceIte, Nat.reduceEqDiff, Bool.false_eq_true, wire_Num.r2, aBin_geq, hd]
      exact ⟨_, _, _, l, n, hL.symm.trans (loopV_exit hr (by simp)), rfl, rfl, rfl, hs, Keeps.refl _ _, hlt, by rw [enc_small hlt]⟩
    · have hd : decide ((128 : Int) ≤ (n : Int)) = true := by simp; omega
      conv at hr =>
        rhs
        rw [hTe]
        simp only [wire_Num.loop1, codeV_seq, codeV_region, codeV_block, codeV_skip, codeV_ret, codeV_exit, codeV_cond, codeV_loop, andThen_some, regV_some, seqV_normal, seqV_exit, seqV_ret, blockV_normal, blockV_ret, blockV_exit, condV_true, condV_false, List.getD_cons_succ, List.getD_cons_zero, gd_tt, gd_ff, gd_tf, gd_ft, gd_ut, ret_run, aPick_bool, if_true, if_false, reduceIte, Nat.reduceEqDiff, Bool.false_eq_true, wire_Num.r2, aBin_geq, hd, wire_Num.r3, cv_uint64_uint8, aBin_or, or128_n, bs_L_uint8_1]
      have hll : l.length < 64 := by
        have : 2 ^ l.length < 2 ^ 64 := Nat.lt_of_le_of_lt (Nat.le_mul_of_pos_left _ (by omega)) hl
        exact (Nat.pow_lt_pow_iff_right (by omega)).1 this
      obtain ⟨v, H2, e1, hk, e3⟩ := more_byte (UInt8.ofNat (n % 128 + 128)) hs hb (by omega)
      conv at hr =>
        rhs
        simp only [e1, codeV_seq, codeV_region, codeV_block, codeV_skip, codeV_ret, codeV_exit, codeV_cond, codeV_loop, andThen_some, regV_some, seqV_normal, seqV_exit, seqV_ret, blockV_normal, blockV_ret, blockV_exit, condV_true, condV_false, List.getD_cons_succ, List.getD_cons_zero, gd_tt, gd_ff, gd_tf, gd_ft, gd_ut, ret_run, aPick_bool, if_true, if_false, reduceIte, Nat.reduceEqDiff, Bool.false_eq_true, wire_Num.r4, aBin_shr _ _ _ _ (show (0 : Int) ≤ 7 by omega), shr7]
      obtain ⟨T1, hr, q1, q2, q3⟩ : ∃ T1, codeV Try.prog wire_Num.loop1 T H = some (.normal, T1, H2) ∧ T1.length = 19 ∧ T1.getD 0 undef = .int .u64 ((n / 128 : Nat) : Int) ∧ T1.getD 3 undef = v := ⟨_, hr, rfl, rfl, rfl⟩
      have hmul : n / 128 * 2 ^ (l.length + 1) < 2 ^ 64 := by
        refine Nat.lt_of_le_of_lt ?_ hl
        rw [Nat.pow_succ, Nat.mul_comm (2 ^ l.length) 2, ← Nat.mul_assoc]
        exact Nat.mul_le_mul_right _ (by omega)
      obtain ⟨T', H', s', l', n', g1, g2, g3, g4, g5, g6, g7, g8⟩ := ih (n / 128) (by omega) _ b ((loopV_step hr).symm.trans hL) q1 q2 q3 e3 (Nat.le_trans hb hk.1) (by simpa using hmul)
      refine ⟨T', H', s', l', n', g1, g2, g3, g4, g5, hk.trans g6, g7, ?_⟩
      rw [g8, enc_big hlt, List.append_assoc]; rfl

theorem wire_Num.spec (n : Nat) (hn : n < 2 ^ 64) (H : AHeap) : ∃ v H', lim Try.prog wire_Num.id [.int .u64 n] H = some (v, H') ∧ Keeps H.next H H' ∧ Sob H.next H' (enc n) v := by
  obtain ⟨T, hTe⟩ : ∃ T, T = (.int .u64 n :: undef :: undef :: undef :: undef :: undef :: undef :: undef :: undef :: undef :: undef :: undef :: undef :: undef :: undef :: undef :: undef :: undef :: undef :: []) := ⟨_, rfl⟩
  have hr : codeV Try.prog wire_Num.code T H = codeV Try.prog wire_Num.code T H := rfl
  conv at hr =>
    rhs
    rw [hTe]
    simp only [wire_Num.code, codeV_seq, codeV_region, codeV_block, codeV_skip, codeV_ret, codeV_exit, codeV_cond, codeV_loop, andThen_some, regV_some, seqV_normal, seqV_exit, seqV_ret, blockV_normal, blockV_ret, blockV_exit, condV_true, condV_false, List.getD_cons_succ, List.getD_cons_zero, gd_tt, gd_ff, gd_tf, gd_ft, gd_ut, ret_run, aPick_bool, if_true, if_false, reduceIte, Nat.reduceEqDiff, Bool.false_eq_true, wire_Num.r0, wire_Num.r1]
  generalize hL : loopV (codeV Try.prog wire_Num.loop1) _ _ = r at hr
  obtain ⟨T', H', s', l', n', rfl, g2, g3, g4, g5, g6, g7, g8⟩ := wire_Num.round n [] H.next hL rfl rfl rfl (Sob.nil _ _) (Nat.le_refl _) (by simpa using hn)
  obtain ⟨x0, x1, x2, x3, x4, x5, x6, x7, x8, x9, x10, x11, x12, x13, x14, x15, x16, x17, x18, hT'⟩ := wire_Num.list g2
  rw [hT'] at g3 g4
  simp only [List.getD_cons_succ, List.getD_cons_zero] at g3 g4
  subst g3 g4
  conv at hr =>
    rhs
    rw [hT']
    simp only [codeV_seq, codeV_region, codeV_block, codeV_skip, codeV_ret, codeV_exit, codeV_cond, codeV_loop, andThen_some, regV_some, seqV_normal, seqV_exit, seqV_ret, blockV_normal, blockV_ret, blockV_exit, condV_true, condV_false, List.getD_cons_succ, List.getD_cons_zero, gd_tt, gd_ff, gd_tf, gd_ft, gd_ut, ret_run, aPick_bool, if_true, if_false, reduceIte, Nat.reduceEqDiff, Bool.false_eq_true, wire_Num.r5, cv_uint64_uint8, small_n, bs_L_uint8_1]
  have hlen : l'.length + 1 = (enc n).length := by simpa using congrArg List.length g8
  have h10 := enc_len10 hn
  obtain ⟨v, H2, e1, e2, e3⟩ := more_byte (UInt8.ofNat n') g5 g6.1 (by omega)
  conv at hr =>
    rhs
    simp only [e1, codeV_seq, codeV_region, codeV_block, codeV_skip, codeV_ret, codeV_exit, codeV_cond, codeV_loop, andThen_some, regV_some, seqV_normal, seqV_exit, seqV_ret, blockV_normal, blockV_ret, blockV_exit, condV_true, condV_false, List.getD_cons_succ, List.getD_cons_zero, gd_tt, gd_ff, gd_tf, gd_ft, gd_ut, ret_run, aPick_bool, if_true, if_false, reduceIte, Nat.reduceEqDiff, Bool.false_eq_true]
  rw [hTe] at hr
  refine ⟨v, H2, wire_Num.runs hr (.inr rfl), g6.trans e2, ?_⟩
  rw [g8] at e3
  exact e3
end Go.Proofs.Ytjlhjebmbllkiaa
