/-
What the document's Num answers; slices' clones.
-/
import Derived.Test.YtjlhjebmbllkiaaF15
import Derived.Test.YtjlhjebmbllkiaaWire1
set_option linter.unusedVariables false
set_option linter.unusedSimpArgs false
namespace Go.Proofs.Ytjlhjebmbllkiaa
open Go.Abs

theorem tmod128 (n : Nat) : (n : Int).tmod 128 = ((n % 128 : Nat) : Int) := by
  rw [Int.tmod_eq_emod_of_nonneg (by omega)]; omega
theorem tdiv128 (n : Nat) (h : n < 2 ^ 64) : IntKind.u64.wrap ((n : Int).tdiv 128) = ((n / 128 : Nat) : Int) := by
  rw [Int.tdiv_eq_ediv_of_nonneg (by omega), show (n : Int) / 128 = ((n / 128 : Nat) : Int) by omega, wrap_u64]
  omega
theorem low_n (n : Nat) : IntKind.u8.wrap ((n % 128 : Nat) : Int) = ((UInt8.ofNat (n % 128)).toNat : Int) := small_n
theorem low_add (n : Nat) : IntKind.u8.wrap (((UInt8.ofNat (n % 128)).toNat : Int) + 128) = ((UInt8.ofNat (n % 128 + 128)).toNat : Int) := by
  have : ((UInt8.ofNat (n % 128)).toNat : Int) + 128 = ((n % 128 + 128 : Nat) : Int) := by simp only [UInt8.toNat_ofNat']; omega
  rw [this]; exact small_n

theorem neaptideref01_Num.round : ∀ (n : Nat) (l : List UInt8) (b : Nat) {T : List Value} {H : AHeap} {s : Value} {r : St}, loopV (codeV Try.prog neaptideref01_Num.loop1) T H = r → T.length = 22 → T.getD 0 undef = .int .u64 n → T.getD 3 undef = s →
    Sob b H l s → b ≤ H.next → n * 2 ^ l.length < 2 ^ 64 → l.length < 64 → ∃ T' H' s', r = some (.ret, T', H') ∧ T'.getD 2 undef = s' ∧ Sob b H' (l ++ enc n) s' ∧ Keeps b H H' := by
  intro n
  induction n using Nat.strongRecOn with
  | _ n ih =>
    intro l b T H s r hL hT h0 h3 hs hb hl hll
    obtain ⟨x0, x1, x2, x3, x4, x5, x6, x7, x8, x9, x10, x11, x12, x13, x14, x15, x16, x17, x18, x19, x20, x21, hTe⟩ := neaptideref01_Num.list hT
    rw [hTe] at h0 h3
    simp only [List.getD_cons_succ, List.getD_cons_zero] at h0 h3
    subst h0 h3
    have hn : n < 2 ^ 64 := Nat.lt_of_le_of_lt (Nat.le_mul_of_pos_right _ (by exact Nat.two_pow_pos _)) hl
    have hr : codeV Try.prog neaptideref01_Num.loop1 T H = codeV Try.prog neaptideref01_Num.loop1 T H := rfl
    conv at hr =>
      rhs
      rw [hTe]
      simp only [neaptideref01_Num.loop1, codeV_seq, codeV_region, codeV_block, codeV_skip, codeV_ret, codeV_exit, codeV_cond, codeV_loop, andThen_some, regV_some, seqV_normal, seqV_exit, seqV_ret, blockV_normal, blockV_ret, blockV_exit, condV_true, condV_false, List.getD_cons_succ, List.getD_cons_zero, gd_tt, gd_ff, gd_tf, gd_ft, gd_ut, ret_run, aPick_bool, if_true, if_false, reduceIte, Nat.reduceEqDiff, Bool.false_eq_true, neaptideref01_Num.r2, neaptideref01_Num.r3, neaptideref01_Num.r4, aBin_rem _ _ _ (show (128 : Int) ≠ 0 by omega), aBin_quo _ _ _ (show (128 : Int) ≠ 0 by omega), tmod128, tdiv128 n hn, cv_uint64_uint8, low_n, aBin_eql]
    by_cases hz : n / 128 = 0
    · have hd : decide (((n / 128 : Nat) : Int) = 0) = true := by simp; omega
      conv at hr =>
        rhs
        simp only [hd, codeV_seq, codeV_region, codeV_block, codeV_skip, codeV_ret, codeV_exit, codeV_cond, codeV_loop, andThen_some, regV_some, seqV_normal, seqV_exit, seqV_ret, blockV_normal, blockV_ret, blockV_exit, condV_true, condV_false, List.getD_cons_succ, List.getD_cons_zero, gd_tt, gd_ff, gd_tf, gd_ft, gd_ut, ret_run, aPick_bool, if_true, if_false, reduceIte, Nat.reduceEqDiff, Bool.false_eq_true, neaptideref01_Num.r5, bs_L_uint8_1]
      obtain ⟨v, H2, e1, hk, e3⟩ := more_byte (UInt8.ofNat (n % 128)) hs hb (by omega)
      conv at hr =>
        rhs
        simp only [e1, codeV_seq, codeV_region, codeV_block, codeV_skip, codeV_ret, codeV_exit, codeV_cond, codeV_loop, andThen_some, regV_some, seqV_normal, seqV_exit, seqV_ret, blockV_normal, blockV_ret, blockV_exit, condV_true, condV_false, List.getD_cons_succ, List.getD_cons_zero, gd_tt, gd_ff, gd_tf, gd_ft, gd_ut, ret_run, aPick_bool, if_true, if_false, reduceIte, Nat.reduceEqDiff, Bool.false_eq_true]
      refine ⟨_, _, v, hL.symm.trans (loopV_exit hr (by simp)), rfl, ?_, hk⟩
      have : n % 128 = n := by omega
      rw [enc_small (by omega)]
      rw [this] at e3
      exact e3
    · have hd : decide (((n / 128 : Nat) : Int) = 0) = false := by simp; omega
      conv at hr =>
        rhs
        simp only [hd, codeV_seq, codeV_region, codeV_block, codeV_skip, codeV_ret, codeV_exit, codeV_cond, codeV_loop, andThen_some, regV_some, seqV_normal, seqV_exit, seqV_ret, blockV_normal, blockV_ret, blockV_exit, condV_true, condV_false, List.getD_cons_succ, List.getD_cons_zero, gd_tt, gd_ff, gd_tf, gd_ft, gd_ut, ret_run, aPick_bool, if_true, if_false, reduceIte, Nat.reduceEqDiff, Bool.false_eq_true, neaptideref01_Num.r6, aBin_add, low_add, bs_L_uint8_1]
      obtain ⟨v, H2, e1, hk, e3⟩ := more_byte (UInt8.ofNat (n % 128 + 128)) hs hb (by omega)
      conv at hr =>
        rhs
        simp only [e1, codeV_seq, codeV_region, codeV_block, codeV_skip, codeV_ret, codeV_exit, codeV_cond, codeV_loop, andThen_some, regV_some, seqV_normal, seqV_exit, seqV_ret, blockV_normal, blockV_ret, blockV_exit, condV_true, condV_false, List.getD_cons_succ, List.getD_cons_zero, gd_tt, gd_ff, gd_tf, gd_ft, gd_ut, ret_run, aPick_bool, if_true, if_false, reduceIte, Nat.reduceEqDiff, Bool.false_eq_true]
      obtain ⟨T1, hr, q1, q2, q3⟩ : ∃ T1, codeV Try.prog neaptideref01_Num.loop1 T H = some (.normal, T1, H2) ∧ T1.length = 22 ∧ T1.getD 0 undef = .int .u64 ((n / 128 : Nat) : Int) ∧ T1.getD 3 undef = v := ⟨_, hr, rfl, rfl, rfl⟩
      have hmul : n / 128 * 2 ^ (l.length + 1) < 2 ^ 64 := by
        refine Nat.lt_of_le_of_lt ?_ hl
        rw [Nat.pow_succ, Nat.mul_comm (2 ^ l.length) 2, ← Nat.mul_assoc]
        exact Nat.mul_le_mul_right _ (by omega)
      have hl2 : l.length + 1 < 64 := by
        have : 2 ^ (l.length + 1) < 2 ^ 64 := Nat.lt_of_le_of_lt (Nat.le_mul_of_pos_left _ (by omega)) hmul
        exact (Nat.pow_lt_pow_iff_right (by omega)).1 this
      obtain ⟨T', H', s', g1, g2, g3, g4⟩ := ih (n / 128) (by omega) _ b ((loopV_step hr).symm.trans hL) q1 q2 q3 e3 (Nat.le_trans hb hk.1) (by simpa using hmul) (by simpa using hl2)
      refine ⟨T', H', s', g1, g2, ?_, hk.trans g4⟩
      rw [enc_big (by omega)]
      rw [List.append_assoc] at g3
      exact g3

theorem neaptideref01_Num.spec (n : Nat) (hn : n < 2 ^ 64) (H : AHeap) : ∃ v H', lim Try.prog neaptideref01_Num.id [.int .u64 n] H = some (v, H') ∧ Keeps H.next H H' ∧ Sob H.next H' (enc n) v := by
  obtain ⟨T, hTe⟩ : ∃ T, T = (.int .u64 n :: undef :: undef :: undef :: undef :: undef :: undef :: undef :: undef :: undef :: undef :: undef :: undef :: undef :: undef :: undef :: undef :: undef :: undef :: undef :: undef :: undef :: []) := ⟨_, rfl⟩
  have hr : codeV Try.prog neaptideref01_Num.code T H = codeV Try.prog neaptideref01_Num.code T H := rfl
  conv at hr =>
    rhs
    rw [hTe]
    simp only [neaptideref01_Num.code, codeV_seq, codeV_region, codeV_block, codeV_skip, codeV_ret, codeV_exit, codeV_cond, codeV_loop, andThen_some, regV_some, seqV_normal, seqV_exit, seqV_ret, blockV_normal, blockV_ret, blockV_exit, condV_true, condV_false, List.getD_cons_succ, List.getD_cons_zero, gd_tt, gd_ff, gd_tf, gd_ft, gd_ut, ret_run, aPick_bool, if_true, if_false, reduceIte, Nat.reduceEqDiff, Bool.false_eq_true, neaptideref01_Num.r0, neaptideref01_Num.r1, bs_L_uint8_0]
  generalize hL : loopV (codeV Try.prog neaptideref01_Num.loop1) _ _ = r at hr
  obtain ⟨T', H', s', rfl, g2, g3, g4⟩ := neaptideref01_Num.round n [] H.next hL rfl rfl rfl push0 (by simp) (by simpa using hn) (by simp)
  conv at hr =>
    rhs
    simp only [codeV_seq, codeV_region, codeV_block, codeV_skip, codeV_ret, codeV_exit, codeV_cond, codeV_loop, andThen_some, regV_some, seqV_normal, seqV_exit, seqV_ret, blockV_normal, blockV_ret, blockV_exit, condV_true, condV_false, List.getD_cons_succ, List.getD_cons_zero, gd_tt, gd_ff, gd_tf, gd_ft, gd_ut, ret_run, aPick_bool, if_true, if_false, reduceIte, Nat.reduceEqDiff, Bool.false_eq_true]
  rw [hTe] at hr
  have hrun := neaptideref01_Num.runs hr (.inr rfl)
  rw [g2] at hrun
  exact ⟨_, _, hrun, (Keeps.push _ (Nat.le_refl _)).trans g4, g3⟩
end Go.Proofs.Ytjlhjebmbllkiaa
