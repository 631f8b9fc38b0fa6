/-
Numbers as bytes: what wire.Num and the document's Num answer.
-/
import Derived.Test.YtjlhjebmbllkiaaF14
import Derived.Test.YtjlhjebmbllkiaaF15
import Derived.Test.YtjlhjebmbllkiaaTy
set_option linter.unusedVariables false
set_option linter.unusedSimpArgs false
namespace Go.Proofs.Ytjlhjebmbllkiaa
open Go.Abs

/-- A number's bytes. -/
def enc (n : Nat) : List UInt8 := if n < 128 then [UInt8.ofNat n] else UInt8.ofNat (n % 128 + 128) :: enc (n / 128)
termination_by n
decreasing_by omega
theorem enc_small {n : Nat} (h : n < 128) : enc n = [UInt8.ofNat n] := by rw [enc, if_pos h]
theorem enc_big {n : Nat} (h : ¬ n < 128) : enc n = UInt8.ofNat (n % 128 + 128) :: enc (n / 128) := by rw [enc, if_neg h]

theorem wrap_u8 (n : Nat) : IntKind.u8.wrap (n : Int) = ((n % 256 : Nat) : Int) := by
  simp [IntKind.wrap, IntKind.bits, IntKind.signed]
theorem wrap_u64 (n : Nat) : IntKind.u64.wrap (n : Int) = ((n % 2 ^ 64 : Nat) : Int) := by
  simp [IntKind.wrap, IntKind.bits, IntKind.signed]
theorem or128 : ∀ m : Fin 256, orI .u8 (m.val : Int) 128 = ((m.val % 128 + 128 : Nat) : Int) := by decide +kernel
theorem or128_n (n : Nat) : orI .u8 (IntKind.u8.wrap (n : Int)) 128 = ((UInt8.ofNat (n % 128 + 128)).toNat : Int) := by
  rw [wrap_u8, or128 ⟨n % 256, by omega⟩]
  simp only [UInt8.toNat_ofNat']
  omega
theorem small_n {n : Nat} : IntKind.u8.wrap (n : Int) = ((UInt8.ofNat n).toNat : Int) := by
  rw [wrap_u8]
  simp
theorem shr7 (n : Nat) : (n : Int).fdiv (2 ^ min (Int.toNat 7) (IntKind.bits .u64)) = ((n / 128 : Nat) : Int) := by
  have : (2 : Int) ^ min (Int.toNat 7) (IntKind.bits .u64) = 128 := by decide
  rw [this, Int.fdiv_eq_ediv_of_nonneg _ (by omega)]
  omega
theorem enc_len (k : Nat) : ∀ n, n < 128 ^ (k + 1) → (enc n).length ≤ k + 1 := by
  induction k with
  | zero => intro n h; rw [enc_small (by omega)]; simp
  | succ k ih =>
    intro n h
    by_cases hn : n < 128
    · rw [enc_small hn]; simp
    · rw [enc_big hn]
      have := ih (n / 128) (by rw [Nat.div_lt_iff_lt_mul (by omega)]; exact h)
      simp only [List.length_cons]; omega
theorem enc_len10 {n : Nat} (h : n < 2 ^ 64) : (enc n).length ≤ 10 := enc_len 9 n (Nat.lt_of_lt_of_le h (by decide))
theorem tmod128 (n : Nat) : (n : Int).tmod 128 = ((n % 128 : Nat) : Int) := by
  rw [Int.tmod_eq_emod_of_nonneg (by omega)]; omega
theorem tdiv128 (n : Nat) (h : n < 2 ^ 64) : IntKind.u64.wrap ((n : Int).tdiv 128) = ((n / 128 : Nat) : Int) := by
  rw [Int.tdiv_eq_ediv_of_nonneg (by omega), show (n : Int) / 128 = ((n / 128 : Nat) : Int) by omega, wrap_u64]
  omega
theorem low_n (n : Nat) : IntKind.u8.wrap ((n % 128 : Nat) : Int) = ((UInt8.ofNat (n % 128)).toNat : Int) := small_n
theorem low_add (n : Nat) : IntKind.u8.wrap (((UInt8.ofNat (n % 128)).toNat : Int) + 128) = ((UInt8.ofNat (n % 128 + 128)).toNat : Int) := by
  have : ((UInt8.ofNat (n % 128)).toNat : Int) + 128 = ((n % 128 + 128 : Nat) : Int) := by simp only [UInt8.toNat_ofNat']; omega
  rw [this]; exact small_n
theorem by0 : by_ 0 [] = .slice none 0 0 := rfl
theorem by2_0 : sv 2 1 0 [] = by_ 2 [] := rfl
theorem by2_1 (x : UInt8) : sv 2 1 1 [.int .u8 x.toNat] = by_ 2 [x] := rfl
/-- One more byte. -/
theorem by_more {k : Nat} {l : List UInt8} {x : UInt8} {S : AHeap} (h : Okl k l) (hk : k ≠ 1) (hl : l.length ≤ 140737488355000) : vAppend Try.prog 23 23 (by_ k l) (by_ 2 [x]) S = some (by_ 2 (l ++ [x]), S) := by
  rw [by_append h hk Okl.own (by simp; omega), if_neg (fun h => by have := h.2; simp at this)]

theorem wire_Num.round : ∀ (n : Nat) (l : List UInt8) (k : Nat) {T : List Value} {S : AHeap} {r : St}, loopV (vcodeV Try.prog O wire_Num.loop1) T S = r → T.length = 19 → T.getD 0 undef = .int .u64 n → T.getD 3 undef = by_ k l →
    Okl k l → k ≠ 1 → n * 2 ^ l.length < 2 ^ 64 → ∃ T' l' k' n', r = some (.exit 0, T', S) ∧ T'.length = 19 ∧ T'.getD 0 undef = .int .u64 (n' : Nat) ∧ T'.getD 3 undef = by_ k' l' ∧
      Okl k' l' ∧ k' ≠ 1 ∧ n' < 128 ∧ l' ++ [UInt8.ofNat n'] = l ++ enc n := by
  intro n
  induction n using Nat.strongRecOn with
  | _ n ih =>
    intro l k T S r hL hT h0 h3 hs hk hl
    obtain ⟨x0, x1, x2, x3, x4, x5, x6, x7, x8, x9, x10, x11, x12, x13, x14, x15, x16, x17, x18, hTe⟩ := wire_Num.list hT
    rw [hTe] at h0 h3
    simp only [List.getD_cons_succ, List.getD_cons_zero] at h0 h3
    subst h0 h3
    have hr : vcodeV Try.prog O wire_Num.loop1 T S = vcodeV Try.prog O wire_Num.loop1 T S := rfl
    by_cases hlt : n < 128
    · have hd : decide ((128 : Int) ≤ (n : Int)) = false := by simp; omega
      conv at hr =>
        rhs
        rw [hTe]
        simp only [wire_Num.loop1, vcodeV_seq, vcodeV_region, vcodeV_block, vcodeV_skip, vcodeV_ret, vcodeV_exit, vcodeV_cond, vcodeV_loop, andThen_some, regV_some, seqV_normal, seqV_exit, seqV_ret, blockV_normal, blockV_ret, blockV_exit, condK_true, condK_false, andK_some, gdK_tt, gdK_ff, gdK_tf, gdK_ft, gdK_ut, gdCK_tt, gdCK_ff, gdCK_tf, gdCK_ft, gdCK_ut, okK_bool, okK_int, okK_string, okK_slice, okK_pointer, okK_SL, okK_EP, okK_sv, okK_vs, List.getD_cons_succ, List.getD_cons_zero, gd_tt, gd_ff, gd_tf, gd_ft, gd_ut, gdC_tt, gdC_ff, gdC_tf, gdC_ft, gdC_ut, ret_run, vPick_bool, if_true, if_false, reduceIte, Nat.reduceEqDiff, Bool.false_eq_true, okC_bool, okC_int, okC_string, okC_slice, okC_iface, okC_vs, okC_sv, okC_EP, dem_undef, dem_int, dem_bool, dem_string, dem_nil, dem_agg, dem_func, dem_pointer, dem_vs, dem_sv, dem_dem, vBin_int, vBin_string, vBin_bool, vConv_int, vExtract_tuple, List.getElem?_cons_succ, List.getElem?_cons_zero, Option.map_some, aBin_add, aBin_sub, aBin_mul, aBin_eql, aBin_neq, aBin_lss, aBin_leq, aBin_gtr, aBin_geq, aUn_not, Bool.not_true, Bool.not_false, Bool.true_eq_false, decide_true, decide_false, eq_self, exd_0_1, exd_0_2, exd_1_2, exd_0_3, exd_1_3, exd_2_3, exd_0_4, exd_1_4, exd_2_4, exd_3_4, exd_0_5, exd_1_5, exd_2_5, exd_3_5, exd_4_5, wire_Num.r2, hd]
      exact ⟨_, l, k, n, hL.symm.trans (loopV_exit hr (by simp)), rfl, rfl, rfl, hs, hk, hlt, by rw [enc_small hlt]⟩
    · have hd : decide ((128 : Int) ≤ (n : Int)) = true := by simp; omega
      have hll : l.length < 64 := by
        have : 2 ^ l.length < 2 ^ 64 := Nat.lt_of_le_of_lt (Nat.le_mul_of_pos_left _ (by omega)) hl
        exact (Nat.pow_lt_pow_iff_right (by omega)).1 this
      have e1 : ∀ x S, vAppend Try.prog 23 23 (by_ k l) (by_ 2 [x]) S = some (by_ 2 (l ++ [x]), S) := fun x S => by_more hs hk (by omega)
      conv at hr =>
        rhs
        rw [hTe]
        simp only [wire_Num.loop1, vcodeV_seq, vcodeV_region, vcodeV_block, vcodeV_skip, vcodeV_ret, vcodeV_exit, vcodeV_cond, vcodeV_loop, andThen_some, regV_some, seqV_normal, seqV_exit, seqV_ret, blockV_normal, blockV_ret, blockV_exit, condK_true, condK_false, andK_some, gdK_tt, gdK_ff, gdK_tf, gdK_ft, gdK_ut, gdCK_tt, gdCK_ff, gdCK_tf, gdCK_ft, gdCK_ut, okK_bool, okK_int, okK_string, okK_slice, okK_pointer, okK_SL, okK_EP, okK_sv, okK_vs, List.getD_cons_succ, List.getD_cons_zero, gd_tt, gd_ff, gd_tf, gd_ft, gd_ut, gdC_tt, gdC_ff, gdC_tf, gdC_ft, gdC_ut, ret_run, vPick_bool, if_true, if_false, reduceIte, Nat.reduceEqDiff, Bool.false_eq_true, okC_bool, okC_int, okC_string, okC_slice, okC_iface, okC_vs, okC_sv, okC_EP, dem_undef, dem_int, dem_bool, dem_string, dem_nil, dem_agg, dem_func, dem_pointer, dem_vs, dem_sv, dem_dem, vBin_int, vBin_string, vBin_bool, vConv_int, vExtract_tuple, List.getElem?_cons_succ, List.getElem?_cons_zero, Option.map_some, aBin_add, aBin_sub, aBin_mul, aBin_eql, aBin_neq, aBin_lss, aBin_leq, aBin_gtr, aBin_geq, aUn_not, Bool.not_true, Bool.not_false, Bool.true_eq_false, decide_true, decide_false, eq_self, exd_0_1, exd_0_2, exd_1_2, exd_0_3, exd_1_3, exd_2_3, exd_0_4, exd_1_4, exd_2_4, exd_3_4, exd_0_5, exd_1_5, exd_2_5, exd_3_5, exd_4_5, wire_Num.r2, hd, wire_Num.r3, cv_uint64_uint8, aBin_or, or128_n, bs_L_uint8_1, by2_1, e1, wire_Num.r4, aBin_shr _ _ _ _ (show (0 : Int) ≤ 7 by omega), shr7]
      have hmul : n / 128 * 2 ^ (l.length + 1) < 2 ^ 64 := by
        refine Nat.lt_of_le_of_lt ?_ hl
        rw [Nat.pow_succ, Nat.mul_comm (2 ^ l.length) 2, ← Nat.mul_assoc]
        exact Nat.mul_le_mul_right _ (by omega)
      obtain ⟨T', l', k', n', g1, g2, g3, g4, g5, g6, g7, g8⟩ := ih (n / 128) (by omega) _ 2 ((loopV_step hr).symm.trans hL) rfl rfl rfl Okl.own (by decide) (by simpa using hmul)
      refine ⟨T', l', k', n', g1, g2, g3, g4, g5, g6, g7, ?_⟩
      rw [g8, enc_big hlt, List.append_assoc]; rfl

theorem wire_Num.v (n : Nat) (hn : n < 2 ^ 64) (S : AHeap) : vlim Try.prog O wire_Num.id [.int .u64 n] S = some (by_ 2 (enc n), S) := by
  obtain ⟨T, hTe⟩ : ∃ T, T = (.int .u64 n :: undef :: undef :: undef :: undef :: undef :: undef :: undef :: undef :: undef :: undef :: undef :: undef :: undef :: undef :: undef :: undef :: undef :: undef :: []) := ⟨_, rfl⟩
  have hr : vcodeV Try.prog O wire_Num.code T S = vcodeV Try.prog O wire_Num.code T S := rfl
  conv at hr =>
    rhs
    rw [hTe]
    simp only [wire_Num.code, vcodeV_seq, vcodeV_region, vcodeV_block, vcodeV_skip, vcodeV_ret, vcodeV_exit, vcodeV_cond, vcodeV_loop, andThen_some, regV_some, seqV_normal, seqV_exit, seqV_ret, blockV_normal, blockV_ret, blockV_exit, condK_true, condK_false, andK_some, gdK_tt, gdK_ff, gdK_tf, gdK_ft, gdK_ut, gdCK_tt, gdCK_ff, gdCK_tf, gdCK_ft, gdCK_ut, okK_bool, okK_int, okK_string, okK_slice, okK_pointer, okK_SL, okK_EP, okK_sv, okK_vs, List.getD_cons_succ, List.getD_cons_zero, gd_tt, gd_ff, gd_tf, gd_ft, gd_ut, gdC_tt, gdC_ff, gdC_tf, gdC_ft, gdC_ut, ret_run, vPick_bool, if_true, if_false, reduceIte, Nat.reduceEqDiff, Bool.false_eq_true, okC_bool, okC_int, okC_string, okC_slice, okC_iface, okC_vs, okC_sv, okC_EP, dem_undef, dem_int, dem_bool, dem_string, dem_nil, dem_agg, dem_func, dem_pointer, dem_vs, dem_sv, dem_dem, vBin_int, vBin_string, vBin_bool, vConv_int, vExtract_tuple, List.getElem?_cons_succ, List.getElem?_cons_zero, Option.map_some, aBin_add, aBin_sub, aBin_mul, aBin_eql, aBin_neq, aBin_lss, aBin_leq, aBin_gtr, aBin_geq, aUn_not, Bool.not_true, Bool.not_false, Bool.true_eq_false, decide_true, decide_false, eq_self, exd_0_1, exd_0_2, exd_1_2, exd_0_3, exd_1_3, exd_2_3, exd_0_4, exd_1_4, exd_2_4, exd_3_4, exd_0_5, exd_1_5, exd_2_5, exd_3_5, exd_4_5, wire_Num.r0, wire_Num.r1]
  generalize hL : loopV (vcodeV Try.prog O wire_Num.loop1) _ _ = r at hr
  obtain ⟨T', l', k', n', rfl, g2, g3, g4, g5, g6, g7, g8⟩ := wire_Num.round n [] 0 hL rfl rfl rfl Okl.none (by decide) (by simpa using hn)
  obtain ⟨x0, x1, x2, x3, x4, x5, x6, x7, x8, x9, x10, x11, x12, x13, x14, x15, x16, x17, x18, hT'⟩ := wire_Num.list g2
  rw [hT'] at g3 g4
  simp only [List.getD_cons_succ, List.getD_cons_zero] at g3 g4
  subst g3 g4
  have hlen : l'.length + 1 = (enc n).length := by simpa using congrArg List.length g8
  have h10 := enc_len10 hn
  have e1 : ∀ x S, vAppend Try.prog 23 23 (by_ k' l') (by_ 2 [x]) S = some (by_ 2 (l' ++ [x]), S) := fun x S => by_more g5 g6 (by omega)
  conv at hr =>
    rhs
    rw [hT']
    simp only [vcodeV_seq, vcodeV_region, vcodeV_block, vcodeV_skip, vcodeV_ret, vcodeV_exit, vcodeV_cond, vcodeV_loop, andThen_some, regV_some, seqV_normal, seqV_exit, seqV_ret, blockV_normal, blockV_ret, blockV_exit, condK_true, condK_false, andK_some, gdK_tt, gdK_ff, gdK_tf, gdK_ft, gdK_ut, gdCK_tt, gdCK_ff, gdCK_tf, gdCK_ft, gdCK_ut, okK_bool, okK_int, okK_string, okK_slice, okK_pointer, okK_SL, okK_EP, okK_sv, okK_vs, List.getD_cons_succ, List.getD_cons_zero, gd_tt, gd_ff, gd_tf, gd_ft, gd_ut, gdC_tt, gdC_ff, gdC_tf, gdC_ft, gdC_ut, ret_run, vPick_bool, if_true, if_false, reduceIte, Nat.reduceEqDiff, Bool.false_eq_true, okC_bool, okC_int, okC_string, okC_slice, okC_iface, okC_vs, okC_sv, okC_EP, dem_undef, dem_int, dem_bool, dem_string, dem_nil, dem_agg, dem_func, dem_pointer, dem_vs, dem_sv, dem_dem, vBin_int, vBin_string, vBin_bool, vConv_int, vExtract_tuple, List.getElem?_cons_succ, List.getElem?_cons_zero, Option.map_some, aBin_add, aBin_sub, aBin_mul, aBin_eql, aBin_neq, aBin_lss, aBin_leq, aBin_gtr, aBin_geq, aUn_not, Bool.not_true, Bool.not_false, Bool.true_eq_false, decide_true, decide_false, eq_self, exd_0_1, exd_0_2, exd_1_2, exd_0_3, exd_1_3, exd_2_3, exd_0_4, exd_1_4, exd_2_4, exd_3_4, exd_0_5, exd_1_5, exd_2_5, exd_3_5, exd_4_5, wire_Num.r5, cv_uint64_uint8, small_n, bs_L_uint8_1, by2_1, e1]
  rw [hTe] at hr
  have := wire_Num.runs hr (.inr rfl)
  rw [List.nil_append] at g8
  rw [← g8]
  exact this

theorem neaptideref01_Num.round : ∀ (n : Nat) (l : List UInt8) {T : List Value} {S : AHeap} {r : St}, loopV (vcodeV Try.prog O neaptideref01_Num.loop1) T S = r → T.length = 22 → T.getD 0 undef = .int .u64 n → T.getD 3 undef = by_ 2 l →
    n * 2 ^ l.length < 2 ^ 64 → l.length < 64 → ∃ T', r = some (.ret, T', S) ∧ T'.getD 2 undef = by_ 2 (l ++ enc n) := by
  intro n
  induction n using Nat.strongRecOn with
  | _ n ih =>
    intro l T S r hL hT h0 h3 hl hll
    obtain ⟨x0, x1, x2, x3, x4, x5, x6, x7, x8, x9, x10, x11, x12, x13, x14, x15, x16, x17, x18, x19, x20, x21, hTe⟩ := neaptideref01_Num.list hT
    rw [hTe] at h0 h3
    simp only [List.getD_cons_succ, List.getD_cons_zero] at h0 h3
    subst h0 h3
    have hn : n < 2 ^ 64 := Nat.lt_of_le_of_lt (Nat.le_mul_of_pos_right _ (by exact Nat.two_pow_pos _)) hl
    have e1 : ∀ x S, vAppend Try.prog 23 23 (by_ 2 l) (by_ 2 [x]) S = some (by_ 2 (l ++ [x]), S) := fun x S => by_more Okl.own (by decide) (by omega)
    have hr : vcodeV Try.prog O neaptideref01_Num.loop1 T S = vcodeV Try.prog O neaptideref01_Num.loop1 T S := rfl
    conv at hr =>
      rhs
      rw [hTe]
      simp only [neaptideref01_Num.loop1, vcodeV_seq, vcodeV_region, vcodeV_block, vcodeV_skip, vcodeV_ret, vcodeV_exit, vcodeV_cond, vcodeV_loop, andThen_some, regV_some, seqV_normal, seqV_exit, seqV_ret, blockV_normal, blockV_ret, blockV_exit, condK_true, condK_false, andK_some, gdK_tt, gdK_ff, gdK_tf, gdK_ft, gdK_ut, gdCK_tt, gdCK_ff, gdCK_tf, gdCK_ft, gdCK_ut, okK_bool, okK_int, okK_string, okK_slice, okK_pointer, okK_SL, okK_EP, okK_sv, okK_vs, List.getD_cons_succ, List.getD_cons_zero, gd_tt, gd_ff, gd_tf, gd_ft, gd_ut, gdC_tt, gdC_ff, gdC_tf, gdC_ft, gdC_ut, ret_run, vPick_bool, if_true, if_false, reduceIte, Nat.reduceEqDiff, Bool.false_eq_true, okC_bool, okC_int, okC_string, okC_slice, okC_iface, okC_vs, okC_sv, okC_EP, dem_undef, dem_int, dem_bool, dem_string, dem_nil, dem_agg, dem_func, dem_pointer, dem_vs, dem_sv, dem_dem, vBin_int, vBin_string, vBin_bool, vConv_int, vExtract_tuple, List.getElem?_cons_succ, List.getElem?_cons_zero, Option.map_some, aBin_add, aBin_sub, aBin_mul, aBin_eql, aBin_neq, aBin_lss, aBin_leq, aBin_gtr, aBin_geq, aUn_not, Bool.not_true, Bool.not_false, Bool.true_eq_false, decide_true, decide_false, eq_self, exd_0_1, exd_0_2, exd_1_2, exd_0_3, exd_1_3, exd_2_3, exd_0_4, exd_1_4, exd_2_4, exd_3_4, exd_0_5, exd_1_5, exd_2_5, exd_3_5, exd_4_5, neaptideref01_Num.r2, neaptideref01_Num.r3, neaptideref01_Num.r4, aBin_rem _ _ _ (show (128 : Int) ≠ 0 by omega), aBin_quo _ _ _ (show (128 : Int) ≠ 0 by omega), tmod128, tdiv128 n hn, cv_uint64_uint8, low_n]
    by_cases hz : n / 128 = 0
    · have hd : decide (((n / 128 : Nat) : Int) = 0) = true := by simp; omega
      conv at hr =>
        rhs
        simp only [hd, vcodeV_seq, vcodeV_region, vcodeV_block, vcodeV_skip, vcodeV_ret, vcodeV_exit, vcodeV_cond, vcodeV_loop, andThen_some, regV_some, seqV_normal, seqV_exit, seqV_ret, blockV_normal, blockV_ret, blockV_exit, condK_true, condK_false, andK_some, gdK_tt, gdK_ff, gdK_tf, gdK_ft, gdK_ut, gdCK_tt, gdCK_ff, gdCK_tf, gdCK_ft, gdCK_ut, okK_bool, okK_int, okK_string, okK_slice, okK_pointer, okK_SL, okK_EP, okK_sv, okK_vs, List.getD_cons_succ, List.getD_cons_zero, gd_tt, gd_ff, gd_tf, gd_ft, gd_ut, gdC_tt, gdC_ff, gdC_tf, gdC_ft, gdC_ut, ret_run, vPick_bool, if_true, if_false, reduceIte, Nat.reduceEqDiff, Bool.false_eq_true, okC_bool, okC_int, okC_string, okC_slice, okC_iface, okC_vs, okC_sv, okC_EP, dem_undef, dem_int, dem_bool, dem_string, dem_nil, dem_agg, dem_func, dem_pointer, dem_vs, dem_sv, dem_dem, vBin_int, vBin_string, vBin_bool, vConv_int, vExtract_tuple, List.getElem?_cons_succ, List.getElem?_cons_zero, Option.map_some, aBin_add, aBin_sub, aBin_mul, aBin_eql, aBin_neq, aBin_lss, aBin_leq, aBin_gtr, aBin_geq, aUn_not, Bool.not_true, Bool.not_false, Bool.true_eq_false, decide_true, decide_false, eq_self, exd_0_1, exd_0_2, exd_1_2, exd_0_3, exd_1_3, exd_2_3, exd_0_4, exd_1_4, exd_2_4, exd_3_4, exd_0_5, exd_1_5, exd_2_5, exd_3_5, exd_4_5, neaptideref01_Num.r5, bs_L_uint8_1, by2_1, e1]
      refine ⟨_, hL.symm.trans (loopV_exit hr (by simp)), ?_⟩
      rw [enc_small (by omega)]
      simp only [List.getD_cons_succ, List.getD_cons_zero]
      rw [show n % 128 = n by omega]
    · have hd : decide (((n / 128 : Nat) : Int) = 0) = false := by simp; omega
      conv at hr =>
        rhs
        simp only [hd, vcodeV_seq, vcodeV_region, vcodeV_block, vcodeV_skip, vcodeV_ret, vcodeV_exit, vcodeV_cond, vcodeV_loop, andThen_some, regV_some, seqV_normal, seqV_exit, seqV_ret, blockV_normal, blockV_ret, blockV_exit, condK_true, condK_false, andK_some, gdK_tt, gdK_ff, gdK_tf, gdK_ft, gdK_ut, gdCK_tt, gdCK_ff, gdCK_tf, gdCK_ft, gdCK_ut, okK_bool, okK_int, okK_string, okK_slice, okK_pointer, okK_SL, okK_EP, okK_sv, okK_vs, List.getD_cons_succ, List.getD_cons_zero, gd_tt, gd_ff, gd_tf, gd_ft, gd_ut, gdC_tt, gdC_ff, gdC_tf, gdC_ft, gdC_ut, ret_run, vPick_bool, if_true, if_false, reduceIte, Nat.reduceEqDiff, Bool.false_eq_true, okC_bool, okC_int, okC_string, okC_slice, okC_iface, okC_vs, okC_sv, okC_EP, dem_undef, dem_int, dem_bool, dem_string, dem_nil, dem_agg, dem_func, dem_pointer, dem_vs, dem_sv, dem_dem, vBin_int, vBin_string, vBin_bool, vConv_int, vExtract_tuple, List.getElem?_cons_succ, List.getElem?_cons_zero, Option.map_some, aBin_add, aBin_sub, aBin_mul, aBin_eql, aBin_neq, aBin_lss, aBin_leq, aBin_gtr, aBin_geq, aUn_not, Bool.not_true, Bool.not_false, Bool.true_eq_false, decide_true, decide_false, eq_self, exd_0_1, exd_0_2, exd_1_2, exd_0_3, exd_1_3, exd_2_3, exd_0_4, exd_1_4, exd_2_4, exd_3_4, exd_0_5, exd_1_5, exd_2_5, exd_3_5, exd_4_5, neaptideref01_Num.r6, low_add, bs_L_uint8_1, by2_1, e1]
      have hmul : n / 128 * 2 ^ (l.length + 1) < 2 ^ 64 := by
        refine Nat.lt_of_le_of_lt ?_ hl
        rw [Nat.pow_succ, Nat.mul_comm (2 ^ l.length) 2, ← Nat.mul_assoc]
        exact Nat.mul_le_mul_right _ (by omega)
      have hl2 : l.length + 1 < 64 := by
        have : 2 ^ (l.length + 1) < 2 ^ 64 := Nat.lt_of_le_of_lt (Nat.le_mul_of_pos_left _ (by omega)) hmul
        exact (Nat.pow_lt_pow_iff_right (by omega)).1 this
      obtain ⟨T', g1, g2⟩ := ih (n / 128) (by omega) _ ((loopV_step hr).symm.trans hL) rfl rfl rfl (by simpa using hmul) (by simpa using hl2)
      refine ⟨T', g1, ?_⟩
      rw [g2, enc_big (n := n) (by omega), List.append_assoc]
      rfl

theorem neaptideref01_Num.v (n : Nat) (hn : n < 2 ^ 64) (S : AHeap) : vlim Try.prog O neaptideref01_Num.id [.int .u64 n] S = some (by_ 2 (enc n), S) := by
  obtain ⟨T, hTe⟩ : ∃ T, T = (.int .u64 n :: undef :: undef :: undef :: undef :: undef :: undef :: undef :: undef :: undef :: undef :: undef :: undef :: undef :: undef :: undef :: undef :: undef :: undef :: undef :: undef :: undef :: []) := ⟨_, rfl⟩
  have hr : vcodeV Try.prog O neaptideref01_Num.code T S = vcodeV Try.prog O neaptideref01_Num.code T S := rfl
  conv at hr =>
    rhs
    rw [hTe]
    simp only [neaptideref01_Num.code, vcodeV_seq, vcodeV_region, vcodeV_block, vcodeV_skip, vcodeV_ret, vcodeV_exit, vcodeV_cond, vcodeV_loop, andThen_some, regV_some, seqV_normal, seqV_exit, seqV_ret, blockV_normal, blockV_ret, blockV_exit, condK_true, condK_false, andK_some, gdK_tt, gdK_ff, gdK_tf, gdK_ft, gdK_ut, gdCK_tt, gdCK_ff, gdCK_tf, gdCK_ft, gdCK_ut, okK_bool, okK_int, okK_string, okK_slice, okK_pointer, okK_SL, okK_EP, okK_sv, okK_vs, List.getD_cons_succ, List.getD_cons_zero, gd_tt, gd_ff, gd_tf, gd_ft, gd_ut, gdC_tt, gdC_ff, gdC_tf, gdC_ft, gdC_ut, ret_run, vPick_bool, if_true, if_false, reduceIte, Nat.reduceEqDiff, Bool.false_eq_true, okC_bool, okC_int, okC_string, okC_slice, okC_iface, okC_vs, okC_sv, okC_EP, dem_undef, dem_int, dem_bool, dem_string, dem_nil, dem_agg, dem_func, dem_pointer, dem_vs, dem_sv, dem_dem, vBin_int, vBin_string, vBin_bool, vConv_int, vExtract_tuple, List.getElem?_cons_succ, List.getElem?_cons_zero, Option.map_some, aBin_add, aBin_sub, aBin_mul, aBin_eql, aBin_neq, aBin_lss, aBin_leq, aBin_gtr, aBin_geq, aUn_not, Bool.not_true, Bool.not_false, Bool.true_eq_false, decide_true, decide_false, eq_self, exd_0_1, exd_0_2, exd_1_2, exd_0_3, exd_1_3, exd_2_3, exd_0_4, exd_1_4, exd_2_4, exd_3_4, exd_0_5, exd_1_5, exd_2_5, exd_3_5, exd_4_5, neaptideref01_Num.r0, neaptideref01_Num.r1, bs_L_uint8_0, by2_0]
  generalize hL : loopV (vcodeV Try.prog O neaptideref01_Num.loop1) _ _ = r at hr
  obtain ⟨T', rfl, g2⟩ := neaptideref01_Num.round n [] hL rfl rfl rfl (by simpa using hn) (by simp)
  conv at hr =>
    rhs
    simp only [vcodeV_seq, vcodeV_region, vcodeV_block, vcodeV_skip, vcodeV_ret, vcodeV_exit, vcodeV_cond, vcodeV_loop, andThen_some, regV_some, seqV_normal, seqV_exit, seqV_ret, blockV_normal, blockV_ret, blockV_exit, condK_true, condK_false, andK_some, gdK_tt, gdK_ff, gdK_tf, gdK_ft, gdK_ut, gdCK_tt, gdCK_ff, gdCK_tf, gdCK_ft, gdCK_ut, okK_bool, okK_int, okK_string, okK_slice, okK_pointer, okK_SL, okK_EP, okK_sv, okK_vs, List.getD_cons_succ, List.getD_cons_zero, gd_tt, gd_ff, gd_tf, gd_ft, gd_ut, gdC_tt, gdC_ff, gdC_tf, gdC_ft, gdC_ut, ret_run, vPick_bool, if_true, if_false, reduceIte, Nat.reduceEqDiff, Bool.false_eq_true, okC_bool, okC_int, okC_string, okC_slice, okC_iface, okC_vs, okC_sv, okC_EP, dem_undef, dem_int, dem_bool, dem_string, dem_nil, dem_agg, dem_func, dem_pointer, dem_vs, dem_sv, dem_dem, vBin_int, vBin_string, vBin_bool, vConv_int, vExtract_tuple, List.getElem?_cons_succ, List.getElem?_cons_zero, Option.map_some, aBin_add, aBin_sub, aBin_mul, aBin_eql, aBin_neq, aBin_lss, aBin_leq, aBin_gtr, aBin_geq, aUn_not, Bool.not_true, Bool.not_false, Bool.true_eq_false, decide_true, decide_false, eq_self, exd_0_1, exd_0_2, exd_1_2, exd_0_3, exd_1_3, exd_2_3, exd_0_4, exd_1_4, exd_2_4, exd_3_4, exd_0_5, exd_1_5, exd_2_5, exd_3_5, exd_4_5]
  rw [hTe] at hr
  have hrun := neaptideref01_Num.runs hr (.inr rfl)
  rw [g2] at hrun
  exact hrun
end Go.Proofs.Ytjlhjebmbllkiaa
