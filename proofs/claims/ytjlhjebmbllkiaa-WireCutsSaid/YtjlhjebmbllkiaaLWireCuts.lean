/-
Cut off: the law's run.
-/
import Derived.Test.YtjlhjebmbllkiaaF8
import Derived.Test.YtjlhjebmbllkiaaVW5
import Derived.Test.YtjlhjebmbllkiaaVWords
set_option linter.unusedVariables false
set_option linter.unusedSimpArgs false
set_option maxRecDepth 100000
namespace Go.Proofs.Ytjlhjebmbllkiaa
open Go.Abs

theorem neaptidelaw01_wireAlive.v (S : AHeap) : vlim Try.prog O 12 [] S = some (.bool true, S) := vlim_run (n := 20) (by kernel_rfl)

namespace wireCuts
def codes : List (Bool × Ty) := [(false, .int .u64), (false, .slc 1 (.int .u8)), (false, .int .i64)]
theorem coded : argsOf Try.prog 9 [22, 23, 3] = some codes := by kernel_rfl
theorem run {n k : Nat} {l : List UInt8} {cut : Int} (hn : n < 2 ^ 64) (hk : k ≠ 2) (hl : Okl k l) (hl2 : l.length ≤ 140737488351232) (S : AHeap) : vlim Try.prog O 8 [.int .u64 n, by_ k l, .int .i64 cut] S = some (.bool true, S) := by
  obtain ⟨T, hTe⟩ : ∃ T, T = (.int .u64 n :: by_ k l :: .int .i64 cut :: undef :: undef :: undef :: undef :: undef :: undef :: undef :: undef :: undef :: undef :: undef :: undef :: undef :: undef :: undef :: undef :: undef :: undef :: undef :: undef :: undef :: undef :: undef :: undef :: undef :: undef :: undef :: undef :: undef :: undef :: undef :: undef :: undef :: undef :: undef :: undef :: undef :: undef :: undef :: undef :: undef :: undef :: undef :: undef :: undef :: undef :: undef :: undef :: undef :: undef :: undef :: undef :: undef :: undef :: undef :: undef :: undef :: undef :: undef :: undef :: undef :: undef :: undef :: undef :: undef :: undef :: undef :: undef :: undef :: undef :: undef :: undef :: undef :: undef :: undef :: undef :: undef :: undef :: undef :: undef :: undef :: undef :: undef :: []) := ⟨_, rfl⟩
  have hr : vcodeV Try.prog O neaptidelaw01_WireCuts.code T S = vcodeV Try.prog O neaptidelaw01_WireCuts.code T S := rfl
  have n1 := fun S => wire_Num.v n hn S
  have c1 : ∀ S, vlim Try.prog O 16 [by_ k l] S = some (textV l, S) := wire_Text.v hl hk
  have l0 : ∀ S, vLen Try.prog 23 (.slice none 0 0) S = some (.int .i64 0, S) := fun S => by_len (k := 0) Okl.none
  have w0 : IntKind.i64.wrap ((0 : Int) + 0) = 0 := by decide
  have d11 : ¬ (11 : Int) = 0 := by omega
  have z0 : ¬ (0 : Int) < 0 := by omega
  have h10 := enc_len10 hn
  have u1 : ∀ (a : List UInt8) (j : Int) (S : AHeap), 0 ≤ j → j < a.length → vSlice Try.prog 23 (by_ 1 a) none (some (.int .i64 j)) S = some (by_ 1 (a.take j.toNat), S) := fun a j S h1 h2 => by
    rw [by_slice Okl.read (lo := none) (hi := some (.int .i64 j)) (i := 0) (j := j) rfl rfl (by omega) (by omega) (by omega)]; simp
  have u2 : ∀ (a : List UInt8) (S : AHeap), a.length ≤ 140737488355328 → vAppend Try.prog 23 23 (by_ 2 []) (by_ 1 a) S = some (by_ 2 a, S) := fun a S h => by_copy Okl.read h
  have hxl : ((enc n).take cut.toNat).length ≤ 140737488355328 := by simp; omega
  unfold textV at c1
  by_cases h1 : 0 ≤ cut
  · by_cases h2 : cut < ((enc n).length : Int)
    · have r1 : ∀ S, vlim Try.prog O 11 [by_ 1 ((enc n).take cut.toNat)] S = some (.tuple #[.int .u64 0, .slice none 0 0, .int .i64 11], S) := fun S => by
        rw [wire_ReadNum.v Okl.read (by decide) hxl, readV, scan_cut hn (by omega)]
      have u1' := fun S => u1 (enc n) cut S h1 h2
      have u2' := fun S => u2 ((enc n).take cut.toNat) S hxl
      by_cases h3 : 4096 < l.length
      · rw [if_pos h3] at c1
        conv at hr =>
          rhs
          rw [hTe]
          simp only [neaptidelaw01_WireCuts.code, neaptidelaw01_WireCuts.r0, neaptidelaw01_WireCuts.r1, neaptidelaw01_WireCuts.r2, neaptidelaw01_WireCuts.r3, neaptidelaw01_WireCuts.r4, neaptidelaw01_WireCuts.r5, neaptidelaw01_WireCuts.r6, neaptidelaw01_WireCuts.r7, neaptidelaw01_WireCuts.r8, neaptidelaw01_WireCuts.r9, neaptidelaw01_WireCuts.r10, neaptidelaw01_WireCuts.r11, neaptidelaw01_WireCuts.r12, vcodeV_seq, vcodeV_region, vcodeV_block, vcodeV_skip, vcodeV_ret, vcodeV_exit, vcodeV_cond, vcodeV_loop, andThen_some, regV_some, seqV_normal, seqV_exit, seqV_ret, blockV_normal, blockV_ret, blockV_exit, condK_true, condK_false, andK_some, gdK_tt, gdK_ff, gdK_tf, gdK_ft, gdK_ut, gdCK_tt, gdCK_ff, gdCK_tf, gdCK_ft, gdCK_ut, okK_bool, okK_int, okK_string, okK_slice, okK_pointer, okK_SL, okK_EP, okK_sv, okK_vs, List.getD_cons_succ, List.getD_cons_zero, gd_tt, gd_ff, gd_tf, gd_ft, gd_ut, gdC_tt, gdC_ff, gdC_tf, gdC_ft, gdC_ut, ret_run, vPick_bool, if_true, if_false, reduceIte, Nat.reduceEqDiff, Bool.false_eq_true, okC_bool, okC_int, okC_string, okC_slice, okC_iface, okC_vs, okC_sv, okC_EP, dem_undef, dem_int, dem_bool, dem_string, dem_nil, dem_agg, dem_func, dem_pointer, dem_vs, dem_sv, dem_dem, vBin_int, vBin_string, vBin_bool, vConv_int, vExtract_tuple, List.getElem?_cons_succ, List.getElem?_cons_zero, Option.map_some, aBin_add, aBin_sub, aBin_mul, aBin_eql, aBin_neq, aBin_lss, aBin_leq, aBin_gtr, aBin_geq, aUn_not, Bool.not_true, Bool.not_false, Bool.true_eq_false, decide_true, decide_false, eq_self, exd_0_1, exd_0_2, exd_1_2, exd_0_3, exd_1_3, exd_2_3, exd_0_4, exd_1_4, exd_2_4, exd_3_4, exd_0_5, exd_1_5, exd_2_5, exd_3_5, exd_4_5, neaptidelaw01_wireAlive.v, n1, by_len Okl.read, goInt, h1, h2, bs_L_uint8_0, by2_0, u1', u2', r1, l0, z0, if_neg hk, c1, d11]
        rw [hTe] at hr
        exact neaptidelaw01_WireCuts.runs hr (.inr rfl)
      · rw [if_neg h3] at c1
        have h0 : ¬ cut < 0 := by omega
        by_cases h4 : ((encT l).length : Int) ≤ cut
        · conv at hr =>
            rhs
            rw [hTe]
            simp only [neaptidelaw01_WireCuts.code, neaptidelaw01_WireCuts.r0, neaptidelaw01_WireCuts.r1, neaptidelaw01_WireCuts.r2, neaptidelaw01_WireCuts.r3, neaptidelaw01_WireCuts.r4, neaptidelaw01_WireCuts.r5, neaptidelaw01_WireCuts.r6, neaptidelaw01_WireCuts.r7, neaptidelaw01_WireCuts.r8, neaptidelaw01_WireCuts.r9, neaptidelaw01_WireCuts.r10, neaptidelaw01_WireCuts.r11, neaptidelaw01_WireCuts.r12, vcodeV_seq, vcodeV_region, vcodeV_block, vcodeV_skip, vcodeV_ret, vcodeV_exit, vcodeV_cond, vcodeV_loop, andThen_some, regV_some, seqV_normal, seqV_exit, seqV_ret, blockV_normal, blockV_ret, blockV_exit, condK_true, condK_false, andK_some, gdK_tt, gdK_ff, gdK_tf, gdK_ft, gdK_ut, gdCK_tt, gdCK_ff, gdCK_tf, gdCK_ft, gdCK_ut, okK_bool, okK_int, okK_string, okK_slice, okK_pointer, okK_SL, okK_EP, okK_sv, okK_vs, List.getD_cons_succ, List.getD_cons_zero, gd_tt, gd_ff, gd_tf, gd_ft, gd_ut, gdC_tt, gdC_ff, gdC_tf, gdC_ft, gdC_ut, ret_run, vPick_bool, if_true, if_false, reduceIte, Nat.reduceEqDiff, Bool.false_eq_true, okC_bool, okC_int, okC_string, okC_slice, okC_iface, okC_vs, okC_sv, okC_EP, dem_undef, dem_int, dem_bool, dem_string, dem_nil, dem_agg, dem_func, dem_pointer, dem_vs, dem_sv, dem_dem, vBin_int, vBin_string, vBin_bool, vConv_int, vExtract_tuple, List.getElem?_cons_succ, List.getElem?_cons_zero, Option.map_some, aBin_add, aBin_sub, aBin_mul, aBin_eql, aBin_neq, aBin_lss, aBin_leq, aBin_gtr, aBin_geq, aUn_not, Bool.not_true, Bool.not_false, Bool.true_eq_false, decide_true, decide_false, eq_self, exd_0_1, exd_0_2, exd_1_2, exd_0_3, exd_1_3, exd_2_3, exd_0_4, exd_1_4, exd_2_4, exd_3_4, exd_0_5, exd_1_5, exd_2_5, exd_3_5, exd_4_5, neaptidelaw01_wireAlive.v, n1, by_len Okl.read, goInt, h1, h2, bs_L_uint8_0, by2_0, u1', u2', r1, l0, z0, if_neg hk, c1, d11, h0, h4]
          rw [hTe] at hr
          exact neaptidelaw01_WireCuts.runs hr (.inr rfl)
        · have htl : ((encT l).take cut.toNat).length ≤ 140737488355328 := by have e := enc_len10 (n := l.length) (by omega); simp [encT]; omega
          have u3 := fun S => u1 (encT l) cut S h1 (by omega)
          have u4 := fun S => u2 ((encT l).take cut.toNat) S htl
          have r2 : ∀ S, vlim Try.prog O 18 [by_ 1 ((encT l).take cut.toNat)] S = some (.tuple #[.slice none 0 0, .slice none 0 0, .int .i64 11], S) := fun S => by
            rw [wire_ReadText.v Okl.read (by decide) htl, readTV, scanT_cut (by omega) (by omega)]
          conv at hr =>
            rhs
            rw [hTe]
            simp only [neaptidelaw01_WireCuts.code, neaptidelaw01_WireCuts.r0, neaptidelaw01_WireCuts.r1, neaptidelaw01_WireCuts.r2, neaptidelaw01_WireCuts.r3, neaptidelaw01_WireCuts.r4, neaptidelaw01_WireCuts.r5, neaptidelaw01_WireCuts.r6, neaptidelaw01_WireCuts.r7, neaptidelaw01_WireCuts.r8, neaptidelaw01_WireCuts.r9, neaptidelaw01_WireCuts.r10, neaptidelaw01_WireCuts.r11, neaptidelaw01_WireCuts.r12, vcodeV_seq, vcodeV_region, vcodeV_block, vcodeV_skip, vcodeV_ret, vcodeV_exit, vcodeV_cond, vcodeV_loop, andThen_some, regV_some, seqV_normal, seqV_exit, seqV_ret, blockV_normal, blockV_ret, blockV_exit, condK_true, condK_false, andK_some, gdK_tt, gdK_ff, gdK_tf, gdK_ft, gdK_ut, gdCK_tt, gdCK_ff, gdCK_tf, gdCK_ft, gdCK_ut, okK_bool, okK_int, okK_string, okK_slice, okK_pointer, okK_SL, okK_EP, okK_sv, okK_vs, List.getD_cons_succ, List.getD_cons_zero, gd_tt, gd_ff, gd_tf, gd_ft, gd_ut, gdC_tt, gdC_ff, gdC_tf, gdC_ft, gdC_ut, ret_run, vPick_bool, if_true, if_false, reduceIte, Nat.reduceEqDiff, Bool.false_eq_true, okC_bool, okC_int, okC_string, okC_slice, okC_iface, okC_vs, okC_sv, okC_EP, dem_undef, dem_int, dem_bool, dem_string, dem_nil, dem_agg, dem_func, dem_pointer, dem_vs, dem_sv, dem_dem, vBin_int, vBin_string, vBin_bool, vConv_int, vExtract_tuple, List.getElem?_cons_succ, List.getElem?_cons_zero, Option.map_some, aBin_add, aBin_sub, aBin_mul, aBin_eql, aBin_neq, aBin_lss, aBin_leq, aBin_gtr, aBin_geq, aUn_not, Bool.not_true, Bool.not_false, Bool.true_eq_false, decide_true, decide_false, eq_self, exd_0_1, exd_0_2, exd_1_2, exd_0_3, exd_1_3, exd_2_3, exd_0_4, exd_1_4, exd_2_4, exd_3_4, exd_0_5, exd_1_5, exd_2_5, exd_3_5, exd_4_5, neaptidelaw01_wireAlive.v, n1, by_len Okl.read, goInt, h1, h2, bs_L_uint8_0, by2_0, u1', u2', r1, l0, z0, if_neg hk, c1, d11, h0, h4, u3, u4, r2, w0]
          rw [hTe] at hr
          exact neaptidelaw01_WireCuts.runs hr (.inr rfl)
    · by_cases h3 : 4096 < l.length
      · rw [if_pos h3] at c1
        conv at hr =>
          rhs
          rw [hTe]
          simp only [neaptidelaw01_WireCuts.code, neaptidelaw01_WireCuts.r0, neaptidelaw01_WireCuts.r1, neaptidelaw01_WireCuts.r2, neaptidelaw01_WireCuts.r3, neaptidelaw01_WireCuts.r4, neaptidelaw01_WireCuts.r5, neaptidelaw01_WireCuts.r6, neaptidelaw01_WireCuts.r7, neaptidelaw01_WireCuts.r8, neaptidelaw01_WireCuts.r9, neaptidelaw01_WireCuts.r10, neaptidelaw01_WireCuts.r11, neaptidelaw01_WireCuts.r12, vcodeV_seq, vcodeV_region, vcodeV_block, vcodeV_skip, vcodeV_ret, vcodeV_exit, vcodeV_cond, vcodeV_loop, andThen_some, regV_some, seqV_normal, seqV_exit, seqV_ret, blockV_normal, blockV_ret, blockV_exit, condK_true, condK_false, andK_some, gdK_tt, gdK_ff, gdK_tf, gdK_ft, gdK_ut, gdCK_tt, gdCK_ff, gdCK_tf, gdCK_ft, gdCK_ut, okK_bool, okK_int, okK_string, okK_slice, okK_pointer, okK_SL, okK_EP, okK_sv, okK_vs, List.getD_cons_succ, List.getD_cons_zero, gd_tt, gd_ff, gd_tf, gd_ft, gd_ut, gdC_tt, gdC_ff, gdC_tf, gdC_ft, gdC_ut, ret_run, vPick_bool, if_true, if_false, reduceIte, Nat.reduceEqDiff, Bool.false_eq_true, okC_bool, okC_int, okC_string, okC_slice, okC_iface, okC_vs, okC_sv, okC_EP, dem_undef, dem_int, dem_bool, dem_string, dem_nil, dem_agg, dem_func, dem_pointer, dem_vs, dem_sv, dem_dem, vBin_int, vBin_string, vBin_bool, vConv_int, vExtract_tuple, List.getElem?_cons_succ, List.getElem?_cons_zero, Option.map_some, aBin_add, aBin_sub, aBin_mul, aBin_eql, aBin_neq, aBin_lss, aBin_leq, aBin_gtr, aBin_geq, aUn_not, Bool.not_true, Bool.not_false, Bool.true_eq_false, decide_true, decide_false, eq_self, exd_0_1, exd_0_2, exd_1_2, exd_0_3, exd_1_3, exd_2_3, exd_0_4, exd_1_4, exd_2_4, exd_3_4, exd_0_5, exd_1_5, exd_2_5, exd_3_5, exd_4_5, neaptidelaw01_wireAlive.v, n1, by_len Okl.read, goInt, h1, h2, bs_L_uint8_0, by2_0, l0, z0, if_neg hk, c1, d11]
        rw [hTe] at hr
        exact neaptidelaw01_WireCuts.runs hr (.inr rfl)
      · rw [if_neg h3] at c1
        have h0 : ¬ cut < 0 := by omega
        by_cases h4 : ((encT l).length : Int) ≤ cut
        · conv at hr =>
            rhs
            rw [hTe]
            simp only [neaptidelaw01_WireCuts.code, neaptidelaw01_WireCuts.r0, neaptidelaw01_WireCuts.r1, neaptidelaw01_WireCuts.r2, neaptidelaw01_WireCuts.r3, neaptidelaw01_WireCuts.r4, neaptidelaw01_WireCuts.r5, neaptidelaw01_WireCuts.r6, neaptidelaw01_WireCuts.r7, neaptidelaw01_WireCuts.r8, neaptidelaw01_WireCuts.r9, neaptidelaw01_WireCuts.r10, neaptidelaw01_WireCuts.r11, neaptidelaw01_WireCuts.r12, vcodeV_seq, vcodeV_region, vcodeV_block, vcodeV_skip, vcodeV_ret, vcodeV_exit, vcodeV_cond, vcodeV_loop, andThen_some, regV_some, seqV_normal, seqV_exit, seqV_ret, blockV_normal, blockV_ret, blockV_exit, condK_true, condK_false, andK_some, gdK_tt, gdK_ff, gdK_tf, gdK_ft, gdK_ut, gdCK_tt, gdCK_ff, gdCK_tf, gdCK_ft, gdCK_ut, okK_bool, okK_int, okK_string, okK_slice, okK_pointer, okK_SL, okK_EP, okK_sv, okK_vs, List.getD_cons_succ, List.getD_cons_zero, gd_tt, gd_ff, gd_tf, gd_ft, gd_ut, gdC_tt, gdC_ff, gdC_tf, gdC_ft, gdC_ut, ret_run, vPick_bool, if_true, if_false, reduceIte, Nat.reduceEqDiff, Bool.false_eq_true, okC_bool, okC_int, okC_string, okC_slice, okC_iface, okC_vs, okC_sv, okC_EP, dem_undef, dem_int, dem_bool, dem_string, dem_nil, dem_agg, dem_func, dem_pointer, dem_vs, dem_sv, dem_dem, vBin_int, vBin_string, vBin_bool, vConv_int, vExtract_tuple, List.getElem?_cons_succ, List.getElem?_cons_zero, Option.map_some, aBin_add, aBin_sub, aBin_mul, aBin_eql, aBin_neq, aBin_lss, aBin_leq, aBin_gtr, aBin_geq, aUn_not, Bool.not_true, Bool.not_false, Bool.true_eq_false, decide_true, decide_false, eq_self, exd_0_1, exd_0_2, exd_1_2, exd_0_3, exd_1_3, exd_2_3, exd_0_4, exd_1_4, exd_2_4, exd_3_4, exd_0_5, exd_1_5, exd_2_5, exd_3_5, exd_4_5, neaptidelaw01_wireAlive.v, n1, by_len Okl.read, goInt, h1, h2, bs_L_uint8_0, by2_0, l0, z0, if_neg hk, c1, d11, h0, h4]
          rw [hTe] at hr
          exact neaptidelaw01_WireCuts.runs hr (.inr rfl)
        · have htl : ((encT l).take cut.toNat).length ≤ 140737488355328 := by have e := enc_len10 (n := l.length) (by omega); simp [encT]; omega
          have u3 := fun S => u1 (encT l) cut S h1 (by omega)
          have u4 := fun S => u2 ((encT l).take cut.toNat) S htl
          have r2 : ∀ S, vlim Try.prog O 18 [by_ 1 ((encT l).take cut.toNat)] S = some (.tuple #[.slice none 0 0, .slice none 0 0, .int .i64 11], S) := fun S => by
            rw [wire_ReadText.v Okl.read (by decide) htl, readTV, scanT_cut (by omega) (by omega)]
          conv at hr =>
            rhs
            rw [hTe]
            simp only [neaptidelaw01_WireCuts.code, neaptidelaw01_WireCuts.r0, neaptidelaw01_WireCuts.r1, neaptidelaw01_WireCuts.r2, neaptidelaw01_WireCuts.r3, neaptidelaw01_WireCuts.r4, neaptidelaw01_WireCuts.r5, neaptidelaw01_WireCuts.r6, neaptidelaw01_WireCuts.r7, neaptidelaw01_WireCuts.r8, neaptidelaw01_WireCuts.r9, neaptidelaw01_WireCuts.r10, neaptidelaw01_WireCuts.r11, neaptidelaw01_WireCuts.r12, vcodeV_seq, vcodeV_region, vcodeV_block, vcodeV_skip, vcodeV_ret, vcodeV_exit, vcodeV_cond, vcodeV_loop, andThen_some, regV_some, seqV_normal, seqV_exit, seqV_ret, blockV_normal, blockV_ret, blockV_exit, condK_true, condK_false, andK_some, gdK_tt, gdK_ff, gdK_tf, gdK_ft, gdK_ut, gdCK_tt, gdCK_ff, gdCK_tf, gdCK_ft, gdCK_ut, okK_bool, okK_int, okK_string, okK_slice, okK_pointer, okK_SL, okK_EP, okK_sv, okK_vs, List.getD_cons_succ, List.getD_cons_zero, gd_tt, gd_ff, gd_tf, gd_ft, gd_ut, gdC_tt, gdC_ff, gdC_tf, gdC_ft, gdC_ut, ret_run, vPick_bool, if_true, if_false, reduceIte, Nat.reduceEqDiff, Bool.false_eq_true, okC_bool, okC_int, okC_string, okC_slice, okC_iface, okC_vs, okC_sv, okC_EP, dem_undef, dem_int, dem_bool, dem_string, dem_nil, dem_agg, dem_func, dem_pointer, dem_vs, dem_sv, dem_dem, vBin_int, vBin_string, vBin_bool, vConv_int, vExtract_tuple, List.getElem?_cons_succ, List.getElem?_cons_zero, Option.map_some, aBin_add, aBin_sub, aBin_mul, aBin_eql, aBin_neq, aBin_lss, aBin_leq, aBin_gtr, aBin_geq, aUn_not, Bool.not_true, Bool.not_false, Bool.true_eq_false, decide_true, decide_false, eq_self, exd_0_1, exd_0_2, exd_1_2, exd_0_3, exd_1_3, exd_2_3, exd_0_4, exd_1_4, exd_2_4, exd_3_4, exd_0_5, exd_1_5, exd_2_5, exd_3_5, exd_4_5, neaptidelaw01_wireAlive.v, n1, by_len Okl.read, goInt, h1, h2, bs_L_uint8_0, by2_0, l0, z0, if_neg hk, c1, d11, h0, h4, u3, u4, r2, w0]
          rw [hTe] at hr
          exact neaptidelaw01_WireCuts.runs hr (.inr rfl)
  · have h0 : cut < 0 := by omega
    by_cases h3 : 4096 < l.length
    · rw [if_pos h3] at c1
      conv at hr =>
        rhs
        rw [hTe]
        simp only [neaptidelaw01_WireCuts.code, neaptidelaw01_WireCuts.r0, neaptidelaw01_WireCuts.r1, neaptidelaw01_WireCuts.r2, neaptidelaw01_WireCuts.r3, neaptidelaw01_WireCuts.r4, neaptidelaw01_WireCuts.r5, neaptidelaw01_WireCuts.r6, neaptidelaw01_WireCuts.r7, neaptidelaw01_WireCuts.r8, neaptidelaw01_WireCuts.r9, neaptidelaw01_WireCuts.r10, neaptidelaw01_WireCuts.r11, neaptidelaw01_WireCuts.r12, vcodeV_seq, vcodeV_region, vcodeV_block, vcodeV_skip, vcodeV_ret, vcodeV_exit, vcodeV_cond, vcodeV_loop, andThen_some, regV_some, seqV_normal, seqV_exit, seqV_ret, blockV_normal, blockV_ret, blockV_exit, condK_true, condK_false, andK_some, gdK_tt, gdK_ff, gdK_tf, gdK_ft, gdK_ut, gdCK_tt, gdCK_ff, gdCK_tf, gdCK_ft, gdCK_ut, okK_bool, okK_int, okK_string, okK_slice, okK_pointer, okK_SL, okK_EP, okK_sv, okK_vs, List.getD_cons_succ, List.getD_cons_zero, gd_tt, gd_ff, gd_tf, gd_ft, gd_ut, gdC_tt, gdC_ff, gdC_tf, gdC_ft, gdC_ut, ret_run, vPick_bool, if_true, if_false, reduceIte, Nat.reduceEqDiff, Bool.false_eq_true, okC_bool, okC_int, okC_string, okC_slice, okC_iface, okC_vs, okC_sv, okC_EP, dem_undef, dem_int, dem_bool, dem_string, dem_nil, dem_agg, dem_func, dem_pointer, dem_vs, dem_sv, dem_dem, vBin_int, vBin_string, vBin_bool, vConv_int, vExtract_tuple, List.getElem?_cons_succ, List.getElem?_cons_zero, Option.map_some, aBin_add, aBin_sub, aBin_mul, aBin_eql, aBin_neq, aBin_lss, aBin_leq, aBin_gtr, aBin_geq, aUn_not, Bool.not_true, Bool.not_false, Bool.true_eq_false, decide_true, decide_false, eq_self, exd_0_1, exd_0_2, exd_1_2, exd_0_3, exd_1_3, exd_2_3, exd_0_4, exd_1_4, exd_2_4, exd_3_4, exd_0_5, exd_1_5, exd_2_5, exd_3_5, exd_4_5, neaptidelaw01_wireAlive.v, n1, by_len Okl.read, goInt, h1, h0, bs_L_uint8_0, by2_0, l0, z0, if_neg hk, c1, d11]
      rw [hTe] at hr
      exact neaptidelaw01_WireCuts.runs hr (.inr rfl)
    · rw [if_neg h3] at c1
      conv at hr =>
        rhs
        rw [hTe]
        simp only [neaptidelaw01_WireCuts.code, neaptidelaw01_WireCuts.r0, neaptidelaw01_WireCuts.r1, neaptidelaw01_WireCuts.r2, neaptidelaw01_WireCuts.r3, neaptidelaw01_WireCuts.r4, neaptidelaw01_WireCuts.r5, neaptidelaw01_WireCuts.r6, neaptidelaw01_WireCuts.r7, neaptidelaw01_WireCuts.r8, neaptidelaw01_WireCuts.r9, neaptidelaw01_WireCuts.r10, neaptidelaw01_WireCuts.r11, neaptidelaw01_WireCuts.r12, vcodeV_seq, vcodeV_region, vcodeV_block, vcodeV_skip, vcodeV_ret, vcodeV_exit, vcodeV_cond, vcodeV_loop, andThen_some, regV_some, seqV_normal, seqV_exit, seqV_ret, blockV_normal, blockV_ret, blockV_exit, condK_true, condK_false, andK_some, gdK_tt, gdK_ff, gdK_tf, gdK_ft, gdK_ut, gdCK_tt, gdCK_ff, gdCK_tf, gdCK_ft, gdCK_ut, okK_bool, okK_int, okK_string, okK_slice, okK_pointer, okK_SL, okK_EP, okK_sv, okK_vs, List.getD_cons_succ, List.getD_cons_zero, gd_tt, gd_ff, gd_tf, gd_ft, gd_ut, gdC_tt, gdC_ff, gdC_tf, gdC_ft, gdC_ut, ret_run, vPick_bool, if_true, if_false, reduceIte, Nat.reduceEqDiff, Bool.false_eq_true, okC_bool, okC_int, okC_string, okC_slice, okC_iface, okC_vs, okC_sv, okC_EP, dem_undef, dem_int, dem_bool, dem_string, dem_nil, dem_agg, dem_func, dem_pointer, dem_vs, dem_sv, dem_dem, vBin_int, vBin_string, vBin_bool, vConv_int, vExtract_tuple, List.getElem?_cons_succ, List.getElem?_cons_zero, Option.map_some, aBin_add, aBin_sub, aBin_mul, aBin_eql, aBin_neq, aBin_lss, aBin_leq, aBin_gtr, aBin_geq, aUn_not, Bool.not_true, Bool.not_false, Bool.true_eq_false, decide_true, decide_false, eq_self, exd_0_1, exd_0_2, exd_1_2, exd_0_3, exd_1_3, exd_2_3, exd_0_4, exd_1_4, exd_2_4, exd_3_4, exd_0_5, exd_1_5, exd_2_5, exd_3_5, exd_4_5, neaptidelaw01_wireAlive.v, n1, by_len Okl.read, goInt, h1, h0, bs_L_uint8_0, by2_0, l0, z0, if_neg hk, c1, d11]
      rw [hTe] at hr
      exact neaptidelaw01_WireCuts.runs hr (.inr rfl)
theorem law (x : Args codes) (h : Args.Good codes x) : ∃ k, (acall Try.prog k 8 (Args.place codes x AHeap.empty).1 (Args.place codes x AHeap.empty).2).map (·.1) = some (.bool true) := by
  obtain ⟨a, t, c, u⟩ := x
  obtain ⟨h1, h2, h3, _⟩ := h
  obtain ⟨a', rfl, ha⟩ := in_u64 h1
  obtain ⟨k, l, q1, q2, q3, q4⟩ := in_bytes t h2
  refine law_of_vlim ora_ok (S' := AHeap.empty) ?_
  have e : Args.vval codes ((a' : Int), t, c, u) = [.int .u64 a', by_ k l, .int .i64 c] := by
    show [argOf false [.int .u64 (a' : Int)], argOf false ((Ty.slc 1 (.int .u8)).vval t), argOf false [.int .i64 c]] = _
    rw [q3]; rfl
  rw [e]
  exact run ha q2 q1 q4 _
end wireCuts
end Go.Proofs.Ytjlhjebmbllkiaa
