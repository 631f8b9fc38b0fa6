/-
Are two lists of numbers the same: the document's SameInts.
-/
import Derived.Test.YtooljmmlekmkeaaF15
import Derived.Test.YtooljmmlekmkeaaVBase
set_option linter.unusedVariables false
set_option linter.unusedSimpArgs false
namespace Go.Proofs.Ytooljmmlekmkeaa
open Go.Abs

theorem neaptideref01_SameInts.round {k j : Nat} {a b : List Int} (hk : Okl k a) (hj : Okl j b) (k2 : k ≠ 2) (j2 : j ≠ 2) (hab : a.length = b.length) (hlen : a.length ≤ 17592186044416) {S : AHeap} : ∀ (sa sb pre : List Int) {T : List Value} {r : St}, loopV (vcodeV Try.prog O false neaptideref01_SameInts.loop1) T S = r → T.length = 26 →
    T.getD 0 undef = iz k a → T.getD 1 undef = iz j b → T.getD 12 undef = .int .i64 a.length → T.getD 13 undef = .int .i64 pre.length → a = pre ++ sa → b = pre ++ sb →
    ∃ e T', r = some (e, T', S) ∧ if a = b then e = .exit 0 ∧ T'.length = 26 else e = .ret ∧ T'.getD 4 undef = .bool false := by
  intro sa
  induction sa with
  | nil =>
    intro sb pre T r hL hT h0 h1 h12 h13 ha hb
    have hTe := neaptideref01_SameInts.eta hT
    rw [h0, h1, h12, h13] at hTe
    have hr : vcodeV Try.prog O false neaptideref01_SameInts.loop1 T S = vcodeV Try.prog O false neaptideref01_SameInts.loop1 T S := rfl
    have hd : ¬ (pre.length : Int) < (a.length : Int) := by rw [ha]; simp
    conv at hr =>
      rhs
      rw [hTe]
      simp only [neaptideref01_SameInts.loop1, neaptideref01_SameInts.code, neaptideref01_SameInts.r0, neaptideref01_SameInts.r1, neaptideref01_SameInts.r2, neaptideref01_SameInts.r3, neaptideref01_SameInts.r4, neaptideref01_SameInts.r5, neaptideref01_SameInts.r6, neaptideref01_SameInts.r7, neaptideref01_SameInts.r8, neaptideref01_SameInts.r9, vcodeV_seq, vcodeV_region, vcodeV_block, vcodeV_skip, vcodeV_ret, vcodeV_exit, vcodeV_cond, vcodeV_loop, andThen_some, regV_some, seqV_normal, seqV_exit, seqV_ret, blockV_normal, blockV_ret, blockV_exit, condK_true, condK_false, andK_some, gdK_tt, gdK_ff, gdK_tf, gdK_ft, gdK_ut, gdCK_tt, gdCK_ff, gdCK_tf, gdCK_ft, gdCK_ut, okK_bool, okK_int, okK_string, okK_slice, okK_pointer, okK_SL, okK_EP, okK_sv, okK_vs, List.getD_cons_succ, List.getD_cons_zero, gd_tt, gd_ff, gd_tf, gd_ft, gd_ut, gdC_tt, gdC_ff, gdC_tf, gdC_ft, gdC_ut, ret_run, vPick_bool, if_true, if_false, reduceIte, Nat.reduceEqDiff, Bool.false_eq_true, okC_bool, okC_int, okC_string, okC_slice, okC_iface, okC_vs, okC_sv, okC_EP, dem_undef, dem_int, dem_bool, dem_string, dem_nil, dem_agg, dem_func, dem_pointer, dem_vs, dem_sv, dem_dem, vBin_int, vBin_string, vBin_bool, vConv_int, vConvF_int, vConvF_string, vConvF_stringH, vConvF_sv, vConvF_vs, vSliceF_sv, vSliceF_vs, vSliceF_string, vcodeV_regionH, vExtract_tuple, List.getElem?_cons_succ, List.getElem?_cons_zero, Option.map_some, aBin_add, aBin_sub, aBin_mul, aBin_eql, aBin_neq, aBin_lss, aBin_leq, aBin_gtr, aBin_geq, aUn_not, Bool.not_true, Bool.not_false, Bool.true_eq_false, decide_true, decide_false, eq_self, exd_0_1, exd_0_2, exd_1_2, exd_0_3, exd_1_3, exd_2_3, exd_0_4, exd_1_4, exd_2_4, exd_3_4, exd_0_5, exd_1_5, exd_2_5, exd_3_5, exd_4_5, hd]
    have hsb : sb = [] := by rw [ha, hb] at hab; simp at hab; exact hab
    refine ⟨_, _, hL.symm.trans (loopV_exit hr (by simp)), ?_⟩
    rw [if_pos (by rw [ha, hb, hsb])]
    exact ⟨rfl, rfl⟩
  | cons x sa ih =>
    intro sb pre T r hL hT h0 h1 h12 h13 ha hb
    have hTe := neaptideref01_SameInts.eta hT
    rw [h0, h1, h12, h13] at hTe
    have hr : vcodeV Try.prog O false neaptideref01_SameInts.loop1 T S = vcodeV Try.prog O false neaptideref01_SameInts.loop1 T S := rfl
    have hd : (pre.length : Int) < (a.length : Int) := by rw [ha]; simp; omega
    cases sb with
    | nil => rw [ha, hb] at hab; simp at hab
    | cons y sb =>
      have e1 : ∀ S, vIndexAddr Try.prog 22 (iz k a) (.int .i64 pre.length) S = some (EP [.int .i64 x], S) := fun S => by
        rw [iz_at hk (by omega) hd]; rw [iz_at_pre ha]
      have e2 : ∀ S, vIndexAddr Try.prog 22 (iz j b) (.int .i64 pre.length) S = some (EP [.int .i64 y], S) := fun S => by
        rw [iz_at hj (by omega) (by omega)]; rw [iz_at_pre hb]
      have wi : IntKind.i64.wrap ((pre.length : Int) + 1) = ((pre ++ [x]).length : Int) := by rw [wrap_i64 (by omega) (by omega)]; simp
      by_cases hxy : x = y
      · conv at hr =>
          rhs
          rw [hTe]
          simp only [neaptideref01_SameInts.loop1, neaptideref01_SameInts.code, neaptideref01_SameInts.r0, neaptideref01_SameInts.r1, neaptideref01_SameInts.r2, neaptideref01_SameInts.r3, neaptideref01_SameInts.r4, neaptideref01_SameInts.r5, neaptideref01_SameInts.r6, neaptideref01_SameInts.r7, neaptideref01_SameInts.r8, neaptideref01_SameInts.r9, vcodeV_seq, vcodeV_region, vcodeV_block, vcodeV_skip, vcodeV_ret, vcodeV_exit, vcodeV_cond, vcodeV_loop, andThen_some, regV_some, seqV_normal, seqV_exit, seqV_ret, blockV_normal, blockV_ret, blockV_exit, condK_true, condK_false, andK_some, gdK_tt, gdK_ff, gdK_tf, gdK_ft, gdK_ut, gdCK_tt, gdCK_ff, gdCK_tf, gdCK_ft, gdCK_ut, okK_bool, okK_int, okK_string, okK_slice, okK_pointer, okK_SL, okK_EP, okK_sv, okK_vs, List.getD_cons_succ, List.getD_cons_zero, gd_tt, gd_ff, gd_tf, gd_ft, gd_ut, gdC_tt, gdC_ff, gdC_tf, gdC_ft, gdC_ut, ret_run, vPick_bool, if_true, if_false, reduceIte, Nat.reduceEqDiff, Bool.false_eq_true, okC_bool, okC_int, okC_string, okC_slice, okC_iface, okC_vs, okC_sv, okC_EP, dem_undef, dem_int, dem_bool, dem_string, dem_nil, dem_agg, dem_func, dem_pointer, dem_vs, dem_sv, dem_dem, vBin_int, vBin_string, vBin_bool, vConv_int, vConvF_int, vConvF_string, vConvF_stringH, vConvF_sv, vConvF_vs, vSliceF_sv, vSliceF_vs, vSliceF_string, vcodeV_regionH, vExtract_tuple, List.getElem?_cons_succ, List.getElem?_cons_zero, Option.map_some, aBin_add, aBin_sub, aBin_mul, aBin_eql, aBin_neq, aBin_lss, aBin_leq, aBin_gtr, aBin_geq, aUn_not, Bool.not_true, Bool.not_false, Bool.true_eq_false, decide_true, decide_false, eq_self, exd_0_1, exd_0_2, exd_1_2, exd_0_3, exd_1_3, exd_2_3, exd_0_4, exd_1_4, exd_2_4, exd_3_4, exd_0_5, exd_1_5, exd_2_5, exd_3_5, exd_4_5, hd, if_neg k2, if_neg j2, e1, e2, iz_load, hxy, wi]
        subst hxy
        exact ih sb (pre ++ [x]) ((loopV_step hr).symm.trans hL) rfl rfl rfl rfl rfl (by simp [ha]) (by simp [hb])
      · conv at hr =>
          rhs
          rw [hTe]
          simp only [neaptideref01_SameInts.loop1, neaptideref01_SameInts.code, neaptideref01_SameInts.r0, neaptideref01_SameInts.r1, neaptideref01_SameInts.r2, neaptideref01_SameInts.r3, neaptideref01_SameInts.r4, neaptideref01_SameInts.r5, neaptideref01_SameInts.r6, neaptideref01_SameInts.r7, neaptideref01_SameInts.r8, neaptideref01_SameInts.r9, vcodeV_seq, vcodeV_region, vcodeV_block, vcodeV_skip, vcodeV_ret, vcodeV_exit, vcodeV_cond, vcodeV_loop, andThen_some, regV_some, seqV_normal, seqV_exit, seqV_ret, blockV_normal, blockV_ret, blockV_exit, condK_true, condK_false, andK_some, gdK_tt, gdK_ff, gdK_tf, gdK_ft, gdK_ut, gdCK_tt, gdCK_ff, gdCK_tf, gdCK_ft, gdCK_ut, okK_bool, okK_int, okK_string, okK_slice, okK_pointer, okK_SL, okK_EP, okK_sv, okK_vs, List.getD_cons_succ, List.getD_cons_zero, gd_tt, gd_ff, gd_tf, gd_ft, gd_ut, gdC_tt, gdC_ff, gdC_tf, gdC_ft, gdC_ut, ret_run, vPick_bool, if_true, if_false, reduceIte, Nat.reduceEqDiff, Bool.false_eq_true, okC_bool, okC_int, okC_string, okC_slice, okC_iface, okC_vs, okC_sv, okC_EP, dem_undef, dem_int, dem_bool, dem_string, dem_nil, dem_agg, dem_func, dem_pointer, dem_vs, dem_sv, dem_dem, vBin_int, vBin_string, vBin_bool, vConv_int, vConvF_int, vConvF_string, vConvF_stringH, vConvF_sv, vConvF_vs, vSliceF_sv, vSliceF_vs, vSliceF_string, vcodeV_regionH, vExtract_tuple, List.getElem?_cons_succ, List.getElem?_cons_zero, Option.map_some, aBin_add, aBin_sub, aBin_mul, aBin_eql, aBin_neq, aBin_lss, aBin_leq, aBin_gtr, aBin_geq, aUn_not, Bool.not_true, Bool.not_false, Bool.true_eq_false, decide_true, decide_false, eq_self, exd_0_1, exd_0_2, exd_1_2, exd_0_3, exd_1_3, exd_2_3, exd_0_4, exd_1_4, exd_2_4, exd_3_4, exd_0_5, exd_1_5, exd_2_5, exd_3_5, exd_4_5, hd, if_neg k2, if_neg j2, e1, e2, iz_load, hxy]
        refine ⟨_, _, hL.symm.trans (loopV_exit hr (by simp)), ?_⟩
        rw [if_neg (by rw [ha, hb]; simp [hxy])]
        exact ⟨rfl, rfl⟩
theorem neaptideref01_SameInts.v {k j : Nat} {a b : List Int} (hk : Okl k a) (hj : Okl j b) (k2 : k ≠ 2) (j2 : j ≠ 2) (hlen : a.length ≤ 17592186044416) (S : AHeap) : vlim Try.prog O neaptideref01_SameInts.id [iz k a, iz j b] S = some (.bool (decide (a = b)), S) := by
  obtain ⟨T, hTe⟩ : ∃ T, T = (iz k a :: iz j b :: undef :: undef :: undef :: undef :: undef :: undef :: undef :: undef :: undef :: undef :: undef :: undef :: undef :: undef :: undef :: undef :: undef :: undef :: undef :: undef :: undef :: undef :: undef :: undef :: []) := ⟨_, rfl⟩
  have hr : vcodeV Try.prog O false neaptideref01_SameInts.code T S = vcodeV Try.prog O false neaptideref01_SameInts.code T S := rfl
  by_cases hab : a.length = b.length
  · have d1 : (a.length : Int) = (b.length : Int) := by omega
    conv at hr =>
      rhs
      rw [hTe]
      simp only [neaptideref01_SameInts.code, neaptideref01_SameInts.r0, neaptideref01_SameInts.r1, neaptideref01_SameInts.r2, neaptideref01_SameInts.r3, neaptideref01_SameInts.r4, neaptideref01_SameInts.r5, neaptideref01_SameInts.r6, neaptideref01_SameInts.r7, neaptideref01_SameInts.r8, neaptideref01_SameInts.r9, vcodeV_seq, vcodeV_region, vcodeV_block, vcodeV_skip, vcodeV_ret, vcodeV_exit, vcodeV_cond, vcodeV_loop, andThen_some, regV_some, seqV_normal, seqV_exit, seqV_ret, blockV_normal, blockV_ret, blockV_exit, condK_true, condK_false, andK_some, gdK_tt, gdK_ff, gdK_tf, gdK_ft, gdK_ut, gdCK_tt, gdCK_ff, gdCK_tf, gdCK_ft, gdCK_ut, okK_bool, okK_int, okK_string, okK_slice, okK_pointer, okK_SL, okK_EP, okK_sv, okK_vs, List.getD_cons_succ, List.getD_cons_zero, gd_tt, gd_ff, gd_tf, gd_ft, gd_ut, gdC_tt, gdC_ff, gdC_tf, gdC_ft, gdC_ut, ret_run, vPick_bool, if_true, if_false, reduceIte, Nat.reduceEqDiff, Bool.false_eq_true, okC_bool, okC_int, okC_string, okC_slice, okC_iface, okC_vs, okC_sv, okC_EP, dem_undef, dem_int, dem_bool, dem_string, dem_nil, dem_agg, dem_func, dem_pointer, dem_vs, dem_sv, dem_dem, vBin_int, vBin_string, vBin_bool, vConv_int, vConvF_int, vConvF_string, vConvF_stringH, vConvF_sv, vConvF_vs, vSliceF_sv, vSliceF_vs, vSliceF_string, vcodeV_regionH, vExtract_tuple, List.getElem?_cons_succ, List.getElem?_cons_zero, Option.map_some, aBin_add, aBin_sub, aBin_mul, aBin_eql, aBin_neq, aBin_lss, aBin_leq, aBin_gtr, aBin_geq, aUn_not, Bool.not_true, Bool.not_false, Bool.true_eq_false, decide_true, decide_false, eq_self, exd_0_1, exd_0_2, exd_1_2, exd_0_3, exd_1_3, exd_2_3, exd_0_4, exd_1_4, exd_2_4, exd_3_4, exd_0_5, exd_1_5, exd_2_5, exd_3_5, exd_4_5, if_neg k2, if_neg j2, iz_len hk, iz_len hj, goInt, d1]
    generalize hL : loopV (vcodeV Try.prog O false neaptideref01_SameInts.loop1) _ _ = r at hr
    obtain ⟨e, T', rfl, g⟩ := neaptideref01_SameInts.round hk hj k2 j2 hab hlen a b [] hL rfl rfl rfl (by rw [hab]; rfl) rfl rfl rfl
    by_cases h : a = b
    · rw [if_pos h] at g
      obtain ⟨rfl, g2⟩ := g
      have hTe' := neaptideref01_SameInts.eta g2
      conv at hr =>
        rhs
        rw [hTe']
        simp only [neaptideref01_SameInts.code, neaptideref01_SameInts.r0, neaptideref01_SameInts.r1, neaptideref01_SameInts.r2, neaptideref01_SameInts.r3, neaptideref01_SameInts.r4, neaptideref01_SameInts.r5, neaptideref01_SameInts.r6, neaptideref01_SameInts.r7, neaptideref01_SameInts.r8, neaptideref01_SameInts.r9, vcodeV_seq, vcodeV_region, vcodeV_block, vcodeV_skip, vcodeV_ret, vcodeV_exit, vcodeV_cond, vcodeV_loop, andThen_some, regV_some, seqV_normal, seqV_exit, seqV_ret, blockV_normal, blockV_ret, blockV_exit, condK_true, condK_false, andK_some, gdK_tt, gdK_ff, gdK_tf, gdK_ft, gdK_ut, gdCK_tt, gdCK_ff, gdCK_tf, gdCK_ft, gdCK_ut, okK_bool, okK_int, okK_string, okK_slice, okK_pointer, okK_SL, okK_EP, okK_sv, okK_vs, List.getD_cons_succ, List.getD_cons_zero, gd_tt, gd_ff, gd_tf, gd_ft, gd_ut, gdC_tt, gdC_ff, gdC_tf, gdC_ft, gdC_ut, ret_run, vPick_bool, if_true, if_false, reduceIte, Nat.reduceEqDiff, Bool.false_eq_true, okC_bool, okC_int, okC_string, okC_slice, okC_iface, okC_vs, okC_sv, okC_EP, dem_undef, dem_int, dem_bool, dem_string, dem_nil, dem_agg, dem_func, dem_pointer, dem_vs, dem_sv, dem_dem, vBin_int, vBin_string, vBin_bool, vConv_int, vConvF_int, vConvF_string, vConvF_stringH, vConvF_sv, vConvF_vs, vSliceF_sv, vSliceF_vs, vSliceF_string, vcodeV_regionH, vExtract_tuple, List.getElem?_cons_succ, List.getElem?_cons_zero, Option.map_some, aBin_add, aBin_sub, aBin_mul, aBin_eql, aBin_neq, aBin_lss, aBin_leq, aBin_gtr, aBin_geq, aUn_not, Bool.not_true, Bool.not_false, Bool.true_eq_false, decide_true, decide_false, eq_self, exd_0_1, exd_0_2, exd_1_2, exd_0_3, exd_1_3, exd_2_3, exd_0_4, exd_1_4, exd_2_4, exd_3_4, exd_0_5, exd_1_5, exd_2_5, exd_3_5, exd_4_5]
      rw [hTe] at hr
      rw [decide_eq_true h]
      exact neaptideref01_SameInts.runs hr (.inr rfl)
    · rw [if_neg h] at g
      obtain ⟨rfl, g2⟩ := g
      conv at hr =>
        rhs
        simp only [vcodeV_seq, vcodeV_region, vcodeV_block, vcodeV_skip, vcodeV_ret, vcodeV_exit, vcodeV_cond, vcodeV_loop, andThen_some, regV_some, seqV_normal, seqV_exit, seqV_ret, blockV_normal, blockV_ret, blockV_exit, condK_true, condK_false, andK_some, gdK_tt, gdK_ff, gdK_tf, gdK_ft, gdK_ut, gdCK_tt, gdCK_ff, gdCK_tf, gdCK_ft, gdCK_ut, okK_bool, okK_int, okK_string, okK_slice, okK_pointer, okK_SL, okK_EP, okK_sv, okK_vs, List.getD_cons_succ, List.getD_cons_zero, gd_tt, gd_ff, gd_tf, gd_ft, gd_ut, gdC_tt, gdC_ff, gdC_tf, gdC_ft, gdC_ut, ret_run, vPick_bool, if_true, if_false, reduceIte, Nat.reduceEqDiff, Bool.false_eq_true, okC_bool, okC_int, okC_string, okC_slice, okC_iface, okC_vs, okC_sv, okC_EP, dem_undef, dem_int, dem_bool, dem_string, dem_nil, dem_agg, dem_func, dem_pointer, dem_vs, dem_sv, dem_dem, vBin_int, vBin_string, vBin_bool, vConv_int, vConvF_int, vConvF_string, vConvF_stringH, vConvF_sv, vConvF_vs, vSliceF_sv, vSliceF_vs, vSliceF_string, vcodeV_regionH, vExtract_tuple, List.getElem?_cons_succ, List.getElem?_cons_zero, Option.map_some, aBin_add, aBin_sub, aBin_mul, aBin_eql, aBin_neq, aBin_lss, aBin_leq, aBin_gtr, aBin_geq, aUn_not, Bool.not_true, Bool.not_false, Bool.true_eq_false, decide_true, decide_false, eq_self, exd_0_1, exd_0_2, exd_1_2, exd_0_3, exd_1_3, exd_2_3, exd_0_4, exd_1_4, exd_2_4, exd_3_4, exd_0_5, exd_1_5, exd_2_5, exd_3_5, exd_4_5]
      rw [hTe] at hr
      rw [decide_eq_false h]
      have hrun := neaptideref01_SameInts.runs hr (.inr rfl)
      rw [g2] at hrun
      exact hrun
  · have d1 : ¬ (a.length : Int) = (b.length : Int) := by omega
    conv at hr =>
      rhs
      rw [hTe]
      simp only [neaptideref01_SameInts.code, neaptideref01_SameInts.r0, neaptideref01_SameInts.r1, neaptideref01_SameInts.r2, neaptideref01_SameInts.r3, neaptideref01_SameInts.r4, neaptideref01_SameInts.r5, neaptideref01_SameInts.r6, neaptideref01_SameInts.r7, neaptideref01_SameInts.r8, neaptideref01_SameInts.r9, vcodeV_seq, vcodeV_region, vcodeV_block, vcodeV_skip, vcodeV_ret, vcodeV_exit, vcodeV_cond, vcodeV_loop, andThen_some, regV_some, seqV_normal, seqV_exit, seqV_ret, blockV_normal, blockV_ret, blockV_exit, condK_true, condK_false, andK_some, gdK_tt, gdK_ff, gdK_tf, gdK_ft, gdK_ut, gdCK_tt, gdCK_ff, gdCK_tf, gdCK_ft, gdCK_ut, okK_bool, okK_int, okK_string, okK_slice, okK_pointer, okK_SL, okK_EP, okK_sv, okK_vs, List.getD_cons_succ, List.getD_cons_zero, gd_tt, gd_ff, gd_tf, gd_ft, gd_ut, gdC_tt, gdC_ff, gdC_tf, gdC_ft, gdC_ut, ret_run, vPick_bool, if_true, if_false, reduceIte, Nat.reduceEqDiff, Bool.false_eq_true, okC_bool, okC_int, okC_string, okC_slice, okC_iface, okC_vs, okC_sv, okC_EP, dem_undef, dem_int, dem_bool, dem_string, dem_nil, dem_agg, dem_func, dem_pointer, dem_vs, dem_sv, dem_dem, vBin_int, vBin_string, vBin_bool, vConv_int, vConvF_int, vConvF_string, vConvF_stringH, vConvF_sv, vConvF_vs, vSliceF_sv, vSliceF_vs, vSliceF_string, vcodeV_regionH, vExtract_tuple, List.getElem?_cons_succ, List.getElem?_cons_zero, Option.map_some, aBin_add, aBin_sub, aBin_mul, aBin_eql, aBin_neq, aBin_lss, aBin_leq, aBin_gtr, aBin_geq, aUn_not, Bool.not_true, Bool.not_false, Bool.true_eq_false, decide_true, decide_false, eq_self, exd_0_1, exd_0_2, exd_1_2, exd_0_3, exd_1_3, exd_2_3, exd_0_4, exd_1_4, exd_2_4, exd_3_4, exd_0_5, exd_1_5, exd_2_5, exd_3_5, exd_4_5, if_neg k2, if_neg j2, iz_len hk, iz_len hj, goInt, d1]
    rw [hTe] at hr
    rw [decide_eq_false (fun h => hab (by rw [h]))]
    exact neaptideref01_SameInts.runs hr (.inr rfl)
end Go.Proofs.Ytooljmmlekmkeaa
