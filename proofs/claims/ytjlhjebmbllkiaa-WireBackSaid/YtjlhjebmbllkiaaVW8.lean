/-
Are two lists of numbers the same: the document's SameInts.
-/
import Derived.Test.YtjlhjebmbllkiaaF24
import Derived.Test.YtjlhjebmbllkiaaVW7
set_option linter.unusedVariables false
set_option linter.unusedSimpArgs false
namespace Go.Proofs.Ytjlhjebmbllkiaa
open Go.Abs

theorem neaptideref01_SameInts.round {k j : Nat} {a b : List Int} (hk : Okl k a) (hj : Okl j b) (k2 : k ≠ 2) (j2 : j ≠ 2) (hab : a.length = b.length) (hlen : a.length ≤ 17592186044416) {S : AHeap} : ∀ (sa sb pre : List Int) {T : List Value} {r : St}, loopV (vcodeV Try.prog O neaptideref01_SameInts.loop1) T S = r → T.length = 26 →
    T.getD 0 undef = iz k a → T.getD 1 undef = iz j b → T.getD 12 undef = .int .i64 a.length → T.getD 13 undef = .int .i64 pre.length → a = pre ++ sa → b = pre ++ sb →
    ∃ e T', r = some (e, T', S) ∧ if a = b then e = .exit 0 ∧ T'.length = 26 else e = .ret ∧ T'.getD 4 undef = .bool false := by
  intro sa
  induction sa with
  | nil =>
    intro sb pre T r hL hT h0 h1 h12 h13 ha hb
    have hTe := neaptideref01_SameInts.eta hT
    rw [h0, h1, h12, h13] at hTe
    have hr : vcodeV Try.prog O neaptideref01_SameInts.loop1 T S = vcodeV Try.prog O neaptideref01_SameInts.loop1 T S := rfl
    have hd : ¬ (pre.length : Int) < (a.length : Int) := by rw [ha]; simp
    conv at hr =>
      rhs
      rw [hTe]
      simp only [neaptideref01_SameInts.loop1, neaptideref01_SameInts.code, neaptideref01_SameInts.r0, neaptideref01_SameInts.r1, neaptideref01_SameInts.r2, neaptideref01_SameInts.r3, neaptideref01_SameInts.r4, neaptideref01_SameInts.r5, neaptideref01_SameInts.r6, neaptideref01_SameInts.r7, neaptideref01_SameInts.r8, neaptideref01_SameInts.r9, vcodeV_seq, vcodeV_region, vcodeV_block, vcodeV_skip, vcodeV_ret, vcodeV_exit, vcodeV_cond, vcodeV_loop, andThen_some, regV_some, seqV_normal, seqV_exit, seqV_ret, blockV_normal, blockV_ret, blockV_exit, condK_true, condK_false, andK_some, gdK_tt, gdK_ff, gdK_tf, gdK_ft, gdK_ut, gdCK_tt, gdCK_ff, gdCK_tf, gdCK_ft, gdCK_ut, okK_bool, okK_int, okK_string, okK_slice, okK_pointer, okK_SL, okK_EP, okK_sv, okK_vs, List.getD_cons_succ, List.getD_cons_zero, gd_tt, gd_ff, gd_tf, gd_ft, gd_ut, gdC_tt, gdC_ff, gdC_tf, gdC_ft, gdC_ut, ret_run, vPick_bool, if_true, if_false, reduceIte, Nat.reduceEqDiff, Bool.false_eq_true, okC_bool, okC_int, okC_string, okC_slice, okC_iface, okC_vs, okC_sv, okC_EP, dem_undef, dem_int, dem_bool, dem_string, dem_nil, dem_agg, dem_func, dem_pointer, dem_vs, dem_sv, dem_dem, vBin_int, vBin_string, vBin_bool, vConv_int, vExtract_tuple, List.getElem?_cons_succ, List.getElem?_cons_zero, Option.map_some, aBin_add, aBin_sub, aBin_mul, aBin_eql, aBin_neq, aBin_lss, aBin_leq, aBin_gtr, aBin_geq, aUn_not, Bool.not_true, Bool.not_false, Bool.true_eq_false, decide_true, decide_false, eq_self, exd_0_1, exd_0_2, exd_1_2, exd_0_3, exd_1_3, exd_2_3, exd_0_4, exd_1_4, exd_2_4, exd_3_4, exd_0_5, exd_1_5, exd_2_5, exd_3_5, exd_4_5, hd]
    have hsb : sb = [] := by rw [ha, hb] at hab; simp at hab; exact hab
    refine ⟨_, _, hL.symm.trans (loopV_exit hr (by simp)), ?_⟩
    rw [if_pos (by rw [ha, hb, hsb])]
    exact ⟨rfl, rfl⟩
  | cons x sa ih =>
    intro sb pre T r hL hT h0 h1 h12 h13 ha hb
    have hTe := neaptideref01_SameInts.eta hT
    rw [h0, h1, h12, h13] at hTe
    have hr : vcodeV Try.prog O neaptideref01_SameInts.loop1 T S = vcodeV Try.prog O neaptideref01_SameInts.loop1 T S := rfl
    have hd : (pre.length : Int) < (a.length : Int) := by rw [ha]; simp; omega
    cases sb with
    | nil => rw [ha, hb] at hab; simp at hab
    | cons y sb =>
      have e1 : ∀ S, vIndexAddr Try.prog 43 (iz k a) (.int .i64 pre.length) S = some (EP [.int .i64 x], S) := fun S => by
        rw [iz_at hk (by omega) hd]; rw [iz_at_pre ha]
      have e2 : ∀ S, vIndexAddr Try.prog 43 (iz j b) (.int .i64 pre.length) S = some (EP [.int .i64 y], S) := fun S => by
        rw [iz_at hj (by omega) (by omega)]; rw [iz_at_pre hb]
      have wi : IntKind.i64.wrap ((pre.length : Int) + 1) = ((pre ++ [x]).length : Int) := by rw [wrap_i64 (by omega) (by omega)]; simp
      by_cases hxy : x = y
      · conv at hr =>
          rhs
          rw [hTe]
          simp only [neaptideref01_SameInts.loop1, neaptideref01_SameInts.code, neaptideref01_SameInts.r0, neaptideref01_SameInts.r1, neaptideref01_SameInts.r2, neaptideref01_SameInts.r3, neaptideref01_SameInts.r4, neaptideref01_SameInts.r5, neaptideref01_SameInts.r6, neaptideref01_SameInts.r7, neaptideref01_SameInts.r8, neaptideref01_SameInts.r9, vcodeV_seq, vcodeV_region, vcodeV_block, vcodeV_skip, vcodeV_ret, vcodeV_exit, vcodeV_cond, vcodeV_loop, andThen_some, regV_some, seqV_normal, seqV_exit, seqV_ret, blockV_normal, blockV_ret, blockV_exit, condK_true, condK_false, andK_some, gdK_tt, gdK_ff, gdK_tf, gdK_ft, gdK_ut, gdCK_tt, gdCK_ff, gdCK_tf, gdCK_ft, gdCK_ut, okK_bool, okK_int, okK_string, okK_slice, okK_pointer, okK_SL, okK_EP, okK_sv, okK_vs, List.getD_cons_succ, List.getD_cons_zero, gd_tt, gd_ff, gd_tf, gd_ft, gd_ut, gdC_tt, gdC_ff, gdC_tf, gdC_ft, gdC_ut, ret_run, vPick_bool, if_true, if_false, reduceIte, Nat.reduceEqDiff, Bool.false_eq_true, okC_bool, okC_int, okC_string, okC_slice, okC_iface, okC_vs, okC_sv, okC_EP, dem_undef, dem_int, dem_bool, dem_string, dem_nil, dem_agg, dem_func, dem_pointer, dem_vs, dem_sv, dem_dem, vBin_int, vBin_string, vBin_bool, vConv_int, vExtract_tuple, List.getElem?_cons_succ, List.getElem?_cons_zero, Option.map_some, aBin_add, aBin_sub, aBin_mul, aBin_eql, aBin_neq, aBin_lss, aBin_leq, aBin_gtr, aBin_geq, aUn_not, Bool.not_true, Bool.not_false, Bool.true_eq_false, decide_true, decide_false, eq_self, exd_0_1, exd_0_2, exd_1_2, exd_0_3, exd_1_3, exd_2_3, exd_0_4, exd_1_4, exd_2_4, exd_3_4, exd_0_5, exd_1_5, exd_2_5, exd_3_5, exd_4_5, hd, if_neg k2, if_neg j2, e1, e2, iz_load, hxy, wi]
        subst hxy
        exact ih sb (pre ++ [x]) ((loopV_step hr).symm.trans hL) rfl rfl rfl rfl rfl (by simp [ha]) (by simp [hb])
      · conv at hr =>
          rhs
          rw [hTe]
          simp only [neaptideref01_SameInts.loop1, neaptideref01_SameInts.code, neaptideref01_SameInts.r0, neaptideref01_SameInts.r1, neaptideref01_SameInts.r2, neaptideref01_SameInts.r3, neaptideref01_SameInts.r4, neaptideref01_SameInts.r5, neaptideref01_SameInts.r6, neaptideref01_SameInts.r7, neaptideref01_SameInts.r8, neaptideref01_SameInts.r9, vcodeV_seq, vcodeV_region, vcodeV_block, vcodeV_skip, vcodeV_ret, vcodeV_exit, vcodeV_cond, vcodeV_loop, andThen_some, regV_some, seqV_normal, seqV_exit, seqV_ret, blockV_normal, blockV_ret, blockV_exit, condK_true, condK_false, andK_some, gdK_tt, gdK_ff, gdK_tf, gdK_ft, gdK_ut, gdCK_tt, gdCK_ff, gdCK_tf, gdCK_ft, gdCK_ut, okK_bool, okK_int, okK_string, okK_slice, okK_pointer, okK_SL, okK_EP, okK_sv, okK_vs, List.getD_cons_succ, List.getD_cons_zero, gd_tt, gd_ff, gd_tf, gd_ft, gd_ut, gdC_tt, gdC_ff, gdC_tf, gdC_ft, gdC_ut, ret_run, vPick_bool, if_true, if_false, reduceIte, Nat.reduceEqDiff, Bool.false_eq_true, okC_bool, okC_int, okC_string, okC_slice, okC_iface, okC_vs, okC_sv, okC_EP, dem_undef, dem_int, dem_bool, dem_string, dem_nil, dem_agg, dem_func, dem_pointer, dem_vs, dem_sv, dem_dem, vBin_int, vBin_string, vBin_bool, vConv_int, vExtract_tuple, List.getElem?_cons_succ, List.getElem?_cons_zero, Option.map_some, aBin_add, aBin_sub, aBin_mul, aBin_eql, aBin_neq, aBin_lss, aBin_leq, aBin_gtr, aBin_geq, aUn_not, Bool.not_true, Bool.not_false, Bool.true_eq_false, decide_true, decide_false, eq_self, exd_0_1, exd_0_2, exd_1_2, exd_0_3, exd_1_3, exd_2_3, exd_0_4, exd_1_4, exd_2_4, exd_3_4, exd_0_5, exd_1_5, exd_2_5, exd_3_5, exd_4_5, hd, if_neg k2, if_neg j2, e1, e2, iz_load, hxy]
        refine ⟨_, _, hL.symm.trans (loopV_exit hr (by simp)), ?_⟩
        rw [if_neg (by rw [ha, hb]; simp [hxy])]
        exact ⟨rfl, rfl⟩
theorem neaptideref01_SameInts.v {k j : Nat} {a b : List Int} (hk : Okl k a) (hj : Okl j b) (k2 : k ≠ 2) (j2 : j ≠ 2) (hlen : a.length ≤ 17592186044416) (S : AHeap) : vlim Try.prog O neaptideref01_SameInts.id [iz k a, iz j b] S = some (.bool (decide (a = b)), S) := by
  obtain ⟨T, hTe⟩ : ∃ T, T = (iz k a :: iz j b :: undef :: undef :: undef :: undef :: undef :: undef :: undef :: undef :: undef :: undef :: undef :: undef :: undef :: undef :: undef :: undef :: undef :: undef :: undef :: undef :: undef :: undef :: undef :: undef :: []) := ⟨_, rfl⟩
  have hr : vcodeV Try.prog O neaptideref01_SameInts.code T S = vcodeV Try.prog O neaptideref01_SameInts.code T S := rfl
  by_cases hab : a.length = b.length
  · have d1 : (a.length : Int) = (b.length : Int) := by omega
    conv at hr =>
      rhs
      rw [hTe]
      simp only [neaptideref01_SameInts.code, neaptideref01_SameInts.r0, neaptideref01_SameInts.r1, neaptideref01_SameInts.r2, neaptideref01_SameInts.r3, neaptideref01_SameInts.r4, neaptideref01_SameInts.r5, neaptideref01_SameInts.r6, neaptideref01_SameInts.r7, neaptideref01_SameInts.r8, neaptideref01_SameInts.r9, vcodeV_seq, vcodeV_region, vcodeV_block, vcodeV_skip, vcodeV_ret, vcodeV_exit, vcodeV_cond, vcodeV_loop, andThen_some, regV_some, seqV_normal, seqV_exit, seqV_ret, blockV_normal, blockV_ret, blockV_exit, condK_true, condK_false, andK_some, gdK_tt, gdK_ff, gdK_tf, gdK_ft, gdK_ut, gdCK_tt, gdCK_ff, gdCK_tf, gdCK_ft, gdCK_ut, okK_bool, okK_int, okK_string, okK_slice, okK_pointer, okK_SL, okK_EP, okK_sv, okK_vs, List.getD_cons_succ, List.getD_cons_zero, gd_tt, gd_ff, gd_tf, gd_ft, gd_ut, gdC_tt, gdC_ff, gdC_tf, gdC_ft, gdC_ut, ret_run, vPick_bool, if_true, if_false, reduceIte, Nat.reduceEqDiff, Bool.false_eq_true, okC_bool, okC_int, okC_string, okC_slice, okC_iface, okC_vs, okC_sv, okC_EP, dem_undef, dem_int, dem_bool, dem_string, dem_nil, dem_agg, dem_func, dem_pointer, dem_vs, dem_sv, dem_dem, vBin_int, vBin_string, vBin_bool, vConv_int, vExtract_tuple, List.getElem?_cons_succ, List.getElem?_cons_zero, Option.map_some, aBin_add, aBin_sub, aBin_mul, aBin_eql, aBin_neq, aBin_lss, aBin_leq, aBin_gtr, aBin_geq, aUn_not, Bool.not_true, Bool.not_false, Bool.true_eq_false, decide_true, decide_false, eq_self, exd_0_1, exd_0_2, exd_1_2, exd_0_3, exd_1_3, exd_2_3, exd_0_4, exd_1_4, exd_2_4, exd_3_4, exd_0_5, exd_1_5, exd_2_5, exd_3_5, exd_4_5, if_neg k2, if_neg j2, iz_len hk, iz_len hj, goInt, d1]
    generalize hL : loopV (vcodeV Try.prog O neaptideref01_SameInts.loop1) _ _ = r at hr
    obtain ⟨e, T', rfl, g⟩ := neaptideref01_SameInts.round hk hj k2 j2 hab hlen a b [] hL rfl rfl rfl (by rw [hab]; rfl) rfl rfl rfl
    by_cases h : a = b
    · rw [if_pos h] at g
      obtain ⟨rfl, g2⟩ := g
      have hTe' := neaptideref01_SameInts.eta g2
      conv at hr =>
        rhs
        rw [hTe']
        simp only [neaptideref01_SameInts.code, neaptideref01_SameInts.r0, neaptideref01_SameInts.r1, neaptideref01_SameInts.r2, neaptideref01_SameInts.r3, neaptideref01_SameInts.r4, neaptideref01_SameInts.r5, neaptideref01_SameInts.r6, neaptideref01_SameInts.r7, neaptideref01_SameInts.r8, neaptideref01_SameInts.r9, vcodeV_seq, vcodeV_region, vcodeV_block, vcodeV_skip, vcodeV_ret, vcodeV_exit, vcodeV_cond, vcodeV_loop, andThen_some, regV_some, seqV_normal, seqV_exit, seqV_ret, blockV_normal, blockV_ret, blockV_exit, condK_true, condK_false, andK_some, gdK_tt, gdK_ff, gdK_tf, gdK_ft, gdK_ut, gdCK_tt, gdCK_ff, gdCK_tf, gdCK_ft, gdCK_ut, okK_bool, okK_int, okK_string, okK_slice, okK_pointer, okK_SL, okK_EP, okK_sv, okK_vs, List.getD_cons_succ, List.getD_cons_zero, gd_tt, gd_ff, gd_tf, gd_ft, gd_ut, gdC_tt, gdC_ff, gdC_tf, gdC_ft, gdC_ut, ret_run, vPick_bool, if_true, if_false, reduceIte, Nat.reduceEqDiff, Bool.false_eq_true, okC_bool, okC_int, okC_string, okC_slice, okC_iface, okC_vs, okC_sv, okC_EP, dem_undef, dem_int, dem_bool, dem_string, dem_nil, dem_agg, dem_func, dem_pointer, dem_vs, dem_sv, dem_dem, vBin_int, vBin_string, vBin_bool, vConv_int, vExtract_tuple, List.getElem?_cons_succ, List.getElem?_cons_zero, Option.map_some, aBin_add, aBin_sub, aBin_mul, aBin_eql, aBin_neq, aBin_lss, aBin_leq, aBin_gtr, aBin_geq, aUn_not, Bool.not_true, Bool.not_false, Bool.true_eq_false, decide_true, decide_false, eq_self, exd_0_1, exd_0_2, exd_1_2, exd_0_3, exd_1_3, exd_2_3, exd_0_4, exd_1_4, exd_2_4, exd_3_4, exd_0_5, exd_1_5, exd_2_5, exd_3_5, exd_4_5]
      rw [hTe] at hr
      rw [decide_eq_true h]
      exact neaptideref01_SameInts.runs hr (.inr rfl)
    · rw [if_neg h] at g
      obtain ⟨rfl, g2⟩ := g
      conv at hr =>
        rhs
        simp only [vcodeV_seq, vcodeV_region, vcodeV_block, vcodeV_skip, vcodeV_ret, vcodeV_exit, vcodeV_cond, vcodeV_loop, andThen_some, regV_some, seqV_normal, seqV_exit, seqV_ret, blockV_normal, blockV_ret, blockV_exit, condK_true, condK_false, andK_some, gdK_tt, gdK_ff, gdK_tf, gdK_ft, gdK_ut, gdCK_tt, gdCK_ff, gdCK_tf, gdCK_ft, gdCK_ut, okK_bool, okK_int, okK_string, okK_slice, okK_pointer, okK_SL, okK_EP, okK_sv, okK_vs, List.getD_cons_succ, List.getD_cons_zero, gd_tt, gd_ff, gd_tf, gd_ft, gd_ut, gdC_tt, gdC_ff, gdC_tf, gdC_ft, gdC_ut, ret_run, vPick_bool, if_true, if_false, reduceIte, Nat.reduceEqDiff, Bool.false_eq_true, okC_bool, okC_int, okC_string, okC_slice, okC_iface, okC_vs, okC_sv, okC_EP, dem_undef, dem_int, dem_bool, dem_string, dem_nil, dem_agg, dem_func, dem_pointer, dem_vs, dem_sv, dem_dem, vBin_int, vBin_string, vBin_bool, vConv_int, vExtract_tuple, List.getElem?_cons_succ, List.getElem?_cons_zero, Option.map_some, aBin_add, aBin_sub, aBin_mul, aBin_eql, aBin_neq, aBin_lss, aBin_leq, aBin_gtr, aBin_geq, aUn_not, Bool.not_true, Bool.not_false, Bool.true_eq_false, decide_true, decide_false, eq_self, exd_0_1, exd_0_2, exd_1_2, exd_0_3, exd_1_3, exd_2_3, exd_0_4, exd_1_4, exd_2_4, exd_3_4, exd_0_5, exd_1_5, exd_2_5, exd_3_5, exd_4_5]
      rw [hTe] at hr
      rw [decide_eq_false h]
      have hrun := neaptideref01_SameInts.runs hr (.inr rfl)
      rw [g2] at hrun
      exact hrun
  · have d1 : ¬ (a.length : Int) = (b.length : Int) := by omega
    conv at hr =>
      rhs
      rw [hTe]
      simp only [neaptideref01_SameInts.code, neaptideref01_SameInts.r0, neaptideref01_SameInts.r1, neaptideref01_SameInts.r2, neaptideref01_SameInts.r3, neaptideref01_SameInts.r4, neaptideref01_SameInts.r5, neaptideref01_SameInts.r6, neaptideref01_SameInts.r7, neaptideref01_SameInts.r8, neaptideref01_SameInts.r9, vcodeV_seq, vcodeV_region, vcodeV_block, vcodeV_skip, vcodeV_ret, vcodeV_exit, vcodeV_cond, vcodeV_loop, andThen_some, regV_some, seqV_normal, seqV_exit, seqV_ret, blockV_normal, blockV_ret, blockV_exit, condK_true, condK_false, andK_some, gdK_tt, gdK_ff, gdK_tf, gdK_ft, gdK_ut, gdCK_tt, gdCK_ff, gdCK_tf, gdCK_ft, gdCK_ut, okK_bool, okK_int, okK_string, okK_slice, okK_pointer, okK_SL, okK_EP, okK_sv, okK_vs, List.getD_cons_succ, List.getD_cons_zero, gd_tt, gd_ff, gd_tf, gd_ft, gd_ut, gdC_tt, gdC_ff, gdC_tf, gdC_ft, gdC_ut, ret_run, vPick_bool, if_true, if_false, reduceIte, Nat.reduceEqDiff, Bool.false_eq_true, okC_bool, okC_int, okC_string, okC_slice, okC_iface, okC_vs, okC_sv, okC_EP, dem_undef, dem_int, dem_bool, dem_string, dem_nil, dem_agg, dem_func, dem_pointer, dem_vs, dem_sv, dem_dem, vBin_int, vBin_string, vBin_bool, vConv_int, vExtract_tuple, List.getElem?_cons_succ, List.getElem?_cons_zero, Option.map_some, aBin_add, aBin_sub, aBin_mul, aBin_eql, aBin_neq, aBin_lss, aBin_leq, aBin_gtr, aBin_geq, aUn_not, Bool.not_true, Bool.not_false, Bool.true_eq_false, decide_true, decide_false, eq_self, exd_0_1, exd_0_2, exd_1_2, exd_0_3, exd_1_3, exd_2_3, exd_0_4, exd_1_4, exd_2_4, exd_3_4, exd_0_5, exd_1_5, exd_2_5, exd_3_5, exd_4_5, if_neg k2, if_neg j2, iz_len hk, iz_len hj, goInt, d1]
    rw [hTe] at hr
    rw [decide_eq_false (fun h => hab (by rw [h]))]
    exact neaptideref01_SameInts.runs hr (.inr rfl)

/-- What both answer. -/
theorem numsV_both {l : List Int} (hb : ∀ n ∈ l, n < 9223372036854775808) : ∃ k1 k2 m e, Okl k1 m ∧ Okl k2 m ∧ List.length m ≤ 640 ∧ numsV 0 l = .tuple #[by_ k1 m, .int .i64 e] ∧ numsV 2 l = .tuple #[by_ k2 m, .int .i64 e] := by
  unfold numsV
  by_cases h : 64 < l.length ∨ ∃ n ∈ l, n < -1
  · exact ⟨0, 0, [], 11, Okl.none, Okl.none, by simp, by rw [if_pos h]; rfl, by rw [if_pos h]; rfl⟩
  · refine ⟨if l = [] then 0 else 2, 2, encs l, 0, ⟨by split <;> omega, fun h => by split at h <;> first | (rename_i hp; subst hp; rfl) | omega⟩, Okl.own, ?_, by rw [if_neg h], by rw [if_neg h, ite_self]⟩
    have := encs_len hb; omega
theorem readNs_len : ∀ (m : Nat) (l : List UInt8) {a : List Int} {b : List UInt8}, readNs m l = some (a, b) → a.length = m ∧ b.length ≤ l.length := by
  intro m
  induction m with
  | zero => intro l a b h; cases h; exact ⟨rfl, Nat.le_refl _⟩
  | succ m ih =>
    intro l a b h
    rw [readNs] at h
    cases hsc : scan 0 0 l with
    | none => rw [hsc] at h; cases h
    | some nr =>
      obtain ⟨n, r⟩ := nr
      rw [hsc] at h
      obtain ⟨_, hrl⟩ := scan_lt l 0 0 (by decide) (by omega) n r hsc
      dsimp only at h
      split at h
      · cases hrn : readNs m r with
        | none => rw [hrn] at h; cases h
        | some ab =>
          obtain ⟨a', b'⟩ := ab
          rw [hrn] at h
          cases h
          obtain ⟨h1, h2⟩ := ih r hrn
          exact ⟨by simp [h1], by omega⟩
      · cases h
theorem readNsV_form {k0 k1 : Nat} {many : Int} {l : List UInt8} (h1 : Okl k1 l) (h0 : k0 = 0 ∨ k0 = 2) : ∃ ka kb, readNsV k0 k1 many l = (match (if many < 0 ∨ 64 < many then none else readNs many.toNat l) with
    | some (a, b) => .tuple #[iz ka a, by_ kb b, .int .i64 0]
    | none => .tuple #[iz 0 [], by_ 0 [], .int .i64 11]) ∧ ∀ a b, (if many < 0 ∨ 64 < many then none else readNs many.toNat l) = some (a, b) → Okl ka a ∧ Okl kb b := by
  unfold readNsV
  refine ⟨if many = 0 then k0 else 2, if many = 0 then k1 else 2, ?_, ?_⟩
  · by_cases h : many < 0 ∨ 64 < many
    · rw [if_pos h, if_pos h]; rfl
    · rw [if_neg h, if_neg h]
      cases readNs many.toNat l with
      | none => rfl
      | some ab => rfl
  · intro a b h
    split at h
    · cases h
    · by_cases hz : many = 0
      · subst hz
        cases h
        simp only [if_pos]
        exact ⟨⟨by rcases h0 with rfl | rfl <;> omega, fun _ => rfl⟩, h1⟩
      · rw [if_neg hz, if_neg hz]; exact ⟨Okl.own, Okl.own⟩
theorem readNsV_both {k : Nat} {many : Int} {l : List UInt8} (hk : Okl k l) (hl : l.length ≤ 140737488355328) : ∃ k1 k2 k3 k4 a b e, Okl k1 a ∧ Okl k2 b ∧ Okl k3 a ∧ Okl k4 b ∧ List.length a ≤ 64 ∧ List.length b ≤ 140737488355328 ∧
    readNsV 0 (if k = 0 then 0 else 2) many l = .tuple #[iz k1 a, by_ k2 b, .int .i64 e] ∧ readNsV 2 2 many l = .tuple #[iz k3 a, by_ k4 b, .int .i64 e] := by
  obtain ⟨ka, kb, q1, q2⟩ := readNsV_form (k0 := 0) (k1 := if k = 0 then 0 else 2) (many := many) (l := l) ⟨by split <;> omega, fun h => by split at h <;> first | (rename_i hp; exact hk.nil hp) | omega⟩ (.inl rfl)
  obtain ⟨kc, kd, q3, q4⟩ := readNsV_form (k0 := 2) (k1 := 2) (many := many) (l := l) Okl.own (.inr rfl)
  rw [q1, q3]
  cases hm : (if many < 0 ∨ 64 < many then none else readNs many.toNat l) with
  | none => exact ⟨0, 0, 0, 0, [], [], 11, Okl.none, Okl.none, Okl.none, Okl.none, by simp, by simp, rfl, rfl⟩
  | some ab =>
    obtain ⟨a, b⟩ := ab
    obtain ⟨p1, p2⟩ := q2 a b hm
    obtain ⟨p3, p4⟩ := q4 a b hm
    have hlen : a.length ≤ 64 ∧ b.length ≤ 140737488355328 := by
      split at hm
      · cases hm
      · obtain ⟨z1, z2⟩ := readNs_len _ _ hm; omega
    exact ⟨ka, kb, kc, kd, a, b, 0, p1, p2, p3, p4, hlen.1, hlen.2, rfl, rfl⟩
end Go.Proofs.Ytjlhjebmbllkiaa
