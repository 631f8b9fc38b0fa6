/-
What is cut is gone: the law's run.
-/
import Derived.Test.YtgfpjnblookppaaF8
import Derived.Test.YtgfpjnblookppaaVD3
set_option linter.unusedVariables false
set_option linter.unusedSimpArgs false
set_option maxRecDepth 100000
namespace Go.Proofs.Ytgfpjnblookppaa
open Go.Abs


namespace diskCuts
def codes : List (Bool × Ty) := [(false, .slc 24 (.slc 1 (.int .u8))), (false, .int .i64), (false, .slc 1 (.int .u8))]
theorem coded : argsOf Try.prog 9 [35, 3, 27] = some codes := by kernel_rfl

theorem round {k q : Nat} {l : List Tb} (hk : Okl k l) (k2 : k ≠ 2) (hl : l.length * 24 ≤ 140737488351232) (hg : ∀ t ∈ l, t.Ok) {room : Int} : ∀ (suf pre : List Tb) {T : List Value} {r : St} {S : AHeap} {data : List UInt8} {sy : Int}, loopV (vcodeV Try.prog O false neaptidelaw04_DiskCuts.loop1) T S = r → T.length = 96 →
    T.getD 7 undef = .pointer (some ⟨q, 0, none⟩) → T.getD 24 undef = vs fB 1 k l → T.getD 25 undef = .int .i64 l.length → T.getD 26 undef = .int .i64 pre.length → l = pre ++ suf → Dk S q data sy room → data.length ≤ room →
    ∃ T' S' data' sy', r = some (.exit 0, T', S') ∧ T'.length = 96 ∧ T'.getD 7 undef = .pointer (some ⟨q, 0, none⟩) ∧ T'.getD 1 undef = T.getD 1 undef ∧ T'.getD 2 undef = T.getD 2 undef ∧ Dk S' q data' sy' room ∧ data'.length ≤ room := by
  intro suf
  induction suf with
  | nil =>
    intro pre T r S data sy hL hT h5 h23 h24 h25 hpre hD hd
    have hTe := neaptidelaw04_DiskCuts.eta hT
    rw [h5, h23, h24, h25] at hTe
    have hr : vcodeV Try.prog O false neaptidelaw04_DiskCuts.loop1 T S = vcodeV Try.prog O false neaptidelaw04_DiskCuts.loop1 T S := rfl
    have d1 : ¬ (pre.length : Int) < (l.length : Int) := by rw [hpre]; simp
    conv at hr =>
      rhs
      rw [hTe]
      simp only [neaptidelaw04_DiskCuts.loop1, neaptidelaw04_DiskCuts.code, neaptidelaw04_DiskCuts.r0, neaptidelaw04_DiskCuts.r1, neaptidelaw04_DiskCuts.r2, neaptidelaw04_DiskCuts.r3, neaptidelaw04_DiskCuts.r4, neaptidelaw04_DiskCuts.r5, neaptidelaw04_DiskCuts.r6, neaptidelaw04_DiskCuts.r7, neaptidelaw04_DiskCuts.r8, neaptidelaw04_DiskCuts.r9, neaptidelaw04_DiskCuts.r10, neaptidelaw04_DiskCuts.r11, neaptidelaw04_DiskCuts.r12, neaptidelaw04_DiskCuts.r13, neaptidelaw04_DiskCuts.r14, neaptidelaw04_DiskCuts.r15, neaptidelaw04_DiskCuts.r16, neaptidelaw04_DiskCuts.r17, neaptidelaw04_DiskCuts.r18, vcodeV_seq, vcodeV_region, vcodeV_block, vcodeV_skip, vcodeV_ret, vcodeV_exit, vcodeV_cond, vcodeV_loop, andThen_some, regV_some, seqV_normal, seqV_exit, seqV_ret, blockV_normal, blockV_ret, blockV_exit, condK_true, condK_false, andK_some, gdK_tt, gdK_ff, gdK_tf, gdK_ft, gdK_ut, gdCK_tt, gdCK_ff, gdCK_tf, gdCK_ft, gdCK_ut, okK_bool, okK_int, okK_string, okK_slice, okK_pointer, okK_SL, okK_EP, okK_sv, okK_vs, List.getD_cons_succ, List.getD_cons_zero, gd_tt, gd_ff, gd_tf, gd_ft, gd_ut, gdC_tt, gdC_ff, gdC_tf, gdC_ft, gdC_ut, ret_run, vPick_bool, if_true, if_false, reduceIte, Nat.reduceEqDiff, Bool.false_eq_true, okC_bool, okC_int, okC_string, okC_slice, okC_iface, okC_vs, okC_sv, okC_EP, dem_undef, dem_int, dem_bool, dem_string, dem_nil, dem_agg, dem_func, dem_pointer, dem_slice, dem_map, dem_vs, dem_sv, dem_dem, vBin_int, vBin_string, vBin_bool, vConv_int, vConvF_int, vConvF_string, vConvF_stringH, vConvF_sv, vConvF_vs, vSliceF_sv, vSliceF_vs, vSliceF_string, vcodeV_regionH, vExtract_tuple, List.getElem?_cons_succ, List.getElem?_cons_zero, Option.map_some, aBin_add, aBin_sub, aBin_mul, aBin_eql, aBin_neq, aBin_lss, aBin_leq, aBin_gtr, aBin_geq, aUn_not, Bool.not_true, Bool.not_false, Bool.true_eq_false, decide_true, decide_false, eq_self, exd_0_1, exd_0_2, exd_1_2, exd_0_3, exd_1_3, exd_2_3, exd_0_4, exd_1_4, exd_2_4, exd_3_4, exd_0_5, exd_1_5, exd_2_5, exd_3_5, exd_4_5, Int.reduceEq, Int.reduceLT, Int.reduceLE, d1]
    exact ⟨_, _, data, sy, hL.symm.trans (loopV_exit hr (by simp)), rfl, rfl, rfl, rfl, hD, hd⟩
  | cons t suf ih =>
    intro pre T r S data sy hL hT h5 h23 h24 h25 hpre hD hd
    have hTe := neaptidelaw04_DiskCuts.eta hT
    rw [h5, h23, h24, h25] at hTe
    have hr : vcodeV Try.prog O false neaptidelaw04_DiskCuts.loop1 T S = vcodeV Try.prog O false neaptidelaw04_DiskCuts.loop1 T S := rfl
    have d1 : (pre.length : Int) < (l.length : Int) := by rw [hpre]; simp; omega
    have ht := hg t (by rw [hpre]; simp)
    have ne : ¬ t.k = 2 := ht.ne
    have e1 : ∀ S, vIndexAddr Try.prog 35 (vs fB 1 k l) (.int .i64 pre.length) S = some (EP [by_ t.k t.b], S) := fun S => by
      rw [vs_at u_L_L_uint8 s_L_uint8 fB_len hk (by omega) d1, at_pre hpre]; rfl
    have l1 : ∀ S, vLoad Try.prog false 27 (EP [by_ t.k t.b]) S = some (by_ t.k t.b, S) := fun S => vLoad_one g_L_uint8
    have wi : IntKind.i64.wrap ((pre.length : Int) + 1) = ((pre ++ [t]).length : Int) := by rw [wrap_i64 (by omega) (by omega)]; simp
    have cp : ∀ S, vAppend Try.prog 27 27 (by_ 2 []) (by_ t.k t.b) S = some (by_ 2 t.b, S) := fun S => by_copy ht.okl (by have := ht.le; omega)
    obtain ⟨S3, c2, hD3, o3⟩ := disk_Disk_Append.v (k := 1) (b := t.b) hD Okl.read (by decide) (by have := ht.le; omega)
    have hd3 : ((if roomOf room data.length < (t.b.length : Int) then data else data ++ t.b).length : Int) ≤ room := by
      split
      · exact hd
      · rename_i hb
        rw [List.length_append]
        unfold roomOf at hb
        split at hb <;> omega
    by_cases hb : ((pre.length : Int)).tmod 2 = 0
    · obtain ⟨v, S4, c3, hD4, o4⟩ := disk_Disk_Sync.v hD3
      conv at hr =>
        rhs
        rw [hTe]
        simp only [neaptidelaw04_DiskCuts.loop1, neaptidelaw04_DiskCuts.code, neaptidelaw04_DiskCuts.r0, neaptidelaw04_DiskCuts.r1, neaptidelaw04_DiskCuts.r2, neaptidelaw04_DiskCuts.r3, neaptidelaw04_DiskCuts.r4, neaptidelaw04_DiskCuts.r5, neaptidelaw04_DiskCuts.r6, neaptidelaw04_DiskCuts.r7, neaptidelaw04_DiskCuts.r8, neaptidelaw04_DiskCuts.r9, neaptidelaw04_DiskCuts.r10, neaptidelaw04_DiskCuts.r11, neaptidelaw04_DiskCuts.r12, neaptidelaw04_DiskCuts.r13, neaptidelaw04_DiskCuts.r14, neaptidelaw04_DiskCuts.r15, neaptidelaw04_DiskCuts.r16, neaptidelaw04_DiskCuts.r17, neaptidelaw04_DiskCuts.r18, vcodeV_seq, vcodeV_region, vcodeV_block, vcodeV_skip, vcodeV_ret, vcodeV_exit, vcodeV_cond, vcodeV_loop, andThen_some, regV_some, seqV_normal, seqV_exit, seqV_ret, blockV_normal, blockV_ret, blockV_exit, condK_true, condK_false, andK_some, gdK_tt, gdK_ff, gdK_tf, gdK_ft, gdK_ut, gdCK_tt, gdCK_ff, gdCK_tf, gdCK_ft, gdCK_ut, okK_bool, okK_int, okK_string, okK_slice, okK_pointer, okK_SL, okK_EP, okK_sv, okK_vs, List.getD_cons_succ, List.getD_cons_zero, gd_tt, gd_ff, gd_tf, gd_ft, gd_ut, gdC_tt, gdC_ff, gdC_tf, gdC_ft, gdC_ut, ret_run, vPick_bool, if_true, if_false, reduceIte, Nat.reduceEqDiff, Bool.false_eq_true, okC_bool, okC_int, okC_string, okC_slice, okC_iface, okC_vs, okC_sv, okC_EP, dem_undef, dem_int, dem_bool, dem_string, dem_nil, dem_agg, dem_func, dem_pointer, dem_slice, dem_map, dem_vs, dem_sv, dem_dem, vBin_int, vBin_string, vBin_bool, vConv_int, vConvF_int, vConvF_string, vConvF_stringH, vConvF_sv, vConvF_vs, vSliceF_sv, vSliceF_vs, vSliceF_string, vcodeV_regionH, vExtract_tuple, List.getElem?_cons_succ, List.getElem?_cons_zero, Option.map_some, aBin_add, aBin_sub, aBin_mul, aBin_eql, aBin_neq, aBin_lss, aBin_leq, aBin_gtr, aBin_geq, aUn_not, Bool.not_true, Bool.not_false, Bool.true_eq_false, decide_true, decide_false, eq_self, exd_0_1, exd_0_2, exd_1_2, exd_0_3, exd_1_3, exd_2_3, exd_0_4, exd_1_4, exd_2_4, exd_3_4, exd_0_5, exd_1_5, exd_2_5, exd_3_5, exd_4_5, Int.reduceEq, Int.reduceLT, Int.reduceLE, d1, e1, l1, if_neg ne, bb0, cp, c2, aBin_rem _ _ _ (show (2 : Int) ≠ 0 by omega), hb, c3, wi]
      obtain ⟨T', S', data', sy', q1, q2, q3, q4, q5, q6, q7⟩ := ih (pre ++ [t]) ((loopV_step hr).symm.trans hL) rfl rfl rfl rfl rfl (by simp [hpre]) hD4 hd3
      exact ⟨T', S', data', sy', q1, q2, q3, q4, q5, q6, q7⟩
    · conv at hr =>
        rhs
        rw [hTe]
        simp only [neaptidelaw04_DiskCuts.loop1, neaptidelaw04_DiskCuts.code, neaptidelaw04_DiskCuts.r0, neaptidelaw04_DiskCuts.r1, neaptidelaw04_DiskCuts.r2, neaptidelaw04_DiskCuts.r3, neaptidelaw04_DiskCuts.r4, neaptidelaw04_DiskCuts.r5, neaptidelaw04_DiskCuts.r6, neaptidelaw04_DiskCuts.r7, neaptidelaw04_DiskCuts.r8, neaptidelaw04_DiskCuts.r9, neaptidelaw04_DiskCuts.r10, neaptidelaw04_DiskCuts.r11, neaptidelaw04_DiskCuts.r12, neaptidelaw04_DiskCuts.r13, neaptidelaw04_DiskCuts.r14, neaptidelaw04_DiskCuts.r15, neaptidelaw04_DiskCuts.r16, neaptidelaw04_DiskCuts.r17, neaptidelaw04_DiskCuts.r18, vcodeV_seq, vcodeV_region, vcodeV_block, vcodeV_skip, vcodeV_ret, vcodeV_exit, vcodeV_cond, vcodeV_loop, andThen_some, regV_some, seqV_normal, seqV_exit, seqV_ret, blockV_normal, blockV_ret, blockV_exit, condK_true, condK_false, andK_some, gdK_tt, gdK_ff, gdK_tf, gdK_ft, gdK_ut, gdCK_tt, gdCK_ff, gdCK_tf, gdCK_ft, gdCK_ut, okK_bool, okK_int, okK_string, okK_slice, okK_pointer, okK_SL, okK_EP, okK_sv, okK_vs, List.getD_cons_succ, List.getD_cons_zero, gd_tt, gd_ff, gd_tf, gd_ft, gd_ut, gdC_tt, gdC_ff, gdC_tf, gdC_ft, gdC_ut, ret_run, vPick_bool, if_true, if_false, reduceIte, Nat.reduceEqDiff, Bool.false_eq_true, okC_bool, okC_int, okC_string, okC_slice, okC_iface, okC_vs, okC_sv, okC_EP, dem_undef, dem_int, dem_bool, dem_string, dem_nil, dem_agg, dem_func, dem_pointer, dem_slice, dem_map, dem_vs, dem_sv, dem_dem, vBin_int, vBin_string, vBin_bool, vConv_int, vConvF_int, vConvF_string, vConvF_stringH, vConvF_sv, vConvF_vs, vSliceF_sv, vSliceF_vs, vSliceF_string, vcodeV_regionH, vExtract_tuple, List.getElem?_cons_succ, List.getElem?_cons_zero, Option.map_some, aBin_add, aBin_sub, aBin_mul, aBin_eql, aBin_neq, aBin_lss, aBin_leq, aBin_gtr, aBin_geq, aUn_not, Bool.not_true, Bool.not_false, Bool.true_eq_false, decide_true, decide_false, eq_self, exd_0_1, exd_0_2, exd_1_2, exd_0_3, exd_1_3, exd_2_3, exd_0_4, exd_1_4, exd_2_4, exd_3_4, exd_0_5, exd_1_5, exd_2_5, exd_3_5, exd_4_5, Int.reduceEq, Int.reduceLT, Int.reduceLE, d1, e1, l1, if_neg ne, bb0, cp, c2, aBin_rem _ _ _ (show (2 : Int) ≠ 0 by omega), hb, wi]
      obtain ⟨T', S', data', sy', q1, q2, q3, q4, q5, q6, q7⟩ := ih (pre ++ [t]) ((loopV_step hr).symm.trans hL) rfl rfl rfl rfl rfl (by simp [hpre]) hD3 hd3
      exact ⟨T', S', data', sy', q1, q2, q3, q4, q5, q6, q7⟩

theorem run {k : Nat} {l : List Tb} {n : Int} {w : Tb} (hk : Okl k l) (k2 : k ≠ 2) (hl : l.length * 24 ≤ 140737488351232) (hg : ∀ t ∈ l, t.Ok) (hn : -9223372036854775808 ≤ n ∧ n < 9223372036854775808) (hw : w.Ok) :
    ∃ S', vlim Try.prog O 8 [vs fB 1 k l, .int .i64 n, by_ w.k w.b] AHeap.empty = some (.bool true, S') := by
  obtain ⟨T, hTe⟩ : ∃ T, T = (vs fB 1 k l :: .int .i64 n :: by_ w.k w.b :: undef :: undef :: undef :: undef :: undef :: undef :: undef :: undef :: undef :: undef :: undef :: undef :: undef :: undef :: undef :: undef :: undef :: undef :: undef :: undef :: undef :: undef :: undef :: undef :: undef :: undef :: undef :: undef :: undef :: undef :: undef :: undef :: undef :: undef :: undef :: undef :: undef :: undef :: undef :: undef :: undef :: undef :: undef :: undef :: undef :: undef :: undef :: undef :: undef :: undef :: undef :: undef :: undef :: undef :: undef :: undef :: undef :: undef :: undef :: undef :: undef :: undef :: undef :: undef :: undef :: undef :: undef :: undef :: undef :: undef :: undef :: undef :: undef :: undef :: undef :: undef :: undef :: undef :: undef :: undef :: undef :: undef :: undef :: undef :: undef :: undef :: undef :: undef :: undef :: undef :: undef :: undef :: undef :: []) := ⟨_, rfl⟩
  have hr : vcodeV Try.prog O false neaptidelaw04_DiskCuts.code T AHeap.empty = vcodeV Try.prog O false neaptidelaw04_DiskCuts.code T AHeap.empty := rfl
  obtain ⟨S1, c0⟩ := neaptidelaw04_diskAlive.v
  obtain ⟨S2, c1, hD, o1⟩ := disk_New.v (r := 60000) S1
  have ln : ∀ S, vLen Try.prog 35 (vs fB 1 k l) S = some (.int .i64 l.length, S) := fun S => vs_len u_L_L_uint8 hk
  have lw : ∀ S, vLen Try.prog 27 (by_ w.k w.b) S = some (.int .i64 w.b.length, S) := fun S => by_len hw.okl
  have nw : ¬ w.k = 2 := hw.ne
  by_cases h1 : (50 : Int) < (l.length : Int)
  · conv at hr =>
      rhs
      rw [hTe]
      simp only [neaptidelaw04_DiskCuts.code, neaptidelaw04_DiskCuts.r0, neaptidelaw04_DiskCuts.r1, neaptidelaw04_DiskCuts.r2, neaptidelaw04_DiskCuts.r3, neaptidelaw04_DiskCuts.r4, neaptidelaw04_DiskCuts.r5, neaptidelaw04_DiskCuts.r6, neaptidelaw04_DiskCuts.r7, neaptidelaw04_DiskCuts.r8, neaptidelaw04_DiskCuts.r9, neaptidelaw04_DiskCuts.r10, neaptidelaw04_DiskCuts.r11, neaptidelaw04_DiskCuts.r12, neaptidelaw04_DiskCuts.r13, neaptidelaw04_DiskCuts.r14, neaptidelaw04_DiskCuts.r15, neaptidelaw04_DiskCuts.r16, neaptidelaw04_DiskCuts.r17, neaptidelaw04_DiskCuts.r18, vcodeV_seq, vcodeV_region, vcodeV_block, vcodeV_skip, vcodeV_ret, vcodeV_exit, vcodeV_cond, vcodeV_loop, andThen_some, regV_some, seqV_normal, seqV_exit, seqV_ret, blockV_normal, blockV_ret, blockV_exit, condK_true, condK_false, andK_some, gdK_tt, gdK_ff, gdK_tf, gdK_ft, gdK_ut, gdCK_tt, gdCK_ff, gdCK_tf, gdCK_ft, gdCK_ut, okK_bool, okK_int, okK_string, okK_slice, okK_pointer, okK_SL, okK_EP, okK_sv, okK_vs, List.getD_cons_succ, List.getD_cons_zero, gd_tt, gd_ff, gd_tf, gd_ft, gd_ut, gdC_tt, gdC_ff, gdC_tf, gdC_ft, gdC_ut, ret_run, vPick_bool, if_true, if_false, reduceIte, Nat.reduceEqDiff, Bool.false_eq_true, okC_bool, okC_int, okC_string, okC_slice, okC_iface, okC_vs, okC_sv, okC_EP, dem_undef, dem_int, dem_bool, dem_string, dem_nil, dem_agg, dem_func, dem_pointer, dem_slice, dem_map, dem_vs, dem_sv, dem_dem, vBin_int, vBin_string, vBin_bool, vConv_int, vConvF_int, vConvF_string, vConvF_stringH, vConvF_sv, vConvF_vs, vSliceF_sv, vSliceF_vs, vSliceF_string, vcodeV_regionH, vExtract_tuple, List.getElem?_cons_succ, List.getElem?_cons_zero, Option.map_some, aBin_add, aBin_sub, aBin_mul, aBin_eql, aBin_neq, aBin_lss, aBin_leq, aBin_gtr, aBin_geq, aUn_not, Bool.not_true, Bool.not_false, Bool.true_eq_false, decide_true, decide_false, eq_self, exd_0_1, exd_0_2, exd_1_2, exd_0_3, exd_1_3, exd_2_3, exd_0_4, exd_1_4, exd_2_4, exd_3_4, exd_0_5, exd_1_5, exd_2_5, exd_3_5, exd_4_5, Int.reduceEq, Int.reduceLT, Int.reduceLE, c0, c1, if_neg k2, if_neg nw, ln, lw, h1]
    rw [hTe] at hr
    exact ⟨_, neaptidelaw04_DiskCuts.runs hr (.inr rfl)⟩
  by_cases h2 : (500 : Int) < (w.b.length : Int)
  · conv at hr =>
      rhs
      rw [hTe]
      simp only [neaptidelaw04_DiskCuts.code, neaptidelaw04_DiskCuts.r0, neaptidelaw04_DiskCuts.r1, neaptidelaw04_DiskCuts.r2, neaptidelaw04_DiskCuts.r3, neaptidelaw04_DiskCuts.r4, neaptidelaw04_DiskCuts.r5, neaptidelaw04_DiskCuts.r6, neaptidelaw04_DiskCuts.r7, neaptidelaw04_DiskCuts.r8, neaptidelaw04_DiskCuts.r9, neaptidelaw04_DiskCuts.r10, neaptidelaw04_DiskCuts.r11, neaptidelaw04_DiskCuts.r12, neaptidelaw04_DiskCuts.r13, neaptidelaw04_DiskCuts.r14, neaptidelaw04_DiskCuts.r15, neaptidelaw04_DiskCuts.r16, neaptidelaw04_DiskCuts.r17, neaptidelaw04_DiskCuts.r18, vcodeV_seq, vcodeV_region, vcodeV_block, vcodeV_skip, vcodeV_ret, vcodeV_exit, vcodeV_cond, vcodeV_loop, andThen_some, regV_some, seqV_normal, seqV_exit, seqV_ret, blockV_normal, blockV_ret, blockV_exit, condK_true, condK_false, andK_some, gdK_tt, gdK_ff, gdK_tf, gdK_ft, gdK_ut, gdCK_tt, gdCK_ff, gdCK_tf, gdCK_ft, gdCK_ut, okK_bool, okK_int, okK_string, okK_slice, okK_pointer, okK_SL, okK_EP, okK_sv, okK_vs, List.getD_cons_succ, List.getD_cons_zero, gd_tt, gd_ff, gd_tf, gd_ft, gd_ut, gdC_tt, gdC_ff, gdC_tf, gdC_ft, gdC_ut, ret_run, vPick_bool, if_true, if_false, reduceIte, Nat.reduceEqDiff, Bool.false_eq_true, okC_bool, okC_int, okC_string, okC_slice, okC_iface, okC_vs, okC_sv, okC_EP, dem_undef, dem_int, dem_bool, dem_string, dem_nil, dem_agg, dem_func, dem_pointer, dem_slice, dem_map, dem_vs, dem_sv, dem_dem, vBin_int, vBin_string, vBin_bool, vConv_int, vConvF_int, vConvF_string, vConvF_stringH, vConvF_sv, vConvF_vs, vSliceF_sv, vSliceF_vs, vSliceF_string, vcodeV_regionH, vExtract_tuple, List.getElem?_cons_succ, List.getElem?_cons_zero, Option.map_some, aBin_add, aBin_sub, aBin_mul, aBin_eql, aBin_neq, aBin_lss, aBin_leq, aBin_gtr, aBin_geq, aUn_not, Bool.not_true, Bool.not_false, Bool.true_eq_false, decide_true, decide_false, eq_self, exd_0_1, exd_0_2, exd_1_2, exd_0_3, exd_1_3, exd_2_3, exd_0_4, exd_1_4, exd_2_4, exd_3_4, exd_0_5, exd_1_5, exd_2_5, exd_3_5, exd_4_5, Int.reduceEq, Int.reduceLT, Int.reduceLE, c0, c1, if_neg k2, if_neg nw, ln, lw, h1, h2]
    rw [hTe] at hr
    exact ⟨_, neaptidelaw04_DiskCuts.runs hr (.inr rfl)⟩
  · conv at hr =>
      rhs
      rw [hTe]
      simp only [neaptidelaw04_DiskCuts.code, neaptidelaw04_DiskCuts.r0, neaptidelaw04_DiskCuts.r1, neaptidelaw04_DiskCuts.r2, neaptidelaw04_DiskCuts.r3, neaptidelaw04_DiskCuts.r4, neaptidelaw04_DiskCuts.r5, neaptidelaw04_DiskCuts.r6, neaptidelaw04_DiskCuts.r7, neaptidelaw04_DiskCuts.r8, neaptidelaw04_DiskCuts.r9, neaptidelaw04_DiskCuts.r10, neaptidelaw04_DiskCuts.r11, neaptidelaw04_DiskCuts.r12, neaptidelaw04_DiskCuts.r13, neaptidelaw04_DiskCuts.r14, neaptidelaw04_DiskCuts.r15, neaptidelaw04_DiskCuts.r16, neaptidelaw04_DiskCuts.r17, neaptidelaw04_DiskCuts.r18, vcodeV_seq, vcodeV_region, vcodeV_block, vcodeV_skip, vcodeV_ret, vcodeV_exit, vcodeV_cond, vcodeV_loop, andThen_some, regV_some, seqV_normal, seqV_exit, seqV_ret, blockV_normal, blockV_ret, blockV_exit, condK_true, condK_false, andK_some, gdK_tt, gdK_ff, gdK_tf, gdK_ft, gdK_ut, gdCK_tt, gdCK_ff, gdCK_tf, gdCK_ft, gdCK_ut, okK_bool, okK_int, okK_string, okK_slice, okK_pointer, okK_SL, okK_EP, okK_sv, okK_vs, List.getD_cons_succ, List.getD_cons_zero, gd_tt, gd_ff, gd_tf, gd_ft, gd_ut, gdC_tt, gdC_ff, gdC_tf, gdC_ft, gdC_ut, ret_run, vPick_bool, if_true, if_false, reduceIte, Nat.reduceEqDiff, Bool.false_eq_true, okC_bool, okC_int, okC_string, okC_slice, okC_iface, okC_vs, okC_sv, okC_EP, dem_undef, dem_int, dem_bool, dem_string, dem_nil, dem_agg, dem_func, dem_pointer, dem_slice, dem_map, dem_vs, dem_sv, dem_dem, vBin_int, vBin_string, vBin_bool, vConv_int, vConvF_int, vConvF_string, vConvF_stringH, vConvF_sv, vConvF_vs, vSliceF_sv, vSliceF_vs, vSliceF_string, vcodeV_regionH, vExtract_tuple, List.getElem?_cons_succ, List.getElem?_cons_zero, Option.map_some, aBin_add, aBin_sub, aBin_mul, aBin_eql, aBin_neq, aBin_lss, aBin_leq, aBin_gtr, aBin_geq, aUn_not, Bool.not_true, Bool.not_false, Bool.true_eq_false, decide_true, decide_false, eq_self, exd_0_1, exd_0_2, exd_1_2, exd_0_3, exd_1_3, exd_2_3, exd_0_4, exd_1_4, exd_2_4, exd_3_4, exd_0_5, exd_1_5, exd_2_5, exd_3_5, exd_4_5, Int.reduceEq, Int.reduceLT, Int.reduceLE, c0, c1, if_neg k2, if_neg nw, ln, lw, h1, h2]
    generalize hL : loopV (vcodeV Try.prog O false neaptidelaw04_DiskCuts.loop1) _ _ = r at hr
    obtain ⟨T', S', data, sy, rfl, g2, g3, g4, g4b, g5, hdl⟩ := round hk k2 hl hg l [] hL rfl rfl rfl rfl rfl rfl hD (by decide)
    have g4 : T'.getD 1 undef = .int .i64 n := g4
    have g4b : T'.getD 2 undef = by_ w.k w.b := g4b
    have hTe' := neaptidelaw04_DiskCuts.eta g2
    rw [g3, g4, g4b] at hTe'
    have c3 := disk_Disk_Bytes.v g5
    have c4 := disk_Disk_Synced.v g5
    obtain ⟨v5, S5, c5, g6, o5⟩ := disk_Disk_Cut.v (n := n) g5 hn
    have b1 := g5.sy0; have b2 := g5.syl; have b3 := g5.len
    have e1 : (if (data.length : Int) < n then (data.length : Int) else n) = min n data.length := by split <;> omega
    have e2 : (if min n (data.length : Int) > 0 then min n (data.length : Int) else 0) = max 0 (min n data.length) := by split <;> omega
    have hm0 : 0 ≤ max 0 (min n (data.length : Int)) := by omega
    have hm1 : max 0 (min n (data.length : Int)) ≤ data.length := by omega
    generalize max 0 (min n (data.length : Int)) = m at *
    have hlen : ((data.take m.toNat).length : Int) = m := by rw [List.length_take]; omega
    have hdl : (data.length : Int) ≤ 60000 := hdl
    have e3 : (if m < sy then m else sy) = min sy m := by split <;> omega
    have c6 := disk_Disk_Bytes.v g6
    have c7 := disk_Disk_Synced.v g6
    have c8 := disk_Disk_Room.v g6
    have hR : roomOf (max 0 (min 60000 65536)) (data.take m.toNat).length = 60000 - m := by unfold roomOf; rw [hlen]; split <;> omega
    rw [hlen] at c7
    rw [hR] at c8
    have ln2 : ∀ S, vLen Try.prog 27 (by_ 1 data) S = some (.int .i64 data.length, S) := fun S => by_len Okl.read
    have sl : ∀ S, vSlice Try.prog 27 (by_ 1 data) none (some (.int .i64 m)) S = some (by_ 1 (data.take m.toNat), S) := fun S => by_take Okl.read hm0 hm1
    have st1 : ∀ S, vConv Try.prog 27 9 (by_ 1 (data.take m.toNat)) S = some (.string ⟨(data.take m.toNat).toArray⟩, S) := fun S => by_str Okl.read
    have st2 : ∀ S, vConv Try.prog 27 9 (by_ 2 (data.take m.toNat)) S = some (.string ⟨(data.take m.toNat).toArray⟩, S) := fun S => by_str Okl.own
    have stw : ∀ S, vConv Try.prog 27 9 (by_ w.k w.b) S = some (.string ⟨w.b.toArray⟩, S) := fun S => by_str hw.okl
    have w1 : IntKind.i64.wrap (60000 - m) = 60000 - m := wrap_i64 (by omega) (by omega)
    have cp : ∀ S, vAppend Try.prog 27 27 (by_ 2 []) (by_ w.k w.b) S = some (by_ 2 w.b, S) := fun S => by_copy hw.okl (by have := hw.le; omega)
    obtain ⟨S9, c9, g9, o9⟩ := disk_Disk_Append.v (k := 1) (b := w.b) g6 Okl.read (by decide) (by have := hw.le; omega)
    rw [hR] at c9 g9
    by_cases h3 : 60000 - m < (w.b.length : Int)
    · rw [if_pos h3] at c9 g9
      conv at hr =>
        rhs
        rw [hTe']
        simp only [neaptidelaw04_DiskCuts.code, neaptidelaw04_DiskCuts.r0, neaptidelaw04_DiskCuts.r1, neaptidelaw04_DiskCuts.r2, neaptidelaw04_DiskCuts.r3, neaptidelaw04_DiskCuts.r4, neaptidelaw04_DiskCuts.r5, neaptidelaw04_DiskCuts.r6, neaptidelaw04_DiskCuts.r7, neaptidelaw04_DiskCuts.r8, neaptidelaw04_DiskCuts.r9, neaptidelaw04_DiskCuts.r10, neaptidelaw04_DiskCuts.r11, neaptidelaw04_DiskCuts.r12, neaptidelaw04_DiskCuts.r13, neaptidelaw04_DiskCuts.r14, neaptidelaw04_DiskCuts.r15, neaptidelaw04_DiskCuts.r16, neaptidelaw04_DiskCuts.r17, neaptidelaw04_DiskCuts.r18, vcodeV_seq, vcodeV_region, vcodeV_block, vcodeV_skip, vcodeV_ret, vcodeV_exit, vcodeV_cond, vcodeV_loop, andThen_some, regV_some, seqV_normal, seqV_exit, seqV_ret, blockV_normal, blockV_ret, blockV_exit, condK_true, condK_false, andK_some, gdK_tt, gdK_ff, gdK_tf, gdK_ft, gdK_ut, gdCK_tt, gdCK_ff, gdCK_tf, gdCK_ft, gdCK_ut, okK_bool, okK_int, okK_string, okK_slice, okK_pointer, okK_SL, okK_EP, okK_sv, okK_vs, List.getD_cons_succ, List.getD_cons_zero, gd_tt, gd_ff, gd_tf, gd_ft, gd_ut, gdC_tt, gdC_ff, gdC_tf, gdC_ft, gdC_ut, ret_run, vPick_bool, if_true, if_false, reduceIte, Nat.reduceEqDiff, Bool.false_eq_true, okC_bool, okC_int, okC_string, okC_slice, okC_iface, okC_vs, okC_sv, okC_EP, dem_undef, dem_int, dem_bool, dem_string, dem_nil, dem_agg, dem_func, dem_pointer, dem_slice, dem_map, dem_vs, dem_sv, dem_dem, vBin_int, vBin_string, vBin_bool, vConv_int, vConvF_int, vConvF_string, vConvF_stringH, vConvF_sv, vConvF_vs, vSliceF_sv, vSliceF_vs, vSliceF_string, vcodeV_regionH, vExtract_tuple, List.getElem?_cons_succ, List.getElem?_cons_zero, Option.map_some, aBin_add, aBin_sub, aBin_mul, aBin_eql, aBin_neq, aBin_lss, aBin_leq, aBin_gtr, aBin_geq, aUn_not, Bool.not_true, Bool.not_false, Bool.true_eq_false, decide_true, decide_false, eq_self, exd_0_1, exd_0_2, exd_1_2, exd_0_3, exd_1_3, exd_2_3, exd_0_4, exd_1_4, exd_2_4, exd_3_4, exd_0_5, exd_1_5, exd_2_5, exd_3_5, exd_4_5, Int.reduceEq, Int.reduceLT, Int.reduceLE, if_neg nw, c3, c4, c5, ln2, vMin, vMax, e1, e2, e3, c6, c7, c8, sl, st1, st2, tx_neq, w1, bb0, cp, c9]
      rw [hTe] at hr
      exact ⟨_, neaptidelaw04_DiskCuts.runs hr (.inr rfl)⟩
    · rw [if_neg h3] at c9 g9
      have c10 := disk_Disk_Bytes.v g9
      have st3 : ∀ S, vConv Try.prog 27 9 (by_ 2 (data.take m.toNat ++ w.b)) S = some (.string ⟨(data.take m.toNat ++ w.b).toArray⟩, S) := fun S => by_str Okl.own
      have ad : ∀ S, aBin Try.prog .add 9 (.string ⟨(data.take m.toNat).toArray⟩) (.string ⟨w.b.toArray⟩) S = some (.string ⟨(data.take m.toNat ++ w.b).toArray⟩, S) := fun S => tx_add (by have := hw.le; rw [List.length_take]; omega)
      conv at hr =>
        rhs
        rw [hTe']
        simp only [neaptidelaw04_DiskCuts.code, neaptidelaw04_DiskCuts.r0, neaptidelaw04_DiskCuts.r1, neaptidelaw04_DiskCuts.r2, neaptidelaw04_DiskCuts.r3, neaptidelaw04_DiskCuts.r4, neaptidelaw04_DiskCuts.r5, neaptidelaw04_DiskCuts.r6, neaptidelaw04_DiskCuts.r7, neaptidelaw04_DiskCuts.r8, neaptidelaw04_DiskCuts.r9, neaptidelaw04_DiskCuts.r10, neaptidelaw04_DiskCuts.r11, neaptidelaw04_DiskCuts.r12, neaptidelaw04_DiskCuts.r13, neaptidelaw04_DiskCuts.r14, neaptidelaw04_DiskCuts.r15, neaptidelaw04_DiskCuts.r16, neaptidelaw04_DiskCuts.r17, neaptidelaw04_DiskCuts.r18, vcodeV_seq, vcodeV_region, vcodeV_block, vcodeV_skip, vcodeV_ret, vcodeV_exit, vcodeV_cond, vcodeV_loop, andThen_some, regV_some, seqV_normal, seqV_exit, seqV_ret, blockV_normal, blockV_ret, blockV_exit, condK_true, condK_false, andK_some, gdK_tt, gdK_ff, gdK_tf, gdK_ft, gdK_ut, gdCK_tt, gdCK_ff, gdCK_tf, gdCK_ft, gdCK_ut, okK_bool, okK_int, okK_string, okK_slice, okK_pointer, okK_SL, okK_EP, okK_sv, okK_vs, List.getD_cons_succ, List.getD_cons_zero, gd_tt, gd_ff, gd_tf, gd_ft, gd_ut, gdC_tt, gdC_ff, gdC_tf, gdC_ft, gdC_ut, ret_run, vPick_bool, if_true, if_false, reduceIte, Nat.reduceEqDiff, Bool.false_eq_true, okC_bool, okC_int, okC_string, okC_slice, okC_iface, okC_vs, okC_sv, okC_EP, dem_undef, dem_int, dem_bool, dem_string, dem_nil, dem_agg, dem_func, dem_pointer, dem_slice, dem_map, dem_vs, dem_sv, dem_dem, vBin_int, vBin_string, vBin_bool, vConv_int, vConvF_int, vConvF_string, vConvF_stringH, vConvF_sv, vConvF_vs, vSliceF_sv, vSliceF_vs, vSliceF_string, vcodeV_regionH, vExtract_tuple, List.getElem?_cons_succ, List.getElem?_cons_zero, Option.map_some, aBin_add, aBin_sub, aBin_mul, aBin_eql, aBin_neq, aBin_lss, aBin_leq, aBin_gtr, aBin_geq, aUn_not, Bool.not_true, Bool.not_false, Bool.true_eq_false, decide_true, decide_false, eq_self, exd_0_1, exd_0_2, exd_1_2, exd_0_3, exd_1_3, exd_2_3, exd_0_4, exd_1_4, exd_2_4, exd_3_4, exd_0_5, exd_1_5, exd_2_5, exd_3_5, exd_4_5, Int.reduceEq, Int.reduceLT, Int.reduceLE, if_neg nw, c3, c4, c5, ln2, vMin, vMax, e1, e2, e3, c6, c7, c8, sl, st1, st2, stw, tx_neq, tx_eql, w1, bb0, cp, c9, c10, st3, ad]
      rw [hTe] at hr
      exact ⟨_, neaptidelaw04_DiskCuts.runs hr (.inr rfl)⟩
theorem law (x : Args codes) (h : Args.Good codes x) : ∃ k, (acall Try.prog k 8 (Args.place codes x AHeap.empty).1 (Args.place codes x AHeap.empty).2).map (·.1) = some (.bool true) := by
  obtain ⟨a, b, c, u⟩ := x
  obtain ⟨h1, h2, h3, _⟩ := h
  obtain ⟨k, l, p1, p2, p3, p4, p5⟩ := in_tbs a h1
  obtain ⟨w, q1, q2⟩ := in_tb c h3
  obtain ⟨S', e⟩ := run (n := b) p1 p2 p4 p5 (in_int h2) q2
  refine law_of_vlim ora_ok (S' := S') ?_
  have e2 : Args.vval codes (a, b, c, u) = [vs fB 1 k l, .int .i64 b, by_ w.k w.b] := by
    show [argOf false ((Ty.slc 24 (.slc 1 (.int .u8))).vval a), argOf false [.int .i64 b], argOf false ((Ty.slc 1 (.int .u8)).vval c)] = _
    rw [p3, q1]; rfl
  rw [e2]
  exact e
end diskCuts
end Go.Proofs.Ytgfpjnblookppaa
