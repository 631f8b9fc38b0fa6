/-
A crash behind a crash: the law's run.
-/
import Derived.Test.YtgfpjnblookppaaF6
import Derived.Test.YtgfpjnblookppaaVD3
set_option linter.unusedVariables false
set_option linter.unusedSimpArgs false
set_option maxRecDepth 100000
namespace Go.Proofs.Ytgfpjnblookppaa
open Go.Abs

theorem neaptidelaw04_diskAlive.v2 (a b : Int) : ∃ S1, vlim Try.prog O 9 [] (AHeap.empty.push (.cells [.int .i64 a, .int .i64 b] (.own []) 0)) = some (.bool true, S1) ∧ S1.get 0 = some (.cells [.int .i64 a, .int .i64 b] (.own []) 0) ∧ 0 < S1.next := by
  have h : (vcall Try.prog O 20 9 [] (AHeap.empty.push (.cells [.int .i64 a, .int .i64 b] (.own []) 0))).map (fun r => (r.1, r.2.get 0, decide (0 < r.2.next))) = some (.bool true, some (.cells [.int .i64 a, .int .i64 b] (.own []) 0), true) := by kernel_rfl
  cases hc : vcall Try.prog O 20 9 [] (AHeap.empty.push (.cells [.int .i64 a, .int .i64 b] (.own []) 0)) with
  | none => rw [hc] at h; cases h
  | some r =>
    obtain ⟨v, S1⟩ := r
    rw [hc] at h
    simp only [Option.map_some, Option.some.injEq, Prod.mk.injEq, decide_eq_true_eq] at h
    obtain ⟨rfl, h1, h2⟩ := h
    exact ⟨S1, vlim_run hc, h1, h2⟩

namespace diskAgain
def codes : List (Bool × Ty) := [(false, .slc 24 (.slc 1 (.int .u8))), (true, .pair (.int .i64) (.pair (.int .i64) .unit))]
theorem coded : argsOf Try.prog 9 [35, 37] = some codes := by kernel_rfl

theorem round {k q : Nat} {l : List Tb} (hk : Okl k l) (k2 : k ≠ 2) (hl : l.length * 24 ≤ 140737488351232) (hg : ∀ t ∈ l, t.Ok) {room : Int} : ∀ (suf pre : List Tb) {T : List Value} {r : St} {S : AHeap} {data : List UInt8} {sy : Int}, loopV (vcodeV Try.prog O false neaptidelaw04_DiskAgain.loop1) T S = r → T.length = 77 →
    T.getD 5 undef = .pointer (some ⟨q, 0, none⟩) → T.getD 15 undef = vs fB 1 k l → T.getD 16 undef = .int .i64 l.length → T.getD 17 undef = .int .i64 pre.length → l = pre ++ suf → Dk S q data sy room →
    ∃ T' S' data' sy', r = some (.exit 0, T', S') ∧ T'.length = 77 ∧ T'.getD 5 undef = .pointer (some ⟨q, 0, none⟩) ∧ T'.getD 3 undef = T.getD 3 undef ∧ Dk S' q data' sy' room ∧ Old q S S' := by
  intro suf
  induction suf with
  | nil =>
    intro pre T r S data sy hL hT h5 h23 h24 h25 hpre hD
    have hTe := neaptidelaw04_DiskAgain.eta hT
    rw [h5, h23, h24, h25] at hTe
    have hr : vcodeV Try.prog O false neaptidelaw04_DiskAgain.loop1 T S = vcodeV Try.prog O false neaptidelaw04_DiskAgain.loop1 T S := rfl
    have d1 : ¬ (pre.length : Int) < (l.length : Int) := by rw [hpre]; simp
    conv at hr =>
      rhs
      rw [hTe]
      simp only [neaptidelaw04_DiskAgain.loop1, neaptidelaw04_DiskAgain.code, neaptidelaw04_DiskAgain.r0, neaptidelaw04_DiskAgain.r1, neaptidelaw04_DiskAgain.r2, neaptidelaw04_DiskAgain.r3, neaptidelaw04_DiskAgain.r4, neaptidelaw04_DiskAgain.r5, neaptidelaw04_DiskAgain.r6, neaptidelaw04_DiskAgain.r7, neaptidelaw04_DiskAgain.r8, neaptidelaw04_DiskAgain.r9, neaptidelaw04_DiskAgain.r10, neaptidelaw04_DiskAgain.r11, neaptidelaw04_DiskAgain.r12, neaptidelaw04_DiskAgain.r13, neaptidelaw04_DiskAgain.r14, neaptidelaw04_DiskAgain.r15, neaptidelaw04_DiskAgain.r16, neaptidelaw04_DiskAgain.r17, neaptidelaw04_DiskAgain.r18, neaptidelaw04_DiskAgain.r19, neaptidelaw04_DiskAgain.r20, neaptidelaw04_DiskAgain.r21, neaptidelaw04_DiskAgain.r22, vcodeV_seq, vcodeV_region, vcodeV_block, vcodeV_skip, vcodeV_ret, vcodeV_exit, vcodeV_cond, vcodeV_loop, andThen_some, regV_some, seqV_normal, seqV_exit, seqV_ret, blockV_normal, blockV_ret, blockV_exit, condK_true, condK_false, andK_some, gdK_tt, gdK_ff, gdK_tf, gdK_ft, gdK_ut, gdCK_tt, gdCK_ff, gdCK_tf, gdCK_ft, gdCK_ut, okK_bool, okK_int, okK_string, okK_slice, okK_pointer, okK_SL, okK_EP, okK_sv, okK_vs, List.getD_cons_succ, List.getD_cons_zero, gd_tt, gd_ff, gd_tf, gd_ft, gd_ut, gdC_tt, gdC_ff, gdC_tf, gdC_ft, gdC_ut, ret_run, vPick_bool, if_true, if_false, reduceIte, Nat.reduceEqDiff, Bool.false_eq_true, okC_bool, okC_int, okC_string, okC_slice, okC_iface, okC_vs, okC_sv, okC_EP, dem_undef, dem_int, dem_bool, dem_string, dem_nil, dem_agg, dem_func, dem_pointer, dem_slice, dem_map, dem_vs, dem_sv, dem_dem, vBin_int, vBin_string, vBin_bool, vConv_int, vConvF_int, vConvF_string, vConvF_stringH, vConvF_sv, vConvF_vs, vSliceF_sv, vSliceF_vs, vSliceF_string, vcodeV_regionH, vExtract_tuple, List.getElem?_cons_succ, List.getElem?_cons_zero, Option.map_some, aBin_add, aBin_sub, aBin_mul, aBin_eql, aBin_neq, aBin_lss, aBin_leq, aBin_gtr, aBin_geq, aUn_not, Bool.not_true, Bool.not_false, Bool.true_eq_false, decide_true, decide_false, eq_self, exd_0_1, exd_0_2, exd_1_2, exd_0_3, exd_1_3, exd_2_3, exd_0_4, exd_1_4, exd_2_4, exd_3_4, exd_0_5, exd_1_5, exd_2_5, exd_3_5, exd_4_5, Int.reduceEq, Int.reduceLT, Int.reduceLE, d1]
    exact ⟨_, _, data, sy, hL.symm.trans (loopV_exit hr (by simp)), rfl, rfl, rfl, hD, Old.refl _ _⟩
  | cons t suf ih =>
    intro pre T r S data sy hL hT h5 h23 h24 h25 hpre hD
    have hTe := neaptidelaw04_DiskAgain.eta hT
    rw [h5, h23, h24, h25] at hTe
    have hr : vcodeV Try.prog O false neaptidelaw04_DiskAgain.loop1 T S = vcodeV Try.prog O false neaptidelaw04_DiskAgain.loop1 T S := rfl
    have d1 : (pre.length : Int) < (l.length : Int) := by rw [hpre]; simp; omega
    have ht := hg t (by rw [hpre]; simp)
    have ne : ¬ t.k = 2 := ht.ne
    have e1 : ∀ S, vIndexAddr Try.prog 35 (vs fB 1 k l) (.int .i64 pre.length) S = some (EP [by_ t.k t.b], S) := fun S => by
      rw [vs_at u_L_L_uint8 s_L_uint8 fB_len hk (by omega) d1, at_pre hpre]; rfl
    have l1 : ∀ S, vLoad Try.prog false 27 (EP [by_ t.k t.b]) S = some (by_ t.k t.b, S) := fun S => vLoad_one g_L_uint8
    have wi : IntKind.i64.wrap ((pre.length : Int) + 1) = ((pre ++ [t]).length : Int) := by rw [wrap_i64 (by omega) (by omega)]; simp
    have cp : ∀ S, vAppend Try.prog 27 27 (by_ 2 []) (by_ t.k t.b) S = some (by_ 2 t.b, S) := fun S => by_copy ht.okl (by have := ht.le; omega)
    obtain ⟨S3, c2, hD3, o3⟩ := disk_Disk_Append.v (k := 1) (b := t.b) hD Okl.read (by decide) (by have := ht.le; omega)
    by_cases hb : ((pre.length : Int)).tmod 3 = 0
    · obtain ⟨v, S4, c3, hD4, o4⟩ := disk_Disk_Sync.v hD3
      conv at hr =>
        rhs
        rw [hTe]
        simp only [neaptidelaw04_DiskAgain.loop1, neaptidelaw04_DiskAgain.code, neaptidelaw04_DiskAgain.r0, neaptidelaw04_DiskAgain.r1, neaptidelaw04_DiskAgain.r2, neaptidelaw04_DiskAgain.r3, neaptidelaw04_DiskAgain.r4, neaptidelaw04_DiskAgain.r5, neaptidelaw04_DiskAgain.r6, neaptidelaw04_DiskAgain.r7, neaptidelaw04_DiskAgain.r8, neaptidelaw04_DiskAgain.r9, neaptidelaw04_DiskAgain.r10, neaptidelaw04_DiskAgain.r11, neaptidelaw04_DiskAgain.r12, neaptidelaw04_DiskAgain.r13, neaptidelaw04_DiskAgain.r14, neaptidelaw04_DiskAgain.r15, neaptidelaw04_DiskAgain.r16, neaptidelaw04_DiskAgain.r17, neaptidelaw04_DiskAgain.r18, neaptidelaw04_DiskAgain.r19, neaptidelaw04_DiskAgain.r20, neaptidelaw04_DiskAgain.r21, neaptidelaw04_DiskAgain.r22, vcodeV_seq, vcodeV_region, vcodeV_block, vcodeV_skip, vcodeV_ret, vcodeV_exit, vcodeV_cond, vcodeV_loop, andThen_some, regV_some, seqV_normal, seqV_exit, seqV_ret, blockV_normal, blockV_ret, blockV_exit, condK_true, condK_false, andK_some, gdK_tt, gdK_ff, gdK_tf, gdK_ft, gdK_ut, gdCK_tt, gdCK_ff, gdCK_tf, gdCK_ft, gdCK_ut, okK_bool, okK_int, okK_string, okK_slice, okK_pointer, okK_SL, okK_EP, okK_sv, okK_vs, List.getD_cons_succ, List.getD_cons_zero, gd_tt, gd_ff, gd_tf, gd_ft, gd_ut, gdC_tt, gdC_ff, gdC_tf, gdC_ft, gdC_ut, ret_run, vPick_bool, if_true, if_false, reduceIte, Nat.reduceEqDiff, Bool.false_eq_true, okC_bool, okC_int, okC_string, okC_slice, okC_iface, okC_vs, okC_sv, okC_EP, dem_undef, dem_int, dem_bool, dem_string, dem_nil, dem_agg, dem_func, dem_pointer, dem_slice, dem_map, dem_vs, dem_sv, dem_dem, vBin_int, vBin_string, vBin_bool, vConv_int, vConvF_int, vConvF_string, vConvF_stringH, vConvF_sv, vConvF_vs, vSliceF_sv, vSliceF_vs, vSliceF_string, vcodeV_regionH, vExtract_tuple, List.getElem?_cons_succ, List.getElem?_cons_zero, Option.map_some, aBin_add, aBin_sub, aBin_mul, aBin_eql, aBin_neq, aBin_lss, aBin_leq, aBin_gtr, aBin_geq, aUn_not, Bool.not_true, Bool.not_false, Bool.true_eq_false, decide_true, decide_false, eq_self, exd_0_1, exd_0_2, exd_1_2, exd_0_3, exd_1_3, exd_2_3, exd_0_4, exd_1_4, exd_2_4, exd_3_4, exd_0_5, exd_1_5, exd_2_5, exd_3_5, exd_4_5, Int.reduceEq, Int.reduceLT, Int.reduceLE, d1, e1, l1, if_neg ne, bb0, cp, c2, aBin_rem _ _ _ (show (3 : Int) ≠ 0 by omega), hb, c3, wi]
      obtain ⟨T', S', data', sy', q1, q2, q3, q4, q5, q6⟩ := ih (pre ++ [t]) ((loopV_step hr).symm.trans hL) rfl rfl rfl rfl rfl (by simp [hpre]) hD4
      exact ⟨T', S', data', sy', q1, q2, q3, q4, q5, (o3.trans o4).trans q6⟩
    · conv at hr =>
        rhs
        rw [hTe]
        simp only [neaptidelaw04_DiskAgain.loop1, neaptidelaw04_DiskAgain.code, neaptidelaw04_DiskAgain.r0, neaptidelaw04_DiskAgain.r1, neaptidelaw04_DiskAgain.r2, neaptidelaw04_DiskAgain.r3, neaptidelaw04_DiskAgain.r4, neaptidelaw04_DiskAgain.r5, neaptidelaw04_DiskAgain.r6, neaptidelaw04_DiskAgain.r7, neaptidelaw04_DiskAgain.r8, neaptidelaw04_DiskAgain.r9, neaptidelaw04_DiskAgain.r10, neaptidelaw04_DiskAgain.r11, neaptidelaw04_DiskAgain.r12, neaptidelaw04_DiskAgain.r13, neaptidelaw04_DiskAgain.r14, neaptidelaw04_DiskAgain.r15, neaptidelaw04_DiskAgain.r16, neaptidelaw04_DiskAgain.r17, neaptidelaw04_DiskAgain.r18, neaptidelaw04_DiskAgain.r19, neaptidelaw04_DiskAgain.r20, neaptidelaw04_DiskAgain.r21, neaptidelaw04_DiskAgain.r22, vcodeV_seq, vcodeV_region, vcodeV_block, vcodeV_skip, vcodeV_ret, vcodeV_exit, vcodeV_cond, vcodeV_loop, andThen_some, regV_some, seqV_normal, seqV_exit, seqV_ret, blockV_normal, blockV_ret, blockV_exit, condK_true, condK_false, andK_some, gdK_tt, gdK_ff, gdK_tf, gdK_ft, gdK_ut, gdCK_tt, gdCK_ff, gdCK_tf, gdCK_ft, gdCK_ut, okK_bool, okK_int, okK_string, okK_slice, okK_pointer, okK_SL, okK_EP, okK_sv, okK_vs, List.getD_cons_succ, List.getD_cons_zero, gd_tt, gd_ff, gd_tf, gd_ft, gd_ut, gdC_tt, gdC_ff, gdC_tf, gdC_ft, gdC_ut, ret_run, vPick_bool, if_true, if_false, reduceIte, Nat.reduceEqDiff, Bool.false_eq_true, okC_bool, okC_int, okC_string, okC_slice, okC_iface, okC_vs, okC_sv, okC_EP, dem_undef, dem_int, dem_bool, dem_string, dem_nil, dem_agg, dem_func, dem_pointer, dem_slice, dem_map, dem_vs, dem_sv, dem_dem, vBin_int, vBin_string, vBin_bool, vConv_int, vConvF_int, vConvF_string, vConvF_stringH, vConvF_sv, vConvF_vs, vSliceF_sv, vSliceF_vs, vSliceF_string, vcodeV_regionH, vExtract_tuple, List.getElem?_cons_succ, List.getElem?_cons_zero, Option.map_some, aBin_add, aBin_sub, aBin_mul, aBin_eql, aBin_neq, aBin_lss, aBin_leq, aBin_gtr, aBin_geq, aUn_not, Bool.not_true, Bool.not_false, Bool.true_eq_false, decide_true, decide_false, eq_self, exd_0_1, exd_0_2, exd_1_2, exd_0_3, exd_1_3, exd_2_3, exd_0_4, exd_1_4, exd_2_4, exd_3_4, exd_0_5, exd_1_5, exd_2_5, exd_3_5, exd_4_5, Int.reduceEq, Int.reduceLT, Int.reduceLE, d1, e1, l1, if_neg ne, bb0, cp, c2, aBin_rem _ _ _ (show (3 : Int) ≠ 0 by omega), hb, wi]
      obtain ⟨T', S', data', sy', q1, q2, q3, q4, q5, q6⟩ := ih (pre ++ [t]) ((loopV_step hr).symm.trans hL) rfl rfl rfl rfl rfl (by simp [hpre]) hD3
      exact ⟨T', S', data', sy', q1, q2, q3, q4, q5, o3.trans q6⟩

theorem run {k : Nat} {l : List Tb} {a b : Int} (hk : Okl k l) (k2 : k ≠ 2) (hl : l.length * 24 ≤ 140737488351232) (hg : ∀ t ∈ l, t.Ok) (ha : -9223372036854775808 ≤ a ∧ a < 9223372036854775808) (hb : -9223372036854775808 ≤ b ∧ b < 9223372036854775808) :
    ∃ S', vlim Try.prog O 6 [vs fB 1 k l, .agg [Value.int .i64 a, .int .i64 b].toArray] AHeap.empty = some (.bool true, S') := by
  obtain ⟨T, hTe⟩ : ∃ T, T = (vs fB 1 k l :: .agg [Value.int .i64 a, .int .i64 b].toArray :: undef :: undef :: undef :: undef :: undef :: undef :: undef :: undef :: undef :: undef :: undef :: undef :: undef :: undef :: undef :: undef :: undef :: undef :: undef :: undef :: undef :: undef :: undef :: undef :: undef :: undef :: undef :: undef :: undef :: undef :: undef :: undef :: undef :: undef :: undef :: undef :: undef :: undef :: undef :: undef :: undef :: undef :: undef :: undef :: undef :: undef :: undef :: undef :: undef :: undef :: undef :: undef :: undef :: undef :: undef :: undef :: undef :: undef :: undef :: undef :: undef :: undef :: undef :: undef :: undef :: undef :: undef :: undef :: undef :: undef :: undef :: undef :: undef :: undef :: undef :: []) := ⟨_, rfl⟩
  have hr : vcodeV Try.prog O false neaptidelaw04_DiskAgain.code T AHeap.empty = vcodeV Try.prog O false neaptidelaw04_DiskAgain.code T AHeap.empty := rfl
  have bx : aBox (.agg [Value.int .i64 a, .int .i64 b].toArray) AHeap.empty = some (.pointer (some ⟨0, 0, none⟩), AHeap.empty.push (.cells [.int .i64 a, .int .i64 b] (.own []) 0)) := rfl
  obtain ⟨S1, c0, g0, n0⟩ := neaptidelaw04_diskAlive.v2 a b
  obtain ⟨S2, c1, hD, o1⟩ := disk_New.v (r := 60000) S1
  have ln : ∀ S, vLen Try.prog 35 (vs fB 1 k l) S = some (.int .i64 l.length, S) := fun S => vs_len u_L_L_uint8 hk
  by_cases h1 : (50 : Int) < (l.length : Int)
  · conv at hr =>
      rhs
      rw [hTe]
      simp only [neaptidelaw04_DiskAgain.code, neaptidelaw04_DiskAgain.r0, neaptidelaw04_DiskAgain.r1, neaptidelaw04_DiskAgain.r2, neaptidelaw04_DiskAgain.r3, neaptidelaw04_DiskAgain.r4, neaptidelaw04_DiskAgain.r5, neaptidelaw04_DiskAgain.r6, neaptidelaw04_DiskAgain.r7, neaptidelaw04_DiskAgain.r8, neaptidelaw04_DiskAgain.r9, neaptidelaw04_DiskAgain.r10, neaptidelaw04_DiskAgain.r11, neaptidelaw04_DiskAgain.r12, neaptidelaw04_DiskAgain.r13, neaptidelaw04_DiskAgain.r14, neaptidelaw04_DiskAgain.r15, neaptidelaw04_DiskAgain.r16, neaptidelaw04_DiskAgain.r17, neaptidelaw04_DiskAgain.r18, neaptidelaw04_DiskAgain.r19, neaptidelaw04_DiskAgain.r20, neaptidelaw04_DiskAgain.r21, neaptidelaw04_DiskAgain.r22, vcodeV_seq, vcodeV_region, vcodeV_block, vcodeV_skip, vcodeV_ret, vcodeV_exit, vcodeV_cond, vcodeV_loop, andThen_some, regV_some, seqV_normal, seqV_exit, seqV_ret, blockV_normal, blockV_ret, blockV_exit, condK_true, condK_false, andK_some, gdK_tt, gdK_ff, gdK_tf, gdK_ft, gdK_ut, gdCK_tt, gdCK_ff, gdCK_tf, gdCK_ft, gdCK_ut, okK_bool, okK_int, okK_string, okK_slice, okK_pointer, okK_SL, okK_EP, okK_sv, okK_vs, List.getD_cons_succ, List.getD_cons_zero, gd_tt, gd_ff, gd_tf, gd_ft, gd_ut, gdC_tt, gdC_ff, gdC_tf, gdC_ft, gdC_ut, ret_run, vPick_bool, if_true, if_false, reduceIte, Nat.reduceEqDiff, Bool.false_eq_true, okC_bool, okC_int, okC_string, okC_slice, okC_iface, okC_vs, okC_sv, okC_EP, dem_undef, dem_int, dem_bool, dem_string, dem_nil, dem_agg, dem_func, dem_pointer, dem_slice, dem_map, dem_vs, dem_sv, dem_dem, vBin_int, vBin_string, vBin_bool, vConv_int, vConvF_int, vConvF_string, vConvF_stringH, vConvF_sv, vConvF_vs, vSliceF_sv, vSliceF_vs, vSliceF_string, vcodeV_regionH, vExtract_tuple, List.getElem?_cons_succ, List.getElem?_cons_zero, Option.map_some, aBin_add, aBin_sub, aBin_mul, aBin_eql, aBin_neq, aBin_lss, aBin_leq, aBin_gtr, aBin_geq, aUn_not, Bool.not_true, Bool.not_false, Bool.true_eq_false, decide_true, decide_false, eq_self, exd_0_1, exd_0_2, exd_1_2, exd_0_3, exd_1_3, exd_2_3, exd_0_4, exd_1_4, exd_2_4, exd_3_4, exd_0_5, exd_1_5, exd_2_5, exd_3_5, exd_4_5, Int.reduceEq, Int.reduceLT, Int.reduceLE, bx, c0, c1, if_neg k2, ln, h1]
    rw [hTe] at hr
    exact ⟨_, neaptidelaw04_DiskAgain.runs hr (.inr rfl)⟩
  · conv at hr =>
      rhs
      rw [hTe]
      simp only [neaptidelaw04_DiskAgain.code, neaptidelaw04_DiskAgain.r0, neaptidelaw04_DiskAgain.r1, neaptidelaw04_DiskAgain.r2, neaptidelaw04_DiskAgain.r3, neaptidelaw04_DiskAgain.r4, neaptidelaw04_DiskAgain.r5, neaptidelaw04_DiskAgain.r6, neaptidelaw04_DiskAgain.r7, neaptidelaw04_DiskAgain.r8, neaptidelaw04_DiskAgain.r9, neaptidelaw04_DiskAgain.r10, neaptidelaw04_DiskAgain.r11, neaptidelaw04_DiskAgain.r12, neaptidelaw04_DiskAgain.r13, neaptidelaw04_DiskAgain.r14, neaptidelaw04_DiskAgain.r15, neaptidelaw04_DiskAgain.r16, neaptidelaw04_DiskAgain.r17, neaptidelaw04_DiskAgain.r18, neaptidelaw04_DiskAgain.r19, neaptidelaw04_DiskAgain.r20, neaptidelaw04_DiskAgain.r21, neaptidelaw04_DiskAgain.r22, vcodeV_seq, vcodeV_region, vcodeV_block, vcodeV_skip, vcodeV_ret, vcodeV_exit, vcodeV_cond, vcodeV_loop, andThen_some, regV_some, seqV_normal, seqV_exit, seqV_ret, blockV_normal, blockV_ret, blockV_exit, condK_true, condK_false, andK_some, gdK_tt, gdK_ff, gdK_tf, gdK_ft, gdK_ut, gdCK_tt, gdCK_ff, gdCK_tf, gdCK_ft, gdCK_ut, okK_bool, okK_int, okK_string, okK_slice, okK_pointer, okK_SL, okK_EP, okK_sv, okK_vs, List.getD_cons_succ, List.getD_cons_zero, gd_tt, gd_ff, gd_tf, gd_ft, gd_ut, gdC_tt, gdC_ff, gdC_tf, gdC_ft, gdC_ut, ret_run, vPick_bool, if_true, if_false, reduceIte, Nat.reduceEqDiff, Bool.false_eq_true, okC_bool, okC_int, okC_string, okC_slice, okC_iface, okC_vs, okC_sv, okC_EP, dem_undef, dem_int, dem_bool, dem_string, dem_nil, dem_agg, dem_func, dem_pointer, dem_slice, dem_map, dem_vs, dem_sv, dem_dem, vBin_int, vBin_string, vBin_bool, vConv_int, vConvF_int, vConvF_string, vConvF_stringH, vConvF_sv, vConvF_vs, vSliceF_sv, vSliceF_vs, vSliceF_string, vcodeV_regionH, vExtract_tuple, List.getElem?_cons_succ, List.getElem?_cons_zero, Option.map_some, aBin_add, aBin_sub, aBin_mul, aBin_eql, aBin_neq, aBin_lss, aBin_leq, aBin_gtr, aBin_geq, aUn_not, Bool.not_true, Bool.not_false, Bool.true_eq_false, decide_true, decide_false, eq_self, exd_0_1, exd_0_2, exd_1_2, exd_0_3, exd_1_3, exd_2_3, exd_0_4, exd_1_4, exd_2_4, exd_3_4, exd_0_5, exd_1_5, exd_2_5, exd_3_5, exd_4_5, Int.reduceEq, Int.reduceLT, Int.reduceLE, bx, c0, c1, if_neg k2, ln, h1]
    generalize hL : loopV (vcodeV Try.prog O false neaptidelaw04_DiskAgain.loop1) _ _ = r at hr
    obtain ⟨T', S', data, sy, rfl, g2, g3, g4, g5, o2⟩ := round hk k2 hl hg l [] hL rfl rfl rfl rfl rfl rfl hD
    have g4 : T'.getD 3 undef = .pointer (some ⟨0, 0, none⟩) := g4
    have hTe' := neaptidelaw04_DiskAgain.eta g2
    rw [g3, g4] at hTe'
    have ix0 : ∀ S, vIndexAddr Try.prog 37 (.pointer (some ⟨0, 0, none⟩)) (.int .i64 0) S = some (.pointer (some ⟨0, 0, none⟩), S) := fun S => idx_arr u_A2_int s_int (by decide) (by decide)
    have ix1 : ∀ S, vIndexAddr Try.prog 37 (.pointer (some ⟨0, 0, none⟩)) (.int .i64 1) S = some (.pointer (some ⟨0, 1, none⟩), S) := fun S => idx_arr u_A2_int s_int (by decide) (by decide)
    have gk : ∀ {S4 : AHeap}, Old S1.next S1 S4 → S4.get 0 = some (.cells [.int .i64 a, .int .i64 b] (.own []) 0) := fun h => (h 0 n0).trans g0
    have oS := o1.trans o2
    have k1 := load_int (t := 3) (o := 0) (gk oS) g_int rfl
    obtain ⟨v3, S3, c3, g6, o3⟩ := disk_Disk_Crash.v (keep := a) g5 ha
    have b1 := g5.sy0; have b2 := g5.syl; have b3 := g5.len
    generalize data.take (sy + max 0 (min a (data.length - sy))).toNat = D at *
    have c4 := disk_Disk_Bytes.v g6
    have oS3 := oS.trans o3
    have k3 := load_int (t := 3) (o := 1) (gk oS3) g_int rfl
    obtain ⟨v5, S5, c5, g7, o5⟩ := disk_Disk_Crash.v (keep := b) g6 hb
    have same : D.take ((D.length : Int) + max 0 (min b (D.length - D.length))).toNat = D := List.take_of_length_le (by omega)
    rw [same] at g7
    have c6 := disk_Disk_Bytes.v g7
    have c7 := disk_Disk_Synced.v g7
    have st1 : ∀ S, vConv Try.prog 27 9 (by_ 1 D) S = some (.string ⟨D.toArray⟩, S) := fun S => by_str Okl.read
    have st2 : ∀ S, vConv Try.prog 27 9 (by_ 2 D) S = some (.string ⟨D.toArray⟩, S) := fun S => by_str Okl.own
    have ln1 : ∀ S, vLen Try.prog 27 (by_ 1 D) S = some (.int .i64 D.length, S) := fun S => by_len Okl.read
    have be : ∀ S, vBuildSlice Try.prog 27 3 [(0, (.int .u8 101)), (1, (.int .u8 110)), (2, (.int .u8 100))] S = some (by_ 2 [101, 110, 100], S) := fun S => by kernel_rfl
    have ce : ∀ S, vConv Try.prog 27 27 (by_ 2 [101, 110, 100]) S = some (by_ 1 [101, 110, 100], S) := fun S => by kernel_rfl
    obtain ⟨S8, c8, g8, o8⟩ := disk_Disk_Append.v (k := 1) (b := [101, 110, 100]) g7 Okl.read (by decide) (by decide)
    by_cases h2 : roomOf (max 0 (min 60000 65536)) D.length < (3 : Int)
    · rw [show (([101, 110, 100] : List UInt8).length : Int) = 3 from rfl, if_pos h2] at c8 g8
      have c9 := disk_Disk_Room.v g8
      conv at hr =>
        rhs
        rw [hTe']
        simp only [neaptidelaw04_DiskAgain.code, neaptidelaw04_DiskAgain.r0, neaptidelaw04_DiskAgain.r1, neaptidelaw04_DiskAgain.r2, neaptidelaw04_DiskAgain.r3, neaptidelaw04_DiskAgain.r4, neaptidelaw04_DiskAgain.r5, neaptidelaw04_DiskAgain.r6, neaptidelaw04_DiskAgain.r7, neaptidelaw04_DiskAgain.r8, neaptidelaw04_DiskAgain.r9, neaptidelaw04_DiskAgain.r10, neaptidelaw04_DiskAgain.r11, neaptidelaw04_DiskAgain.r12, neaptidelaw04_DiskAgain.r13, neaptidelaw04_DiskAgain.r14, neaptidelaw04_DiskAgain.r15, neaptidelaw04_DiskAgain.r16, neaptidelaw04_DiskAgain.r17, neaptidelaw04_DiskAgain.r18, neaptidelaw04_DiskAgain.r19, neaptidelaw04_DiskAgain.r20, neaptidelaw04_DiskAgain.r21, neaptidelaw04_DiskAgain.r22, vcodeV_seq, vcodeV_region, vcodeV_block, vcodeV_skip, vcodeV_ret, vcodeV_exit, vcodeV_cond, vcodeV_loop, andThen_some, regV_some, seqV_normal, seqV_exit, seqV_ret, blockV_normal, blockV_ret, blockV_exit, condK_true, condK_false, andK_some, gdK_tt, gdK_ff, gdK_tf, gdK_ft, gdK_ut, gdCK_tt, gdCK_ff, gdCK_tf, gdCK_ft, gdCK_ut, okK_bool, okK_int, okK_string, okK_slice, okK_pointer, okK_SL, okK_EP, okK_sv, okK_vs, List.getD_cons_succ, List.getD_cons_zero, gd_tt, gd_ff, gd_tf, gd_ft, gd_ut, gdC_tt, gdC_ff, gdC_tf, gdC_ft, gdC_ut, ret_run, vPick_bool, if_true, if_false, reduceIte, Nat.reduceEqDiff, Bool.false_eq_true, okC_bool, okC_int, okC_string, okC_slice, okC_iface, okC_vs, okC_sv, okC_EP, dem_undef, dem_int, dem_bool, dem_string, dem_nil, dem_agg, dem_func, dem_pointer, dem_slice, dem_map, dem_vs, dem_sv, dem_dem, vBin_int, vBin_string, vBin_bool, vConv_int, vConvF_int, vConvF_string, vConvF_stringH, vConvF_sv, vConvF_vs, vSliceF_sv, vSliceF_vs, vSliceF_string, vcodeV_regionH, vExtract_tuple, List.getElem?_cons_succ, List.getElem?_cons_zero, Option.map_some, aBin_add, aBin_sub, aBin_mul, aBin_eql, aBin_neq, aBin_lss, aBin_leq, aBin_gtr, aBin_geq, aUn_not, Bool.not_true, Bool.not_false, Bool.true_eq_false, decide_true, decide_false, eq_self, exd_0_1, exd_0_2, exd_1_2, exd_0_3, exd_1_3, exd_2_3, exd_0_4, exd_1_4, exd_2_4, exd_3_4, exd_0_5, exd_1_5, exd_2_5, exd_3_5, exd_4_5, Int.reduceEq, Int.reduceLT, Int.reduceLE, ix0, ix1, k1, k3, c3, c4, c5, c6, c7, st1, st2, ln1, tx_neq, Bool.not_true, be, ce, c8, c9, h2]
      rw [hTe] at hr
      exact ⟨_, neaptidelaw04_DiskAgain.runs hr (.inr rfl)⟩
    · rw [show (([101, 110, 100] : List UInt8).length : Int) = 3 from rfl, if_neg h2] at c8 g8
      obtain ⟨v9, S9, c9, g9, o9⟩ := disk_Disk_Sync.v g8
      have k9 := load_int (t := 3) (o := 1) (gk (((oS3.trans o5).trans o8).trans o9)) g_int rfl
      obtain ⟨v10, S10, c10, g10, o10⟩ := disk_Disk_Crash.v (keep := b) g9 hb
      have same2 : (D ++ [101, 110, 100]).take (((D ++ [101, 110, 100]).length : Int) + max 0 (min b ((D ++ [101, 110, 100]).length - (D ++ [101, 110, 100]).length))).toNat = D ++ [101, 110, 100] := List.take_of_length_le (by omega)
      rw [same2] at g10
      have c11 := disk_Disk_Bytes.v g10
      have st3 : ∀ S, vConv Try.prog 27 9 (by_ 2 (D ++ [101, 110, 100])) S = some (.string ⟨(D ++ [101, 110, 100]).toArray⟩, S) := fun S => by_str Okl.own
      have ad : ∀ S, aBin Try.prog .add 9 (.string ⟨D.toArray⟩) (.string ⟨#[101, 110, 100]⟩) S = some (.string ⟨(D ++ [101, 110, 100]).toArray⟩, S) := fun S => tx_add (b := [101, 110, 100]) (by have := g6.len; simp; omega)
      conv at hr =>
        rhs
        rw [hTe']
        simp only [neaptidelaw04_DiskAgain.code, neaptidelaw04_DiskAgain.r0, neaptidelaw04_DiskAgain.r1, neaptidelaw04_DiskAgain.r2, neaptidelaw04_DiskAgain.r3, neaptidelaw04_DiskAgain.r4, neaptidelaw04_DiskAgain.r5, neaptidelaw04_DiskAgain.r6, neaptidelaw04_DiskAgain.r7, neaptidelaw04_DiskAgain.r8, neaptidelaw04_DiskAgain.r9, neaptidelaw04_DiskAgain.r10, neaptidelaw04_DiskAgain.r11, neaptidelaw04_DiskAgain.r12, neaptidelaw04_DiskAgain.r13, neaptidelaw04_DiskAgain.r14, neaptidelaw04_DiskAgain.r15, neaptidelaw04_DiskAgain.r16, neaptidelaw04_DiskAgain.r17, neaptidelaw04_DiskAgain.r18, neaptidelaw04_DiskAgain.r19, neaptidelaw04_DiskAgain.r20, neaptidelaw04_DiskAgain.r21, neaptidelaw04_DiskAgain.r22, vcodeV_seq, vcodeV_region, vcodeV_block, vcodeV_skip, vcodeV_ret, vcodeV_exit, vcodeV_cond, vcodeV_loop, andThen_some, regV_some, seqV_normal, seqV_exit, seqV_ret, blockV_normal, blockV_ret, blockV_exit, condK_true, condK_false, andK_some, gdK_tt, gdK_ff, gdK_tf, gdK_ft, gdK_ut, gdCK_tt, gdCK_ff, gdCK_tf, gdCK_ft, gdCK_ut, okK_bool, okK_int, okK_string, okK_slice, okK_pointer, okK_SL, okK_EP, okK_sv, okK_vs, List.getD_cons_succ, List.getD_cons_zero, gd_tt, gd_ff, gd_tf, gd_ft, gd_ut, gdC_tt, gdC_ff, gdC_tf, gdC_ft, gdC_ut, ret_run, vPick_bool, if_true, if_false, reduceIte, Nat.reduceEqDiff, Bool.false_eq_true, okC_bool, okC_int, okC_string, okC_slice, okC_iface, okC_vs, okC_sv, okC_EP, dem_undef, dem_int, dem_bool, dem_string, dem_nil, dem_agg, dem_func, dem_pointer, dem_slice, dem_map, dem_vs, dem_sv, dem_dem, vBin_int, vBin_string, vBin_bool, vConv_int, vConvF_int, vConvF_string, vConvF_stringH, vConvF_sv, vConvF_vs, vSliceF_sv, vSliceF_vs, vSliceF_string, vcodeV_regionH, vExtract_tuple, List.getElem?_cons_succ, List.getElem?_cons_zero, Option.map_some, aBin_add, aBin_sub, aBin_mul, aBin_eql, aBin_neq, aBin_lss, aBin_leq, aBin_gtr, aBin_geq, aUn_not, Bool.not_true, Bool.not_false, Bool.true_eq_false, decide_true, decide_false, eq_self, exd_0_1, exd_0_2, exd_1_2, exd_0_3, exd_1_3, exd_2_3, exd_0_4, exd_1_4, exd_2_4, exd_3_4, exd_0_5, exd_1_5, exd_2_5, exd_3_5, exd_4_5, Int.reduceEq, Int.reduceLT, Int.reduceLE, ix0, ix1, k1, k3, c3, c4, c5, c6, c7, st1, st2, ln1, tx_neq, Bool.not_true, be, ce, c8, c9, k9, c10, c11, st3, ad, tx_eql]
      rw [hTe] at hr
      exact ⟨_, neaptidelaw04_DiskAgain.runs hr (.inr rfl)⟩
theorem law (x : Args codes) (h : Args.Good codes x) : ∃ k, (acall Try.prog k 6 (Args.place codes x AHeap.empty).1 (Args.place codes x AHeap.empty).2).map (·.1) = some (.bool true) := by
  obtain ⟨a, ⟨b, c, u2⟩, u⟩ := x
  obtain ⟨h1, ⟨h2, h3, _⟩, _⟩ := h
  obtain ⟨k, l, p1, p2, p3, p4, p5⟩ := in_tbs a h1
  obtain ⟨S', e⟩ := run (a := b) (b := c) p1 p2 p4 p5 (in_int h2) (in_int h3)
  refine law_of_vlim ora_ok (S' := S') ?_
  have e2 : Args.vval codes (a, (b, c, u2), u) = [vs fB 1 k l, .agg [Value.int .i64 b, .int .i64 c].toArray] := by
    show [argOf false ((Ty.slc 24 (.slc 1 (.int .u8))).vval a), _] = _
    rw [p3]; rfl
  rw [e2]
  exact e
end diskAgain
end Go.Proofs.Ytgfpjnblookppaa
