/-
What there is room for is appended: the law's run.
-/
import Derived.Test.YtgfpjnblookppaaF5
import Derived.Test.YtgfpjnblookppaaVD2
import Derived.Test.YtgfpjnblookppaaVD3
import Derived.Test.YtgfpjnblookppaaVWords
set_option linter.unusedVariables false
set_option linter.unusedSimpArgs false
set_option maxRecDepth 100000
namespace Go.Proofs.Ytgfpjnblookppaa
open Go.Abs

namespace diskFull
def codes : List (Bool × Ty) := [(false, .int .i64), (false, .slc 24 (.slc 1 (.int .u8)))]
theorem coded : argsOf Try.prog 9 [3, 35] = some codes := by kernel_rfl

theorem round {k q : Nat} {l : List Tb} (hk : Okl k l) (k2 : k ≠ 2) (hl : l.length * 24 ≤ 140737488351232) (hg : ∀ t ∈ l, t.Ok) {room : Int} : ∀ (suf pre : List Tb) {T : List Value} {r : St} {S : AHeap} {data : List UInt8} {sy : Int}, loopV (vcodeV Try.prog O false neaptidelaw04_DiskFull.loop1) T S = r → T.length = 67 →
    T.getD 5 undef = .pointer (some ⟨q, 0, none⟩) → T.getD 6 undef = .string ⟨data.toArray⟩ → T.getD 24 undef = vs fB 1 k l → T.getD 25 undef = .int .i64 l.length → T.getD 26 undef = .int .i64 pre.length → l = pre ++ suf → Dk S q data sy room → data.length ≤ room →
    ∃ T' S' data', r = some (.exit 0, T', S') ∧ T'.length = 67 ∧ T'.getD 5 undef = .pointer (some ⟨q, 0, none⟩) ∧ T'.getD 6 undef = .string ⟨data'.toArray⟩ ∧ T'.getD 0 undef = T.getD 0 undef ∧ Dk S' q data' sy room ∧ data'.length ≤ room := by
  intro suf
  induction suf with
  | nil =>
    intro pre T r S data sy hL hT h5 h6 h24 h25 h26 hpre hD hd
    have hTe := neaptidelaw04_DiskFull.eta hT
    rw [h5, h6, h24, h25, h26] at hTe
    have hr : vcodeV Try.prog O false neaptidelaw04_DiskFull.loop1 T S = vcodeV Try.prog O false neaptidelaw04_DiskFull.loop1 T S := rfl
    have d1 : ¬ (pre.length : Int) < (l.length : Int) := by rw [hpre]; simp
    conv at hr =>
      rhs
      rw [hTe]
      simp only [neaptidelaw04_DiskFull.loop1, neaptidelaw04_DiskFull.code, neaptidelaw04_DiskFull.r0, neaptidelaw04_DiskFull.r1, neaptidelaw04_DiskFull.r2, neaptidelaw04_DiskFull.r3, neaptidelaw04_DiskFull.r4, neaptidelaw04_DiskFull.r5, neaptidelaw04_DiskFull.r6, neaptidelaw04_DiskFull.r7, neaptidelaw04_DiskFull.r8, neaptidelaw04_DiskFull.r9, neaptidelaw04_DiskFull.r10, neaptidelaw04_DiskFull.r11, neaptidelaw04_DiskFull.r12, neaptidelaw04_DiskFull.r13, neaptidelaw04_DiskFull.r14, neaptidelaw04_DiskFull.r15, neaptidelaw04_DiskFull.r16, neaptidelaw04_DiskFull.r17, vcodeV_seq, vcodeV_region, vcodeV_block, vcodeV_skip, vcodeV_ret, vcodeV_exit, vcodeV_cond, vcodeV_loop, andThen_some, regV_some, seqV_normal, seqV_exit, seqV_ret, blockV_normal, blockV_ret, blockV_exit, condK_true, condK_false, andK_some, gdK_tt, gdK_ff, gdK_tf, gdK_ft, gdK_ut, gdCK_tt, gdCK_ff, gdCK_tf, gdCK_ft, gdCK_ut, okK_bool, okK_int, okK_string, okK_slice, okK_pointer, okK_SL, okK_EP, okK_sv, okK_vs, List.getD_cons_succ, List.getD_cons_zero, gd_tt, gd_ff, gd_tf, gd_ft, gd_ut, gdC_tt, gdC_ff, gdC_tf, gdC_ft, gdC_ut, ret_run, vPick_bool, if_true, if_false, reduceIte, Nat.reduceEqDiff, Bool.false_eq_true, okC_bool, okC_int, okC_string, okC_slice, okC_iface, okC_vs, okC_sv, okC_EP, dem_undef, dem_int, dem_bool, dem_string, dem_nil, dem_agg, dem_func, dem_pointer, dem_slice, dem_map, dem_vs, dem_sv, dem_dem, vBin_int, vBin_string, vBin_bool, vConv_int, vConvF_int, vConvF_string, vConvF_stringH, vConvF_sv, vConvF_vs, vSliceF_sv, vSliceF_vs, vSliceF_string, vcodeV_regionH, vExtract_tuple, List.getElem?_cons_succ, List.getElem?_cons_zero, Option.map_some, aBin_add, aBin_sub, aBin_mul, aBin_eql, aBin_neq, aBin_lss, aBin_leq, aBin_gtr, aBin_geq, aUn_not, Bool.not_true, Bool.not_false, Bool.true_eq_false, decide_true, decide_false, eq_self, exd_0_1, exd_0_2, exd_1_2, exd_0_3, exd_1_3, exd_2_3, exd_0_4, exd_1_4, exd_2_4, exd_3_4, exd_0_5, exd_1_5, exd_2_5, exd_3_5, exd_4_5, Int.reduceEq, Int.reduceLT, Int.reduceLE, d1]
    exact ⟨_, _, data, hL.symm.trans (loopV_exit hr (by simp)), rfl, rfl, rfl, rfl, hD, hd⟩
  | cons t suf ih =>
    intro pre T r S data sy hL hT h5 h6 h24 h25 h26 hpre hD hd
    have hTe := neaptidelaw04_DiskFull.eta hT
    rw [h5, h6, h24, h25, h26] at hTe
    have hr : vcodeV Try.prog O false neaptidelaw04_DiskFull.loop1 T S = vcodeV Try.prog O false neaptidelaw04_DiskFull.loop1 T S := rfl
    have d1 : (pre.length : Int) < (l.length : Int) := by rw [hpre]; simp; omega
    have ht := hg t (by rw [hpre]; simp)
    have e1 : ∀ S, vIndexAddr Try.prog 35 (vs fB 1 k l) (.int .i64 pre.length) S = some (EP [by_ t.k t.b], S) := fun S => by
      rw [vs_at u_L_L_uint8 s_L_uint8 fB_len hk (by omega) d1, at_pre hpre]; rfl
    have l1 : ∀ S, vLoad Try.prog false 27 (EP [by_ t.k t.b]) S = some (by_ t.k t.b, S) := fun S => vLoad_one g_L_uint8
    have wi : IntKind.i64.wrap ((pre.length : Int) + 1) = ((pre ++ [t]).length : Int) := by rw [wrap_i64 (by omega) (by omega)]; simp
    have c1 := disk_Disk_Room.v hD
    have cp : ∀ S, vAppend Try.prog 27 27 (by_ 2 []) (by_ t.k t.b) S = some (by_ 2 t.b, S) := fun S => by_copy ht.okl (by have := ht.le; omega)
    obtain ⟨S1, c2, hD1, _⟩ := disk_Disk_Append.v (k := 1) (b := t.b) hD Okl.read (by decide) (by have := ht.le; omega)
    have ln : ∀ S, vLen Try.prog 27 (by_ t.k t.b) S = some (.int .i64 t.b.length, S) := fun S => by_len ht.okl
    have ne : ¬ t.k = 2 := ht.ne
    by_cases hb : roomOf room data.length < (t.b.length : Int)
    · rw [if_pos hb] at c2 hD1
      have hb2 : ¬ (t.b.length : Int) ≤ roomOf room data.length := by omega
      conv at hr =>
        rhs
        rw [hTe]
        simp only [neaptidelaw04_DiskFull.loop1, neaptidelaw04_DiskFull.code, neaptidelaw04_DiskFull.r0, neaptidelaw04_DiskFull.r1, neaptidelaw04_DiskFull.r2, neaptidelaw04_DiskFull.r3, neaptidelaw04_DiskFull.r4, neaptidelaw04_DiskFull.r5, neaptidelaw04_DiskFull.r6, neaptidelaw04_DiskFull.r7, neaptidelaw04_DiskFull.r8, neaptidelaw04_DiskFull.r9, neaptidelaw04_DiskFull.r10, neaptidelaw04_DiskFull.r11, neaptidelaw04_DiskFull.r12, neaptidelaw04_DiskFull.r13, neaptidelaw04_DiskFull.r14, neaptidelaw04_DiskFull.r15, neaptidelaw04_DiskFull.r16, neaptidelaw04_DiskFull.r17, vcodeV_seq, vcodeV_region, vcodeV_block, vcodeV_skip, vcodeV_ret, vcodeV_exit, vcodeV_cond, vcodeV_loop, andThen_some, regV_some, seqV_normal, seqV_exit, seqV_ret, blockV_normal, blockV_ret, blockV_exit, condK_true, condK_false, andK_some, gdK_tt, gdK_ff, gdK_tf, gdK_ft, gdK_ut, gdCK_tt, gdCK_ff, gdCK_tf, gdCK_ft, gdCK_ut, okK_bool, okK_int, okK_string, okK_slice, okK_pointer, okK_SL, okK_EP, okK_sv, okK_vs, List.getD_cons_succ, List.getD_cons_zero, gd_tt, gd_ff, gd_tf, gd_ft, gd_ut, gdC_tt, gdC_ff, gdC_tf, gdC_ft, gdC_ut, ret_run, vPick_bool, if_true, if_false, reduceIte, Nat.reduceEqDiff, Bool.false_eq_true, okC_bool, okC_int, okC_string, okC_slice, okC_iface, okC_vs, okC_sv, okC_EP, dem_undef, dem_int, dem_bool, dem_string, dem_nil, dem_agg, dem_func, dem_pointer, dem_slice, dem_map, dem_vs, dem_sv, dem_dem, vBin_int, vBin_string, vBin_bool, vConv_int, vConvF_int, vConvF_string, vConvF_stringH, vConvF_sv, vConvF_vs, vSliceF_sv, vSliceF_vs, vSliceF_string, vcodeV_regionH, vExtract_tuple, List.getElem?_cons_succ, List.getElem?_cons_zero, Option.map_some, aBin_add, aBin_sub, aBin_mul, aBin_eql, aBin_neq, aBin_lss, aBin_leq, aBin_gtr, aBin_geq, aUn_not, Bool.not_true, Bool.not_false, Bool.true_eq_false, decide_true, decide_false, eq_self, exd_0_1, exd_0_2, exd_1_2, exd_0_3, exd_1_3, exd_2_3, exd_0_4, exd_1_4, exd_2_4, exd_3_4, exd_0_5, exd_1_5, exd_2_5, exd_3_5, exd_4_5, Int.reduceEq, Int.reduceLT, Int.reduceLE, d1, if_neg ne, e1, l1, c1, bb0, cp, c2, ln, hb2, tf_neq, wi, bne_self_eq_false]
      obtain ⟨T', S', data', g1, g2, g3, g4, g5, g6, g7⟩ := ih (pre ++ [t]) ((loopV_step hr).symm.trans hL) rfl rfl rfl rfl rfl rfl (by simp [hpre]) hD1 hd
      exact ⟨T', S', data', g1, g2, g3, g4, g5, g6, g7⟩
    · rw [if_neg hb] at c2 hD1
      have hb2 : (t.b.length : Int) ≤ roomOf room data.length := by omega
      have st : ∀ S, vConv Try.prog 27 9 (by_ t.k t.b) S = some (.string ⟨t.b.toArray⟩, S) := fun S => by_str ht.okl
      have ad : ∀ S, aBin Try.prog .add 9 (.string ⟨data.toArray⟩) (.string ⟨t.b.toArray⟩) S = some (.string ⟨(data ++ t.b).toArray⟩, S) := fun S => tx_add (by have := ht.le; have := hD.len; omega)
      have hd2 : ((data ++ t.b).length : Int) ≤ room := by
        rw [List.length_append]
        unfold roomOf at hb2
        split at hb2 <;> omega
      conv at hr =>
        rhs
        rw [hTe]
        simp only [neaptidelaw04_DiskFull.loop1, neaptidelaw04_DiskFull.code, neaptidelaw04_DiskFull.r0, neaptidelaw04_DiskFull.r1, neaptidelaw04_DiskFull.r2, neaptidelaw04_DiskFull.r3, neaptidelaw04_DiskFull.r4, neaptidelaw04_DiskFull.r5, neaptidelaw04_DiskFull.r6, neaptidelaw04_DiskFull.r7, neaptidelaw04_DiskFull.r8, neaptidelaw04_DiskFull.r9, neaptidelaw04_DiskFull.r10, neaptidelaw04_DiskFull.r11, neaptidelaw04_DiskFull.r12, neaptidelaw04_DiskFull.r13, neaptidelaw04_DiskFull.r14, neaptidelaw04_DiskFull.r15, neaptidelaw04_DiskFull.r16, neaptidelaw04_DiskFull.r17, vcodeV_seq, vcodeV_region, vcodeV_block, vcodeV_skip, vcodeV_ret, vcodeV_exit, vcodeV_cond, vcodeV_loop, andThen_some, regV_some, seqV_normal, seqV_exit, seqV_ret, blockV_normal, blockV_ret, blockV_exit, condK_true, condK_false, andK_some, gdK_tt, gdK_ff, gdK_tf, gdK_ft, gdK_ut, gdCK_tt, gdCK_ff, gdCK_tf, gdCK_ft, gdCK_ut, okK_bool, okK_int, okK_string, okK_slice, okK_pointer, okK_SL, okK_EP, okK_sv, okK_vs, List.getD_cons_succ, List.getD_cons_zero, gd_tt, gd_ff, gd_tf, gd_ft, gd_ut, gdC_tt, gdC_ff, gdC_tf, gdC_ft, gdC_ut, ret_run, vPick_bool, if_true, if_false, reduceIte, Nat.reduceEqDiff, Bool.false_eq_true, okC_bool, okC_int, okC_string, okC_slice, okC_iface, okC_vs, okC_sv, okC_EP, dem_undef, dem_int, dem_bool, dem_string, dem_nil, dem_agg, dem_func, dem_pointer, dem_slice, dem_map, dem_vs, dem_sv, dem_dem, vBin_int, vBin_string, vBin_bool, vConv_int, vConvF_int, vConvF_string, vConvF_stringH, vConvF_sv, vConvF_vs, vSliceF_sv, vSliceF_vs, vSliceF_string, vcodeV_regionH, vExtract_tuple, List.getElem?_cons_succ, List.getElem?_cons_zero, Option.map_some, aBin_add, aBin_sub, aBin_mul, aBin_eql, aBin_neq, aBin_lss, aBin_leq, aBin_gtr, aBin_geq, aUn_not, Bool.not_true, Bool.not_false, Bool.true_eq_false, decide_true, decide_false, eq_self, exd_0_1, exd_0_2, exd_1_2, exd_0_3, exd_1_3, exd_2_3, exd_0_4, exd_1_4, exd_2_4, exd_3_4, exd_0_5, exd_1_5, exd_2_5, exd_3_5, exd_4_5, Int.reduceEq, Int.reduceLT, Int.reduceLE, d1, if_neg ne, e1, l1, c1, bb0, cp, c2, ln, hb2, tf_neq, wi, bne_self_eq_false, st, ad]
      obtain ⟨T', S', data', g1, g2, g3, g4, g5, g6, g7⟩ := ih (pre ++ [t]) ((loopV_step hr).symm.trans hL) rfl rfl rfl rfl rfl rfl (by simp [hpre]) hD1 hd2
      exact ⟨T', S', data', g1, g2, g3, g4, g5, g6, g7⟩

theorem run {k : Nat} {l : List Tb} {room : Int} (hk : Okl k l) (k2 : k ≠ 2) (hl : l.length * 24 ≤ 140737488351232) (hg : ∀ t ∈ l, t.Ok) : ∃ S', vlim Try.prog O 5 [.int .i64 room, vs fB 1 k l] AHeap.empty = some (.bool true, S') := by
  obtain ⟨T, hTe⟩ : ∃ T, T = (.int .i64 room :: vs fB 1 k l :: undef :: undef :: undef :: undef :: undef :: undef :: undef :: undef :: undef :: undef :: undef :: undef :: undef :: undef :: undef :: undef :: undef :: undef :: undef :: undef :: undef :: undef :: undef :: undef :: undef :: undef :: undef :: undef :: undef :: undef :: undef :: undef :: undef :: undef :: undef :: undef :: undef :: undef :: undef :: undef :: undef :: undef :: undef :: undef :: undef :: undef :: undef :: undef :: undef :: undef :: undef :: undef :: undef :: undef :: undef :: undef :: undef :: undef :: undef :: undef :: undef :: undef :: undef :: undef :: undef :: []) := ⟨_, rfl⟩
  have hr : vcodeV Try.prog O false neaptidelaw04_DiskFull.code T AHeap.empty = vcodeV Try.prog O false neaptidelaw04_DiskFull.code T AHeap.empty := rfl
  obtain ⟨S1, c0⟩ := neaptidelaw04_diskAlive.v
  obtain ⟨S2, c1, hD, _⟩ := disk_New.v (r := room) S1
  have nl : ∀ S, vBin Try.prog .eql 24 (.pointer (some ⟨S1.next, 0, none⟩)) (.pointer none) S = some (.bool false, S) := fun S => by kernel_rfl
  have nl2 : ∀ S, vBin Try.prog .neq 24 (.pointer (some ⟨S1.next, 0, none⟩)) (.pointer none) S = some (.bool true, S) := fun S => by kernel_rfl
  have ln : ∀ S, vLen Try.prog 35 (vs fB 1 k l) S = some (.int .i64 l.length, S) := fun S => vs_len u_L_L_uint8 hk
  by_cases h1 : (200 : Int) < (l.length : Int)
  · conv at hr =>
      rhs
      rw [hTe]
      simp only [neaptidelaw04_DiskFull.code, neaptidelaw04_DiskFull.r0, neaptidelaw04_DiskFull.r1, neaptidelaw04_DiskFull.r2, neaptidelaw04_DiskFull.r3, neaptidelaw04_DiskFull.r4, neaptidelaw04_DiskFull.r5, neaptidelaw04_DiskFull.r6, neaptidelaw04_DiskFull.r7, neaptidelaw04_DiskFull.r8, neaptidelaw04_DiskFull.r9, neaptidelaw04_DiskFull.r10, neaptidelaw04_DiskFull.r11, neaptidelaw04_DiskFull.r12, neaptidelaw04_DiskFull.r13, neaptidelaw04_DiskFull.r14, neaptidelaw04_DiskFull.r15, neaptidelaw04_DiskFull.r16, neaptidelaw04_DiskFull.r17, vcodeV_seq, vcodeV_region, vcodeV_block, vcodeV_skip, vcodeV_ret, vcodeV_exit, vcodeV_cond, vcodeV_loop, andThen_some, regV_some, seqV_normal, seqV_exit, seqV_ret, blockV_normal, blockV_ret, blockV_exit, condK_true, condK_false, andK_some, gdK_tt, gdK_ff, gdK_tf, gdK_ft, gdK_ut, gdCK_tt, gdCK_ff, gdCK_tf, gdCK_ft, gdCK_ut, okK_bool, okK_int, okK_string, okK_slice, okK_pointer, okK_SL, okK_EP, okK_sv, okK_vs, List.getD_cons_succ, List.getD_cons_zero, gd_tt, gd_ff, gd_tf, gd_ft, gd_ut, gdC_tt, gdC_ff, gdC_tf, gdC_ft, gdC_ut, ret_run, vPick_bool, if_true, if_false, reduceIte, Nat.reduceEqDiff, Bool.false_eq_true, okC_bool, okC_int, okC_string, okC_slice, okC_iface, okC_vs, okC_sv, okC_EP, dem_undef, dem_int, dem_bool, dem_string, dem_nil, dem_agg, dem_func, dem_pointer, dem_slice, dem_map, dem_vs, dem_sv, dem_dem, vBin_int, vBin_string, vBin_bool, vConv_int, vConvF_int, vConvF_string, vConvF_stringH, vConvF_sv, vConvF_vs, vSliceF_sv, vSliceF_vs, vSliceF_string, vcodeV_regionH, vExtract_tuple, List.getElem?_cons_succ, List.getElem?_cons_zero, Option.map_some, aBin_add, aBin_sub, aBin_mul, aBin_eql, aBin_neq, aBin_lss, aBin_leq, aBin_gtr, aBin_geq, aUn_not, Bool.not_true, Bool.not_false, Bool.true_eq_false, decide_true, decide_false, eq_self, exd_0_1, exd_0_2, exd_1_2, exd_0_3, exd_1_3, exd_2_3, exd_0_4, exd_1_4, exd_2_4, exd_3_4, exd_0_5, exd_1_5, exd_2_5, exd_3_5, exd_4_5, Int.reduceEq, Int.reduceLT, Int.reduceLE, c0, c1, nl, nl2, if_neg k2, ln, h1]
    rw [hTe] at hr
    exact ⟨_, neaptidelaw04_DiskFull.runs hr (.inr rfl)⟩
  · conv at hr =>
      rhs
      rw [hTe]
      simp only [neaptidelaw04_DiskFull.code, neaptidelaw04_DiskFull.r0, neaptidelaw04_DiskFull.r1, neaptidelaw04_DiskFull.r2, neaptidelaw04_DiskFull.r3, neaptidelaw04_DiskFull.r4, neaptidelaw04_DiskFull.r5, neaptidelaw04_DiskFull.r6, neaptidelaw04_DiskFull.r7, neaptidelaw04_DiskFull.r8, neaptidelaw04_DiskFull.r9, neaptidelaw04_DiskFull.r10, neaptidelaw04_DiskFull.r11, neaptidelaw04_DiskFull.r12, neaptidelaw04_DiskFull.r13, neaptidelaw04_DiskFull.r14, neaptidelaw04_DiskFull.r15, neaptidelaw04_DiskFull.r16, neaptidelaw04_DiskFull.r17, vcodeV_seq, vcodeV_region, vcodeV_block, vcodeV_skip, vcodeV_ret, vcodeV_exit, vcodeV_cond, vcodeV_loop, andThen_some, regV_some, seqV_normal, seqV_exit, seqV_ret, blockV_normal, blockV_ret, blockV_exit, condK_true, condK_false, andK_some, gdK_tt, gdK_ff, gdK_tf, gdK_ft, gdK_ut, gdCK_tt, gdCK_ff, gdCK_tf, gdCK_ft, gdCK_ut, okK_bool, okK_int, okK_string, okK_slice, okK_pointer, okK_SL, okK_EP, okK_sv, okK_vs, List.getD_cons_succ, List.getD_cons_zero, gd_tt, gd_ff, gd_tf, gd_ft, gd_ut, gdC_tt, gdC_ff, gdC_tf, gdC_ft, gdC_ut, ret_run, vPick_bool, if_true, if_false, reduceIte, Nat.reduceEqDiff, Bool.false_eq_true, okC_bool, okC_int, okC_string, okC_slice, okC_iface, okC_vs, okC_sv, okC_EP, dem_undef, dem_int, dem_bool, dem_string, dem_nil, dem_agg, dem_func, dem_pointer, dem_slice, dem_map, dem_vs, dem_sv, dem_dem, vBin_int, vBin_string, vBin_bool, vConv_int, vConvF_int, vConvF_string, vConvF_stringH, vConvF_sv, vConvF_vs, vSliceF_sv, vSliceF_vs, vSliceF_string, vcodeV_regionH, vExtract_tuple, List.getElem?_cons_succ, List.getElem?_cons_zero, Option.map_some, aBin_add, aBin_sub, aBin_mul, aBin_eql, aBin_neq, aBin_lss, aBin_leq, aBin_gtr, aBin_geq, aUn_not, Bool.not_true, Bool.not_false, Bool.true_eq_false, decide_true, decide_false, eq_self, exd_0_1, exd_0_2, exd_1_2, exd_0_3, exd_1_3, exd_2_3, exd_0_4, exd_1_4, exd_2_4, exd_3_4, exd_0_5, exd_1_5, exd_2_5, exd_3_5, exd_4_5, Int.reduceEq, Int.reduceLT, Int.reduceLE, c0, c1, nl, nl2, if_neg k2, ln, h1]
    generalize hL : loopV (vcodeV Try.prog O false neaptidelaw04_DiskFull.loop1) _ _ = r at hr
    obtain ⟨T', S', data', rfl, g2, g3, g4, g5, g6, g7⟩ := round hk k2 hl hg l [] hL rfl rfl rfl rfl rfl rfl rfl hD (by simp; omega)
    have g5 : T'.getD 0 undef = .int .i64 room := g5
    have hTe' := neaptidelaw04_DiskFull.eta g2
    rw [g3, g4, g5] at hTe'
    have c3 := disk_Disk_Bytes.v g6
    have c4 := disk_Disk_Room.v g6
    have st : ∀ S, vConv Try.prog 27 9 (by_ 2 data') S = some (.string ⟨data'.toArray⟩, S) := fun S => by_str Okl.own
    have tl : ∀ S, vLen Try.prog 9 (.string ⟨data'.toArray⟩) S = some (.int .i64 data'.length, S) := fun S => by
      simp only [vLen, aLen, u_string]; rfl
    have b1 := g6.len; have b2 := g6.rm0; have b3 := g6.rml
    have ro : roomOf (max 0 (min room 65536)) data'.length = max 0 (min room 65536) - data'.length := by unfold roomOf; split <;> omega
    have w1 : IntKind.i64.wrap ((data'.length : Int) + roomOf (max 0 (min room 65536)) data'.length) = max 0 (min room 65536) := by rw [ro, wrap_i64 (by omega) (by omega)]; omega
    have e1 : (if (if (65536 : Int) < room then 65536 else room) > 0 then (if (65536 : Int) < room then 65536 else room) else 0) = max 0 (min room 65536) := by split <;> omega
    conv at hr =>
      rhs
      rw [hTe']
      simp only [neaptidelaw04_DiskFull.code, neaptidelaw04_DiskFull.r0, neaptidelaw04_DiskFull.r1, neaptidelaw04_DiskFull.r2, neaptidelaw04_DiskFull.r3, neaptidelaw04_DiskFull.r4, neaptidelaw04_DiskFull.r5, neaptidelaw04_DiskFull.r6, neaptidelaw04_DiskFull.r7, neaptidelaw04_DiskFull.r8, neaptidelaw04_DiskFull.r9, neaptidelaw04_DiskFull.r10, neaptidelaw04_DiskFull.r11, neaptidelaw04_DiskFull.r12, neaptidelaw04_DiskFull.r13, neaptidelaw04_DiskFull.r14, neaptidelaw04_DiskFull.r15, neaptidelaw04_DiskFull.r16, neaptidelaw04_DiskFull.r17, vcodeV_seq, vcodeV_region, vcodeV_block, vcodeV_skip, vcodeV_ret, vcodeV_exit, vcodeV_cond, vcodeV_loop, andThen_some, regV_some, seqV_normal, seqV_exit, seqV_ret, blockV_normal, blockV_ret, blockV_exit, condK_true, condK_false, andK_some, gdK_tt, gdK_ff, gdK_tf, gdK_ft, gdK_ut, gdCK_tt, gdCK_ff, gdCK_tf, gdCK_ft, gdCK_ut, okK_bool, okK_int, okK_string, okK_slice, okK_pointer, okK_SL, okK_EP, okK_sv, okK_vs, List.getD_cons_succ, List.getD_cons_zero, gd_tt, gd_ff, gd_tf, gd_ft, gd_ut, gdC_tt, gdC_ff, gdC_tf, gdC_ft, gdC_ut, ret_run, vPick_bool, if_true, if_false, reduceIte, Nat.reduceEqDiff, Bool.false_eq_true, okC_bool, okC_int, okC_string, okC_slice, okC_iface, okC_vs, okC_sv, okC_EP, dem_undef, dem_int, dem_bool, dem_string, dem_nil, dem_agg, dem_func, dem_pointer, dem_slice, dem_map, dem_vs, dem_sv, dem_dem, vBin_int, vBin_string, vBin_bool, vConv_int, vConvF_int, vConvF_string, vConvF_stringH, vConvF_sv, vConvF_vs, vSliceF_sv, vSliceF_vs, vSliceF_string, vcodeV_regionH, vExtract_tuple, List.getElem?_cons_succ, List.getElem?_cons_zero, Option.map_some, aBin_add, aBin_sub, aBin_mul, aBin_eql, aBin_neq, aBin_lss, aBin_leq, aBin_gtr, aBin_geq, aUn_not, Bool.not_true, Bool.not_false, Bool.true_eq_false, decide_true, decide_false, eq_self, exd_0_1, exd_0_2, exd_1_2, exd_0_3, exd_1_3, exd_2_3, exd_0_4, exd_1_4, exd_2_4, exd_3_4, exd_0_5, exd_1_5, exd_2_5, exd_3_5, exd_4_5, Int.reduceEq, Int.reduceLT, Int.reduceLE, c3, c4, st, tl, tx_eql, vMin, vMax, e1, w1]
    rw [hTe] at hr
    exact ⟨_, neaptidelaw04_DiskFull.runs hr (.inr rfl)⟩
theorem law (x : Args codes) (h : Args.Good codes x) : ∃ k, (acall Try.prog k 5 (Args.place codes x AHeap.empty).1 (Args.place codes x AHeap.empty).2).map (·.1) = some (.bool true) := by
  obtain ⟨a, b, u⟩ := x
  obtain ⟨h1, h2, _⟩ := h
  obtain ⟨k, l, p1, p2, p3, p4, p5⟩ := in_tbs b h2
  obtain ⟨S', e⟩ := run (room := a) p1 p2 p4 p5
  refine law_of_vlim ora_ok (S' := S') ?_
  have e2 : Args.vval codes (a, b, u) = [.int .i64 a, vs fB 1 k l] := by
    show [argOf false [.int .i64 a], argOf false ((Ty.slc 24 (.slc 1 (.int .u8))).vval b)] = _
    rw [p3]; rfl
  rw [e2]
  exact e
end diskFull
end Go.Proofs.Ytgfpjnblookppaa
