/-
What is on a disk, taken as one operation: disk.Bytes.
-/
import Derived.Test.YtgfpjnblookppaaF14
import Derived.Test.YtgfpjnblookppaaTy
set_option linter.unusedVariables false
set_option linter.unusedSimpArgs false
namespace Go.Proofs.Ytgfpjnblookppaa
open Go.Abs

/-- The bytes on the disk at a place of memory. -/
def bytesQ (args : List Value) : M Value := fun S =>
  match args with
  | [.pointer (some ⟨q, 0, none⟩)] => match S.get q with
    | some (.cells (dv :: _) _ _) => if q < S.next then match dv with
      | .slice none 0 0 => some (SL 2 1 0 [], S)
      | .slice (some ⟨r, 0, none⟩) n _ => match S.get r with
        | some (.cells cs _ _) => if n ≤ cs.length then if (cs.take n).all sg then if n ≤ 140737488355328 then if r < S.next then some (SL 2 1 n (cs.take n), S) else none else none else none else none
        | _ => none
      | _ => none
      else none
    | _ => none
  | _ => none

theorem splice_all {cs xs : List Value} (h : cs.length = xs.length) : splice cs 0 xs = xs := by
  unfold splice
  rw [List.take_zero, List.nil_append, Nat.zero_add, ← h, List.drop_length, List.append_nil]
theorem all_one {l : List Value} (h : l.all sg = true) : l.all (·.oneCell') = true := by
  rw [List.all_eq_true] at *
  intro x hx
  have := h x hx
  cases x <;> first | rfl | (simp [sg] at this)

theorem disk_Disk_Bytes.nil {S : AHeap} {q e : Nat} {rest : List Value} {own : Own} (hq : S.get q = some (.cells (.slice none 0 0 :: rest) own e)) (hlt : q < S.next) :
    vlim Try.prog O0 disk_Disk_Bytes.id [.pointer (some ⟨q, 0, none⟩)] S = some (.slice (some ⟨S.next, 0, none⟩) 0 0, S.push (.cells [] (.own []) 1)) := by
  obtain ⟨T, hTe⟩ : ∃ T, T = (.pointer (some ⟨q, 0, none⟩) :: undef :: undef :: undef :: undef :: undef :: undef :: undef :: undef :: undef :: undef :: undef :: undef :: undef :: undef :: undef :: undef :: []) := ⟨_, rfl⟩
  have hr : vcodeV Try.prog O0 true disk_Disk_Bytes.code T S = vcodeV Try.prog O0 true disk_Disk_Bytes.code T S := rfl
  have l1 := load_sl (t := 27) (o := 0 + 0) hq g_L_uint8 rfl
  have m1 := make_mem (S := S) (k := .i64) (k2 := .i64) (l := 0) u_L_uint8 s_uint8 o_uint8 b_uint8 rfl rfl (by decide) (by decide) (by decide)
  have hq2 : (S.push (.cells (zl (Value.int .u8 0).cells.toList 0) (.own []) 1)).get q = some (.cells (.slice none 0 0 :: rest) own e) := by rw [AHeap.get_push, if_neg (by omega)]; exact hq
  have l2 := load_sl (t := 27) (o := 0 + 0) hq2 g_L_uint8 rfl
  have c2 := copy_none (P := Try.prog) (t := 27) (tx := 27) (S := S.push (.cells (zl (Value.int .u8 0).cells.toList 0) (.own []) 1)) u_L_uint8 s_uint8 0 (.slice none 0 0) ⟨_, rfl⟩ (some ⟨S.next, 0, none⟩) (.inr ⟨_, _, rfl⟩)
  have ln := fun S => len_mem u_L_uint8 none 0 0 S
  conv at hr =>
    rhs
    rw [hTe]
    simp only [disk_Disk_Bytes.code, disk_Disk_Bytes.r0, disk_Disk_Bytes.r1, disk_Disk_Bytes.r2, disk_Disk_Bytes.r3, vcodeV_seq, vcodeV_region, vcodeV_block, vcodeV_skip, vcodeV_ret, vcodeV_exit, vcodeV_cond, vcodeV_loop, andThen_some, regV_some, seqV_normal, seqV_exit, seqV_ret, blockV_normal, blockV_ret, blockV_exit, condK_true, condK_false, andK_some, gdK_tt, gdK_ff, gdK_tf, gdK_ft, gdK_ut, gdCK_tt, gdCK_ff, gdCK_tf, gdCK_ft, gdCK_ut, okK_bool, okK_int, okK_string, okK_slice, okK_pointer, okK_SL, okK_EP, okK_sv, okK_vs, List.getD_cons_succ, List.getD_cons_zero, gd_tt, gd_ff, gd_tf, gd_ft, gd_ut, gdC_tt, gdC_ff, gdC_tf, gdC_ft, gdC_ut, ret_run, vPick_bool, if_true, if_false, reduceIte, Nat.reduceEqDiff, Bool.false_eq_true, okC_bool, okC_int, okC_string, okC_slice, okC_iface, okC_vs, okC_sv, okC_EP, dem_undef, dem_int, dem_bool, dem_string, dem_nil, dem_agg, dem_func, dem_pointer, dem_slice, dem_map, dem_vs, dem_sv, dem_dem, vBin_int, vBin_string, vBin_bool, vConv_int, vConvF_int, vConvF_string, vConvF_stringH, vConvF_sv, vConvF_vs, vSliceF_sv, vSliceF_vs, vSliceF_string, vcodeV_regionH, vExtract_tuple, List.getElem?_cons_succ, List.getElem?_cons_zero, Option.map_some, aBin_add, aBin_sub, aBin_mul, aBin_eql, aBin_neq, aBin_lss, aBin_leq, aBin_gtr, aBin_geq, aUn_not, Bool.not_true, Bool.not_false, Bool.true_eq_false, decide_true, decide_false, eq_self, exd_0_1, exd_0_2, exd_1_2, exd_0_3, exd_1_3, exd_2_3, exd_0_4, exd_1_4, exd_2_4, exd_3_4, exd_0_5, exd_1_5, exd_2_5, exd_3_5, exd_4_5, nilCheck_ptr, fa_disk_Disk_0, l1, ln, goInt, m1, l2, c2]
  rw [hTe] at hr
  exact disk_Disk_Bytes.runs hr (.inr rfl)
theorem disk_Disk_Bytes.full {S : AHeap} {q e r n c i : Nat} {rest cs : List Value} {own own2 : Own} (hq : S.get q = some (.cells (.slice (some ⟨r, 0, none⟩) n c :: rest) own e)) (hlt : q < S.next) (hg : S.get r = some (.cells cs own2 i)) (hn : n ≤ cs.length)
    (hs : (cs.take n).all sg = true) (hb : n ≤ 140737488355328) (hrn : r < S.next) :
    ∃ S1, vlim Try.prog O0 disk_Disk_Bytes.id [.pointer (some ⟨q, 0, none⟩)] S = some (.slice (some ⟨S.next, 0, none⟩) n n, S1) ∧ Ext S S1 ∧ S1.get S.next = some (.cells (cs.take n) (.own []) 1) := by
  obtain ⟨T, hTe⟩ : ∃ T, T = (.pointer (some ⟨q, 0, none⟩) :: undef :: undef :: undef :: undef :: undef :: undef :: undef :: undef :: undef :: undef :: undef :: undef :: undef :: undef :: undef :: undef :: []) := ⟨_, rfl⟩
  have hr : vcodeV Try.prog O0 true disk_Disk_Bytes.code T S = vcodeV Try.prog O0 true disk_Disk_Bytes.code T S := rfl
  have l1 := load_sl (t := 27) (o := 0 + 0) hq g_L_uint8 rfl
  have m1 := make_mem (S := S) (k := .i64) (k2 := .i64) (l := n) u_L_uint8 s_uint8 o_uint8 b_uint8 rfl rfl (by decide) (by omega) (by omega)
  have hq2 : (S.push (.cells (zl (Value.int .u8 0).cells.toList n) (.own []) 1)).get q = some (.cells (.slice (some ⟨r, 0, none⟩) n c :: rest) own e) := by rw [AHeap.get_push, if_neg (by omega)]; exact hq
  have hg2 : (S.push (.cells (zl (Value.int .u8 0).cells.toList n) (.own []) 1)).get r = some (.cells cs own2 i) := by rw [AHeap.get_push, if_neg (by omega)]; exact hg
  have hg3 : (S.push (.cells (zl (Value.int .u8 0).cells.toList n) (.own []) 1)).get S.next = some (.cells (zl (Value.int .u8 0).cells.toList n) (.own []) 1) := by rw [AHeap.get_push, if_pos rfl]
  have l2 := load_sl (t := 27) (o := 0 + 0) hq2 g_L_uint8 rfl
  have ln := fun S => len_mem u_L_uint8 (some ⟨r, 0, none⟩) n c S
  by_cases h0 : n = 0
  · subst h0
    have c2 : vCopy Try.prog 27 27 (.slice (some ⟨S.next, 0, none⟩) 0 0) (.slice (some ⟨r, 0, none⟩) 0 c) (S.push (.cells (zl (Value.int .u8 0).cells.toList 0) (.own []) 1)) = some (goInt 0, S.push (.cells (zl (Value.int .u8 0).cells.toList 0) (.own []) 1)) :=
      copy_none u_L_uint8 s_uint8 0 _ ⟨_, rfl⟩ (some ⟨S.next, 0, none⟩) (.inr ⟨_, _, rfl⟩)
    conv at hr =>
      rhs
      rw [hTe]
      simp only [disk_Disk_Bytes.code, disk_Disk_Bytes.r0, disk_Disk_Bytes.r1, disk_Disk_Bytes.r2, disk_Disk_Bytes.r3, vcodeV_seq, vcodeV_region, vcodeV_block, vcodeV_skip, vcodeV_ret, vcodeV_exit, vcodeV_cond, vcodeV_loop, andThen_some, regV_some, seqV_normal, seqV_exit, seqV_ret, blockV_normal, blockV_ret, blockV_exit, condK_true, condK_false, andK_some, gdK_tt, gdK_ff, gdK_tf, gdK_ft, gdK_ut, gdCK_tt, gdCK_ff, gdCK_tf, gdCK_ft, gdCK_ut, okK_bool, okK_int, okK_string, okK_slice, okK_pointer, okK_SL, okK_EP, okK_sv, okK_vs, List.getD_cons_succ, List.getD_cons_zero, gd_tt, gd_ff, gd_tf, gd_ft, gd_ut, gdC_tt, gdC_ff, gdC_tf, gdC_ft, gdC_ut, ret_run, vPick_bool, if_true, if_false, reduceIte, Nat.reduceEqDiff, Bool.false_eq_true, okC_bool, okC_int, okC_string, okC_slice, okC_iface, okC_vs, okC_sv, okC_EP, dem_undef, dem_int, dem_bool, dem_string, dem_nil, dem_agg, dem_func, dem_pointer, dem_slice, dem_map, dem_vs, dem_sv, dem_dem, vBin_int, vBin_string, vBin_bool, vConv_int, vConvF_int, vConvF_string, vConvF_stringH, vConvF_sv, vConvF_vs, vSliceF_sv, vSliceF_vs, vSliceF_string, vcodeV_regionH, vExtract_tuple, List.getElem?_cons_succ, List.getElem?_cons_zero, Option.map_some, aBin_add, aBin_sub, aBin_mul, aBin_eql, aBin_neq, aBin_lss, aBin_leq, aBin_gtr, aBin_geq, aUn_not, Bool.not_true, Bool.not_false, Bool.true_eq_false, decide_true, decide_false, eq_self, exd_0_1, exd_0_2, exd_1_2, exd_0_3, exd_1_3, exd_2_3, exd_0_4, exd_1_4, exd_2_4, exd_3_4, exd_0_5, exd_1_5, exd_2_5, exd_3_5, exd_4_5, nilCheck_ptr, fa_disk_Disk_0, l1, ln, goInt, m1, l2, c2]
    rw [hTe] at hr
    have hrun := disk_Disk_Bytes.runs hr (.inr rfl)
    exact ⟨_, hrun, Ext.push _ _, hg3⟩
  · have c2 := copy_mm (t := 27) (tx := 27) (o := 0) (o2 := 0) (c := n) (c2 := c) u_L_uint8 s_uint8 hg2 (n := n) (by omega) hg3 h0 (by rw [zl_len]; show 0 + n * 1 ≤ n * 1; omega) (by rw [List.drop_zero, Nat.mul_one]; exact all_one hs)
    conv at hr =>
      rhs
      rw [hTe]
      simp only [disk_Disk_Bytes.code, disk_Disk_Bytes.r0, disk_Disk_Bytes.r1, disk_Disk_Bytes.r2, disk_Disk_Bytes.r3, vcodeV_seq, vcodeV_region, vcodeV_block, vcodeV_skip, vcodeV_ret, vcodeV_exit, vcodeV_cond, vcodeV_loop, andThen_some, regV_some, seqV_normal, seqV_exit, seqV_ret, blockV_normal, blockV_ret, blockV_exit, condK_true, condK_false, andK_some, gdK_tt, gdK_ff, gdK_tf, gdK_ft, gdK_ut, gdCK_tt, gdCK_ff, gdCK_tf, gdCK_ft, gdCK_ut, okK_bool, okK_int, okK_string, okK_slice, okK_pointer, okK_SL, okK_EP, okK_sv, okK_vs, List.getD_cons_succ, List.getD_cons_zero, gd_tt, gd_ff, gd_tf, gd_ft, gd_ut, gdC_tt, gdC_ff, gdC_tf, gdC_ft, gdC_ut, ret_run, vPick_bool, if_true, if_false, reduceIte, Nat.reduceEqDiff, Bool.false_eq_true, okC_bool, okC_int, okC_string, okC_slice, okC_iface, okC_vs, okC_sv, okC_EP, dem_undef, dem_int, dem_bool, dem_string, dem_nil, dem_agg, dem_func, dem_pointer, dem_slice, dem_map, dem_vs, dem_sv, dem_dem, vBin_int, vBin_string, vBin_bool, vConv_int, vConvF_int, vConvF_string, vConvF_stringH, vConvF_sv, vConvF_vs, vSliceF_sv, vSliceF_vs, vSliceF_string, vcodeV_regionH, vExtract_tuple, List.getElem?_cons_succ, List.getElem?_cons_zero, Option.map_some, aBin_add, aBin_sub, aBin_mul, aBin_eql, aBin_neq, aBin_lss, aBin_leq, aBin_gtr, aBin_geq, aUn_not, Bool.not_true, Bool.not_false, Bool.true_eq_false, decide_true, decide_false, eq_self, exd_0_1, exd_0_2, exd_1_2, exd_0_3, exd_1_3, exd_2_3, exd_0_4, exd_1_4, exd_2_4, exd_3_4, exd_0_5, exd_1_5, exd_2_5, exd_3_5, exd_4_5, nilCheck_ptr, fa_disk_Disk_0, l1, ln, goInt, m1, l2, c2]
    rw [hTe] at hr
    have hrun := disk_Disk_Bytes.runs hr (.inr rfl)
    refine ⟨_, hrun, (Ext.push _ _).set (Nat.le_refl _) _, ?_⟩
    rw [AHeap.get_set, if_pos rfl, List.drop_zero, Nat.mul_one, splice_all (by rw [zl_len, List.length_take, Nat.min_eq_left hn]; show n * 1 = n; omega)]

theorem bytesQ_ok : VCall Try.prog (fun g args => if g = 14 then bytesQ args else fun _ => none) := by
  refine ora_of ora0_ok fun args S v S' h => ?_
  unfold bytesQ at h
  split at h <;> first | (cases h; done) | skip
  rename_i q
  split at h <;> first | (cases h; done) | skip
  rename_i dv rest own e hq
  split at h <;> first | (cases h; done) | skip
  rename_i hlt
  split at h <;> first | (cases h; done) | skip
  · cases h
    exact ⟨rfl, _, _, disk_Disk_Bytes.nil hq hlt, Ext.push _ _, .own rfl (Nat.le_refl _) (by rw [AHeap.get_push, if_pos rfl]) rfl rfl⟩
  · rename_i r n c
    split at h <;> first | (cases h; done) | skip
    rename_i cs own2 i hg
    split at h <;> first | (cases h; done) | skip
    rename_i h1
    split at h <;> first | (cases h; done) | skip
    rename_i h2
    split at h <;> first | (cases h; done) | skip
    rename_i h3
    split at h <;> first | (cases h; done) | skip
    rename_i h4
    cases h
    obtain ⟨S1, k1, k2, k3⟩ := disk_Disk_Bytes.full hq hlt hg h1 h2 h3 h4
    exact ⟨rfl, _, S1, k1, k2, .own rfl (Nat.le_refl _) k3 (by rw [List.length_take, Nat.min_eq_left h1, Nat.mul_one]) h2⟩
end Go.Proofs.Ytgfpjnblookppaa
