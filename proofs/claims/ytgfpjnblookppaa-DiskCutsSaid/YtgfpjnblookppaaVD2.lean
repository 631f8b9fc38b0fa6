/-
A disk in memory: New, Append, Crash, Cut.
-/
import Derived.Test.YtgfpjnblookppaaVD1
set_option linter.unusedVariables false
set_option linter.unusedSimpArgs false
namespace Go.Proofs.Ytgfpjnblookppaa
open Go.Abs

section
variable {S : AHeap} {q : Nat} {data : List UInt8} {sy room : Int}

theorem disk_New.v {r : Int} (S : AHeap) : ∃ S1, vlim Try.prog O disk_New.id [.int .i64 r] S = some (.pointer (some ⟨S.next, 0, none⟩), S1) ∧ Dk S1 S.next [] 0 (max 0 (min r 65536)) ∧ Old S.next S S1 := by
  obtain ⟨T, hTe⟩ : ∃ T, T = (.int .i64 r :: undef :: undef :: undef :: undef :: undef :: undef :: undef :: undef :: undef :: []) := ⟨_, rfl⟩
  have hr : vcodeV Try.prog O false disk_New.code T S = vcodeV Try.prog O false disk_New.code T S := rfl
  have h0 : Dk (S.push (.cells [.slice none 0 0, .int .i64 0, .int .i64 0] (.own []) 0)) S.next [] 0 0 :=
    ⟨by simp, by simp, by omega, by simp, by omega, by omega, none, by rw [AHeap.get_push, if_pos rfl]; rfl, .inl ⟨rfl, rfl⟩⟩
  obtain ⟨v, S1, e1, d1, o1⟩ := disk_Disk_Limit.v (r := r) h0
  have bx : aBox (.agg [.slice none 0 0, .int .i64 0, .int .i64 0].toArray) S = some (.pointer (some ⟨S.next, 0, none⟩), S.push (.cells [.slice none 0 0, .int .i64 0, .int .i64 0] (.own []) 0)) := rfl
  conv at hr =>
    rhs
    rw [hTe]
    simp only [disk_New.code, disk_New.r0, disk_New.r1, disk_New.r2, disk_New.r3, vcodeV_seq, vcodeV_region, vcodeV_block, vcodeV_skip, vcodeV_ret, vcodeV_exit, vcodeV_cond, vcodeV_loop, andThen_some, regV_some, seqV_normal, seqV_exit, seqV_ret, blockV_normal, blockV_ret, blockV_exit, condK_true, condK_false, andK_some, gdK_tt, gdK_ff, gdK_tf, gdK_ft, gdK_ut, gdCK_tt, gdCK_ff, gdCK_tf, gdCK_ft, gdCK_ut, okK_bool, okK_int, okK_string, okK_slice, okK_pointer, okK_SL, okK_EP, okK_sv, okK_vs, List.getD_cons_succ, List.getD_cons_zero, gd_tt, gd_ff, gd_tf, gd_ft, gd_ut, gdC_tt, gdC_ff, gdC_tf, gdC_ft, gdC_ut, ret_run, vPick_bool, if_true, if_false, reduceIte, Nat.reduceEqDiff, Bool.false_eq_true, okC_bool, okC_int, okC_string, okC_slice, okC_iface, okC_vs, okC_sv, okC_EP, dem_undef, dem_int, dem_bool, dem_string, dem_nil, dem_agg, dem_func, dem_pointer, dem_slice, dem_map, dem_vs, dem_sv, dem_dem, vBin_int, vBin_string, vBin_bool, vConv_int, vConvF_int, vConvF_string, vConvF_stringH, vConvF_sv, vConvF_vs, vSliceF_sv, vSliceF_vs, vSliceF_string, vcodeV_regionH, vExtract_tuple, List.getElem?_cons_succ, List.getElem?_cons_zero, Option.map_some, aBin_add, aBin_sub, aBin_mul, aBin_eql, aBin_neq, aBin_lss, aBin_leq, aBin_gtr, aBin_geq, aUn_not, Bool.not_true, Bool.not_false, Bool.true_eq_false, decide_true, decide_false, eq_self, exd_0_1, exd_0_2, exd_1_2, exd_0_3, exd_1_3, exd_2_3, exd_0_4, exd_1_4, exd_2_4, exd_3_4, exd_0_5, exd_1_5, exd_2_5, exd_3_5, exd_4_5, Int.reduceEq, Int.reduceLT, Int.reduceLE, bd_disk_Disk, bx, e1]
  rw [hTe] at hr
  exact ⟨_, disk_New.runs hr (.inr rfl), d1, fun k hk => (o1 k hk).trans (by rw [AHeap.get_push, if_neg (by omega)])⟩

theorem flatMap_cb_len (l : List UInt8) : (l.flatMap cb).length = l.length := by rw [flatMap_len cb_len, Nat.mul_one]
theorem cb_all (l : List UInt8) : (l.flatMap cb).all (·.oneCell') = true := by rw [List.all_flatMap, List.all_eq_true]; exact fun x _ => rfl
theorem cb_sg (l : List UInt8) : (l.flatMap cb).all sg = true := by rw [List.all_flatMap, List.all_eq_true]; exact fun x _ => rfl
theorem DData.append {a : Option Addr} {k : Nat} {b : List UInt8} (hd : DData S q a data) (hq : q < S.next) (hk : Okl k b) (hl : data.length + b.length ≤ 65536) :
    ∃ a' S1, vAppendG Try.prog true 27 27 (.slice a data.length data.length) (by_ k b) S = some (.slice a' (data ++ b).length (data ++ b).length, S1) ∧ DData S1 q a' (data ++ b) ∧ S1.get q = S.get q ∧ q < S1.next ∧ Old q S S1 := by
  have hsrc : vSrcS Try.prog 27 1 (by_ k b) S = some (b.length, b.flatMap cb) := vSrcS_sv u_L_uint8 hk.okv (by rw [flatMap_cb_len, Nat.mul_one]) (cb_all b)
  rcases hd with ⟨rfl, rfl⟩ | ⟨r, anc, rest, rfl, k2, k3, k4, k5⟩
  · have e1 := append_new (t := 27) (tx := 27) (S := S) u_L_uint8 s_uint8 o_uint8 rfl b_uint8 (by decide) hsrc (by simp at hl; omega) (by simp at hl; omega)
    by_cases h0 : b.length = 0
    · have hb : b = [] := List.length_eq_zero_iff.1 h0
      subst hb
      exact ⟨none, S, e1, .inl ⟨rfl, rfl⟩, rfl, hq, Old.refl _ _⟩
    · rw [if_neg h0, if_neg h0] at e1
      refine ⟨some ⟨S.next, 0, none⟩, _, e1, .inr ⟨S.next, [], [], rfl, ?_, by omega, by simp, by simp⟩, ?_, by simp; omega, fun k hk => by rw [AHeap.get_push, if_neg (by omega)]⟩
      · rw [AHeap.get_push, if_pos rfl, List.append_nil, List.nil_append]
      · rw [AHeap.get_push, if_neg (by omega)]
  · have hlen : (data.flatMap cb).length = data.length := flatMap_cb_len data
    have htk : ((data.flatMap cb ++ rest).drop 0).take (data.length * 1) = data.flatMap cb := by
      rw [List.drop_zero, Nat.mul_one, ← hlen, List.take_left]
    have e1 := append_mem (hp := true) (t := 27) (tx := 27) (o := 0) (n := data.length) (c := data.length) u_L_uint8 s_uint8 o_uint8 rfl b_uint8 (by decide) hsrc k2 (by rw [List.length_append, hlen]; omega) (by omega) (by omega) (by rw [htk]; exact cb_all data)
    rw [htk, ← List.length_append] at e1
    by_cases h0 : 0 + data.length * 1 = (data.flatMap cb ++ rest).length
    · rw [if_pos h0] at e1
      refine ⟨some ⟨S.next, 0, none⟩, _, e1, .inr ⟨S.next, _, [], rfl, by rw [AHeap.get_push, AHeap.next_set, if_pos rfl, List.append_nil, List.flatMap_append], by omega, by simp, ?_⟩, ?_, by simp; omega, fun k hk => by rw [AHeap.get_push, AHeap.next_set, if_neg (by omega), AHeap.get_set, if_neg (by omega)]⟩
      · split
        · simp
        · intro x h; rcases List.mem_cons.1 h with h | h
          · omega
          · exact k5 x h
      · rw [AHeap.get_push, AHeap.next_set, if_neg (by omega), AHeap.get_set, if_neg (by omega)]
    · rw [if_neg h0] at e1
      refine ⟨some ⟨S.next, 0, none⟩, _, e1, .inr ⟨S.next, [], [], rfl, by rw [AHeap.get_push, AHeap.next_set, AHeap.next_kills, if_pos rfl, List.append_nil, List.flatMap_append], by omega, by simp, by simp⟩, ?_, by simp; omega, fun k hk => by rw [AHeap.get_push, AHeap.next_set, AHeap.next_kills, if_neg (by omega), AHeap.get_set, if_neg (by omega), AHeap.get_kills, if_neg (fun h => by have := k5 k h; omega)]⟩
      rw [AHeap.get_push, AHeap.next_set, AHeap.next_kills, if_neg (by omega), AHeap.get_set, if_neg (by omega), AHeap.get_kills, if_neg (fun h => by have := k5 q h; omega)]

theorem disk_Disk_Append.v {k : Nat} {b : List UInt8} (h : Dk S q data sy room) (hk : Okl k b) (k2 : k ≠ 2) (hb : b.length ≤ 140737488355328) : ∃ S1, vlim Try.prog O disk_Disk_Append.id [.pointer (some ⟨q, 0, none⟩), by_ k b] S = some (.int .i64 (if roomOf room data.length < b.length then 41 else 0), S1) ∧
    Dk S1 q (if roomOf room data.length < b.length then data else data ++ b) sy room ∧ Old q S S1 := by
  obtain ⟨T, hTe⟩ : ∃ T, T = (.pointer (some ⟨q, 0, none⟩) :: by_ k b :: undef :: undef :: undef :: undef :: undef :: undef :: undef :: undef :: undef :: undef :: undef :: undef :: undef :: undef :: undef :: undef :: undef :: []) := ⟨_, rfl⟩
  have hr : vcodeV Try.prog O true disk_Disk_Append.code T S = vcodeV Try.prog O true disk_Disk_Append.code T S := rfl
  have c1 := disk_Disk_Room.v h
  have ln := fun S => by_len (S := S) hk
  by_cases h1 : roomOf room data.length < b.length
  · conv at hr =>
      rhs
      rw [hTe]
      simp only [disk_Disk_Append.code, disk_Disk_Append.r0, disk_Disk_Append.r1, disk_Disk_Append.r2, disk_Disk_Append.r3, disk_Disk_Append.r4, vcodeV_seq, vcodeV_region, vcodeV_block, vcodeV_skip, vcodeV_ret, vcodeV_exit, vcodeV_cond, vcodeV_loop, andThen_some, regV_some, seqV_normal, seqV_exit, seqV_ret, blockV_normal, blockV_ret, blockV_exit, condK_true, condK_false, andK_some, gdK_tt, gdK_ff, gdK_tf, gdK_ft, gdK_ut, gdCK_tt, gdCK_ff, gdCK_tf, gdCK_ft, gdCK_ut, okK_bool, okK_int, okK_string, okK_slice, okK_pointer, okK_SL, okK_EP, okK_sv, okK_vs, List.getD_cons_succ, List.getD_cons_zero, gd_tt, gd_ff, gd_tf, gd_ft, gd_ut, gdC_tt, gdC_ff, gdC_tf, gdC_ft, gdC_ut, ret_run, vPick_bool, if_true, if_false, reduceIte, Nat.reduceEqDiff, Bool.false_eq_true, okC_bool, okC_int, okC_string, okC_slice, okC_iface, okC_vs, okC_sv, okC_EP, dem_undef, dem_int, dem_bool, dem_string, dem_nil, dem_agg, dem_func, dem_pointer, dem_slice, dem_map, dem_vs, dem_sv, dem_dem, vBin_int, vBin_string, vBin_bool, vConv_int, vConvF_int, vConvF_string, vConvF_stringH, vConvF_sv, vConvF_vs, vSliceF_sv, vSliceF_vs, vSliceF_string, vcodeV_regionH, vExtract_tuple, List.getElem?_cons_succ, List.getElem?_cons_zero, Option.map_some, aBin_add, aBin_sub, aBin_mul, aBin_eql, aBin_neq, aBin_lss, aBin_leq, aBin_gtr, aBin_geq, aUn_not, Bool.not_true, Bool.not_false, Bool.true_eq_false, decide_true, decide_false, eq_self, exd_0_1, exd_0_2, exd_1_2, exd_0_3, exd_1_3, exd_2_3, exd_0_4, exd_1_4, exd_2_4, exd_3_4, exd_0_5, exd_1_5, exd_2_5, exd_3_5, exd_4_5, Int.reduceEq, Int.reduceLT, Int.reduceLE, if_neg k2, ln, goInt, c1, h1]
    rw [hTe] at hr
    have hrun := disk_Disk_Append.runs hr (.inr rfl)
    rw [if_pos h1, if_pos h1]
    exact ⟨_, hrun, h, Old.refl _ _⟩
  · obtain ⟨a, h3, h4⟩ := h.cell
    have l2 := load_sl (t := 27) (o := 0 + 0) h3 g_L_uint8 rfl
    have hle : data.length + b.length ≤ 65536 := by
      have b1 := h.rml; have b2 := h.len
      unfold roomOf at h1
      split at h1 <;> omega
    obtain ⟨a', S1, e1, d1, g1, n1, o1⟩ := h4.append h.lt hk hle
    have h5 := g1.trans h3
    have s1 := store_mem (P := Try.prog) (t := 27) (o := 0 + 0) (x := .slice a' (data ++ b).length (data ++ b).length) h5 s_L_uint8 rfl rfl (by simp)
    conv at hr =>
      rhs
      rw [hTe]
      simp only [disk_Disk_Append.code, disk_Disk_Append.r0, disk_Disk_Append.r1, disk_Disk_Append.r2, disk_Disk_Append.r3, disk_Disk_Append.r4, vcodeV_seq, vcodeV_region, vcodeV_block, vcodeV_skip, vcodeV_ret, vcodeV_exit, vcodeV_cond, vcodeV_loop, andThen_some, regV_some, seqV_normal, seqV_exit, seqV_ret, blockV_normal, blockV_ret, blockV_exit, condK_true, condK_false, andK_some, gdK_tt, gdK_ff, gdK_tf, gdK_ft, gdK_ut, gdCK_tt, gdCK_ff, gdCK_tf, gdCK_ft, gdCK_ut, okK_bool, okK_int, okK_string, okK_slice, okK_pointer, okK_SL, okK_EP, okK_sv, okK_vs, List.getD_cons_succ, List.getD_cons_zero, gd_tt, gd_ff, gd_tf, gd_ft, gd_ut, gdC_tt, gdC_ff, gdC_tf, gdC_ft, gdC_ut, ret_run, vPick_bool, if_true, if_false, reduceIte, Nat.reduceEqDiff, Bool.false_eq_true, okC_bool, okC_int, okC_string, okC_slice, okC_iface, okC_vs, okC_sv, okC_EP, dem_undef, dem_int, dem_bool, dem_string, dem_nil, dem_agg, dem_func, dem_pointer, dem_slice, dem_map, dem_vs, dem_sv, dem_dem, vBin_int, vBin_string, vBin_bool, vConv_int, vConvF_int, vConvF_string, vConvF_stringH, vConvF_sv, vConvF_vs, vSliceF_sv, vSliceF_vs, vSliceF_string, vcodeV_regionH, vExtract_tuple, List.getElem?_cons_succ, List.getElem?_cons_zero, Option.map_some, aBin_add, aBin_sub, aBin_mul, aBin_eql, aBin_neq, aBin_lss, aBin_leq, aBin_gtr, aBin_geq, aUn_not, Bool.not_true, Bool.not_false, Bool.true_eq_false, decide_true, decide_false, eq_self, exd_0_1, exd_0_2, exd_1_2, exd_0_3, exd_1_3, exd_2_3, exd_0_4, exd_1_4, exd_2_4, exd_3_4, exd_0_5, exd_1_5, exd_2_5, exd_3_5, exd_4_5, Int.reduceEq, Int.reduceLT, Int.reduceLE, if_neg k2, ln, goInt, c1, h1, nilCheck_ptr, fa_disk_Disk_0, l2, e1, s1]
    rw [hTe] at hr
    have hrun := disk_Disk_Append.runs hr (.inr rfl)
    rw [if_neg h1, if_neg h1]
    refine ⟨_, hrun, ⟨n1, by simpa using hle, h.sy0, ?_, h.rm0, h.rml, a', by rw [AHeap.get_set, if_pos rfl]; rfl, ?_⟩, o1.set (Nat.le_refl _) _⟩
    · have := h.syl; rw [List.length_append]; omega
    · rcases d1 with d1 | ⟨r, anc, rest, j1, j2, j3, j4, j5⟩
      · exact .inl d1
      · exact .inr ⟨r, anc, rest, j1, by show ((S1.kills []).set q _).get r = _; rw [AHeap.get_set, if_neg (by omega)]; exact j2, j3, by simpa using j4, j5⟩

theorem DData.slice {a : Option Addr} {dr : Bool} (hd : DData S q a data) {hi : Int} (h0 : 0 ≤ hi) (h1 : hi ≤ data.length) (hdr : dr = false) :
    ∃ a', vSliceF Try.prog dr 27 (.slice a data.length data.length) none (some (.int .i64 hi)) S = some (.slice a' (data.take hi.toNat).length (data.take hi.toNat).length, S) ∧ DData S q a' (data.take hi.toNat) := by
  have hd0 := hd
  rcases hd with ⟨rfl, rfl⟩ | ⟨r, anc, rest, rfl, k2, k3, k4, k5⟩
  · have h1 : hi ≤ 0 := h1
    refine ⟨none, ?_, hd0.take _⟩
    rw [List.take_nil]
    exact slice_nil u_L_uint8 s_uint8 (l := 0) (h := hi) rfl rfl (by omega) h0 h1
  · refine ⟨some ⟨r, 0, none⟩, ?_, hd0.take _⟩
    have := slice_mem (P := Try.prog) (t := 27) (o := 0) (n := data.length) (c := data.length) (lo := none) (hi := some (.int .i64 hi)) (l := 0) (h := hi) hdr k2 u_L_uint8 s_uint8 rfl rfl (by omega) h0 h1
    rw [this]
    have e : hi.toNat - Int.toNat 0 = (data.take hi.toNat).length := by rw [List.length_take]; omega
    rw [e]
    rfl
theorem disk_Disk_Crash.v {keep : Int} (h : Dk S q data sy room) (hk : -9223372036854775808 ≤ keep ∧ keep < 9223372036854775808) : ∃ v S1, vlim Try.prog O disk_Disk_Crash.id [.pointer (some ⟨q, 0, none⟩), .int .i64 keep] S = some (v, S1) ∧
    Dk S1 q (data.take (sy + max 0 (min keep (data.length - sy))).toNat) (data.take (sy + max 0 (min keep (data.length - sy))).toNat).length room ∧ Old q S S1 := by
  obtain ⟨T, hTe⟩ : ∃ T, T = (.pointer (some ⟨q, 0, none⟩) :: .int .i64 keep :: undef :: undef :: undef :: undef :: undef :: undef :: undef :: undef :: undef :: undef :: undef :: undef :: undef :: undef :: undef :: undef :: undef :: undef :: undef :: undef :: undef :: undef :: undef :: undef :: undef :: undef :: undef :: undef :: undef :: undef :: []) := ⟨_, rfl⟩
  have hr : vcodeV Try.prog O false disk_Disk_Crash.code T S = vcodeV Try.prog O false disk_Disk_Crash.code T S := rfl
  obtain ⟨a, h1, h2⟩ := h.cell
  have b1 := h.sy0; have b2 := h.syl; have b3 := h.len
  have l1 := load_int (t := 3) (o := 0 + 1) h1 g_int rfl
  have l2 := load_sl (t := 27) (o := 0 + 0) h1 g_L_uint8 rfl
  have ln := fun S => len_mem u_L_uint8 a data.length data.length S
  have w1 : IntKind.i64.wrap (data.length - sy) = data.length - sy := wrap_i64 (by omega) (by omega)
  have e1 : (if (data.length : Int) - sy < keep then (data.length : Int) - sy else keep) = min keep (data.length - sy) := by split <;> omega
  have e2 : (if min keep (data.length - sy) > 0 then min keep (data.length - sy) else 0) = max 0 (min keep (data.length - sy)) := by split <;> omega
  have w2 : IntKind.i64.wrap (sy + max 0 (min keep (data.length - sy))) = sy + max 0 (min keep (data.length - sy)) := wrap_i64 (by omega) (by omega)
  obtain ⟨a', s1, d1⟩ := h2.slice (dr := false) (hi := sy + max 0 (min keep (data.length - sy))) (by omega) (by omega) rfl
  generalize hm : sy + max 0 (min keep (data.length - sy)) = m at *
  have s2 := store_mem (P := Try.prog) (t := 27) (o := 0 + 0) (x := .slice a' (data.take m.toNat).length (data.take m.toNat).length) h1 s_L_uint8 rfl rfl (by simp)
  have hle : (data.take m.toNat).length ≤ 65536 := by rw [List.length_take]; omega
  have d2 := h.put d1 (sy' := 0) (room' := room) hle (by omega) (by omega) h.rm0 h.rml rfl
  have hsl : sy ≤ ((data.take m.toNat).length : Int) := by rw [List.length_take]; omega
  have d3 := h.put d1 (sy' := sy) (room' := room) hle h.sy0 hsl h.rm0 h.rml rfl
  obtain ⟨v, S1, e3, d4, o4⟩ := disk_Disk_Sync.v d3
  have e3 : vlim Try.prog O 13 [Value.pointer (some ⟨q, 0, none⟩)] ((S.kills []).set q (.cells (splice [.slice a data.length data.length, .int .i64 sy, .int .i64 room] (0 + 0) (Value.slice a' (data.take m.toNat).length (data.take m.toNat).length).cells.toList) (.own []) 0)) = some (v, S1) := e3
  conv at hr =>
    rhs
    rw [hTe]
    simp only [disk_Disk_Crash.code, disk_Disk_Crash.r0, disk_Disk_Crash.r1, vcodeV_seq, vcodeV_region, vcodeV_block, vcodeV_skip, vcodeV_ret, vcodeV_exit, vcodeV_cond, vcodeV_loop, andThen_some, regV_some, seqV_normal, seqV_exit, seqV_ret, blockV_normal, blockV_ret, blockV_exit, condK_true, condK_false, andK_some, gdK_tt, gdK_ff, gdK_tf, gdK_ft, gdK_ut, gdCK_tt, gdCK_ff, gdCK_tf, gdCK_ft, gdCK_ut, okK_bool, okK_int, okK_string, okK_slice, okK_pointer, okK_SL, okK_EP, okK_sv, okK_vs, List.getD_cons_succ, List.getD_cons_zero, gd_tt, gd_ff, gd_tf, gd_ft, gd_ut, gdC_tt, gdC_ff, gdC_tf, gdC_ft, gdC_ut, ret_run, vPick_bool, if_true, if_false, reduceIte, Nat.reduceEqDiff, Bool.false_eq_true, okC_bool, okC_int, okC_string, okC_slice, okC_iface, okC_vs, okC_sv, okC_EP, dem_undef, dem_int, dem_bool, dem_string, dem_nil, dem_agg, dem_func, dem_pointer, dem_slice, dem_map, dem_vs, dem_sv, dem_dem, vBin_int, vBin_string, vBin_bool, vConv_int, vConvF_int, vConvF_string, vConvF_stringH, vConvF_sv, vConvF_vs, vSliceF_sv, vSliceF_vs, vSliceF_string, vcodeV_regionH, vExtract_tuple, List.getElem?_cons_succ, List.getElem?_cons_zero, Option.map_some, aBin_add, aBin_sub, aBin_mul, aBin_eql, aBin_neq, aBin_lss, aBin_leq, aBin_gtr, aBin_geq, aUn_not, Bool.not_true, Bool.not_false, Bool.true_eq_false, decide_true, decide_false, eq_self, exd_0_1, exd_0_2, exd_1_2, exd_0_3, exd_1_3, exd_2_3, exd_0_4, exd_1_4, exd_2_4, exd_3_4, exd_0_5, exd_1_5, exd_2_5, exd_3_5, exd_4_5, Int.reduceEq, Int.reduceLT, Int.reduceLE, nilCheck_ptr, fa_disk_Disk_0, fa_disk_Disk_1, l1, l2, ln, goInt, w1, vMin, vMax, e1, e2, w2, hm, s1, s2, e3]
  rw [hTe] at hr
  have hrun := disk_Disk_Crash.runs hr (.inl rfl)
  exact ⟨_, _, hrun, d4, ((Old.refl q S).set (Nat.le_refl _) _).trans o4⟩
theorem disk_Disk_Cut.v {n : Int} (h : Dk S q data sy room) (hk : -9223372036854775808 ≤ n ∧ n < 9223372036854775808) : ∃ v S1, vlim Try.prog O disk_Disk_Cut.id [.pointer (some ⟨q, 0, none⟩), .int .i64 n] S = some (v, S1) ∧
    Dk S1 q (data.take (max 0 (min n data.length)).toNat) (min sy (data.take (max 0 (min n data.length)).toNat).length) room ∧ Old q S S1 := by
  obtain ⟨T, hTe⟩ : ∃ T, T = (.pointer (some ⟨q, 0, none⟩) :: .int .i64 n :: undef :: undef :: undef :: undef :: undef :: undef :: undef :: undef :: undef :: undef :: undef :: undef :: undef :: undef :: undef :: undef :: undef :: undef :: undef :: undef :: undef :: undef :: undef :: undef :: undef :: undef :: undef :: undef :: undef :: undef :: undef :: []) := ⟨_, rfl⟩
  have hr : vcodeV Try.prog O false disk_Disk_Cut.code T S = vcodeV Try.prog O false disk_Disk_Cut.code T S := rfl
  obtain ⟨a, h1, h2⟩ := h.cell
  have b1 := h.sy0; have b2 := h.syl; have b3 := h.len
  have l1 := load_int (t := 3) (o := 0 + 1) h1 g_int rfl
  have l2 := load_sl (t := 27) (o := 0 + 0) h1 g_L_uint8 rfl
  have ln := fun a n S => len_mem u_L_uint8 a n n S
  have e1 : (if (data.length : Int) < n then (data.length : Int) else n) = min n data.length := by split <;> omega
  have e2 : (if min n (data.length : Int) > 0 then min n (data.length : Int) else 0) = max 0 (min n data.length) := by split <;> omega
  obtain ⟨a', s1, d1⟩ := h2.slice (dr := false) (hi := max 0 (min n data.length)) (by omega) (by omega) rfl
  generalize hm : max 0 (min n (data.length : Int)) = m at *
  have s2 := store_mem (P := Try.prog) (t := 27) (o := 0 + 0) (x := .slice a' (data.take m.toNat).length (data.take m.toNat).length) h1 s_L_uint8 rfl rfl (by simp)
  have hle : (data.take m.toNat).length ≤ 65536 := by rw [List.length_take]; omega
  -- behind the first store
  have g2 : ((S.kills []).set q (.cells (splice [.slice a data.length data.length, .int .i64 sy, .int .i64 room] (0 + 0) (Value.slice a' (data.take m.toNat).length (data.take m.toNat).length).cells.toList) (.own []) 0)).get q =
      some (.cells [.slice a' (data.take m.toNat).length (data.take m.toNat).length, .int .i64 sy, .int .i64 room] (.own []) 0) := by rw [AHeap.get_set, if_pos rfl]; rfl
  have l3 := load_int (t := 3) (o := 0 + 1) g2 g_int rfl
  have l4 := load_sl (t := 27) (o := 0 + 0) g2 g_L_uint8 rfl
  have s3 := fun x : Int => store_mem (P := Try.prog) (t := 3) (o := 0 + 1) (x := .int .i64 x) g2 s_int rfl rfl (by simp)
  have e3 : (if ((data.take m.toNat).length : Int) < sy then ((data.take m.toNat).length : Int) else sy) = min sy (data.take m.toNat).length := by split <;> omega
  have d2 := h.put d1 (sy' := 0) (room' := room) hle (by omega) (by omega) h.rm0 h.rml rfl
  conv at hr =>
    rhs
    rw [hTe]
    simp only [disk_Disk_Cut.code, disk_Disk_Cut.r0, disk_Disk_Cut.r1, vcodeV_seq, vcodeV_region, vcodeV_block, vcodeV_skip, vcodeV_ret, vcodeV_exit, vcodeV_cond, vcodeV_loop, andThen_some, regV_some, seqV_normal, seqV_exit, seqV_ret, blockV_normal, blockV_ret, blockV_exit, condK_true, condK_false, andK_some, gdK_tt, gdK_ff, gdK_tf, gdK_ft, gdK_ut, gdCK_tt, gdCK_ff, gdCK_tf, gdCK_ft, gdCK_ut, okK_bool, okK_int, okK_string, okK_slice, okK_pointer, okK_SL, okK_EP, okK_sv, okK_vs, List.getD_cons_succ, List.getD_cons_zero, gd_tt, gd_ff, gd_tf, gd_ft, gd_ut, gdC_tt, gdC_ff, gdC_tf, gdC_ft, gdC_ut, ret_run, vPick_bool, if_true, if_false, reduceIte, Nat.reduceEqDiff, Bool.false_eq_true, okC_bool, okC_int, okC_string, okC_slice, okC_iface, okC_vs, okC_sv, okC_EP, dem_undef, dem_int, dem_bool, dem_string, dem_nil, dem_agg, dem_func, dem_pointer, dem_slice, dem_map, dem_vs, dem_sv, dem_dem, vBin_int, vBin_string, vBin_bool, vConv_int, vConvF_int, vConvF_string, vConvF_stringH, vConvF_sv, vConvF_vs, vSliceF_sv, vSliceF_vs, vSliceF_string, vcodeV_regionH, vExtract_tuple, List.getElem?_cons_succ, List.getElem?_cons_zero, Option.map_some, aBin_add, aBin_sub, aBin_mul, aBin_eql, aBin_neq, aBin_lss, aBin_leq, aBin_gtr, aBin_geq, aUn_not, Bool.not_true, Bool.not_false, Bool.true_eq_false, decide_true, decide_false, eq_self, exd_0_1, exd_0_2, exd_1_2, exd_0_3, exd_1_3, exd_2_3, exd_0_4, exd_1_4, exd_2_4, exd_3_4, exd_0_5, exd_1_5, exd_2_5, exd_3_5, exd_4_5, Int.reduceEq, Int.reduceLT, Int.reduceLE, nilCheck_ptr, fa_disk_Disk_0, fa_disk_Disk_1, l1, l2, ln, goInt, vMin, vMax, e1, e2, hm, s1, s2, l3, l4, e3, s3]
  rw [hTe] at hr
  have hrun := disk_Disk_Cut.runs hr (.inl rfl)
  refine ⟨_, _, hrun, ?_⟩
  obtain ⟨a2, q1, q2⟩ := d2.cell
  refine ⟨⟨by simpa using h.lt, hle, by omega, by omega, h.rm0, h.rml, a', by rw [AHeap.get_set, if_pos rfl]; rfl, ?_⟩, ((Old.refl q S).set (Nat.le_refl _) _).set (Nat.le_refl _) _⟩
  rcases d1 with d1 | ⟨r, anc, rest, j1, j2, j3, j4, j5⟩
  · exact .inl d1
  · exact .inr ⟨r, anc, rest, j1, by show (((S.kills []).set q _).set q _).get r = _; rw [AHeap.get_set, if_neg (by omega), AHeap.get_set, if_neg (by omega)]; exact j2, j3, by simpa using j4, j5⟩
theorem disk_Disk_Bytes.v (h : Dk S q data sy room) : vlim Try.prog O 14 [.pointer (some ⟨q, 0, none⟩)] S = some (by_ 2 data, S) := by
  rw [vlim_ora (q := bytesQ) rfl]
  obtain ⟨a, h1, h2⟩ := h.cell
  have hlt := h.lt
  have hb := h.len
  rcases h2 with ⟨rfl, rfl⟩ | ⟨r, anc, rest, rfl, k2, k3, k4, k5⟩
  · simp only [bytesQ, h1, if_pos hlt]
    rfl
  · have hlen : (data.flatMap cb).length = data.length := flatMap_cb_len data
    have htk : (data.flatMap cb ++ rest).take data.length = data.flatMap cb := by rw [← hlen, List.take_left]
    simp only [bytesQ, h1, if_pos hlt, k2, htk, cb_sg, if_true, if_pos k4]
    rw [if_pos (by rw [List.length_append, hlen]; omega), if_pos (by omega)]
    rfl
end
end Go.Proofs.Ytgfpjnblookppaa
