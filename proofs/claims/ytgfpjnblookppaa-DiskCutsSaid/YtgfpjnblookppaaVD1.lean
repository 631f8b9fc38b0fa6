/-
A disk in memory: what its functions do with it.
-/
import Derived.Test.YtgfpjnblookppaaF10
import Derived.Test.YtgfpjnblookppaaF11
import Derived.Test.YtgfpjnblookppaaF12
import Derived.Test.YtgfpjnblookppaaF13
import Derived.Test.YtgfpjnblookppaaF15
import Derived.Test.YtgfpjnblookppaaF16
import Derived.Test.YtgfpjnblookppaaF21
import Derived.Test.YtgfpjnblookppaaF22
set_option linter.unusedVariables false
set_option linter.unusedSimpArgs false
namespace Go.Proofs.Ytgfpjnblookppaa
open Go.Abs

/-- The bytes of a disk, in memory. -/
def DData (S : AHeap) (q : Nat) (a : Option Addr) (data : List UInt8) : Prop :=
  (a = none ∧ data = []) ∨ ∃ r anc rest, a = some ⟨r, 0, none⟩ ∧ S.get r = some (.cells (data.flatMap cb ++ rest) (.own anc) 1) ∧ q < r ∧ r < S.next ∧ ∀ a ∈ anc, q < a
/-- What lies ahead of a place stays. -/
def Old (q : Nat) (S S1 : AHeap) : Prop := ∀ k, k < q → S1.get k = S.get k
theorem Old.refl (q : Nat) (S : AHeap) : Old q S S := fun _ _ => rfl
theorem Old.trans {q : Nat} {S S1 S2 : AHeap} (h : Old q S S1) (k : Old q S1 S2) : Old q S S2 := fun i hi => (k i hi).trans (h i hi)
theorem Old.set {q r : Nat} {S S1 : AHeap} (h : Old q S S1) (hr : q ≤ r) (o : AObj) : Old q S (S1.set r o) := fun i hi => by rw [AHeap.get_set, if_neg (by omega)]; exact h i hi
/-- A disk, in memory. -/
structure Dk (S : AHeap) (q : Nat) (data : List UInt8) (sy room : Int) : Prop where
  lt : q < S.next
  len : data.length ≤ 65536
  sy0 : 0 ≤ sy
  syl : sy ≤ data.length
  rm0 : 0 ≤ room
  rml : room ≤ 65536
  cell : ∃ a, S.get q = some (.cells [.slice a data.length data.length, .int .i64 sy, .int .i64 room] (.own []) 0) ∧ DData S q a data
theorem Dk.ext {S S1 : AHeap} {q : Nat} {data : List UInt8} {sy room : Int} (h : Dk S q data sy room) (k : Ext S S1) : Dk S1 q data sy room := by
  obtain ⟨a, h1, h2⟩ := h.cell
  refine ⟨Nat.lt_of_lt_of_le h.lt k.1, h.len, h.sy0, h.syl, h.rm0, h.rml, a, by rw [k.2 q h.lt]; exact h1, ?_⟩
  rcases h2 with h2 | ⟨r, anc, rest, h3, h4, h5, h6, h7⟩
  · exact .inl h2
  · exact .inr ⟨r, anc, rest, h3, by rw [k.2 r h6]; exact h4, h5, Nat.lt_of_lt_of_le h6 k.1, h7⟩

/-- Other cells in the disk's own place. -/
theorem Dk.put {S : AHeap} {q : Nat} {data data' : List UInt8} {sy room sy' room' : Int} {a : Option Addr} (h : Dk S q data sy room) (hd : DData S q a data') (h0 : data'.length ≤ 65536) (h1 : 0 ≤ sy') (h2 : sy' ≤ data'.length) (h3 : 0 ≤ room') (h4 : room' ≤ 65536) {cs : List Value} (hc : cs = [.slice a data'.length data'.length, .int .i64 sy', .int .i64 room']) :
    Dk (S.set q (.cells cs (.own []) 0)) q data' sy' room' := by
  subst hc
  refine ⟨by simpa using h.lt, h0, h1, h2, h3, h4, a, by rw [AHeap.get_set, if_pos rfl], ?_⟩
  rcases hd with hd | ⟨r, anc, rest, k1, k2, k3, k4, k5⟩
  · exact .inl hd
  · exact .inr ⟨r, anc, rest, k1, by rw [AHeap.get_set, if_neg (by omega)]; exact k2, k3, by simpa using k4, k5⟩
/-- The first bytes. -/
theorem DData.take {S : AHeap} {q : Nat} {a : Option Addr} {data : List UInt8} (h : DData S q a data) (n : Nat) : DData S q a (data.take n) := by
  rcases h with ⟨h1, h2⟩ | ⟨r, anc, rest, k1, k2, k3, k4, k5⟩
  · exact .inl ⟨h1, by rw [h2, List.take_nil]⟩
  · refine .inr ⟨r, anc, (data.drop n).flatMap cb ++ rest, k1, ?_, k3, k4, k5⟩
    rw [k2, ← List.append_assoc, ← List.flatMap_append, List.take_append_drop]

def roomOf (room : Int) (n : Nat) : Int := if room - n > 0 then room - n else 0
section
variable {S : AHeap} {q : Nat} {data : List UInt8} {sy room : Int}

theorem disk_Disk_Room.v (h : Dk S q data sy room) : vlim Try.prog O disk_Disk_Room.id [.pointer (some ⟨q, 0, none⟩)] S = some (.int .i64 (roomOf room data.length), S) := by
  obtain ⟨T, hTe⟩ : ∃ T, T = (.pointer (some ⟨q, 0, none⟩) :: undef :: undef :: undef :: undef :: undef :: undef :: undef :: undef :: undef :: undef :: undef :: undef :: undef :: []) := ⟨_, rfl⟩
  have hr : vcodeV Try.prog O true disk_Disk_Room.code T S = vcodeV Try.prog O true disk_Disk_Room.code T S := rfl
  obtain ⟨a, h1, h2⟩ := h.cell
  have l1 := load_int (t := 3) (o := 0 + 2) h1 g_int rfl
  have l2 := load_sl (t := 27) (o := 0 + 0) h1 g_L_uint8 rfl
  have ln := fun S => len_mem u_L_uint8 a data.length data.length S
  have b1 := h.rm0; have b2 := h.rml; have b3 := h.len
  have w1 : IntKind.i64.wrap (room - data.length) = room - data.length := wrap_i64 (by omega) (by omega)
  conv at hr =>
    rhs
    rw [hTe]
    simp only [disk_Disk_Room.code, disk_Disk_Room.r0, disk_Disk_Room.r1, vcodeV_seq, vcodeV_region, vcodeV_block, vcodeV_skip, vcodeV_ret, vcodeV_exit, vcodeV_cond, vcodeV_loop, andThen_some, regV_some, seqV_normal, seqV_exit, seqV_ret, blockV_normal, blockV_ret, blockV_exit, condK_true, condK_false, andK_some, gdK_tt, gdK_ff, gdK_tf, gdK_ft, gdK_ut, gdCK_tt, gdCK_ff, gdCK_tf, gdCK_ft, gdCK_ut, okK_bool, okK_int, okK_string, okK_slice, okK_pointer, okK_SL, okK_EP, okK_sv, okK_vs, List.getD_cons_succ, List.getD_cons_zero, gd_tt, gd_ff, gd_tf, gd_ft, gd_ut, gdC_tt, gdC_ff, gdC_tf, gdC_ft, gdC_ut, ret_run, vPick_bool, if_true, if_false, reduceIte, Nat.reduceEqDiff, Bool.false_eq_true, okC_bool, okC_int, okC_string, okC_slice, okC_iface, okC_vs, okC_sv, okC_EP, dem_undef, dem_int, dem_bool, dem_string, dem_nil, dem_agg, dem_func, dem_pointer, dem_slice, dem_map, dem_vs, dem_sv, dem_dem, vBin_int, vBin_string, vBin_bool, vConv_int, vConvF_int, vConvF_string, vConvF_stringH, vConvF_sv, vConvF_vs, vSliceF_sv, vSliceF_vs, vSliceF_string, vcodeV_regionH, vExtract_tuple, List.getElem?_cons_succ, List.getElem?_cons_zero, Option.map_some, aBin_add, aBin_sub, aBin_mul, aBin_eql, aBin_neq, aBin_lss, aBin_leq, aBin_gtr, aBin_geq, aUn_not, Bool.not_true, Bool.not_false, Bool.true_eq_false, decide_true, decide_false, eq_self, exd_0_1, exd_0_2, exd_1_2, exd_0_3, exd_1_3, exd_2_3, exd_0_4, exd_1_4, exd_2_4, exd_3_4, exd_0_5, exd_1_5, exd_2_5, exd_3_5, exd_4_5, Int.reduceEq, Int.reduceLT, Int.reduceLE, nilCheck_ptr, fa_disk_Disk_0, fa_disk_Disk_2, l1, l2, ln, goInt, w1, vMax]
  rw [hTe] at hr
  exact disk_Disk_Room.runs hr (.inr rfl)
theorem disk_Disk_Synced.v (h : Dk S q data sy room) : vlim Try.prog O disk_Disk_Synced.id [.pointer (some ⟨q, 0, none⟩)] S = some (.int .i64 sy, S) := by
  obtain ⟨T, hTe⟩ : ∃ T, T = (.pointer (some ⟨q, 0, none⟩) :: undef :: undef :: undef :: undef :: undef :: undef :: []) := ⟨_, rfl⟩
  have hr : vcodeV Try.prog O false disk_Disk_Synced.code T S = vcodeV Try.prog O false disk_Disk_Synced.code T S := rfl
  obtain ⟨a, h1, h2⟩ := h.cell
  have l1 := load_int (t := 3) (o := 0 + 1) h1 g_int rfl
  conv at hr =>
    rhs
    rw [hTe]
    simp only [disk_Disk_Synced.code, disk_Disk_Synced.r0, disk_Disk_Synced.r1, vcodeV_seq, vcodeV_region, vcodeV_block, vcodeV_skip, vcodeV_ret, vcodeV_exit, vcodeV_cond, vcodeV_loop, andThen_some, regV_some, seqV_normal, seqV_exit, seqV_ret, blockV_normal, blockV_ret, blockV_exit, condK_true, condK_false, andK_some, gdK_tt, gdK_ff, gdK_tf, gdK_ft, gdK_ut, gdCK_tt, gdCK_ff, gdCK_tf, gdCK_ft, gdCK_ut, okK_bool, okK_int, okK_string, okK_slice, okK_pointer, okK_SL, okK_EP, okK_sv, okK_vs, List.getD_cons_succ, List.getD_cons_zero, gd_tt, gd_ff, gd_tf, gd_ft, gd_ut, gdC_tt, gdC_ff, gdC_tf, gdC_ft, gdC_ut, ret_run, vPick_bool, if_true, if_false, reduceIte, Nat.reduceEqDiff, Bool.false_eq_true, okC_bool, okC_int, okC_string, okC_slice, okC_iface, okC_vs, okC_sv, okC_EP, dem_undef, dem_int, dem_bool, dem_string, dem_nil, dem_agg, dem_func, dem_pointer, dem_slice, dem_map, dem_vs, dem_sv, dem_dem, vBin_int, vBin_string, vBin_bool, vConv_int, vConvF_int, vConvF_string, vConvF_stringH, vConvF_sv, vConvF_vs, vSliceF_sv, vSliceF_vs, vSliceF_string, vcodeV_regionH, vExtract_tuple, List.getElem?_cons_succ, List.getElem?_cons_zero, Option.map_some, aBin_add, aBin_sub, aBin_mul, aBin_eql, aBin_neq, aBin_lss, aBin_leq, aBin_gtr, aBin_geq, aUn_not, Bool.not_true, Bool.not_false, Bool.true_eq_false, decide_true, decide_false, eq_self, exd_0_1, exd_0_2, exd_1_2, exd_0_3, exd_1_3, exd_2_3, exd_0_4, exd_1_4, exd_2_4, exd_3_4, exd_0_5, exd_1_5, exd_2_5, exd_3_5, exd_4_5, Int.reduceEq, Int.reduceLT, Int.reduceLE, nilCheck_ptr, fa_disk_Disk_1, l1]
  rw [hTe] at hr
  exact disk_Disk_Synced.runs hr (.inr rfl)
theorem disk_Disk_Sync.v (h : Dk S q data sy room) : ∃ v S1, vlim Try.prog O disk_Disk_Sync.id [.pointer (some ⟨q, 0, none⟩)] S = some (v, S1) ∧ Dk S1 q data data.length room ∧ Old q S S1 := by
  obtain ⟨T, hTe⟩ : ∃ T, T = (.pointer (some ⟨q, 0, none⟩) :: undef :: undef :: undef :: undef :: undef :: undef :: undef :: undef :: undef :: []) := ⟨_, rfl⟩
  have hr : vcodeV Try.prog O false disk_Disk_Sync.code T S = vcodeV Try.prog O false disk_Disk_Sync.code T S := rfl
  obtain ⟨a, h1, h2⟩ := h.cell
  have l2 := load_sl (t := 27) (o := 0 + 0) h1 g_L_uint8 rfl
  have ln := fun S => len_mem u_L_uint8 a data.length data.length S
  have s1 := store_mem (P := Try.prog) (t := 3) (o := 0 + 1) (x := .int .i64 data.length) h1 s_int rfl rfl (by simp)
  conv at hr =>
    rhs
    rw [hTe]
    simp only [disk_Disk_Sync.code, disk_Disk_Sync.r0, vcodeV_seq, vcodeV_region, vcodeV_block, vcodeV_skip, vcodeV_ret, vcodeV_exit, vcodeV_cond, vcodeV_loop, andThen_some, regV_some, seqV_normal, seqV_exit, seqV_ret, blockV_normal, blockV_ret, blockV_exit, condK_true, condK_false, andK_some, gdK_tt, gdK_ff, gdK_tf, gdK_ft, gdK_ut, gdCK_tt, gdCK_ff, gdCK_tf, gdCK_ft, gdCK_ut, okK_bool, okK_int, okK_string, okK_slice, okK_pointer, okK_SL, okK_EP, okK_sv, okK_vs, List.getD_cons_succ, List.getD_cons_zero, gd_tt, gd_ff, gd_tf, gd_ft, gd_ut, gdC_tt, gdC_ff, gdC_tf, gdC_ft, gdC_ut, ret_run, vPick_bool, if_true, if_false, reduceIte, Nat.reduceEqDiff, Bool.false_eq_true, okC_bool, okC_int, okC_string, okC_slice, okC_iface, okC_vs, okC_sv, okC_EP, dem_undef, dem_int, dem_bool, dem_string, dem_nil, dem_agg, dem_func, dem_pointer, dem_slice, dem_map, dem_vs, dem_sv, dem_dem, vBin_int, vBin_string, vBin_bool, vConv_int, vConvF_int, vConvF_string, vConvF_stringH, vConvF_sv, vConvF_vs, vSliceF_sv, vSliceF_vs, vSliceF_string, vcodeV_regionH, vExtract_tuple, List.getElem?_cons_succ, List.getElem?_cons_zero, Option.map_some, aBin_add, aBin_sub, aBin_mul, aBin_eql, aBin_neq, aBin_lss, aBin_leq, aBin_gtr, aBin_geq, aUn_not, Bool.not_true, Bool.not_false, Bool.true_eq_false, decide_true, decide_false, eq_self, exd_0_1, exd_0_2, exd_1_2, exd_0_3, exd_1_3, exd_2_3, exd_0_4, exd_1_4, exd_2_4, exd_3_4, exd_0_5, exd_1_5, exd_2_5, exd_3_5, exd_4_5, Int.reduceEq, Int.reduceLT, Int.reduceLE, nilCheck_ptr, fa_disk_Disk_0, fa_disk_Disk_1, l2, ln, goInt, s1]
  rw [hTe] at hr
  have hrun := disk_Disk_Sync.runs hr (.inl rfl)
  exact ⟨_, _, hrun, h.put h2 h.len (by omega) (by omega) h.rm0 h.rml rfl, (Old.refl q S).set (Nat.le_refl _) _⟩
theorem disk_Disk_Limit.v {r : Int} (h : Dk S q data sy room) : ∃ v S1, vlim Try.prog O disk_Disk_Limit.id [.pointer (some ⟨q, 0, none⟩), .int .i64 r] S = some (v, S1) ∧ Dk S1 q data sy (max 0 (min r 65536)) ∧ Old q S S1 := by
  obtain ⟨T, hTe⟩ : ∃ T, T = (.pointer (some ⟨q, 0, none⟩) :: .int .i64 r :: undef :: undef :: undef :: undef :: undef :: undef :: undef :: undef :: []) := ⟨_, rfl⟩
  have hr : vcodeV Try.prog O false disk_Disk_Limit.code T S = vcodeV Try.prog O false disk_Disk_Limit.code T S := rfl
  obtain ⟨a, h1, h2⟩ := h.cell
  have s1 := fun x : Int => store_mem (P := Try.prog) (t := 3) (o := 0 + 2) (x := .int .i64 x) h1 s_int rfl rfl (by simp)
  conv at hr =>
    rhs
    rw [hTe]
    simp only [disk_Disk_Limit.code, disk_Disk_Limit.r0, vcodeV_seq, vcodeV_region, vcodeV_block, vcodeV_skip, vcodeV_ret, vcodeV_exit, vcodeV_cond, vcodeV_loop, andThen_some, regV_some, seqV_normal, seqV_exit, seqV_ret, blockV_normal, blockV_ret, blockV_exit, condK_true, condK_false, andK_some, gdK_tt, gdK_ff, gdK_tf, gdK_ft, gdK_ut, gdCK_tt, gdCK_ff, gdCK_tf, gdCK_ft, gdCK_ut, okK_bool, okK_int, okK_string, okK_slice, okK_pointer, okK_SL, okK_EP, okK_sv, okK_vs, List.getD_cons_succ, List.getD_cons_zero, gd_tt, gd_ff, gd_tf, gd_ft, gd_ut, gdC_tt, gdC_ff, gdC_tf, gdC_ft, gdC_ut, ret_run, vPick_bool, if_true, if_false, reduceIte, Nat.reduceEqDiff, Bool.false_eq_true, okC_bool, okC_int, okC_string, okC_slice, okC_iface, okC_vs, okC_sv, okC_EP, dem_undef, dem_int, dem_bool, dem_string, dem_nil, dem_agg, dem_func, dem_pointer, dem_slice, dem_map, dem_vs, dem_sv, dem_dem, vBin_int, vBin_string, vBin_bool, vConv_int, vConvF_int, vConvF_string, vConvF_stringH, vConvF_sv, vConvF_vs, vSliceF_sv, vSliceF_vs, vSliceF_string, vcodeV_regionH, vExtract_tuple, List.getElem?_cons_succ, List.getElem?_cons_zero, Option.map_some, aBin_add, aBin_sub, aBin_mul, aBin_eql, aBin_neq, aBin_lss, aBin_leq, aBin_gtr, aBin_geq, aUn_not, Bool.not_true, Bool.not_false, Bool.true_eq_false, decide_true, decide_false, eq_self, exd_0_1, exd_0_2, exd_1_2, exd_0_3, exd_1_3, exd_2_3, exd_0_4, exd_1_4, exd_2_4, exd_3_4, exd_0_5, exd_1_5, exd_2_5, exd_3_5, exd_4_5, Int.reduceEq, Int.reduceLT, Int.reduceLE, nilCheck_ptr, fa_disk_Disk_2, vMin, vMax, s1]
  rw [hTe] at hr
  have hrun := disk_Disk_Limit.runs hr (.inl rfl)
  refine ⟨_, _, hrun, ?_⟩
  have e : ∀ x : Int, (if (if (65536 : Int) < x then 65536 else x) > 0 then (if (65536 : Int) < x then 65536 else x) else 0) = max 0 (min x 65536) := by intro x; split <;> omega
  rw [e]
  exact ⟨h.put h2 h.len h.sy0 h.syl (by omega) (by omega) rfl, (Old.refl q S).set (Nat.le_refl _) _⟩
end
end Go.Proofs.Ytgfpjnblookppaa
