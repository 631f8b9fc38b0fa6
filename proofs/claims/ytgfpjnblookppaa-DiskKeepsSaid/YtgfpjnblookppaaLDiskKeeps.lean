/-
What is synced stays: the law's run.
-/
import Derived.Test.YtgfpjnblookppaaF4
import Derived.Test.YtgfpjnblookppaaVD3
set_option linter.unusedVariables false
set_option linter.unusedSimpArgs false
set_option maxRecDepth 100000
namespace Go.Proofs.Ytgfpjnblookppaa
open Go.Abs

/-- Something done with a disk, as it comes in. -/
structure ActV where
  kind : Int
  n : Int
  t : Tb
structure ActV.Ok (a : ActV) : Prop where
  t : a.t.Ok
  n : -9223372036854775808 ≤ a.n ∧ a.n < 9223372036854775808
def fA (a : ActV) : List Value := [.int .i64 a.kind, .int .i64 a.n, by_ a.t.k a.t.b]
theorem fA_len (a : ActV) : (fA a).length = 3 := rfl
abbrev tAct : Ty := .pair (.int .i64) (.pair (.int .i64) (.pair (.slc 1 (.int .u8)) .unit))
theorem in_acts (x : (Ty.slc 40 tAct).Val) (hg : (Ty.slc 40 tAct).Good x) : ∃ k l, Okl k l ∧ k ≠ 2 ∧ (Ty.slc 40 tAct).vval x = [vs fA 3 k l] ∧ l.length * 40 ≤ 140737488351232 ∧ ∀ t ∈ l, t.Ok :=
  in_slc (b := 40) (e := tAct) fA ActV.Ok (fun x hx => by
    obtain ⟨a, b, c, u⟩ := x
    obtain ⟨h1, h2, h3, _⟩ := hx
    obtain ⟨t, k1, k2⟩ := in_tb c h3
    refine ⟨⟨a, b, t⟩, ?_, k2, in_int h2⟩
    show [Value.int .i64 a] ++ ([Value.int .i64 b] ++ ((Ty.slc 1 (.int .u8)).vval c ++ [])) = _
    rw [k1]; rfl) (fun _ => rfl) x hg
theorem al_act (S : AHeap) : aAlloc Try.prog 31 S = some (.pointer (some ⟨S.next, 0, none⟩), S.push (.cells [.int .i64 0, .int .i64 0, .slice none 0 0] (.own []) 0)) := by kernel_rfl
/-- An act in a variable of memory. -/
theorem st_act (a : ActV) (hne : a.t.k ≠ 2) (S : AHeap) : ∃ S2, vStore Try.prog 31 (.pointer (some ⟨S.next, 0, none⟩)) (.agg [Value.int .i64 a.kind, .int .i64 a.n, by_ a.t.k a.t.b].toArray) (S.push (.cells [.int .i64 0, .int .i64 0, .slice none 0 0] (.own []) 0)) = some (undef, S2) ∧
    S2.get S.next = some (.cells [.int .i64 a.kind, .int .i64 a.n, by_ a.t.k a.t.b] (.own []) 0) ∧ Ext S S2 ∧ S.next < S2.next :=
  new_store S (by rw [cells_agg, List.toList_toArray]) s_neaptidelaw04_Act rfl (by simp only [List.all_cons, List.all_nil, one_int, one_vs, Bool.and_true])
theorem ld_by {q o e : Nat} {cs : List Value} {own : Own} {k : Nat} {l : List UInt8} {S : AHeap} (h : S.get q = some (.cells cs own e)) (hv : cs[o]? = some (by_ k l)) (hk : k ≠ 2) : vLoad Try.prog false 27 (.pointer (some ⟨q, o, none⟩)) S = some (by_ k l, S) := by
  rw [load_mem h g_L_uint8 hv (fun l h => by unfold by_ vs sv at h; split at h <;> cases h), dem_vs, if_neg hk]

namespace diskKeeps
def codes : List (Bool × Ty) := [(false, .slc 40 tAct), (false, .int .i64)]
theorem coded : argsOf Try.prog 9 [29, 3] = some codes := by kernel_rfl

theorem round {k q : Nat} {l : List ActV} (hk : Okl k l) (k2 : k ≠ 2) (hl : l.length * 40 ≤ 140737488351232) (hg : ∀ t ∈ l, t.Ok) {room : Int} : ∀ (suf pre : List ActV) {T : List Value} {r : St} {S : AHeap} {data : List UInt8} {sy : Int}, loopV (vcodeV Try.prog O false neaptidelaw04_DiskKeeps.loop1) T S = r → T.length = 86 →
    T.getD 5 undef = .pointer (some ⟨q, 0, none⟩) → T.getD 23 undef = vs fA 3 k l → T.getD 24 undef = .int .i64 l.length → T.getD 25 undef = .int .i64 pre.length → l = pre ++ suf → Dk S q data sy room →
    ∃ T' S' data' sy', r = some (.exit 0, T', S') ∧ T'.length = 86 ∧ T'.getD 5 undef = .pointer (some ⟨q, 0, none⟩) ∧ T'.getD 1 undef = T.getD 1 undef ∧ Dk S' q data' sy' room := by
  intro suf
  induction suf with
  | nil =>
    intro pre T r S data sy hL hT h5 h23 h24 h25 hpre hD
    have hTe := neaptidelaw04_DiskKeeps.eta hT
    rw [h5, h23, h24, h25] at hTe
    have hr : vcodeV Try.prog O false neaptidelaw04_DiskKeeps.loop1 T S = vcodeV Try.prog O false neaptidelaw04_DiskKeeps.loop1 T S := rfl
    have d1 : ¬ (pre.length : Int) < (l.length : Int) := by rw [hpre]; simp
    conv at hr =>
      rhs
      rw [hTe]
      simp only [neaptidelaw04_DiskKeeps.loop1, neaptidelaw04_DiskKeeps.code, neaptidelaw04_DiskKeeps.r0, neaptidelaw04_DiskKeeps.r1, neaptidelaw04_DiskKeeps.r2, neaptidelaw04_DiskKeeps.r3, neaptidelaw04_DiskKeeps.r4, neaptidelaw04_DiskKeeps.r5, neaptidelaw04_DiskKeeps.r6, neaptidelaw04_DiskKeeps.r7, neaptidelaw04_DiskKeeps.r8, neaptidelaw04_DiskKeeps.r9, neaptidelaw04_DiskKeeps.r10, neaptidelaw04_DiskKeeps.r11, neaptidelaw04_DiskKeeps.r12, neaptidelaw04_DiskKeeps.r13, neaptidelaw04_DiskKeeps.r14, neaptidelaw04_DiskKeeps.r15, neaptidelaw04_DiskKeeps.r16, neaptidelaw04_DiskKeeps.r17, neaptidelaw04_DiskKeeps.r18, vcodeV_seq, vcodeV_region, vcodeV_block, vcodeV_skip, vcodeV_ret, vcodeV_exit, vcodeV_cond, vcodeV_loop, andThen_some, regV_some, seqV_normal, seqV_exit, seqV_ret, blockV_normal, blockV_ret, blockV_exit, condK_true, condK_false, andK_some, gdK_tt, gdK_ff, gdK_tf, gdK_ft, gdK_ut, gdCK_tt, gdCK_ff, gdCK_tf, gdCK_ft, gdCK_ut, okK_bool, okK_int, okK_string, okK_slice, okK_pointer, okK_SL, okK_EP, okK_sv, okK_vs, List.getD_cons_succ, List.getD_cons_zero, gd_tt, gd_ff, gd_tf, gd_ft, gd_ut, gdC_tt, gdC_ff, gdC_tf, gdC_ft, gdC_ut, ret_run, vPick_bool, if_true, if_false, reduceIte, Nat.reduceEqDiff, Bool.false_eq_true, okC_bool, okC_int, okC_string, okC_slice, okC_iface, okC_vs, okC_sv, okC_EP, dem_undef, dem_int, dem_bool, dem_string, dem_nil, dem_agg, dem_func, dem_pointer, dem_slice, dem_map, dem_vs, dem_sv, dem_dem, vBin_int, vBin_string, vBin_bool, vConv_int, vConvF_int, vConvF_string, vConvF_stringH, vConvF_sv, vConvF_vs, vSliceF_sv, vSliceF_vs, vSliceF_string, vcodeV_regionH, vExtract_tuple, List.getElem?_cons_succ, List.getElem?_cons_zero, Option.map_some, aBin_add, aBin_sub, aBin_mul, aBin_eql, aBin_neq, aBin_lss, aBin_leq, aBin_gtr, aBin_geq, aUn_not, Bool.not_true, Bool.not_false, Bool.true_eq_false, decide_true, decide_false, eq_self, exd_0_1, exd_0_2, exd_1_2, exd_0_3, exd_1_3, exd_2_3, exd_0_4, exd_1_4, exd_2_4, exd_3_4, exd_0_5, exd_1_5, exd_2_5, exd_3_5, exd_4_5, Int.reduceEq, Int.reduceLT, Int.reduceLE, d1]
    exact ⟨_, _, data, sy, hL.symm.trans (loopV_exit hr (by simp)), rfl, rfl, rfl, hD⟩
  | cons t suf ih =>
    intro pre T r S data sy hL hT h5 h23 h24 h25 hpre hD
    have hTe := neaptidelaw04_DiskKeeps.eta hT
    rw [h5, h23, h24, h25] at hTe
    have hr : vcodeV Try.prog O false neaptidelaw04_DiskKeeps.loop1 T S = vcodeV Try.prog O false neaptidelaw04_DiskKeeps.loop1 T S := rfl
    have d1 : (pre.length : Int) < (l.length : Int) := by rw [hpre]; simp; omega
    have ht := hg t (by rw [hpre]; simp)
    have ne : ¬ t.t.k = 2 := ht.t.ne
    have e1 : ∀ S, vIndexAddr Try.prog 29 (vs fA 3 k l) (.int .i64 pre.length) S = some (EP [.int .i64 t.kind, .int .i64 t.n, by_ t.t.k t.t.b], S) := fun S => by
      rw [vs_at u_L_neaptidelaw04_Act s_neaptidelaw04_Act fA_len hk (by omega) d1, at_pre hpre]; rfl
    have wi : IntKind.i64.wrap ((pre.length : Int) + 1) = ((pre ++ [t]).length : Int) := by rw [wrap_i64 (by omega) (by omega)]; simp
    obtain ⟨S2, s1, g1, x1, n1⟩ := st_act t ne S
    have hD2 := hD.ext x1
    have l1 := load_int (t := 3) (o := 0 + 0) g1 g_int rfl
    have l2 := ld_by (o := 0 + 2) g1 rfl ne
    by_cases hb : t.kind = 1
    · have hb2 := decide_eq_true hb
      obtain ⟨v, S3, c2, hD3, _⟩ := disk_Disk_Sync.v hD2
      conv at hr =>
        rhs
        rw [hTe]
        simp only [neaptidelaw04_DiskKeeps.loop1, neaptidelaw04_DiskKeeps.code, neaptidelaw04_DiskKeeps.r0, neaptidelaw04_DiskKeeps.r1, neaptidelaw04_DiskKeeps.r2, neaptidelaw04_DiskKeeps.r3, neaptidelaw04_DiskKeeps.r4, neaptidelaw04_DiskKeeps.r5, neaptidelaw04_DiskKeeps.r6, neaptidelaw04_DiskKeeps.r7, neaptidelaw04_DiskKeeps.r8, neaptidelaw04_DiskKeeps.r9, neaptidelaw04_DiskKeeps.r10, neaptidelaw04_DiskKeeps.r11, neaptidelaw04_DiskKeeps.r12, neaptidelaw04_DiskKeeps.r13, neaptidelaw04_DiskKeeps.r14, neaptidelaw04_DiskKeeps.r15, neaptidelaw04_DiskKeeps.r16, neaptidelaw04_DiskKeeps.r17, neaptidelaw04_DiskKeeps.r18, vcodeV_seq, vcodeV_region, vcodeV_block, vcodeV_skip, vcodeV_ret, vcodeV_exit, vcodeV_cond, vcodeV_loop, andThen_some, regV_some, seqV_normal, seqV_exit, seqV_ret, blockV_normal, blockV_ret, blockV_exit, condK_true, condK_false, andK_some, gdK_tt, gdK_ff, gdK_tf, gdK_ft, gdK_ut, gdCK_tt, gdCK_ff, gdCK_tf, gdCK_ft, gdCK_ut, okK_bool, okK_int, okK_string, okK_slice, okK_pointer, okK_SL, okK_EP, okK_sv, okK_vs, List.getD_cons_succ, List.getD_cons_zero, gd_tt, gd_ff, gd_tf, gd_ft, gd_ut, gdC_tt, gdC_ff, gdC_tf, gdC_ft, gdC_ut, ret_run, vPick_bool, if_true, if_false, reduceIte, Nat.reduceEqDiff, Bool.false_eq_true, okC_bool, okC_int, okC_string, okC_slice, okC_iface, okC_vs, okC_sv, okC_EP, dem_undef, dem_int, dem_bool, dem_string, dem_nil, dem_agg, dem_func, dem_pointer, dem_slice, dem_map, dem_vs, dem_sv, dem_dem, vBin_int, vBin_string, vBin_bool, vConv_int, vConvF_int, vConvF_string, vConvF_stringH, vConvF_sv, vConvF_vs, vSliceF_sv, vSliceF_vs, vSliceF_string, vcodeV_regionH, vExtract_tuple, List.getElem?_cons_succ, List.getElem?_cons_zero, Option.map_some, aBin_add, aBin_sub, aBin_mul, aBin_eql, aBin_neq, aBin_lss, aBin_leq, aBin_gtr, aBin_geq, aUn_not, Bool.not_true, Bool.not_false, Bool.true_eq_false, decide_true, decide_false, eq_self, exd_0_1, exd_0_2, exd_1_2, exd_0_3, exd_1_3, exd_2_3, exd_0_4, exd_1_4, exd_2_4, exd_3_4, exd_0_5, exd_1_5, exd_2_5, exd_3_5, exd_4_5, Int.reduceEq, Int.reduceLT, Int.reduceLE, d1, e1, le_neaptidelaw04_Act, al_act, s1, fa_neaptidelaw04_Act_0, l1, hb2, c2, wi]
      obtain ⟨T', S', data', sy', q1, q2, q3, q4, q5⟩ := ih (pre ++ [t]) ((loopV_step hr).symm.trans hL) rfl rfl rfl rfl rfl (by simp [hpre]) hD3
      exact ⟨T', S', data', sy', q1, q2, q3, q4, q5⟩
    · have cp : ∀ S, vAppend Try.prog 27 27 (by_ 2 []) (by_ t.t.k t.t.b) S = some (by_ 2 t.t.b, S) := fun S => by_copy ht.t.okl (by have := ht.t.le; omega)
      obtain ⟨S3, c2, hD3, _⟩ := disk_Disk_Append.v (k := 1) (b := t.t.b) hD2 Okl.read (by decide) (by have := ht.t.le; omega)
      conv at hr =>
        rhs
        rw [hTe]
        simp only [neaptidelaw04_DiskKeeps.loop1, neaptidelaw04_DiskKeeps.code, neaptidelaw04_DiskKeeps.r0, neaptidelaw04_DiskKeeps.r1, neaptidelaw04_DiskKeeps.r2, neaptidelaw04_DiskKeeps.r3, neaptidelaw04_DiskKeeps.r4, neaptidelaw04_DiskKeeps.r5, neaptidelaw04_DiskKeeps.r6, neaptidelaw04_DiskKeeps.r7, neaptidelaw04_DiskKeeps.r8, neaptidelaw04_DiskKeeps.r9, neaptidelaw04_DiskKeeps.r10, neaptidelaw04_DiskKeeps.r11, neaptidelaw04_DiskKeeps.r12, neaptidelaw04_DiskKeeps.r13, neaptidelaw04_DiskKeeps.r14, neaptidelaw04_DiskKeeps.r15, neaptidelaw04_DiskKeeps.r16, neaptidelaw04_DiskKeeps.r17, neaptidelaw04_DiskKeeps.r18, vcodeV_seq, vcodeV_region, vcodeV_block, vcodeV_skip, vcodeV_ret, vcodeV_exit, vcodeV_cond, vcodeV_loop, andThen_some, regV_some, seqV_normal, seqV_exit, seqV_ret, blockV_normal, blockV_ret, blockV_exit, condK_true, condK_false, andK_some, gdK_tt, gdK_ff, gdK_tf, gdK_ft, gdK_ut, gdCK_tt, gdCK_ff, gdCK_tf, gdCK_ft, gdCK_ut, okK_bool, okK_int, okK_string, okK_slice, okK_pointer, okK_SL, okK_EP, okK_sv, okK_vs, List.getD_cons_succ, List.getD_cons_zero, gd_tt, gd_ff, gd_tf, gd_ft, gd_ut, gdC_tt, gdC_ff, gdC_tf, gdC_ft, gdC_ut, ret_run, vPick_bool, if_true, if_false, reduceIte, Nat.reduceEqDiff, Bool.false_eq_true, okC_bool, okC_int, okC_string, okC_slice, okC_iface, okC_vs, okC_sv, okC_EP, dem_undef, dem_int, dem_bool, dem_string, dem_nil, dem_agg, dem_func, dem_pointer, dem_slice, dem_map, dem_vs, dem_sv, dem_dem, vBin_int, vBin_string, vBin_bool, vConv_int, vConvF_int, vConvF_string, vConvF_stringH, vConvF_sv, vConvF_vs, vSliceF_sv, vSliceF_vs, vSliceF_string, vcodeV_regionH, vExtract_tuple, List.getElem?_cons_succ, List.getElem?_cons_zero, Option.map_some, aBin_add, aBin_sub, aBin_mul, aBin_eql, aBin_neq, aBin_lss, aBin_leq, aBin_gtr, aBin_geq, aUn_not, Bool.not_true, Bool.not_false, Bool.true_eq_false, decide_true, decide_false, eq_self, exd_0_1, exd_0_2, exd_1_2, exd_0_3, exd_1_3, exd_2_3, exd_0_4, exd_1_4, exd_2_4, exd_3_4, exd_0_5, exd_1_5, exd_2_5, exd_3_5, exd_4_5, Int.reduceEq, Int.reduceLT, Int.reduceLE, d1, e1, le_neaptidelaw04_Act, al_act, s1, fa_neaptidelaw04_Act_0, fa_neaptidelaw04_Act_2, l1, l2, hb, if_neg ne, bb0, cp, c2, wi]
      obtain ⟨T', S', data', sy', q1, q2, q3, q4, q5⟩ := ih (pre ++ [t]) ((loopV_step hr).symm.trans hL) rfl rfl rfl rfl rfl (by simp [hpre]) hD3
      exact ⟨T', S', data', sy', q1, q2, q3, q4, q5⟩

theorem run {k : Nat} {l : List ActV} {keep : Int} (hk : Okl k l) (k2 : k ≠ 2) (hl : l.length * 40 ≤ 140737488351232) (hg : ∀ t ∈ l, t.Ok) (hkp : -9223372036854775808 ≤ keep ∧ keep < 9223372036854775808) : ∃ S', vlim Try.prog O 4 [vs fA 3 k l, .int .i64 keep] AHeap.empty = some (.bool true, S') := by
  obtain ⟨T, hTe⟩ : ∃ T, T = (vs fA 3 k l :: .int .i64 keep :: undef :: undef :: undef :: undef :: undef :: undef :: undef :: undef :: undef :: undef :: undef :: undef :: undef :: undef :: undef :: undef :: undef :: undef :: undef :: undef :: undef :: undef :: undef :: undef :: undef :: undef :: undef :: undef :: undef :: undef :: undef :: undef :: undef :: undef :: undef :: undef :: undef :: undef :: undef :: undef :: undef :: undef :: undef :: undef :: undef :: undef :: undef :: undef :: undef :: undef :: undef :: undef :: undef :: undef :: undef :: undef :: undef :: undef :: undef :: undef :: undef :: undef :: undef :: undef :: undef :: undef :: undef :: undef :: undef :: undef :: undef :: undef :: undef :: undef :: undef :: undef :: undef :: undef :: undef :: undef :: undef :: undef :: undef :: undef :: []) := ⟨_, rfl⟩
  have hr : vcodeV Try.prog O false neaptidelaw04_DiskKeeps.code T AHeap.empty = vcodeV Try.prog O false neaptidelaw04_DiskKeeps.code T AHeap.empty := rfl
  obtain ⟨S1, c0⟩ := neaptidelaw04_diskAlive.v
  obtain ⟨S2, c1, hD, _⟩ := disk_New.v (r := 60000) S1
  have ln : ∀ S, vLen Try.prog 29 (vs fA 3 k l) S = some (.int .i64 l.length, S) := fun S => vs_len u_L_neaptidelaw04_Act hk
  by_cases h1 : (200 : Int) < (l.length : Int)
  · conv at hr =>
      rhs
      rw [hTe]
      simp only [neaptidelaw04_DiskKeeps.code, neaptidelaw04_DiskKeeps.r0, neaptidelaw04_DiskKeeps.r1, neaptidelaw04_DiskKeeps.r2, neaptidelaw04_DiskKeeps.r3, neaptidelaw04_DiskKeeps.r4, neaptidelaw04_DiskKeeps.r5, neaptidelaw04_DiskKeeps.r6, neaptidelaw04_DiskKeeps.r7, neaptidelaw04_DiskKeeps.r8, neaptidelaw04_DiskKeeps.r9, neaptidelaw04_DiskKeeps.r10, neaptidelaw04_DiskKeeps.r11, neaptidelaw04_DiskKeeps.r12, neaptidelaw04_DiskKeeps.r13, neaptidelaw04_DiskKeeps.r14, neaptidelaw04_DiskKeeps.r15, neaptidelaw04_DiskKeeps.r16, neaptidelaw04_DiskKeeps.r17, neaptidelaw04_DiskKeeps.r18, vcodeV_seq, vcodeV_region, vcodeV_block, vcodeV_skip, vcodeV_ret, vcodeV_exit, vcodeV_cond, vcodeV_loop, andThen_some, regV_some, seqV_normal, seqV_exit, seqV_ret, blockV_normal, blockV_ret, blockV_exit, condK_true, condK_false, andK_some, gdK_tt, gdK_ff, gdK_tf, gdK_ft, gdK_ut, gdCK_tt, gdCK_ff, gdCK_tf, gdCK_ft, gdCK_ut, okK_bool, okK_int, okK_string, okK_slice, okK_pointer, okK_SL, okK_EP, okK_sv, okK_vs, List.getD_cons_succ, List.getD_cons_zero, gd_tt, gd_ff, gd_tf, gd_ft, gd_ut, gdC_tt, gdC_ff, gdC_tf, gdC_ft, gdC_ut, ret_run, vPick_bool, if_true, if_false, reduceIte, Nat.reduceEqDiff, Bool.false_eq_true, okC_bool, okC_int, okC_string, okC_slice, okC_iface, okC_vs, okC_sv, okC_EP, dem_undef, dem_int, dem_bool, dem_string, dem_nil, dem_agg, dem_func, dem_pointer, dem_slice, dem_map, dem_vs, dem_sv, dem_dem, vBin_int, vBin_string, vBin_bool, vConv_int, vConvF_int, vConvF_string, vConvF_stringH, vConvF_sv, vConvF_vs, vSliceF_sv, vSliceF_vs, vSliceF_string, vcodeV_regionH, vExtract_tuple, List.getElem?_cons_succ, List.getElem?_cons_zero, Option.map_some, aBin_add, aBin_sub, aBin_mul, aBin_eql, aBin_neq, aBin_lss, aBin_leq, aBin_gtr, aBin_geq, aUn_not, Bool.not_true, Bool.not_false, Bool.true_eq_false, decide_true, decide_false, eq_self, exd_0_1, exd_0_2, exd_1_2, exd_0_3, exd_1_3, exd_2_3, exd_0_4, exd_1_4, exd_2_4, exd_3_4, exd_0_5, exd_1_5, exd_2_5, exd_3_5, exd_4_5, Int.reduceEq, Int.reduceLT, Int.reduceLE, c0, c1, disk_eql, disk_neq, if_neg k2, ln, h1]
    rw [hTe] at hr
    exact ⟨_, neaptidelaw04_DiskKeeps.runs hr (.inr rfl)⟩
  · conv at hr =>
      rhs
      rw [hTe]
      simp only [neaptidelaw04_DiskKeeps.code, neaptidelaw04_DiskKeeps.r0, neaptidelaw04_DiskKeeps.r1, neaptidelaw04_DiskKeeps.r2, neaptidelaw04_DiskKeeps.r3, neaptidelaw04_DiskKeeps.r4, neaptidelaw04_DiskKeeps.r5, neaptidelaw04_DiskKeeps.r6, neaptidelaw04_DiskKeeps.r7, neaptidelaw04_DiskKeeps.r8, neaptidelaw04_DiskKeeps.r9, neaptidelaw04_DiskKeeps.r10, neaptidelaw04_DiskKeeps.r11, neaptidelaw04_DiskKeeps.r12, neaptidelaw04_DiskKeeps.r13, neaptidelaw04_DiskKeeps.r14, neaptidelaw04_DiskKeeps.r15, neaptidelaw04_DiskKeeps.r16, neaptidelaw04_DiskKeeps.r17, neaptidelaw04_DiskKeeps.r18, vcodeV_seq, vcodeV_region, vcodeV_block, vcodeV_skip, vcodeV_ret, vcodeV_exit, vcodeV_cond, vcodeV_loop, andThen_some, regV_some, seqV_normal, seqV_exit, seqV_ret, blockV_normal, blockV_ret, blockV_exit, condK_true, condK_false, andK_some, gdK_tt, gdK_ff, gdK_tf, gdK_ft, gdK_ut, gdCK_tt, gdCK_ff, gdCK_tf, gdCK_ft, gdCK_ut, okK_bool, okK_int, okK_string, okK_slice, okK_pointer, okK_SL, okK_EP, okK_sv, okK_vs, List.getD_cons_succ, List.getD_cons_zero, gd_tt, gd_ff, gd_tf, gd_ft, gd_ut, gdC_tt, gdC_ff, gdC_tf, gdC_ft, gdC_ut, ret_run, vPick_bool, if_true, if_false, reduceIte, Nat.reduceEqDiff, Bool.false_eq_true, okC_bool, okC_int, okC_string, okC_slice, okC_iface, okC_vs, okC_sv, okC_EP, dem_undef, dem_int, dem_bool, dem_string, dem_nil, dem_agg, dem_func, dem_pointer, dem_slice, dem_map, dem_vs, dem_sv, dem_dem, vBin_int, vBin_string, vBin_bool, vConv_int, vConvF_int, vConvF_string, vConvF_stringH, vConvF_sv, vConvF_vs, vSliceF_sv, vSliceF_vs, vSliceF_string, vcodeV_regionH, vExtract_tuple, List.getElem?_cons_succ, List.getElem?_cons_zero, Option.map_some, aBin_add, aBin_sub, aBin_mul, aBin_eql, aBin_neq, aBin_lss, aBin_leq, aBin_gtr, aBin_geq, aUn_not, Bool.not_true, Bool.not_false, Bool.true_eq_false, decide_true, decide_false, eq_self, exd_0_1, exd_0_2, exd_1_2, exd_0_3, exd_1_3, exd_2_3, exd_0_4, exd_1_4, exd_2_4, exd_3_4, exd_0_5, exd_1_5, exd_2_5, exd_3_5, exd_4_5, Int.reduceEq, Int.reduceLT, Int.reduceLE, c0, c1, disk_eql, disk_neq, if_neg k2, ln, h1]
    generalize hL : loopV (vcodeV Try.prog O false neaptidelaw04_DiskKeeps.loop1) _ _ = r at hr
    obtain ⟨T', S', data, sy, rfl, g2, g3, g4, g5⟩ := round hk k2 hl hg l [] hL rfl rfl rfl rfl rfl rfl hD
    have g4 : T'.getD 1 undef = .int .i64 keep := g4
    have hTe' := neaptidelaw04_DiskKeeps.eta g2
    rw [g3, g4] at hTe'
    have c3 := disk_Disk_Bytes.v g5
    have c4 := disk_Disk_Synced.v g5
    obtain ⟨v, S3, c5, g6, _⟩ := disk_Disk_Crash.v (keep := keep) g5 hkp
    have b1 := g5.sy0; have b2 := g5.syl; have b3 := g5.len
    have hm0 : sy ≤ sy + max 0 (min keep (data.length - sy)) := by omega
    have hm1 : sy + max 0 (min keep (data.length - sy)) ≤ data.length := by omega
    have hm2 : keep ≤ 0 → sy + max 0 (min keep (data.length - sy)) = sy := by omega
    generalize sy + max 0 (min keep (data.length - sy)) = m at *
    have hlen : ((data.take m.toNat).length : Int) = m := by rw [List.length_take]; omega
    have c6 := disk_Disk_Bytes.v g6
    have c7 := disk_Disk_Synced.v g6
    rw [hlen] at c7
    have ln1 : ∀ S, vLen Try.prog 27 (by_ 1 (data.take m.toNat)) S = some (.int .i64 m, S) := fun S => by rw [by_len Okl.read, goInt, hlen]
    have ln2 : ∀ S, vLen Try.prog 27 (by_ 1 data) S = some (.int .i64 data.length, S) := fun S => by_len Okl.read
    have sl : ∀ S, vSlice Try.prog 27 (by_ 1 data) none (some (.int .i64 m)) S = some (by_ 1 (data.take m.toNat), S) := fun S => by_take Okl.read (by omega) hm1
    have st : ∀ S, vConv Try.prog 27 9 (by_ 1 (data.take m.toNat)) S = some (.string ⟨(data.take m.toNat).toArray⟩, S) := fun S => by_str Okl.read
    have d1 : ¬ m < sy := by omega
    have d2 : ¬ (data.length : Int) < m := by omega
    by_cases h2 : (0 : Int) < keep
    · conv at hr =>
        rhs
        rw [hTe']
        simp only [neaptidelaw04_DiskKeeps.code, neaptidelaw04_DiskKeeps.r0, neaptidelaw04_DiskKeeps.r1, neaptidelaw04_DiskKeeps.r2, neaptidelaw04_DiskKeeps.r3, neaptidelaw04_DiskKeeps.r4, neaptidelaw04_DiskKeeps.r5, neaptidelaw04_DiskKeeps.r6, neaptidelaw04_DiskKeeps.r7, neaptidelaw04_DiskKeeps.r8, neaptidelaw04_DiskKeeps.r9, neaptidelaw04_DiskKeeps.r10, neaptidelaw04_DiskKeeps.r11, neaptidelaw04_DiskKeeps.r12, neaptidelaw04_DiskKeeps.r13, neaptidelaw04_DiskKeeps.r14, neaptidelaw04_DiskKeeps.r15, neaptidelaw04_DiskKeeps.r16, neaptidelaw04_DiskKeeps.r17, neaptidelaw04_DiskKeeps.r18, vcodeV_seq, vcodeV_region, vcodeV_block, vcodeV_skip, vcodeV_ret, vcodeV_exit, vcodeV_cond, vcodeV_loop, andThen_some, regV_some, seqV_normal, seqV_exit, seqV_ret, blockV_normal, blockV_ret, blockV_exit, condK_true, condK_false, andK_some, gdK_tt, gdK_ff, gdK_tf, gdK_ft, gdK_ut, gdCK_tt, gdCK_ff, gdCK_tf, gdCK_ft, gdCK_ut, okK_bool, okK_int, okK_string, okK_slice, okK_pointer, okK_SL, okK_EP, okK_sv, okK_vs, List.getD_cons_succ, List.getD_cons_zero, gd_tt, gd_ff, gd_tf, gd_ft, gd_ut, gdC_tt, gdC_ff, gdC_tf, gdC_ft, gdC_ut, ret_run, vPick_bool, if_true, if_false, reduceIte, Nat.reduceEqDiff, Bool.false_eq_true, okC_bool, okC_int, okC_string, okC_slice, okC_iface, okC_vs, okC_sv, okC_EP, dem_undef, dem_int, dem_bool, dem_string, dem_nil, dem_agg, dem_func, dem_pointer, dem_slice, dem_map, dem_vs, dem_sv, dem_dem, vBin_int, vBin_string, vBin_bool, vConv_int, vConvF_int, vConvF_string, vConvF_stringH, vConvF_sv, vConvF_vs, vSliceF_sv, vSliceF_vs, vSliceF_string, vcodeV_regionH, vExtract_tuple, List.getElem?_cons_succ, List.getElem?_cons_zero, Option.map_some, aBin_add, aBin_sub, aBin_mul, aBin_eql, aBin_neq, aBin_lss, aBin_leq, aBin_gtr, aBin_geq, aUn_not, Bool.not_true, Bool.not_false, Bool.true_eq_false, decide_true, decide_false, eq_self, exd_0_1, exd_0_2, exd_1_2, exd_0_3, exd_1_3, exd_2_3, exd_0_4, exd_1_4, exd_2_4, exd_3_4, exd_0_5, exd_1_5, exd_2_5, exd_3_5, exd_4_5, Int.reduceEq, Int.reduceLT, Int.reduceLE, c3, c4, c5, c6, c7, ln1, ln2, d1, d2, sl, st, tx_eql, h2]
      rw [hTe] at hr
      exact ⟨_, neaptidelaw04_DiskKeeps.runs hr (.inr rfl)⟩
    · have hms : m = sy := hm2 (by omega)
      subst hms
      conv at hr =>
        rhs
        rw [hTe']
        simp only [neaptidelaw04_DiskKeeps.code, neaptidelaw04_DiskKeeps.r0, neaptidelaw04_DiskKeeps.r1, neaptidelaw04_DiskKeeps.r2, neaptidelaw04_DiskKeeps.r3, neaptidelaw04_DiskKeeps.r4, neaptidelaw04_DiskKeeps.r5, neaptidelaw04_DiskKeeps.r6, neaptidelaw04_DiskKeeps.r7, neaptidelaw04_DiskKeeps.r8, neaptidelaw04_DiskKeeps.r9, neaptidelaw04_DiskKeeps.r10, neaptidelaw04_DiskKeeps.r11, neaptidelaw04_DiskKeeps.r12, neaptidelaw04_DiskKeeps.r13, neaptidelaw04_DiskKeeps.r14, neaptidelaw04_DiskKeeps.r15, neaptidelaw04_DiskKeeps.r16, neaptidelaw04_DiskKeeps.r17, neaptidelaw04_DiskKeeps.r18, vcodeV_seq, vcodeV_region, vcodeV_block, vcodeV_skip, vcodeV_ret, vcodeV_exit, vcodeV_cond, vcodeV_loop, andThen_some, regV_some, seqV_normal, seqV_exit, seqV_ret, blockV_normal, blockV_ret, blockV_exit, condK_true, condK_false, andK_some, gdK_tt, gdK_ff, gdK_tf, gdK_ft, gdK_ut, gdCK_tt, gdCK_ff, gdCK_tf, gdCK_ft, gdCK_ut, okK_bool, okK_int, okK_string, okK_slice, okK_pointer, okK_SL, okK_EP, okK_sv, okK_vs, List.getD_cons_succ, List.getD_cons_zero, gd_tt, gd_ff, gd_tf, gd_ft, gd_ut, gdC_tt, gdC_ff, gdC_tf, gdC_ft, gdC_ut, ret_run, vPick_bool, if_true, if_false, reduceIte, Nat.reduceEqDiff, Bool.false_eq_true, okC_bool, okC_int, okC_string, okC_slice, okC_iface, okC_vs, okC_sv, okC_EP, dem_undef, dem_int, dem_bool, dem_string, dem_nil, dem_agg, dem_func, dem_pointer, dem_slice, dem_map, dem_vs, dem_sv, dem_dem, vBin_int, vBin_string, vBin_bool, vConv_int, vConvF_int, vConvF_string, vConvF_stringH, vConvF_sv, vConvF_vs, vSliceF_sv, vSliceF_vs, vSliceF_string, vcodeV_regionH, vExtract_tuple, List.getElem?_cons_succ, List.getElem?_cons_zero, Option.map_some, aBin_add, aBin_sub, aBin_mul, aBin_eql, aBin_neq, aBin_lss, aBin_leq, aBin_gtr, aBin_geq, aUn_not, Bool.not_true, Bool.not_false, Bool.true_eq_false, decide_true, decide_false, eq_self, exd_0_1, exd_0_2, exd_1_2, exd_0_3, exd_1_3, exd_2_3, exd_0_4, exd_1_4, exd_2_4, exd_3_4, exd_0_5, exd_1_5, exd_2_5, exd_3_5, exd_4_5, Int.reduceEq, Int.reduceLT, Int.reduceLE, c3, c4, c5, c6, c7, ln1, ln2, d1, d2, sl, st, tx_eql, h2]
      rw [hTe] at hr
      exact ⟨_, neaptidelaw04_DiskKeeps.runs hr (.inr rfl)⟩
theorem law (x : Args codes) (h : Args.Good codes x) : ∃ k, (acall Try.prog k 4 (Args.place codes x AHeap.empty).1 (Args.place codes x AHeap.empty).2).map (·.1) = some (.bool true) := by
  obtain ⟨a, b, u⟩ := x
  obtain ⟨h1, h2, _⟩ := h
  obtain ⟨k, l, p1, p2, p3, p4, p5⟩ := in_acts a h1
  obtain ⟨S', e⟩ := run (keep := b) p1 p2 p4 p5 (in_int h2)
  refine law_of_vlim ora_ok (S' := S') ?_
  have e2 : Args.vval codes (a, b, u) = [vs fA 3 k l, .int .i64 b] := by
    show [argOf false ((Ty.slc 40 tAct).vval a), argOf false [.int .i64 b]] = _
    rw [p3]; rfl
  rw [e2]
  exact e
end diskKeeps
end Go.Proofs.Ytgfpjnblookppaa
