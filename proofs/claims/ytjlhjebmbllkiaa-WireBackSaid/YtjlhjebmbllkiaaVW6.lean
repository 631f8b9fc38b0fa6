/-
Lists of numbers as bytes: what wire.Nums and the document's answer.
-/
import Derived.Test.YtjlhjebmbllkiaaF20
import Derived.Test.YtjlhjebmbllkiaaF21
import Derived.Test.YtjlhjebmbllkiaaVW5
set_option linter.unusedVariables false
set_option linter.unusedSimpArgs false
namespace Go.Proofs.Ytjlhjebmbllkiaa
open Go.Abs

/-- Numbers' bytes. -/
def encs (l : List Int) : List UInt8 := l.flatMap fun n => enc (n + 1).toNat
/-- What Nums answers; of no numbers bytes of kind k. -/
def numsV (k : Nat) (l : List Int) : Value := if 64 < l.length ∨ ∃ n ∈ l, n < -1 then .tuple #[.slice none 0 0, .int .i64 11] else .tuple #[by_ (if l = [] then k else 2) (encs l), .int .i64 0]

theorem wrap_plus1 {n : Int} (h : -1 ≤ n) (h2 : n < 9223372036854775808) : IntKind.u64.wrap (IntKind.u64.wrap n + 1) = ((n + 1).toNat : Int) := by
  simp [IntKind.wrap, IntKind.bits, IntKind.signed]
  omega
theorem encs_append (a b : List Int) : encs (a ++ b) = encs a ++ encs b := by simp [encs]
theorem encs_one (n : Int) : encs [n] = enc (n + 1).toNat := by simp [encs]
theorem encs_len {l : List Int} (h : ∀ n ∈ l, n < 9223372036854775808) : (encs l).length ≤ l.length * 10 := by
  induction l with
  | nil => simp [encs]
  | cons n l ih =>
    have h1 := ih fun m hm => h m (by simp [hm])
    have h2 : (enc (n + 1).toNat).length ≤ 10 := enc_len10 (by have := h n (by simp); omega)
    simp only [encs, List.flatMap_cons, List.length_append, List.length_cons] at *
    omega
theorem iz_at_pre {l pre suf : List Int} {n : Int} (hl : l = pre ++ n :: suf) (h : Int.toNat (pre.length : Int) < l.length) : l[Int.toNat (pre.length : Int)] = n := by
  subst hl; simp

theorem wire_Nums.round {k : Nat} {l : List Int} (hv : Okl k l) (hk : k ≠ 2) (h64 : l.length ≤ 64) (hb : ∀ n ∈ l, n < 9223372036854775808) {S : AHeap} : ∀ (suf pre : List Int) {T : List Value} {r : St}, loopV (vcodeV Try.prog O wire_Nums.loop1) T S = r → T.length = 26 →
    T.getD 10 undef = iz k l → T.getD 11 undef = .int .i64 l.length → T.getD 12 undef = .int .i64 pre.length → T.getD 4 undef = by_ (if pre = [] then 0 else 2) (encs pre) → l = pre ++ suf →
    ∃ e T', r = some (e, T', S) ∧ if (∃ n ∈ suf, n < -1) then e = .ret ∧ T'.getD 2 undef = .slice none 0 0 ∧ T'.getD 3 undef = .int .i64 11 else e = .exit 0 ∧ T'.length = 26 ∧ T'.getD 4 undef = by_ (if l = [] then 0 else 2) (encs l) := by
  intro suf
  induction suf with
  | nil =>
    intro pre T r hL hT ha hb hc h4 hl
    have hTe := wire_Nums.eta hT
    rw [ha, hb, hc, h4] at hTe
    have hr : vcodeV Try.prog O wire_Nums.loop1 T S = vcodeV Try.prog O wire_Nums.loop1 T S := rfl
    have hd : ¬ (pre.length : Int) < (l.length : Int) := by rw [hl]; simp
    conv at hr =>
      rhs
      rw [hTe]
      simp only [wire_Nums.loop1, wire_Nums.code, wire_Nums.r0, wire_Nums.r1, wire_Nums.r2, wire_Nums.r3, wire_Nums.r4, wire_Nums.r5, wire_Nums.r6, wire_Nums.r7, wire_Nums.r8, wire_Nums.r9, wire_Nums.r10, wire_Nums.r11, vcodeV_seq, vcodeV_region, vcodeV_block, vcodeV_skip, vcodeV_ret, vcodeV_exit, vcodeV_cond, vcodeV_loop, andThen_some, regV_some, seqV_normal, seqV_exit, seqV_ret, blockV_normal, blockV_ret, blockV_exit, condK_true, condK_false, andK_some, gdK_tt, gdK_ff, gdK_tf, gdK_ft, gdK_ut, gdCK_tt, gdCK_ff, gdCK_tf, gdCK_ft, gdCK_ut, okK_bool, okK_int, okK_string, okK_slice, okK_pointer, okK_SL, okK_EP, okK_sv, okK_vs, List.getD_cons_succ, List.getD_cons_zero, gd_tt, gd_ff, gd_tf, gd_ft, gd_ut, gdC_tt, gdC_ff, gdC_tf, gdC_ft, gdC_ut, ret_run, vPick_bool, if_true, if_false, reduceIte, Nat.reduceEqDiff, Bool.false_eq_true, okC_bool, okC_int, okC_string, okC_slice, okC_iface, okC_vs, okC_sv, okC_EP, dem_undef, dem_int, dem_bool, dem_string, dem_nil, dem_agg, dem_func, dem_pointer, dem_vs, dem_sv, dem_dem, vBin_int, vBin_string, vBin_bool, vConv_int, vExtract_tuple, List.getElem?_cons_succ, List.getElem?_cons_zero, Option.map_some, aBin_add, aBin_sub, aBin_mul, aBin_eql, aBin_neq, aBin_lss, aBin_leq, aBin_gtr, aBin_geq, aUn_not, Bool.not_true, Bool.not_false, Bool.true_eq_false, decide_true, decide_false, eq_self, exd_0_1, exd_0_2, exd_1_2, exd_0_3, exd_1_3, exd_2_3, exd_0_4, exd_1_4, exd_2_4, exd_3_4, exd_0_5, exd_1_5, exd_2_5, exd_3_5, exd_4_5, hd]
    refine ⟨_, _, hL.symm.trans (loopV_exit hr (by simp)), ?_⟩
    rw [if_neg (by simp)]
    simp only [List.append_nil] at hl
    subst hl
    exact ⟨rfl, rfl, rfl⟩
  | cons n suf ih =>
    intro pre T r hL hT ha hbb hc h4 hl
    have hTe := wire_Nums.eta hT
    rw [ha, hbb, hc, h4] at hTe
    have hr : vcodeV Try.prog O wire_Nums.loop1 T S = vcodeV Try.prog O wire_Nums.loop1 T S := rfl
    have hll : l.length = pre.length + (suf.length + 1) := by rw [hl]; simp
    have hlt : (pre.length : Int) < (l.length : Int) := by omega
    have e1 : ∀ S, vIndexAddr Try.prog 43 (iz k l) (.int .i64 pre.length) S = some (EP [.int .i64 n], S) := fun S => by
      rw [iz_at hv (by omega) hlt]; rw [iz_at_pre hl]
    have hn := hb n (by rw [hl]; simp)
    by_cases h1 : n < -1
    · conv at hr =>
        rhs
        rw [hTe]
        simp only [wire_Nums.loop1, wire_Nums.code, wire_Nums.r0, wire_Nums.r1, wire_Nums.r2, wire_Nums.r3, wire_Nums.r4, wire_Nums.r5, wire_Nums.r6, wire_Nums.r7, wire_Nums.r8, wire_Nums.r9, wire_Nums.r10, wire_Nums.r11, vcodeV_seq, vcodeV_region, vcodeV_block, vcodeV_skip, vcodeV_ret, vcodeV_exit, vcodeV_cond, vcodeV_loop, andThen_some, regV_some, seqV_normal, seqV_exit, seqV_ret, blockV_normal, blockV_ret, blockV_exit, condK_true, condK_false, andK_some, gdK_tt, gdK_ff, gdK_tf, gdK_ft, gdK_ut, gdCK_tt, gdCK_ff, gdCK_tf, gdCK_ft, gdCK_ut, okK_bool, okK_int, okK_string, okK_slice, okK_pointer, okK_SL, okK_EP, okK_sv, okK_vs, List.getD_cons_succ, List.getD_cons_zero, gd_tt, gd_ff, gd_tf, gd_ft, gd_ut, gdC_tt, gdC_ff, gdC_tf, gdC_ft, gdC_ut, ret_run, vPick_bool, if_true, if_false, reduceIte, Nat.reduceEqDiff, Bool.false_eq_true, okC_bool, okC_int, okC_string, okC_slice, okC_iface, okC_vs, okC_sv, okC_EP, dem_undef, dem_int, dem_bool, dem_string, dem_nil, dem_agg, dem_func, dem_pointer, dem_vs, dem_sv, dem_dem, vBin_int, vBin_string, vBin_bool, vConv_int, vExtract_tuple, List.getElem?_cons_succ, List.getElem?_cons_zero, Option.map_some, aBin_add, aBin_sub, aBin_mul, aBin_eql, aBin_neq, aBin_lss, aBin_leq, aBin_gtr, aBin_geq, aUn_not, Bool.not_true, Bool.not_false, Bool.true_eq_false, decide_true, decide_false, eq_self, exd_0_1, exd_0_2, exd_1_2, exd_0_3, exd_1_3, exd_2_3, exd_0_4, exd_1_4, exd_2_4, exd_3_4, exd_0_5, exd_1_5, exd_2_5, exd_3_5, exd_4_5, hlt, e1, iz_load, h1]
      refine ⟨_, _, hL.symm.trans (loopV_exit hr (by simp)), ?_⟩
      rw [if_pos ⟨n, by simp, h1⟩]
      exact ⟨rfl, rfl, rfl⟩
    · have w1 := wrap_plus1 (n := n) (by omega) (by omega)
      have hpb : (encs pre).length ≤ pre.length * 10 := encs_len fun m hm => hb m (by rw [hl]; simp [hm])
      have hp10 : (enc (n + 1).toNat).length ≤ 10 := enc_len10 (by omega)
      have hpp := enc_pos (n + 1).toNat
      have g1 := fun S => wire_Num.v (n + 1).toNat (by omega) S
      have e2 : ∀ S, vAppend Try.prog 23 23 (by_ (if pre = [] then 0 else 2) (encs pre)) (by_ 2 (enc (n + 1).toNat)) S = some (by_ 2 (encs (pre ++ [n])), S) := fun S => by
        have ok : Okl (if pre = [] then 0 else 2) (encs pre) := ⟨by split <;> omega, fun h => by split at h <;> first | (rename_i hp; subst hp; rfl) | omega⟩
        rw [by_append ok (by split <;> omega) Okl.own (by omega), if_neg (fun h => by have := h.2; omega), encs_append, encs_one]
      have wi : IntKind.i64.wrap ((pre.length : Int) + 1) = ((pre ++ [n]).length : Int) := by rw [wrap_i64 (by omega) (by omega)]; simp
      conv at hr =>
        rhs
        rw [hTe]
        simp only [wire_Nums.loop1, wire_Nums.code, wire_Nums.r0, wire_Nums.r1, wire_Nums.r2, wire_Nums.r3, wire_Nums.r4, wire_Nums.r5, wire_Nums.r6, wire_Nums.r7, wire_Nums.r8, wire_Nums.r9, wire_Nums.r10, wire_Nums.r11, vcodeV_seq, vcodeV_region, vcodeV_block, vcodeV_skip, vcodeV_ret, vcodeV_exit, vcodeV_cond, vcodeV_loop, andThen_some, regV_some, seqV_normal, seqV_exit, seqV_ret, blockV_normal, blockV_ret, blockV_exit, condK_true, condK_false, andK_some, gdK_tt, gdK_ff, gdK_tf, gdK_ft, gdK_ut, gdCK_tt, gdCK_ff, gdCK_tf, gdCK_ft, gdCK_ut, okK_bool, okK_int, okK_string, okK_slice, okK_pointer, okK_SL, okK_EP, okK_sv, okK_vs, List.getD_cons_succ, List.getD_cons_zero, gd_tt, gd_ff, gd_tf, gd_ft, gd_ut, gdC_tt, gdC_ff, gdC_tf, gdC_ft, gdC_ut, ret_run, vPick_bool, if_true, if_false, reduceIte, Nat.reduceEqDiff, Bool.false_eq_true, okC_bool, okC_int, okC_string, okC_slice, okC_iface, okC_vs, okC_sv, okC_EP, dem_undef, dem_int, dem_bool, dem_string, dem_nil, dem_agg, dem_func, dem_pointer, dem_vs, dem_sv, dem_dem, vBin_int, vBin_string, vBin_bool, vConv_int, vExtract_tuple, List.getElem?_cons_succ, List.getElem?_cons_zero, Option.map_some, aBin_add, aBin_sub, aBin_mul, aBin_eql, aBin_neq, aBin_lss, aBin_leq, aBin_gtr, aBin_geq, aUn_not, Bool.not_true, Bool.not_false, Bool.true_eq_false, decide_true, decide_false, eq_self, exd_0_1, exd_0_2, exd_1_2, exd_0_3, exd_1_3, exd_2_3, exd_0_4, exd_1_4, exd_2_4, exd_3_4, exd_0_5, exd_1_5, exd_2_5, exd_3_5, exd_4_5, hlt, e1, iz_load, h1, cv_int_uint64, w1, g1, e2, wi]
      obtain ⟨e, T', g1, g2⟩ := ih (pre ++ [n]) ((loopV_step hr).symm.trans hL) rfl rfl rfl rfl (by rw [if_neg (show ¬ pre ++ [n] = [] by simp)]; rfl) (by simp [hl])
      refine ⟨e, T', g1, ?_⟩
      by_cases h2 : ∃ m ∈ suf, m < -1
      · rw [if_pos h2] at g2
        obtain ⟨m, hm, hm2⟩ := h2
        rw [if_pos ⟨m, by simp [hm], hm2⟩]
        exact g2
      · rw [if_neg h2] at g2
        rw [if_neg (by rintro ⟨m, hm, hm2⟩; rcases List.mem_cons.1 hm with rfl | hm; exact h1 hm2; exact h2 ⟨m, hm, hm2⟩)]
        exact g2
theorem wire_Nums.v {k : Nat} {l : List Int} (hv : Okl k l) (hk : k ≠ 2) (hb : ∀ n ∈ l, n < 9223372036854775808) (S : AHeap) : vlim Try.prog O wire_Nums.id [iz k l] S = some (numsV 0 l, S) := by
  obtain ⟨T, hTe⟩ : ∃ T, T = (iz k l :: undef :: undef :: undef :: undef :: undef :: undef :: undef :: undef :: undef :: undef :: undef :: undef :: undef :: undef :: undef :: undef :: undef :: undef :: undef :: undef :: undef :: undef :: undef :: undef :: undef :: []) := ⟨_, rfl⟩
  have hr : vcodeV Try.prog O wire_Nums.code T S = vcodeV Try.prog O wire_Nums.code T S := rfl
  unfold numsV
  by_cases h1 : 64 < l.length
  · have d1 : (64 : Int) < (l.length : Int) := by omega
    conv at hr =>
      rhs
      rw [hTe]
      simp only [wire_Nums.code, wire_Nums.r0, wire_Nums.r1, wire_Nums.r2, wire_Nums.r3, wire_Nums.r4, wire_Nums.r5, wire_Nums.r6, wire_Nums.r7, wire_Nums.r8, wire_Nums.r9, wire_Nums.r10, wire_Nums.r11, vcodeV_seq, vcodeV_region, vcodeV_block, vcodeV_skip, vcodeV_ret, vcodeV_exit, vcodeV_cond, vcodeV_loop, andThen_some, regV_some, seqV_normal, seqV_exit, seqV_ret, blockV_normal, blockV_ret, blockV_exit, condK_true, condK_false, andK_some, gdK_tt, gdK_ff, gdK_tf, gdK_ft, gdK_ut, gdCK_tt, gdCK_ff, gdCK_tf, gdCK_ft, gdCK_ut, okK_bool, okK_int, okK_string, okK_slice, okK_pointer, okK_SL, okK_EP, okK_sv, okK_vs, List.getD_cons_succ, List.getD_cons_zero, gd_tt, gd_ff, gd_tf, gd_ft, gd_ut, gdC_tt, gdC_ff, gdC_tf, gdC_ft, gdC_ut, ret_run, vPick_bool, if_true, if_false, reduceIte, Nat.reduceEqDiff, Bool.false_eq_true, okC_bool, okC_int, okC_string, okC_slice, okC_iface, okC_vs, okC_sv, okC_EP, dem_undef, dem_int, dem_bool, dem_string, dem_nil, dem_agg, dem_func, dem_pointer, dem_vs, dem_sv, dem_dem, vBin_int, vBin_string, vBin_bool, vConv_int, vExtract_tuple, List.getElem?_cons_succ, List.getElem?_cons_zero, Option.map_some, aBin_add, aBin_sub, aBin_mul, aBin_eql, aBin_neq, aBin_lss, aBin_leq, aBin_gtr, aBin_geq, aUn_not, Bool.not_true, Bool.not_false, Bool.true_eq_false, decide_true, decide_false, eq_self, exd_0_1, exd_0_2, exd_1_2, exd_0_3, exd_1_3, exd_2_3, exd_0_4, exd_1_4, exd_2_4, exd_3_4, exd_0_5, exd_1_5, exd_2_5, exd_3_5, exd_4_5, if_neg hk, iz_len hv, goInt, d1]
    rw [hTe] at hr
    rw [if_pos (.inl h1)]
    exact wire_Nums.runs hr (.inr rfl) (by simp only [List.getD_cons_succ, List.getD_cons_zero, notTuple_vs, notTuple_int, notTuple_slice, notTuple_bool, notTuple_agg]) (by simp only [List.getD_cons_succ, List.getD_cons_zero, notTuple_vs, notTuple_int, notTuple_slice, notTuple_bool, notTuple_agg])
  · have d1 : ¬ (64 : Int) < (l.length : Int) := by omega
    conv at hr =>
      rhs
      rw [hTe]
      simp only [wire_Nums.code, wire_Nums.r0, wire_Nums.r1, wire_Nums.r2, wire_Nums.r3, wire_Nums.r4, wire_Nums.r5, wire_Nums.r6, wire_Nums.r7, wire_Nums.r8, wire_Nums.r9, wire_Nums.r10, wire_Nums.r11, vcodeV_seq, vcodeV_region, vcodeV_block, vcodeV_skip, vcodeV_ret, vcodeV_exit, vcodeV_cond, vcodeV_loop, andThen_some, regV_some, seqV_normal, seqV_exit, seqV_ret, blockV_normal, blockV_ret, blockV_exit, condK_true, condK_false, andK_some, gdK_tt, gdK_ff, gdK_tf, gdK_ft, gdK_ut, gdCK_tt, gdCK_ff, gdCK_tf, gdCK_ft, gdCK_ut, okK_bool, okK_int, okK_string, okK_slice, okK_pointer, okK_SL, okK_EP, okK_sv, okK_vs, List.getD_cons_succ, List.getD_cons_zero, gd_tt, gd_ff, gd_tf, gd_ft, gd_ut, gdC_tt, gdC_ff, gdC_tf, gdC_ft, gdC_ut, ret_run, vPick_bool, if_true, if_false, reduceIte, Nat.reduceEqDiff, Bool.false_eq_true, okC_bool, okC_int, okC_string, okC_slice, okC_iface, okC_vs, okC_sv, okC_EP, dem_undef, dem_int, dem_bool, dem_string, dem_nil, dem_agg, dem_func, dem_pointer, dem_vs, dem_sv, dem_dem, vBin_int, vBin_string, vBin_bool, vConv_int, vExtract_tuple, List.getElem?_cons_succ, List.getElem?_cons_zero, Option.map_some, aBin_add, aBin_sub, aBin_mul, aBin_eql, aBin_neq, aBin_lss, aBin_leq, aBin_gtr, aBin_geq, aUn_not, Bool.not_true, Bool.not_false, Bool.true_eq_false, decide_true, decide_false, eq_self, exd_0_1, exd_0_2, exd_1_2, exd_0_3, exd_1_3, exd_2_3, exd_0_4, exd_1_4, exd_2_4, exd_3_4, exd_0_5, exd_1_5, exd_2_5, exd_3_5, exd_4_5, if_neg hk, iz_len hv, goInt, d1, bs_L_uint8_0, by2_0]
    generalize hL : loopV (vcodeV Try.prog O wire_Nums.loop1) _ _ = r at hr
    obtain ⟨e, T', rfl, g⟩ := wire_Nums.round hv hk (by omega) hb l [] hL rfl rfl rfl rfl rfl rfl
    by_cases h2 : ∃ n ∈ l, n < -1
    · rw [if_pos h2] at g
      obtain ⟨rfl, g2, g3⟩ := g
      conv at hr =>
        rhs
        simp only [vcodeV_seq, vcodeV_region, vcodeV_block, vcodeV_skip, vcodeV_ret, vcodeV_exit, vcodeV_cond, vcodeV_loop, andThen_some, regV_some, seqV_normal, seqV_exit, seqV_ret, blockV_normal, blockV_ret, blockV_exit, condK_true, condK_false, andK_some, gdK_tt, gdK_ff, gdK_tf, gdK_ft, gdK_ut, gdCK_tt, gdCK_ff, gdCK_tf, gdCK_ft, gdCK_ut, okK_bool, okK_int, okK_string, okK_slice, okK_pointer, okK_SL, okK_EP, okK_sv, okK_vs, List.getD_cons_succ, List.getD_cons_zero, gd_tt, gd_ff, gd_tf, gd_ft, gd_ut, gdC_tt, gdC_ff, gdC_tf, gdC_ft, gdC_ut, ret_run, vPick_bool, if_true, if_false, reduceIte, Nat.reduceEqDiff, Bool.false_eq_true, okC_bool, okC_int, okC_string, okC_slice, okC_iface, okC_vs, okC_sv, okC_EP, dem_undef, dem_int, dem_bool, dem_string, dem_nil, dem_agg, dem_func, dem_pointer, dem_vs, dem_sv, dem_dem, vBin_int, vBin_string, vBin_bool, vConv_int, vExtract_tuple, List.getElem?_cons_succ, List.getElem?_cons_zero, Option.map_some, aBin_add, aBin_sub, aBin_mul, aBin_eql, aBin_neq, aBin_lss, aBin_leq, aBin_gtr, aBin_geq, aUn_not, Bool.not_true, Bool.not_false, Bool.true_eq_false, decide_true, decide_false, eq_self, exd_0_1, exd_0_2, exd_1_2, exd_0_3, exd_1_3, exd_2_3, exd_0_4, exd_1_4, exd_2_4, exd_3_4, exd_0_5, exd_1_5, exd_2_5, exd_3_5, exd_4_5]
      rw [hTe] at hr
      rw [if_pos (.inr h2)]
      have hrun := wire_Nums.runs hr (.inr rfl) (by rw [g2]; rfl) (by rw [g3]; rfl)
      rw [g2, g3] at hrun
      exact hrun
    · rw [if_neg h2] at g
      obtain ⟨rfl, g2, g3⟩ := g
      have hTe' := wire_Nums.eta g2
      rw [g3] at hTe'
      conv at hr =>
        rhs
        rw [hTe']
        simp only [wire_Nums.code, wire_Nums.r0, wire_Nums.r1, wire_Nums.r2, wire_Nums.r3, wire_Nums.r4, wire_Nums.r5, wire_Nums.r6, wire_Nums.r7, wire_Nums.r8, wire_Nums.r9, wire_Nums.r10, wire_Nums.r11, vcodeV_seq, vcodeV_region, vcodeV_block, vcodeV_skip, vcodeV_ret, vcodeV_exit, vcodeV_cond, vcodeV_loop, andThen_some, regV_some, seqV_normal, seqV_exit, seqV_ret, blockV_normal, blockV_ret, blockV_exit, condK_true, condK_false, andK_some, gdK_tt, gdK_ff, gdK_tf, gdK_ft, gdK_ut, gdCK_tt, gdCK_ff, gdCK_tf, gdCK_ft, gdCK_ut, okK_bool, okK_int, okK_string, okK_slice, okK_pointer, okK_SL, okK_EP, okK_sv, okK_vs, List.getD_cons_succ, List.getD_cons_zero, gd_tt, gd_ff, gd_tf, gd_ft, gd_ut, gdC_tt, gdC_ff, gdC_tf, gdC_ft, gdC_ut, ret_run, vPick_bool, if_true, if_false, reduceIte, Nat.reduceEqDiff, Bool.false_eq_true, okC_bool, okC_int, okC_string, okC_slice, okC_iface, okC_vs, okC_sv, okC_EP, dem_undef, dem_int, dem_bool, dem_string, dem_nil, dem_agg, dem_func, dem_pointer, dem_vs, dem_sv, dem_dem, vBin_int, vBin_string, vBin_bool, vConv_int, vExtract_tuple, List.getElem?_cons_succ, List.getElem?_cons_zero, Option.map_some, aBin_add, aBin_sub, aBin_mul, aBin_eql, aBin_neq, aBin_lss, aBin_leq, aBin_gtr, aBin_geq, aUn_not, Bool.not_true, Bool.not_false, Bool.true_eq_false, decide_true, decide_false, eq_self, exd_0_1, exd_0_2, exd_1_2, exd_0_3, exd_1_3, exd_2_3, exd_0_4, exd_1_4, exd_2_4, exd_3_4, exd_0_5, exd_1_5, exd_2_5, exd_3_5, exd_4_5]
      rw [hTe] at hr
      rw [if_neg (by rintro (h | h); exact h1 h; exact h2 h)]
      exact wire_Nums.runs hr (.inr rfl) (by simp only [List.getD_cons_succ, List.getD_cons_zero, notTuple_vs, notTuple_int, notTuple_slice, notTuple_bool, notTuple_agg]) (by simp only [List.getD_cons_succ, List.getD_cons_zero, notTuple_vs, notTuple_int, notTuple_slice, notTuple_bool, notTuple_agg])
theorem neaptideref01_Nums.round {k : Nat} {l : List Int} (hv : Okl k l) (hk : k ≠ 2) (h64 : l.length ≤ 64) (hb : ∀ n ∈ l, n < 9223372036854775808) {S : AHeap} : ∀ (suf pre : List Int) {T : List Value} {r : St}, loopV (vcodeV Try.prog O neaptideref01_Nums.loop1) T S = r → T.length = 27 →
    T.getD 11 undef = iz k l → T.getD 12 undef = .int .i64 l.length → T.getD 13 undef = .int .i64 pre.length → T.getD 4 undef = by_ (if pre = [] then 2 else 2) (encs pre) → l = pre ++ suf →
    ∃ e T', r = some (e, T', S) ∧ if (∃ n ∈ suf, n < -1) then e = .ret ∧ T'.getD 2 undef = .slice none 0 0 ∧ T'.getD 3 undef = .int .i64 11 else e = .exit 0 ∧ T'.length = 27 ∧ T'.getD 4 undef = by_ (if l = [] then 2 else 2) (encs l) := by
  intro suf
  induction suf with
  | nil =>
    intro pre T r hL hT ha hb hc h4 hl
    have hTe := neaptideref01_Nums.eta hT
    rw [ha, hb, hc, h4] at hTe
    have hr : vcodeV Try.prog O neaptideref01_Nums.loop1 T S = vcodeV Try.prog O neaptideref01_Nums.loop1 T S := rfl
    have hd : ¬ (pre.length : Int) < (l.length : Int) := by rw [hl]; simp
    conv at hr =>
      rhs
      rw [hTe]
      simp only [neaptideref01_Nums.loop1, neaptideref01_Nums.code, neaptideref01_Nums.r0, neaptideref01_Nums.r1, neaptideref01_Nums.r2, neaptideref01_Nums.r3, neaptideref01_Nums.r4, neaptideref01_Nums.r5, neaptideref01_Nums.r6, neaptideref01_Nums.r7, neaptideref01_Nums.r8, neaptideref01_Nums.r9, neaptideref01_Nums.r10, neaptideref01_Nums.r11, vcodeV_seq, vcodeV_region, vcodeV_block, vcodeV_skip, vcodeV_ret, vcodeV_exit, vcodeV_cond, vcodeV_loop, andThen_some, regV_some, seqV_normal, seqV_exit, seqV_ret, blockV_normal, blockV_ret, blockV_exit, condK_true, condK_false, andK_some, gdK_tt, gdK_ff, gdK_tf, gdK_ft, gdK_ut, gdCK_tt, gdCK_ff, gdCK_tf, gdCK_ft, gdCK_ut, okK_bool, okK_int, okK_string, okK_slice, okK_pointer, okK_SL, okK_EP, okK_sv, okK_vs, List.getD_cons_succ, List.getD_cons_zero, gd_tt, gd_ff, gd_tf, gd_ft, gd_ut, gdC_tt, gdC_ff, gdC_tf, gdC_ft, gdC_ut, ret_run, vPick_bool, if_true, if_false, reduceIte, Nat.reduceEqDiff, Bool.false_eq_true, okC_bool, okC_int, okC_string, okC_slice, okC_iface, okC_vs, okC_sv, okC_EP, dem_undef, dem_int, dem_bool, dem_string, dem_nil, dem_agg, dem_func, dem_pointer, dem_vs, dem_sv, dem_dem, vBin_int, vBin_string, vBin_bool, vConv_int, vExtract_tuple, List.getElem?_cons_succ, List.getElem?_cons_zero, Option.map_some, aBin_add, aBin_sub, aBin_mul, aBin_eql, aBin_neq, aBin_lss, aBin_leq, aBin_gtr, aBin_geq, aUn_not, Bool.not_true, Bool.not_false, Bool.true_eq_false, decide_true, decide_false, eq_self, exd_0_1, exd_0_2, exd_1_2, exd_0_3, exd_1_3, exd_2_3, exd_0_4, exd_1_4, exd_2_4, exd_3_4, exd_0_5, exd_1_5, exd_2_5, exd_3_5, exd_4_5, hd]
    refine ⟨_, _, hL.symm.trans (loopV_exit hr (by simp)), ?_⟩
    rw [if_neg (by simp)]
    simp only [List.append_nil] at hl
    subst hl
    exact ⟨rfl, rfl, rfl⟩
  | cons n suf ih =>
    intro pre T r hL hT ha hbb hc h4 hl
    have hTe := neaptideref01_Nums.eta hT
    rw [ha, hbb, hc, h4] at hTe
    have hr : vcodeV Try.prog O neaptideref01_Nums.loop1 T S = vcodeV Try.prog O neaptideref01_Nums.loop1 T S := rfl
    have hll : l.length = pre.length + (suf.length + 1) := by rw [hl]; simp
    have hlt : (pre.length : Int) < (l.length : Int) := by omega
    have e1 : ∀ S, vIndexAddr Try.prog 43 (iz k l) (.int .i64 pre.length) S = some (EP [.int .i64 n], S) := fun S => by
      rw [iz_at hv (by omega) hlt]; rw [iz_at_pre hl]
    have hn := hb n (by rw [hl]; simp)
    by_cases h1 : n < -1
    · conv at hr =>
        rhs
        rw [hTe]
        simp only [neaptideref01_Nums.loop1, neaptideref01_Nums.code, neaptideref01_Nums.r0, neaptideref01_Nums.r1, neaptideref01_Nums.r2, neaptideref01_Nums.r3, neaptideref01_Nums.r4, neaptideref01_Nums.r5, neaptideref01_Nums.r6, neaptideref01_Nums.r7, neaptideref01_Nums.r8, neaptideref01_Nums.r9, neaptideref01_Nums.r10, neaptideref01_Nums.r11, vcodeV_seq, vcodeV_region, vcodeV_block, vcodeV_skip, vcodeV_ret, vcodeV_exit, vcodeV_cond, vcodeV_loop, andThen_some, regV_some, seqV_normal, seqV_exit, seqV_ret, blockV_normal, blockV_ret, blockV_exit, condK_true, condK_false, andK_some, gdK_tt, gdK_ff, gdK_tf, gdK_ft, gdK_ut, gdCK_tt, gdCK_ff, gdCK_tf, gdCK_ft, gdCK_ut, okK_bool, okK_int, okK_string, okK_slice, okK_pointer, okK_SL, okK_EP, okK_sv, okK_vs, List.getD_cons_succ, List.getD_cons_zero, gd_tt, gd_ff, gd_tf, gd_ft, gd_ut, gdC_tt, gdC_ff, gdC_tf, gdC_ft, gdC_ut, ret_run, vPick_bool, if_true, if_false, reduceIte, Nat.reduceEqDiff, Bool.false_eq_true, okC_bool, okC_int, okC_string, okC_slice, okC_iface, okC_vs, okC_sv, okC_EP, dem_undef, dem_int, dem_bool, dem_string, dem_nil, dem_agg, dem_func, dem_pointer, dem_vs, dem_sv, dem_dem, vBin_int, vBin_string, vBin_bool, vConv_int, vExtract_tuple, List.getElem?_cons_succ, List.getElem?_cons_zero, Option.map_some, aBin_add, aBin_sub, aBin_mul, aBin_eql, aBin_neq, aBin_lss, aBin_leq, aBin_gtr, aBin_geq, aUn_not, Bool.not_true, Bool.not_false, Bool.true_eq_false, decide_true, decide_false, eq_self, exd_0_1, exd_0_2, exd_1_2, exd_0_3, exd_1_3, exd_2_3, exd_0_4, exd_1_4, exd_2_4, exd_3_4, exd_0_5, exd_1_5, exd_2_5, exd_3_5, exd_4_5, hlt, e1, iz_load, h1]
      refine ⟨_, _, hL.symm.trans (loopV_exit hr (by simp)), ?_⟩
      rw [if_pos ⟨n, by simp, h1⟩]
      exact ⟨rfl, rfl, rfl⟩
    · have w1 := wrap_plus1 (n := n) (by omega) (by omega)
      have hpb : (encs pre).length ≤ pre.length * 10 := encs_len fun m hm => hb m (by rw [hl]; simp [hm])
      have hp10 : (enc (n + 1).toNat).length ≤ 10 := enc_len10 (by omega)
      have hpp := enc_pos (n + 1).toNat
      have g1 := fun S => neaptideref01_Num.v (n + 1).toNat (by omega) S
      have e2 : ∀ S, vAppend Try.prog 23 23 (by_ (if pre = [] then 2 else 2) (encs pre)) (by_ 2 (enc (n + 1).toNat)) S = some (by_ 2 (encs (pre ++ [n])), S) := fun S => by
        have ok : Okl (if pre = [] then 2 else 2) (encs pre) := ⟨by split <;> omega, fun h => by split at h <;> first | (rename_i hp; subst hp; rfl) | omega⟩
        rw [by_append ok (by split <;> omega) Okl.own (by omega), if_neg (fun h => by have := h.2; omega), encs_append, encs_one]
      have wi : IntKind.i64.wrap ((pre.length : Int) + 1) = ((pre ++ [n]).length : Int) := by rw [wrap_i64 (by omega) (by omega)]; simp
      conv at hr =>
        rhs
        rw [hTe]
        simp only [neaptideref01_Nums.loop1, neaptideref01_Nums.code, neaptideref01_Nums.r0, neaptideref01_Nums.r1, neaptideref01_Nums.r2, neaptideref01_Nums.r3, neaptideref01_Nums.r4, neaptideref01_Nums.r5, neaptideref01_Nums.r6, neaptideref01_Nums.r7, neaptideref01_Nums.r8, neaptideref01_Nums.r9, neaptideref01_Nums.r10, neaptideref01_Nums.r11, vcodeV_seq, vcodeV_region, vcodeV_block, vcodeV_skip, vcodeV_ret, vcodeV_exit, vcodeV_cond, vcodeV_loop, andThen_some, regV_some, seqV_normal, seqV_exit, seqV_ret, blockV_normal, blockV_ret, blockV_exit, condK_true, condK_false, andK_some, gdK_tt, gdK_ff, gdK_tf, gdK_ft, gdK_ut, gdCK_tt, gdCK_ff, gdCK_tf, gdCK_ft, gdCK_ut, okK_bool, okK_int, okK_string, okK_slice, okK_pointer, okK_SL, okK_EP, okK_sv, okK_vs, List.getD_cons_succ, List.getD_cons_zero, gd_tt, gd_ff, gd_tf, gd_ft, gd_ut, gdC_tt, gdC_ff, gdC_tf, gdC_ft, gdC_ut, ret_run, vPick_bool, if_true, if_false, reduceIte, Nat.reduceEqDiff, Bool.false_eq_true, okC_bool, okC_int, okC_string, okC_slice, okC_iface, okC_vs, okC_sv, okC_EP, dem_undef, dem_int, dem_bool, dem_string, dem_nil, dem_agg, dem_func, dem_pointer, dem_vs, dem_sv, dem_dem, vBin_int, vBin_string, vBin_bool, vConv_int, vExtract_tuple, List.getElem?_cons_succ, List.getElem?_cons_zero, Option.map_some, aBin_add, aBin_sub, aBin_mul, aBin_eql, aBin_neq, aBin_lss, aBin_leq, aBin_gtr, aBin_geq, aUn_not, Bool.not_true, Bool.not_false, Bool.true_eq_false, decide_true, decide_false, eq_self, exd_0_1, exd_0_2, exd_1_2, exd_0_3, exd_1_3, exd_2_3, exd_0_4, exd_1_4, exd_2_4, exd_3_4, exd_0_5, exd_1_5, exd_2_5, exd_3_5, exd_4_5, hlt, e1, iz_load, h1, cv_int_uint64, w1, g1, e2, wi]
      obtain ⟨e, T', g1, g2⟩ := ih (pre ++ [n]) ((loopV_step hr).symm.trans hL) rfl rfl rfl rfl (by rw [if_neg (show ¬ pre ++ [n] = [] by simp)]; rfl) (by simp [hl])
      refine ⟨e, T', g1, ?_⟩
      by_cases h2 : ∃ m ∈ suf, m < -1
      · rw [if_pos h2] at g2
        obtain ⟨m, hm, hm2⟩ := h2
        rw [if_pos ⟨m, by simp [hm], hm2⟩]
        exact g2
      · rw [if_neg h2] at g2
        rw [if_neg (by rintro ⟨m, hm, hm2⟩; rcases List.mem_cons.1 hm with rfl | hm; exact h1 hm2; exact h2 ⟨m, hm, hm2⟩)]
        exact g2
theorem neaptideref01_Nums.v {k : Nat} {l : List Int} (hv : Okl k l) (hk : k ≠ 2) (hb : ∀ n ∈ l, n < 9223372036854775808) (S : AHeap) : vlim Try.prog O neaptideref01_Nums.id [iz k l] S = some (numsV 2 l, S) := by
  obtain ⟨T, hTe⟩ : ∃ T, T = (iz k l :: undef :: undef :: undef :: undef :: undef :: undef :: undef :: undef :: undef :: undef :: undef :: undef :: undef :: undef :: undef :: undef :: undef :: undef :: undef :: undef :: undef :: undef :: undef :: undef :: undef :: undef :: []) := ⟨_, rfl⟩
  have hr : vcodeV Try.prog O neaptideref01_Nums.code T S = vcodeV Try.prog O neaptideref01_Nums.code T S := rfl
  unfold numsV
  by_cases h1 : 64 < l.length
  · have d1 : (64 : Int) < (l.length : Int) := by omega
    conv at hr =>
      rhs
      rw [hTe]
      simp only [neaptideref01_Nums.code, neaptideref01_Nums.r0, neaptideref01_Nums.r1, neaptideref01_Nums.r2, neaptideref01_Nums.r3, neaptideref01_Nums.r4, neaptideref01_Nums.r5, neaptideref01_Nums.r6, neaptideref01_Nums.r7, neaptideref01_Nums.r8, neaptideref01_Nums.r9, neaptideref01_Nums.r10, neaptideref01_Nums.r11, vcodeV_seq, vcodeV_region, vcodeV_block, vcodeV_skip, vcodeV_ret, vcodeV_exit, vcodeV_cond, vcodeV_loop, andThen_some, regV_some, seqV_normal, seqV_exit, seqV_ret, blockV_normal, blockV_ret, blockV_exit, condK_true, condK_false, andK_some, gdK_tt, gdK_ff, gdK_tf, gdK_ft, gdK_ut, gdCK_tt, gdCK_ff, gdCK_tf, gdCK_ft, gdCK_ut, okK_bool, okK_int, okK_string, okK_slice, okK_pointer, okK_SL, okK_EP, okK_sv, okK_vs, List.getD_cons_succ, List.getD_cons_zero, gd_tt, gd_ff, gd_tf, gd_ft, gd_ut, gdC_tt, gdC_ff, gdC_tf, gdC_ft, gdC_ut, ret_run, vPick_bool, if_true, if_false, reduceIte, Nat.reduceEqDiff, Bool.false_eq_true, okC_bool, okC_int, okC_string, okC_slice, okC_iface, okC_vs, okC_sv, okC_EP, dem_undef, dem_int, dem_bool, dem_string, dem_nil, dem_agg, dem_func, dem_pointer, dem_vs, dem_sv, dem_dem, vBin_int, vBin_string, vBin_bool, vConv_int, vExtract_tuple, List.getElem?_cons_succ, List.getElem?_cons_zero, Option.map_some, aBin_add, aBin_sub, aBin_mul, aBin_eql, aBin_neq, aBin_lss, aBin_leq, aBin_gtr, aBin_geq, aUn_not, Bool.not_true, Bool.not_false, Bool.true_eq_false, decide_true, decide_false, eq_self, exd_0_1, exd_0_2, exd_1_2, exd_0_3, exd_1_3, exd_2_3, exd_0_4, exd_1_4, exd_2_4, exd_3_4, exd_0_5, exd_1_5, exd_2_5, exd_3_5, exd_4_5, if_neg hk, iz_len hv, goInt, d1]
    rw [hTe] at hr
    rw [if_pos (.inl h1)]
    exact neaptideref01_Nums.runs hr (.inr rfl) (by simp only [List.getD_cons_succ, List.getD_cons_zero, notTuple_vs, notTuple_int, notTuple_slice, notTuple_bool, notTuple_agg]) (by simp only [List.getD_cons_succ, List.getD_cons_zero, notTuple_vs, notTuple_int, notTuple_slice, notTuple_bool, notTuple_agg])
  · have d1 : ¬ (64 : Int) < (l.length : Int) := by omega
    conv at hr =>
      rhs
      rw [hTe]
      simp only [neaptideref01_Nums.code, neaptideref01_Nums.r0, neaptideref01_Nums.r1, neaptideref01_Nums.r2, neaptideref01_Nums.r3, neaptideref01_Nums.r4, neaptideref01_Nums.r5, neaptideref01_Nums.r6, neaptideref01_Nums.r7, neaptideref01_Nums.r8, neaptideref01_Nums.r9, neaptideref01_Nums.r10, neaptideref01_Nums.r11, vcodeV_seq, vcodeV_region, vcodeV_block, vcodeV_skip, vcodeV_ret, vcodeV_exit, vcodeV_cond, vcodeV_loop, andThen_some, regV_some, seqV_normal, seqV_exit, seqV_ret, blockV_normal, blockV_ret, blockV_exit, condK_true, condK_false, andK_some, gdK_tt, gdK_ff, gdK_tf, gdK_ft, gdK_ut, gdCK_tt, gdCK_ff, gdCK_tf, gdCK_ft, gdCK_ut, okK_bool, okK_int, okK_string, okK_slice, okK_pointer, okK_SL, okK_EP, okK_sv, okK_vs, List.getD_cons_succ, List.getD_cons_zero, gd_tt, gd_ff, gd_tf, gd_ft, gd_ut, gdC_tt, gdC_ff, gdC_tf, gdC_ft, gdC_ut, ret_run, vPick_bool, if_true, if_false, reduceIte, Nat.reduceEqDiff, Bool.false_eq_true, okC_bool, okC_int, okC_string, okC_slice, okC_iface, okC_vs, okC_sv, okC_EP, dem_undef, dem_int, dem_bool, dem_string, dem_nil, dem_agg, dem_func, dem_pointer, dem_vs, dem_sv, dem_dem, vBin_int, vBin_string, vBin_bool, vConv_int, vExtract_tuple, List.getElem?_cons_succ, List.getElem?_cons_zero, Option.map_some, aBin_add, aBin_sub, aBin_mul, aBin_eql, aBin_neq, aBin_lss, aBin_leq, aBin_gtr, aBin_geq, aUn_not, Bool.not_true, Bool.not_false, Bool.true_eq_false, decide_true, decide_false, eq_self, exd_0_1, exd_0_2, exd_1_2, exd_0_3, exd_1_3, exd_2_3, exd_0_4, exd_1_4, exd_2_4, exd_3_4, exd_0_5, exd_1_5, exd_2_5, exd_3_5, exd_4_5, if_neg hk, iz_len hv, goInt, d1, bs_L_uint8_0, by2_0]
    generalize hL : loopV (vcodeV Try.prog O neaptideref01_Nums.loop1) _ _ = r at hr
    obtain ⟨e, T', rfl, g⟩ := neaptideref01_Nums.round hv hk (by omega) hb l [] hL rfl rfl rfl rfl rfl rfl
    by_cases h2 : ∃ n ∈ l, n < -1
    · rw [if_pos h2] at g
      obtain ⟨rfl, g2, g3⟩ := g
      conv at hr =>
        rhs
        simp only [vcodeV_seq, vcodeV_region, vcodeV_block, vcodeV_skip, vcodeV_ret, vcodeV_exit, vcodeV_cond, vcodeV_loop, andThen_some, regV_some, seqV_normal, seqV_exit, seqV_ret, blockV_normal, blockV_ret, blockV_exit, condK_true, condK_false, andK_some, gdK_tt, gdK_ff, gdK_tf, gdK_ft, gdK_ut, gdCK_tt, gdCK_ff, gdCK_tf, gdCK_ft, gdCK_ut, okK_bool, okK_int, okK_string, okK_slice, okK_pointer, okK_SL, okK_EP, okK_sv, okK_vs, List.getD_cons_succ, List.getD_cons_zero, gd_tt, gd_ff, gd_tf, gd_ft, gd_ut, gdC_tt, gdC_ff, gdC_tf, gdC_ft, gdC_ut, ret_run, vPick_bool, if_true, if_false, reduceIte, Nat.reduceEqDiff, Bool.false_eq_true, okC_bool, okC_int, okC_string, okC_slice, okC_iface, okC_vs, okC_sv, okC_EP, dem_undef, dem_int, dem_bool, dem_string, dem_nil, dem_agg, dem_func, dem_pointer, dem_vs, dem_sv, dem_dem, vBin_int, vBin_string, vBin_bool, vConv_int, vExtract_tuple, List.getElem?_cons_succ, List.getElem?_cons_zero, Option.map_some, aBin_add, aBin_sub, aBin_mul, aBin_eql, aBin_neq, aBin_lss, aBin_leq, aBin_gtr, aBin_geq, aUn_not, Bool.not_true, Bool.not_false, Bool.true_eq_false, decide_true, decide_false, eq_self, exd_0_1, exd_0_2, exd_1_2, exd_0_3, exd_1_3, exd_2_3, exd_0_4, exd_1_4, exd_2_4, exd_3_4, exd_0_5, exd_1_5, exd_2_5, exd_3_5, exd_4_5]
      rw [hTe] at hr
      rw [if_pos (.inr h2)]
      have hrun := neaptideref01_Nums.runs hr (.inr rfl) (by rw [g2]; rfl) (by rw [g3]; rfl)
      rw [g2, g3] at hrun
      exact hrun
    · rw [if_neg h2] at g
      obtain ⟨rfl, g2, g3⟩ := g
      have hTe' := neaptideref01_Nums.eta g2
      rw [g3] at hTe'
      conv at hr =>
        rhs
        rw [hTe']
        simp only [neaptideref01_Nums.code, neaptideref01_Nums.r0, neaptideref01_Nums.r1, neaptideref01_Nums.r2, neaptideref01_Nums.r3, neaptideref01_Nums.r4, neaptideref01_Nums.r5, neaptideref01_Nums.r6, neaptideref01_Nums.r7, neaptideref01_Nums.r8, neaptideref01_Nums.r9, neaptideref01_Nums.r10, neaptideref01_Nums.r11, vcodeV_seq, vcodeV_region, vcodeV_block, vcodeV_skip, vcodeV_ret, vcodeV_exit, vcodeV_cond, vcodeV_loop, andThen_some, regV_some, seqV_normal, seqV_exit, seqV_ret, blockV_normal, blockV_ret, blockV_exit, condK_true, condK_false, andK_some, gdK_tt, gdK_ff, gdK_tf, gdK_ft, gdK_ut, gdCK_tt, gdCK_ff, gdCK_tf, gdCK_ft, gdCK_ut, okK_bool, okK_int, okK_string, okK_slice, okK_pointer, okK_SL, okK_EP, okK_sv, okK_vs, List.getD_cons_succ, List.getD_cons_zero, gd_tt, gd_ff, gd_tf, gd_ft, gd_ut, gdC_tt, gdC_ff, gdC_tf, gdC_ft, gdC_ut, ret_run, vPick_bool, if_true, if_false, reduceIte, Nat.reduceEqDiff, Bool.false_eq_true, okC_bool, okC_int, okC_string, okC_slice, okC_iface, okC_vs, okC_sv, okC_EP, dem_undef, dem_int, dem_bool, dem_string, dem_nil, dem_agg, dem_func, dem_pointer, dem_vs, dem_sv, dem_dem, vBin_int, vBin_string, vBin_bool, vConv_int, vExtract_tuple, List.getElem?_cons_succ, List.getElem?_cons_zero, Option.map_some, aBin_add, aBin_sub, aBin_mul, aBin_eql, aBin_neq, aBin_lss, aBin_leq, aBin_gtr, aBin_geq, aUn_not, Bool.not_true, Bool.not_false, Bool.true_eq_false, decide_true, decide_false, eq_self, exd_0_1, exd_0_2, exd_1_2, exd_0_3, exd_1_3, exd_2_3, exd_0_4, exd_1_4, exd_2_4, exd_3_4, exd_0_5, exd_1_5, exd_2_5, exd_3_5, exd_4_5]
      rw [hTe] at hr
      rw [if_neg (by rintro (h | h); exact h1 h; exact h2 h)]
      exact neaptideref01_Nums.runs hr (.inr rfl) (by simp only [List.getD_cons_succ, List.getD_cons_zero, notTuple_vs, notTuple_int, notTuple_slice, notTuple_bool, notTuple_agg]) (by simp only [List.getD_cons_succ, List.getD_cons_zero, notTuple_vs, notTuple_int, notTuple_slice, notTuple_bool, notTuple_agg])
end Go.Proofs.Ytjlhjebmbllkiaa
