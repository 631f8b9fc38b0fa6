/-
There and back: the law's run.
-/
import Derived.Test.YtjlhjebmbllkiaaF10
import Derived.Test.YtjlhjebmbllkiaaVW8
import Derived.Test.YtjlhjebmbllkiaaVWords
set_option linter.unusedVariables false
set_option linter.unusedSimpArgs false
set_option maxRecDepth 100000
namespace Go.Proofs.Ytjlhjebmbllkiaa
open Go.Abs

theorem neaptidelaw01_wireAlive.v (S : AHeap) : vlim Try.prog O 12 [] S = some (.bool true, S) := vlim_run (n := 20) (by kernel_rfl)

theorem dem_ne2 (k : Nat) : (if k = 2 then 1 else k) ≠ 2 := by split <;> omega
theorem readNs_encs : ∀ (l : List Int) (t : List UInt8), (∀ n ∈ l, -1 ≤ n ∧ n < 9223372036854775808) → readNs l.length (encs l ++ t) = if (∀ n ∈ l, n ≤ 4611686018427387904) then some (l, t) else none := by
  intro l
  induction l with
  | nil => intro t _; rw [if_pos (fun n hn => by cases hn)]; rfl
  | cons n l ih =>
    intro t h
    have hn := h n (by simp)
    have e1 : encs (n :: l) ++ t = enc (n + 1).toNat ++ (encs l ++ t) := by simp [encs]
    rw [e1, List.length_cons, readNs, scan_enc (by omega)]
    dsimp only
    rw [ih t (fun m hm => h m (by simp [hm]))]
    by_cases h1 : n ≤ 4611686018427387904
    · rw [if_pos (by omega)]
      by_cases h2 : ∀ m ∈ l, m ≤ 4611686018427387904
      · rw [if_pos h2, if_pos (by intro m hm; rcases List.mem_cons.1 hm with rfl | hm; exact h1; exact h2 m hm)]
        dsimp only
        rw [show (((n + 1).toNat : Int) - 1) = n by omega]
      · rw [if_neg h2, if_neg (fun h3 => h2 fun m hm => h3 m (by simp [hm]))]
    · rw [if_neg (by omega), if_neg (fun h3 => h1 (h3 n (by simp)))]

theorem neaptidelaw01_WireBack.round {k : Nat} {l : List Int} (hk : Okl k l) (hl : l.length ≤ 100) {S : AHeap} : ∀ (suf pre : List Int) {T : List Value} {r : St}, loopV (vcodeV Try.prog O neaptidelaw01_WireBack.loop1) T S = r → T.length = 147 →
    T.getD 75 undef = iz k l → T.getD 76 undef = .int .i64 l.length → T.getD 77 undef = .int .i64 pre.length → T.getD 15 undef = .bool (decide (∀ n ∈ pre, n ≤ 4611686018427387904)) → l = pre ++ suf →
    ∃ T', r = some (.exit 0, T', S) ∧ T'.length = 147 ∧ T'.getD 15 undef = .bool (decide (∀ n ∈ l, n ≤ 4611686018427387904)) ∧
      T'.getD 1 undef = T.getD 1 undef ∧ T'.getD 2 undef = T.getD 2 undef ∧ T'.getD 12 undef = T.getD 12 undef ∧ T'.getD 13 undef = T.getD 13 undef ∧ T'.getD 14 undef = T.getD 14 undef := by
  intro suf
  induction suf with
  | nil =>
    intro pre T r hL hT h75 h76 h77 h15 hl
    have hTe := neaptidelaw01_WireBack.eta hT
    rw [h75, h76, h77, h15] at hTe
    have hr : vcodeV Try.prog O neaptidelaw01_WireBack.loop1 T S = vcodeV Try.prog O neaptidelaw01_WireBack.loop1 T S := rfl
    have hd : ¬ (pre.length : Int) < (l.length : Int) := by rw [hl]; simp
    conv at hr =>
      rhs
      rw [hTe]
      simp only [neaptidelaw01_WireBack.loop1, neaptidelaw01_WireBack.r13, vcodeV_seq, vcodeV_region, vcodeV_block, vcodeV_skip, vcodeV_ret, vcodeV_exit, vcodeV_cond, vcodeV_loop, andThen_some, regV_some, seqV_normal, seqV_exit, seqV_ret, blockV_normal, blockV_ret, blockV_exit, condK_true, condK_false, andK_some, gdK_tt, gdK_ff, gdK_tf, gdK_ft, gdK_ut, gdCK_tt, gdCK_ff, gdCK_tf, gdCK_ft, gdCK_ut, okK_bool, okK_int, okK_string, okK_slice, okK_pointer, okK_SL, okK_EP, okK_sv, okK_vs, List.getD_cons_succ, List.getD_cons_zero, gd_tt, gd_ff, gd_tf, gd_ft, gd_ut, gdC_tt, gdC_ff, gdC_tf, gdC_ft, gdC_ut, ret_run, vPick_bool, if_true, if_false, reduceIte, Nat.reduceEqDiff, Bool.false_eq_true, okC_bool, okC_int, okC_string, okC_slice, okC_iface, okC_vs, okC_sv, okC_EP, dem_undef, dem_int, dem_bool, dem_string, dem_nil, dem_agg, dem_func, dem_pointer, dem_vs, dem_sv, dem_dem, vBin_int, vBin_string, vBin_bool, vConv_int, vExtract_tuple, List.getElem?_cons_succ, List.getElem?_cons_zero, Option.map_some, aBin_add, aBin_sub, aBin_mul, aBin_eql, aBin_neq, aBin_lss, aBin_leq, aBin_gtr, aBin_geq, aUn_not, Bool.not_true, Bool.not_false, Bool.true_eq_false, decide_true, decide_false, eq_self, exd_0_1, exd_0_2, exd_1_2, exd_0_3, exd_1_3, exd_2_3, exd_0_4, exd_1_4, exd_2_4, exd_3_4, exd_0_5, exd_1_5, exd_2_5, exd_3_5, exd_4_5, hd]
    simp only [List.append_nil] at hl
    subst hl
    exact ⟨_, hL.symm.trans (loopV_exit hr (by simp)), rfl, rfl, rfl, rfl, rfl, rfl, rfl⟩
  | cons x suf ih =>
    intro pre T r hL hT h75 h76 h77 h15 hl2
    have hTe := neaptidelaw01_WireBack.eta hT
    rw [h75, h76, h77, h15] at hTe
    have hr : vcodeV Try.prog O neaptidelaw01_WireBack.loop1 T S = vcodeV Try.prog O neaptidelaw01_WireBack.loop1 T S := rfl
    have hd : (pre.length : Int) < (l.length : Int) := by rw [hl2]; simp; omega
    have e1 : ∀ S, vIndexAddr Try.prog 43 (iz k l) (.int .i64 pre.length) S = some (EP [.int .i64 x], S) := fun S => by
      rw [iz_at hk (by omega) hd]; rw [iz_at_pre hl2]
    have wi : IntKind.i64.wrap ((pre.length : Int) + 1) = ((pre ++ [x]).length : Int) := by rw [wrap_i64 (by omega) (by omega)]; simp
    have hall : decide (∀ n ∈ pre ++ [x], n ≤ 4611686018427387904) = (decide (∀ n ∈ pre, n ≤ 4611686018427387904) && decide (x ≤ 4611686018427387904)) := by
      rw [Bool.eq_iff_iff]
      simp only [decide_eq_true_eq, Bool.and_eq_true, List.mem_append, List.mem_singleton]
      exact ⟨fun h => ⟨fun n hn => h n (.inl hn), h x (.inr rfl)⟩, fun h n hn => hn.elim (h.1 n) (fun e => e ▸ h.2)⟩
    have hb : ∃ T1, vcodeV Try.prog O neaptidelaw01_WireBack.loop1 T S = some (.normal, T1, S) ∧ T1.length = 147 ∧ T1.getD 75 undef = iz k l ∧ T1.getD 76 undef = .int .i64 l.length ∧ T1.getD 77 undef = .int .i64 (pre ++ [x]).length ∧ T1.getD 15 undef = .bool (decide (∀ n ∈ pre ++ [x], n ≤ 4611686018427387904)) ∧
        T1.getD 1 undef = T.getD 1 undef ∧ T1.getD 2 undef = T.getD 2 undef ∧ T1.getD 12 undef = T.getD 12 undef ∧ T1.getD 13 undef = T.getD 13 undef ∧ T1.getD 14 undef = T.getD 14 undef := by
      rw [hall]
      rcases Bool.eq_false_or_eq_true (decide (∀ n ∈ pre, n ≤ 4611686018427387904)) with d | d
      · rw [d] at hTe
        conv at hr =>
          rhs
          rw [hTe]
          simp only [neaptidelaw01_WireBack.loop1, neaptidelaw01_WireBack.r13, neaptidelaw01_WireBack.r14, neaptidelaw01_WireBack.r15, neaptidelaw01_WireBack.r16, vcodeV_seq, vcodeV_region, vcodeV_block, vcodeV_skip, vcodeV_ret, vcodeV_exit, vcodeV_cond, vcodeV_loop, andThen_some, regV_some, seqV_normal, seqV_exit, seqV_ret, blockV_normal, blockV_ret, blockV_exit, condK_true, condK_false, andK_some, gdK_tt, gdK_ff, gdK_tf, gdK_ft, gdK_ut, gdCK_tt, gdCK_ff, gdCK_tf, gdCK_ft, gdCK_ut, okK_bool, okK_int, okK_string, okK_slice, okK_pointer, okK_SL, okK_EP, okK_sv, okK_vs, List.getD_cons_succ, List.getD_cons_zero, gd_tt, gd_ff, gd_tf, gd_ft, gd_ut, gdC_tt, gdC_ff, gdC_tf, gdC_ft, gdC_ut, ret_run, vPick_bool, if_true, if_false, reduceIte, Nat.reduceEqDiff, Bool.false_eq_true, okC_bool, okC_int, okC_string, okC_slice, okC_iface, okC_vs, okC_sv, okC_EP, dem_undef, dem_int, dem_bool, dem_string, dem_nil, dem_agg, dem_func, dem_pointer, dem_vs, dem_sv, dem_dem, vBin_int, vBin_string, vBin_bool, vConv_int, vExtract_tuple, List.getElem?_cons_succ, List.getElem?_cons_zero, Option.map_some, aBin_add, aBin_sub, aBin_mul, aBin_eql, aBin_neq, aBin_lss, aBin_leq, aBin_gtr, aBin_geq, aUn_not, Bool.not_true, Bool.not_false, Bool.true_eq_false, decide_true, decide_false, eq_self, exd_0_1, exd_0_2, exd_1_2, exd_0_3, exd_1_3, exd_2_3, exd_0_4, exd_1_4, exd_2_4, exd_3_4, exd_0_5, exd_1_5, exd_2_5, exd_3_5, exd_4_5, hd, e1, iz_load, wi]
        rw [d, Bool.true_and]
        exact ⟨_, hr, rfl, rfl, rfl, rfl, rfl, rfl, rfl, rfl, rfl, rfl⟩
      · rw [d] at hTe
        conv at hr =>
          rhs
          rw [hTe]
          simp only [neaptidelaw01_WireBack.loop1, neaptidelaw01_WireBack.r13, neaptidelaw01_WireBack.r14, neaptidelaw01_WireBack.r15, neaptidelaw01_WireBack.r16, vcodeV_seq, vcodeV_region, vcodeV_block, vcodeV_skip, vcodeV_ret, vcodeV_exit, vcodeV_cond, vcodeV_loop, andThen_some, regV_some, seqV_normal, seqV_exit, seqV_ret, blockV_normal, blockV_ret, blockV_exit, condK_true, condK_false, andK_some, gdK_tt, gdK_ff, gdK_tf, gdK_ft, gdK_ut, gdCK_tt, gdCK_ff, gdCK_tf, gdCK_ft, gdCK_ut, okK_bool, okK_int, okK_string, okK_slice, okK_pointer, okK_SL, okK_EP, okK_sv, okK_vs, List.getD_cons_succ, List.getD_cons_zero, gd_tt, gd_ff, gd_tf, gd_ft, gd_ut, gdC_tt, gdC_ff, gdC_tf, gdC_ft, gdC_ut, ret_run, vPick_bool, if_true, if_false, reduceIte, Nat.reduceEqDiff, Bool.false_eq_true, okC_bool, okC_int, okC_string, okC_slice, okC_iface, okC_vs, okC_sv, okC_EP, dem_undef, dem_int, dem_bool, dem_string, dem_nil, dem_agg, dem_func, dem_pointer, dem_vs, dem_sv, dem_dem, vBin_int, vBin_string, vBin_bool, vConv_int, vExtract_tuple, List.getElem?_cons_succ, List.getElem?_cons_zero, Option.map_some, aBin_add, aBin_sub, aBin_mul, aBin_eql, aBin_neq, aBin_lss, aBin_leq, aBin_gtr, aBin_geq, aUn_not, Bool.not_true, Bool.not_false, Bool.true_eq_false, decide_true, decide_false, eq_self, exd_0_1, exd_0_2, exd_1_2, exd_0_3, exd_1_3, exd_2_3, exd_0_4, exd_1_4, exd_2_4, exd_3_4, exd_0_5, exd_1_5, exd_2_5, exd_3_5, exd_4_5, hd, e1, iz_load, wi]
        rw [d, Bool.false_and]
        exact ⟨_, hr, rfl, rfl, rfl, rfl, rfl, rfl, rfl, rfl, rfl, rfl⟩
    obtain ⟨T1, hb1, b1, b2, b3, b4, b5, b6, b7, b8, b9, b10⟩ := hb
    obtain ⟨T', g1, g2, g3, g4, g5, g6, g7, g8⟩ := ih (pre ++ [x]) ((loopV_step hb1).symm.trans hL) b1 b2 b3 b4 b5 (by simp [hl2])
    exact ⟨T', g1, g2, g3, g4.trans b6, g5.trans b7, g6.trans b8, g7.trans b9, g8.trans b10⟩

namespace wireBack
def codes : List (Bool × Ty) := [(false, .int .u64), (false, .slc 8 (.int .i64)), (false, .slc 1 (.int .u8))]
theorem coded : argsOf Try.prog 9 [22, 43, 23] = some codes := by kernel_rfl
theorem scanT7 : scanT [7] = none := by decide
/-- The text's part. -/
theorem last {j : Nat} {t : List UInt8} (hj : Okl j t) (j2 : j ≠ 2) (hl : t.length ≤ 5000) {T : List Value} {S : AHeap} {X : St} (hr : X = (seqV (regV (vOps Try.prog false (vlim Try.prog O) (reg Try.f10 19) (reg Try.f10 19).toList T S)) (vcodeV Try.prog O (.seq (.seq (.region 20 (reg Try.f10 20) false) (.cond (.tmp 118) (.seq (.region 21 (reg Try.f10 21) false) .ret) .skip)) (.seq (.region 22 (reg Try.f10 22) false) (.seq (.region 23 (reg Try.f10 23) false) .ret)))))) (hT : T.length = 147) (h2 : T.getD 2 undef = by_ j t) :
    ∃ T', X = some (.ret, T', S) ∧ T'.getD 6 undef = .bool true := by
  subst hr
  have hTe := neaptidelaw01_WireBack.eta hT
  rw [h2] at hTe
  have c1 : ∀ S, vlim Try.prog O 16 [by_ j t] S = some (textV t, S) := wire_Text.v hj j2
  unfold textV at c1
  have s7 : ∀ S, vConv Try.prog 23 9 (by_ 2 [7]) S = some (.string ⟨([7] : List UInt8).toArray⟩, S) := fun S => by_str Okl.own
  have s1 : ∀ (a : List UInt8) S, vConv Try.prog 23 9 (by_ 1 a) S = some (.string ⟨a.toArray⟩, S) := fun a S => by_str Okl.read
  have s2 : ∀ (a : List UInt8) S, vConv Try.prog 23 9 (by_ 2 a) S = some (.string ⟨a.toArray⟩, S) := fun a S => by_str Okl.own
  have s3 : ∀ S, vConv Try.prog 23 9 (by_ j t) S = some (.string ⟨t.toArray⟩, S) := fun S => by_str hj
  have b7 : ∀ S, vBuildSlice Try.prog 23 1 [(0, .int .u8 7)] S = some (by_ 2 [7], S) := fun S => by rw [bs_L_uint8_1]; rfl
  have d11 : ¬ (11 : Int) = 0 := by omega
  by_cases h : 4096 < t.length
  · rw [if_pos h] at c1
    have d1 : ¬ (t.length : Int) ≤ 4096 := by omega
    have a1 : ∀ S, vAppend Try.prog 23 23 (by_ 2 []) (.slice none 0 0) S = some (by_ 2 [], S) := fun S => by_copy (k := 0) Okl.none (by simp)
    have a2 : ∀ S, vAppend Try.prog 23 23 (by_ 2 []) (by_ 2 [7]) S = some (by_ 2 [7], S) := fun S => by_copy Okl.own (by simp)
    have c2 : ∀ S, vlim Try.prog O 18 [by_ 1 [7]] S = some (readTV 2 [7], S) := wire_ReadText.v Okl.read (by decide) (by simp)
    unfold readTV at c2
    rw [scanT7] at c2
    rw [hTe]
    refine ⟨_, by simp only [neaptidelaw01_WireBack.r19, neaptidelaw01_WireBack.r20, neaptidelaw01_WireBack.r21, neaptidelaw01_WireBack.r22, neaptidelaw01_WireBack.r23, vcodeV_seq, vcodeV_region, vcodeV_block, vcodeV_skip, vcodeV_ret, vcodeV_exit, vcodeV_cond, vcodeV_loop, andThen_some, regV_some, seqV_normal, seqV_exit, seqV_ret, blockV_normal, blockV_ret, blockV_exit, condK_true, condK_false, andK_some, gdK_tt, gdK_ff, gdK_tf, gdK_ft, gdK_ut, gdCK_tt, gdCK_ff, gdCK_tf, gdCK_ft, gdCK_ut, okK_bool, okK_int, okK_string, okK_slice, okK_pointer, okK_SL, okK_EP, okK_sv, okK_vs, List.getD_cons_succ, List.getD_cons_zero, gd_tt, gd_ff, gd_tf, gd_ft, gd_ut, gdC_tt, gdC_ff, gdC_tf, gdC_ft, gdC_ut, ret_run, vPick_bool, if_true, if_false, reduceIte, Nat.reduceEqDiff, Bool.false_eq_true, okC_bool, okC_int, okC_string, okC_slice, okC_iface, okC_vs, okC_sv, okC_EP, dem_undef, dem_int, dem_bool, dem_string, dem_nil, dem_agg, dem_func, dem_pointer, dem_vs, dem_sv, dem_dem, vBin_int, vBin_string, vBin_bool, vConv_int, vExtract_tuple, List.getElem?_cons_succ, List.getElem?_cons_zero, Option.map_some, aBin_add, aBin_sub, aBin_mul, aBin_eql, aBin_neq, aBin_lss, aBin_leq, aBin_gtr, aBin_geq, aUn_not, Bool.not_true, Bool.not_false, Bool.true_eq_false, decide_true, decide_false, eq_self, exd_0_1, exd_0_2, exd_1_2, exd_0_3, exd_1_3, exd_2_3, exd_0_4, exd_1_4, exd_2_4, exd_3_4, exd_0_5, exd_1_5, exd_2_5, exd_3_5, exd_4_5, if_neg j2, c1, d11, by_len hj, goInt, d1, tf_neq, bne_self_eq_false, bb0, a1, b7, a2, c2]; rfl, rfl⟩
  · rw [if_neg h] at c1
    have d1 : (t.length : Int) ≤ 4096 := by omega
    have h10 := enc_len10 (n := t.length) (by omega)
    have hel : (encT t).length ≤ 5010 := by simp [encT]; omega
    have a1 : ∀ S, vAppend Try.prog 23 23 (by_ 2 []) (by_ 1 (encT t)) S = some (by_ 2 (encT t), S) := fun S => by_copy Okl.read (by omega)
    have a2 : ∀ S, vAppend Try.prog 23 23 (by_ 2 (encT t)) (by_ 2 [7]) S = some (by_ 2 (encT t ++ [7]), S) := fun S => by_more Okl.own (by decide) (by omega)
    have c2 : ∀ S, vlim Try.prog O 18 [by_ 1 (encT t ++ [7])] S = some (readTV 2 (encT t ++ [7]), S) := wire_ReadText.v Okl.read (by decide) (by simp; omega)
    unfold readTV at c2
    rw [scanT_encT (by omega)] at c2
    rw [hTe]
    refine ⟨_, by simp only [neaptidelaw01_WireBack.r19, neaptidelaw01_WireBack.r20, neaptidelaw01_WireBack.r21, neaptidelaw01_WireBack.r22, neaptidelaw01_WireBack.r23, vcodeV_seq, vcodeV_region, vcodeV_block, vcodeV_skip, vcodeV_ret, vcodeV_exit, vcodeV_cond, vcodeV_loop, andThen_some, regV_some, seqV_normal, seqV_exit, seqV_ret, blockV_normal, blockV_ret, blockV_exit, condK_true, condK_false, andK_some, gdK_tt, gdK_ff, gdK_tf, gdK_ft, gdK_ut, gdCK_tt, gdCK_ff, gdCK_tf, gdCK_ft, gdCK_ut, okK_bool, okK_int, okK_string, okK_slice, okK_pointer, okK_SL, okK_EP, okK_sv, okK_vs, List.getD_cons_succ, List.getD_cons_zero, gd_tt, gd_ff, gd_tf, gd_ft, gd_ut, gdC_tt, gdC_ff, gdC_tf, gdC_ft, gdC_ut, ret_run, vPick_bool, if_true, if_false, reduceIte, Nat.reduceEqDiff, Bool.false_eq_true, okC_bool, okC_int, okC_string, okC_slice, okC_iface, okC_vs, okC_sv, okC_EP, dem_undef, dem_int, dem_bool, dem_string, dem_nil, dem_agg, dem_func, dem_pointer, dem_vs, dem_sv, dem_dem, vBin_int, vBin_string, vBin_bool, vConv_int, vExtract_tuple, List.getElem?_cons_succ, List.getElem?_cons_zero, Option.map_some, aBin_add, aBin_sub, aBin_mul, aBin_eql, aBin_neq, aBin_lss, aBin_leq, aBin_gtr, aBin_geq, aUn_not, Bool.not_true, Bool.not_false, Bool.true_eq_false, decide_true, decide_false, eq_self, exd_0_1, exd_0_2, exd_1_2, exd_0_3, exd_1_3, exd_2_3, exd_0_4, exd_1_4, exd_2_4, exd_3_4, exd_0_5, exd_1_5, exd_2_5, exd_3_5, exd_4_5, if_neg j2, c1, d11, by_len hj, goInt, d1, tf_neq, bne_self_eq_false, bb0, a1, b7, a2, c2, s1, s2, s3, tx_eql]; rfl, rfl⟩
theorem run {n k j : Nat} {l : List Int} {t : List UInt8} (hn : n < 2 ^ 64) (hk : Okl k l) (k2 : k ≠ 2) (hb : ∀ n ∈ l, -9223372036854775808 ≤ n ∧ n < 9223372036854775808) (hj : Okl j t) (j2 : j ≠ 2) (S : AHeap) : vlim Try.prog O 10 [.int .u64 n, iz k l, by_ j t] S = some (.bool true, S) := by
  obtain ⟨T, hTe⟩ : ∃ T, T = (.int .u64 n :: iz k l :: by_ j t :: undef :: undef :: undef :: undef :: undef :: undef :: undef :: undef :: undef :: undef :: undef :: undef :: undef :: undef :: undef :: undef :: undef :: undef :: undef :: undef :: undef :: undef :: undef :: undef :: undef :: undef :: undef :: undef :: undef :: undef :: undef :: undef :: undef :: undef :: undef :: undef :: undef :: undef :: undef :: undef :: undef :: undef :: undef :: undef :: undef :: undef :: undef :: undef :: undef :: undef :: undef :: undef :: undef :: undef :: undef :: undef :: undef :: undef :: undef :: undef :: undef :: undef :: undef :: undef :: undef :: undef :: undef :: undef :: undef :: undef :: undef :: undef :: undef :: undef :: undef :: undef :: undef :: undef :: undef :: undef :: undef :: undef :: undef :: undef :: undef :: undef :: undef :: undef :: undef :: undef :: undef :: undef :: undef :: undef :: undef :: undef :: undef :: undef :: undef :: undef :: undef :: undef :: undef :: undef :: undef :: undef :: undef :: undef :: undef :: undef :: undef :: undef :: undef :: undef :: undef :: undef :: undef :: undef :: undef :: undef :: undef :: undef :: undef :: undef :: undef :: undef :: undef :: undef :: undef :: undef :: undef :: undef :: undef :: undef :: undef :: undef :: undef :: undef :: undef :: undef :: undef :: undef :: undef :: undef :: []) := ⟨_, rfl⟩
  have hr : vcodeV Try.prog O neaptidelaw01_WireBack.code T S = vcodeV Try.prog O neaptidelaw01_WireBack.code T S := rfl
  by_cases h1 : 5000 < t.length
  · have d1 : (5000 : Int) < (t.length : Int) := by omega
    conv at hr =>
      rhs
      rw [hTe]
      simp only [neaptidelaw01_WireBack.code, neaptidelaw01_WireBack.r0, neaptidelaw01_WireBack.r1, neaptidelaw01_WireBack.r3, neaptidelaw01_WireBack.r4, vcodeV_seq, vcodeV_region, vcodeV_block, vcodeV_skip, vcodeV_ret, vcodeV_exit, vcodeV_cond, vcodeV_loop, andThen_some, regV_some, seqV_normal, seqV_exit, seqV_ret, blockV_normal, blockV_ret, blockV_exit, condK_true, condK_false, andK_some, gdK_tt, gdK_ff, gdK_tf, gdK_ft, gdK_ut, gdCK_tt, gdCK_ff, gdCK_tf, gdCK_ft, gdCK_ut, okK_bool, okK_int, okK_string, okK_slice, okK_pointer, okK_SL, okK_EP, okK_sv, okK_vs, List.getD_cons_succ, List.getD_cons_zero, gd_tt, gd_ff, gd_tf, gd_ft, gd_ut, gdC_tt, gdC_ff, gdC_tf, gdC_ft, gdC_ut, ret_run, vPick_bool, if_true, if_false, reduceIte, Nat.reduceEqDiff, Bool.false_eq_true, okC_bool, okC_int, okC_string, okC_slice, okC_iface, okC_vs, okC_sv, okC_EP, dem_undef, dem_int, dem_bool, dem_string, dem_nil, dem_agg, dem_func, dem_pointer, dem_vs, dem_sv, dem_dem, vBin_int, vBin_string, vBin_bool, vConv_int, vExtract_tuple, List.getElem?_cons_succ, List.getElem?_cons_zero, Option.map_some, aBin_add, aBin_sub, aBin_mul, aBin_eql, aBin_neq, aBin_lss, aBin_leq, aBin_gtr, aBin_geq, aUn_not, Bool.not_true, Bool.not_false, Bool.true_eq_false, decide_true, decide_false, eq_self, exd_0_1, exd_0_2, exd_1_2, exd_0_3, exd_1_3, exd_2_3, exd_0_4, exd_1_4, exd_2_4, exd_3_4, exd_0_5, exd_1_5, exd_2_5, exd_3_5, exd_4_5, neaptidelaw01_wireAlive.v, if_neg j2, by_len hj, goInt, d1]
    rw [hTe] at hr
    exact neaptidelaw01_WireBack.runs hr (.inr rfl)
  have d1 : ¬ (5000 : Int) < (t.length : Int) := by omega
  by_cases h2 : 100 < l.length
  · have d2 : (100 : Int) < (l.length : Int) := by omega
    conv at hr =>
      rhs
      rw [hTe]
      simp only [neaptidelaw01_WireBack.code, neaptidelaw01_WireBack.r0, neaptidelaw01_WireBack.r1, neaptidelaw01_WireBack.r3, neaptidelaw01_WireBack.r4, vcodeV_seq, vcodeV_region, vcodeV_block, vcodeV_skip, vcodeV_ret, vcodeV_exit, vcodeV_cond, vcodeV_loop, andThen_some, regV_some, seqV_normal, seqV_exit, seqV_ret, blockV_normal, blockV_ret, blockV_exit, condK_true, condK_false, andK_some, gdK_tt, gdK_ff, gdK_tf, gdK_ft, gdK_ut, gdCK_tt, gdCK_ff, gdCK_tf, gdCK_ft, gdCK_ut, okK_bool, okK_int, okK_string, okK_slice, okK_pointer, okK_SL, okK_EP, okK_sv, okK_vs, List.getD_cons_succ, List.getD_cons_zero, gd_tt, gd_ff, gd_tf, gd_ft, gd_ut, gdC_tt, gdC_ff, gdC_tf, gdC_ft, gdC_ut, ret_run, vPick_bool, if_true, if_false, reduceIte, Nat.reduceEqDiff, Bool.false_eq_true, okC_bool, okC_int, okC_string, okC_slice, okC_iface, okC_vs, okC_sv, okC_EP, dem_undef, dem_int, dem_bool, dem_string, dem_nil, dem_agg, dem_func, dem_pointer, dem_vs, dem_sv, dem_dem, vBin_int, vBin_string, vBin_bool, vConv_int, vExtract_tuple, List.getElem?_cons_succ, List.getElem?_cons_zero, Option.map_some, aBin_add, aBin_sub, aBin_mul, aBin_eql, aBin_neq, aBin_lss, aBin_leq, aBin_gtr, aBin_geq, aUn_not, Bool.not_true, Bool.not_false, Bool.true_eq_false, decide_true, decide_false, eq_self, exd_0_1, exd_0_2, exd_1_2, exd_0_3, exd_1_3, exd_2_3, exd_0_4, exd_1_4, exd_2_4, exd_3_4, exd_0_5, exd_1_5, exd_2_5, exd_3_5, exd_4_5, neaptidelaw01_wireAlive.v, if_neg j2, by_len hj, goInt, d1, if_neg k2, iz_len hk, d2]
    rw [hTe] at hr
    exact neaptidelaw01_WireBack.runs hr (.inr rfl)
  have d2 : ¬ (100 : Int) < (l.length : Int) := by omega
  have h10 := enc_len10 hn
  have n1 := fun S => wire_Num.v n hn S
  have a1 : ∀ S, vAppend Try.prog 23 23 (by_ 2 (enc n)) (by_ j t) S = some (by_ 2 (enc n ++ t), S) := fun S => by
    rw [by_append Okl.own (by decide) hj (by omega)]; rfl
  have c1 : ∀ S, vlim Try.prog O 11 [by_ 1 (enc n ++ t)] S = some (readV (enc n ++ t), S) := wire_ReadNum.v Okl.read (by decide) (by simp; omega)
  unfold readV at c1
  rw [scan_enc hn] at c1
  have s1 : ∀ (a : List UInt8) S, vConv Try.prog 23 9 (by_ 1 a) S = some (.string ⟨a.toArray⟩, S) := fun a S => by_str Okl.read
  have s3 : ∀ S, vConv Try.prog 23 9 (by_ j t) S = some (.string ⟨t.toArray⟩, S) := fun S => by_str hj
  have s2 : ∀ (a : List UInt8) S, vConv Try.prog 23 9 (by_ 2 a) S = some (.string ⟨a.toArray⟩, S) := fun a S => by_str Okl.own
  have okl : Okl (if (l.length : Int) = 0 then 0 else 2) l := ⟨by split <;> omega, fun h => by split at h <;> first | (rename_i hp; exact List.eq_nil_of_length_eq_zero (by omega)) | omega⟩
  have sm := fun S => neaptideref01_SameInts.v okl.dem hk (dem_ne2 _) k2 (by omega) S
  rw [decide_eq_true rfl] at sm
  have c2 := fun S => wire_Nums.v hk k2 (fun n hn => (hb n hn).2) S
  have d11 : ¬ (11 : Int) = 0 := by omega
  unfold numsV at c2
  by_cases h3 : 64 < l.length ∨ ∃ n ∈ l, n < -1
  · rw [if_pos h3] at c2
    conv at hr =>
      rhs
      rw [hTe]
      simp only [neaptidelaw01_WireBack.code, neaptidelaw01_WireBack.r0, neaptidelaw01_WireBack.r1, neaptidelaw01_WireBack.r3, neaptidelaw01_WireBack.r5, neaptidelaw01_WireBack.r6, neaptidelaw01_WireBack.r8, neaptidelaw01_WireBack.r9, vcodeV_seq, vcodeV_region, vcodeV_block, vcodeV_skip, vcodeV_ret, vcodeV_exit, vcodeV_cond, vcodeV_loop, andThen_some, regV_some, seqV_normal, seqV_exit, seqV_ret, blockV_normal, blockV_ret, blockV_exit, condK_true, condK_false, andK_some, gdK_tt, gdK_ff, gdK_tf, gdK_ft, gdK_ut, gdCK_tt, gdCK_ff, gdCK_tf, gdCK_ft, gdCK_ut, okK_bool, okK_int, okK_string, okK_slice, okK_pointer, okK_SL, okK_EP, okK_sv, okK_vs, List.getD_cons_succ, List.getD_cons_zero, gd_tt, gd_ff, gd_tf, gd_ft, gd_ut, gdC_tt, gdC_ff, gdC_tf, gdC_ft, gdC_ut, ret_run, vPick_bool, if_true, if_false, reduceIte, Nat.reduceEqDiff, Bool.false_eq_true, okC_bool, okC_int, okC_string, okC_slice, okC_iface, okC_vs, okC_sv, okC_EP, dem_undef, dem_int, dem_bool, dem_string, dem_nil, dem_agg, dem_func, dem_pointer, dem_vs, dem_sv, dem_dem, vBin_int, vBin_string, vBin_bool, vConv_int, vExtract_tuple, List.getElem?_cons_succ, List.getElem?_cons_zero, Option.map_some, aBin_add, aBin_sub, aBin_mul, aBin_eql, aBin_neq, aBin_lss, aBin_leq, aBin_gtr, aBin_geq, aUn_not, Bool.not_true, Bool.not_false, Bool.true_eq_false, decide_true, decide_false, eq_self, exd_0_1, exd_0_2, exd_1_2, exd_0_3, exd_1_3, exd_2_3, exd_0_4, exd_1_4, exd_2_4, exd_3_4, exd_0_5, exd_1_5, exd_2_5, exd_3_5, exd_4_5, neaptidelaw01_wireAlive.v, if_neg j2, by_len hj, goInt, d1, if_neg k2, iz_len hk, d2, n1, a1, c1, s1, s3, tx_neq, c2, d11]
    obtain ⟨T', e1, e2⟩ := last hj j2 (by omega) hr rfl rfl
    rw [hTe] at e1
    have hrun := neaptidelaw01_WireBack.runs e1 (.inr rfl)
    rw [e2] at hrun
    exact hrun
  · rw [if_neg h3] at c2
    have hlo : ∀ n ∈ l, -1 ≤ n ∧ n < 9223372036854775808 := fun n hn => ⟨by have : ¬ n < -1 := fun h => h3 (.inr ⟨n, hn, h⟩); omega, (hb n hn).2⟩
    have hel : (encs l).length ≤ 640 := by have := encs_len (l := l) fun n hn => (hb n hn).2; omega
    have okx : Okl (if l = [] then 0 else 2) (encs l) := ⟨by split <;> omega, fun h => by split at h <;> first | (rename_i hp; subst hp; rfl) | omega⟩
    have a2 : ∀ S, vAppend Try.prog 23 23 (by_ 2 []) (by_ (if (if l = [] then 0 else 2) = 2 then 1 else (if l = [] then 0 else 2)) (encs l)) S = some (by_ 2 (encs l), S) := fun S => by_copy okx.dem (by omega)
    have a3 : ∀ S, vAppend Try.prog 23 23 (by_ 2 (encs l)) (by_ j t) S = some (by_ 2 (encs l ++ t), S) := fun S => by
      rw [by_append Okl.own (by decide) hj (by omega)]; rfl
    have c3 : ∀ S, vlim Try.prog O 22 [by_ 1 (encs l ++ t), .int .i64 l.length] S = some (readNsV 0 2 l.length (encs l ++ t), S) := fun S => wire_ReadNums.v Okl.read (by decide) (by simp; omega) S
    unfold readNsV at c3
    rw [if_neg (by omega), Int.toNat_natCast, readNs_encs l t hlo, ite_self] at c3
    conv at hr =>
      rhs
      rw [hTe]
      simp only [neaptidelaw01_WireBack.code, neaptidelaw01_WireBack.r0, neaptidelaw01_WireBack.r1, neaptidelaw01_WireBack.r3, neaptidelaw01_WireBack.r5, neaptidelaw01_WireBack.r6, neaptidelaw01_WireBack.r8, neaptidelaw01_WireBack.r9, vcodeV_seq, vcodeV_region, vcodeV_block, vcodeV_skip, vcodeV_ret, vcodeV_exit, vcodeV_cond, vcodeV_loop, andThen_some, regV_some, seqV_normal, seqV_exit, seqV_ret, blockV_normal, blockV_ret, blockV_exit, condK_true, condK_false, andK_some, gdK_tt, gdK_ff, gdK_tf, gdK_ft, gdK_ut, gdCK_tt, gdCK_ff, gdCK_tf, gdCK_ft, gdCK_ut, okK_bool, okK_int, okK_string, okK_slice, okK_pointer, okK_SL, okK_EP, okK_sv, okK_vs, List.getD_cons_succ, List.getD_cons_zero, gd_tt, gd_ff, gd_tf, gd_ft, gd_ut, gdC_tt, gdC_ff, gdC_tf, gdC_ft, gdC_ut, ret_run, vPick_bool, if_true, if_false, reduceIte, Nat.reduceEqDiff, Bool.false_eq_true, okC_bool, okC_int, okC_string, okC_slice, okC_iface, okC_vs, okC_sv, okC_EP, dem_undef, dem_int, dem_bool, dem_string, dem_nil, dem_agg, dem_func, dem_pointer, dem_vs, dem_sv, dem_dem, vBin_int, vBin_string, vBin_bool, vConv_int, vExtract_tuple, List.getElem?_cons_succ, List.getElem?_cons_zero, Option.map_some, aBin_add, aBin_sub, aBin_mul, aBin_eql, aBin_neq, aBin_lss, aBin_leq, aBin_gtr, aBin_geq, aUn_not, Bool.not_true, Bool.not_false, Bool.true_eq_false, decide_true, decide_false, eq_self, exd_0_1, exd_0_2, exd_1_2, exd_0_3, exd_1_3, exd_2_3, exd_0_4, exd_1_4, exd_2_4, exd_3_4, exd_0_5, exd_1_5, exd_2_5, exd_3_5, exd_4_5, neaptidelaw01_wireAlive.v, if_neg j2, by_len hj, goInt, d1, if_neg k2, iz_len hk, d2, n1, a1, c1, s1, s3, tx_neq, c2, d11]
    by_cases h4 : ∀ n ∈ l, n ≤ 4611686018427387904
    · rw [if_pos h4] at c3
      conv at hr =>
        rhs
        simp only [neaptidelaw01_WireBack.r10, neaptidelaw01_WireBack.r11, neaptidelaw01_WireBack.r12, vcodeV_seq, vcodeV_region, vcodeV_block, vcodeV_skip, vcodeV_ret, vcodeV_exit, vcodeV_cond, vcodeV_loop, andThen_some, regV_some, seqV_normal, seqV_exit, seqV_ret, blockV_normal, blockV_ret, blockV_exit, condK_true, condK_false, andK_some, gdK_tt, gdK_ff, gdK_tf, gdK_ft, gdK_ut, gdCK_tt, gdCK_ff, gdCK_tf, gdCK_ft, gdCK_ut, okK_bool, okK_int, okK_string, okK_slice, okK_pointer, okK_SL, okK_EP, okK_sv, okK_vs, List.getD_cons_succ, List.getD_cons_zero, gd_tt, gd_ff, gd_tf, gd_ft, gd_ut, gdC_tt, gdC_ff, gdC_tf, gdC_ft, gdC_ut, ret_run, vPick_bool, if_true, if_false, reduceIte, Nat.reduceEqDiff, Bool.false_eq_true, okC_bool, okC_int, okC_string, okC_slice, okC_iface, okC_vs, okC_sv, okC_EP, dem_undef, dem_int, dem_bool, dem_string, dem_nil, dem_agg, dem_func, dem_pointer, dem_vs, dem_sv, dem_dem, vBin_int, vBin_string, vBin_bool, vConv_int, vExtract_tuple, List.getElem?_cons_succ, List.getElem?_cons_zero, Option.map_some, aBin_add, aBin_sub, aBin_mul, aBin_eql, aBin_neq, aBin_lss, aBin_leq, aBin_gtr, aBin_geq, aUn_not, Bool.not_true, Bool.not_false, Bool.true_eq_false, decide_true, decide_false, eq_self, exd_0_1, exd_0_2, exd_1_2, exd_0_3, exd_1_3, exd_2_3, exd_0_4, exd_1_4, exd_2_4, exd_3_4, exd_0_5, exd_1_5, exd_2_5, exd_3_5, exd_4_5, bb0, a2, if_neg j2, a3, if_neg k2, iz_len hk, goInt, c3]
      generalize hL : loopV (vcodeV Try.prog O neaptidelaw01_WireBack.loop1) _ _ = r at hr
      obtain ⟨T', rfl, g2, g3, g4, g5, g6, g7, g8⟩ := neaptidelaw01_WireBack.round hk (by omega) l [] hL rfl rfl rfl rfl rfl rfl
      simp only [List.getD_cons_succ, List.getD_cons_zero] at g4 g5 g6 g7 g8
      have hTe' := neaptidelaw01_WireBack.eta g2
      rw [g3, g4, g5, g6, g7, g8] at hTe'
      rw [decide_eq_true h4] at hTe'
      conv at hr =>
        rhs
        rw [hTe']
        simp only [neaptidelaw01_WireBack.r17, vcodeV_seq, vcodeV_region, vcodeV_block, vcodeV_skip, vcodeV_ret, vcodeV_exit, vcodeV_cond, vcodeV_loop, andThen_some, regV_some, seqV_normal, seqV_exit, seqV_ret, blockV_normal, blockV_ret, blockV_exit, condK_true, condK_false, andK_some, gdK_tt, gdK_ff, gdK_tf, gdK_ft, gdK_ut, gdCK_tt, gdCK_ff, gdCK_tf, gdCK_ft, gdCK_ut, okK_bool, okK_int, okK_string, okK_slice, okK_pointer, okK_SL, okK_EP, okK_sv, okK_vs, List.getD_cons_succ, List.getD_cons_zero, gd_tt, gd_ff, gd_tf, gd_ft, gd_ut, gdC_tt, gdC_ff, gdC_tf, gdC_ft, gdC_ut, ret_run, vPick_bool, if_true, if_false, reduceIte, Nat.reduceEqDiff, Bool.false_eq_true, okC_bool, okC_int, okC_string, okC_slice, okC_iface, okC_vs, okC_sv, okC_EP, dem_undef, dem_int, dem_bool, dem_string, dem_nil, dem_agg, dem_func, dem_pointer, dem_vs, dem_sv, dem_dem, vBin_int, vBin_string, vBin_bool, vConv_int, vExtract_tuple, List.getElem?_cons_succ, List.getElem?_cons_zero, Option.map_some, aBin_add, aBin_sub, aBin_mul, aBin_eql, aBin_neq, aBin_lss, aBin_leq, aBin_gtr, aBin_geq, aUn_not, Bool.not_true, Bool.not_false, Bool.true_eq_false, decide_true, decide_false, eq_self, exd_0_1, exd_0_2, exd_1_2, exd_0_3, exd_1_3, exd_2_3, exd_0_4, exd_1_4, exd_2_4, exd_3_4, exd_0_5, exd_1_5, exd_2_5, exd_3_5, exd_4_5, dem2, if_neg k2, if_neg j2, d11, tf_neq, bne_self_eq_false, sm, s1, s3, s2, tx_neq]
      obtain ⟨T'', e1, e2⟩ := last hj j2 (by omega) hr rfl rfl
      rw [hTe] at e1
      have hrun := neaptidelaw01_WireBack.runs e1 (.inr rfl)
      rw [e2] at hrun
      exact hrun
    · rw [if_neg h4] at c3
      conv at hr =>
        rhs
        simp only [neaptidelaw01_WireBack.r10, neaptidelaw01_WireBack.r11, neaptidelaw01_WireBack.r12, vcodeV_seq, vcodeV_region, vcodeV_block, vcodeV_skip, vcodeV_ret, vcodeV_exit, vcodeV_cond, vcodeV_loop, andThen_some, regV_some, seqV_normal, seqV_exit, seqV_ret, blockV_normal, blockV_ret, blockV_exit, condK_true, condK_false, andK_some, gdK_tt, gdK_ff, gdK_tf, gdK_ft, gdK_ut, gdCK_tt, gdCK_ff, gdCK_tf, gdCK_ft, gdCK_ut, okK_bool, okK_int, okK_string, okK_slice, okK_pointer, okK_SL, okK_EP, okK_sv, okK_vs, List.getD_cons_succ, List.getD_cons_zero, gd_tt, gd_ff, gd_tf, gd_ft, gd_ut, gdC_tt, gdC_ff, gdC_tf, gdC_ft, gdC_ut, ret_run, vPick_bool, if_true, if_false, reduceIte, Nat.reduceEqDiff, Bool.false_eq_true, okC_bool, okC_int, okC_string, okC_slice, okC_iface, okC_vs, okC_sv, okC_EP, dem_undef, dem_int, dem_bool, dem_string, dem_nil, dem_agg, dem_func, dem_pointer, dem_vs, dem_sv, dem_dem, vBin_int, vBin_string, vBin_bool, vConv_int, vExtract_tuple, List.getElem?_cons_succ, List.getElem?_cons_zero, Option.map_some, aBin_add, aBin_sub, aBin_mul, aBin_eql, aBin_neq, aBin_lss, aBin_leq, aBin_gtr, aBin_geq, aUn_not, Bool.not_true, Bool.not_false, Bool.true_eq_false, decide_true, decide_false, eq_self, exd_0_1, exd_0_2, exd_1_2, exd_0_3, exd_1_3, exd_2_3, exd_0_4, exd_1_4, exd_2_4, exd_3_4, exd_0_5, exd_1_5, exd_2_5, exd_3_5, exd_4_5, bb0, a2, if_neg j2, a3, if_neg k2, iz_len hk, goInt, c3]
      generalize hL : loopV (vcodeV Try.prog O neaptidelaw01_WireBack.loop1) _ _ = r at hr
      obtain ⟨T', rfl, g2, g3, g4, g5, g6, g7, g8⟩ := neaptidelaw01_WireBack.round hk (by omega) l [] hL rfl rfl rfl rfl rfl rfl
      simp only [List.getD_cons_succ, List.getD_cons_zero] at g4 g5 g6 g7 g8
      have hTe' := neaptidelaw01_WireBack.eta g2
      rw [g3, g4, g5, g6, g7, g8] at hTe'
      rw [decide_eq_false h4] at hTe'
      conv at hr =>
        rhs
        rw [hTe']
        simp only [neaptidelaw01_WireBack.r17, vcodeV_seq, vcodeV_region, vcodeV_block, vcodeV_skip, vcodeV_ret, vcodeV_exit, vcodeV_cond, vcodeV_loop, andThen_some, regV_some, seqV_normal, seqV_exit, seqV_ret, blockV_normal, blockV_ret, blockV_exit, condK_true, condK_false, andK_some, gdK_tt, gdK_ff, gdK_tf, gdK_ft, gdK_ut, gdCK_tt, gdCK_ff, gdCK_tf, gdCK_ft, gdCK_ut, okK_bool, okK_int, okK_string, okK_slice, okK_pointer, okK_SL, okK_EP, okK_sv, okK_vs, List.getD_cons_succ, List.getD_cons_zero, gd_tt, gd_ff, gd_tf, gd_ft, gd_ut, gdC_tt, gdC_ff, gdC_tf, gdC_ft, gdC_ut, ret_run, vPick_bool, if_true, if_false, reduceIte, Nat.reduceEqDiff, Bool.false_eq_true, okC_bool, okC_int, okC_string, okC_slice, okC_iface, okC_vs, okC_sv, okC_EP, dem_undef, dem_int, dem_bool, dem_string, dem_nil, dem_agg, dem_func, dem_pointer, dem_vs, dem_sv, dem_dem, vBin_int, vBin_string, vBin_bool, vConv_int, vExtract_tuple, List.getElem?_cons_succ, List.getElem?_cons_zero, Option.map_some, aBin_add, aBin_sub, aBin_mul, aBin_eql, aBin_neq, aBin_lss, aBin_leq, aBin_gtr, aBin_geq, aUn_not, Bool.not_true, Bool.not_false, Bool.true_eq_false, decide_true, decide_false, eq_self, exd_0_1, exd_0_2, exd_1_2, exd_0_3, exd_1_3, exd_2_3, exd_0_4, exd_1_4, exd_2_4, exd_3_4, exd_0_5, exd_1_5, exd_2_5, exd_3_5, exd_4_5, dem2, if_neg k2, if_neg j2, d11, tf_neq, bne_self_eq_false, sm, s1, s3, s2, tx_neq]
      obtain ⟨T'', e1, e2⟩ := last hj j2 (by omega) hr rfl rfl
      rw [hTe] at e1
      have hrun := neaptidelaw01_WireBack.runs e1 (.inr rfl)
      rw [e2] at hrun
      exact hrun
theorem law (x : Args codes) (h : Args.Good codes x) : ∃ k, (acall Try.prog k 10 (Args.place codes x AHeap.empty).1 (Args.place codes x AHeap.empty).2).map (·.1) = some (.bool true) := by
  obtain ⟨a, b, c, u⟩ := x
  obtain ⟨h1, h2, h3, _⟩ := h
  obtain ⟨n, rfl, hn⟩ := in_u64 h1
  obtain ⟨k, l, p1, p2, p3, p4, p5⟩ := in_ints b h2
  obtain ⟨j, t, q1, q2, q3, q4⟩ := in_bytes c h3
  refine law_of_vlim ora_ok (S' := AHeap.empty) ?_
  have e : Args.vval codes ((n : Int), b, c, u) = [.int .u64 n, iz k l, by_ j t] := by
    show [argOf false [.int .u64 (n : Int)], argOf false ((Ty.slc 8 (.int .i64)).vval b), argOf false ((Ty.slc 1 (.int .u8)).vval c)] = _
    rw [p3, q3]; rfl
  rw [e]
  exact run hn p1 p2 p5 q1 q2 _
end wireBack
end Go.Proofs.Ytjlhjebmbllkiaa
