/-
How many bytes: the law's run.
-/
import Derived.Test.YtjlhjebmbllkiaaF5
import Derived.Test.YtjlhjebmbllkiaaVW5
set_option linter.unusedVariables false
set_option linter.unusedSimpArgs false
set_option maxRecDepth 100000
namespace Go.Proofs.Ytjlhjebmbllkiaa
open Go.Abs

theorem neaptidelaw01_wireAlive.v (S : AHeap) : vlim Try.prog O 12 [] S = some (.bool true, S) := vlim_run (n := 20) (by kernel_rfl)

namespace wireLong
def codes : List (Bool × Ty) := [(false, .int .u64), (false, .int .u64), (false, .slc 1 (.int .u8))]
theorem coded : argsOf Try.prog 9 [22, 22, 23] = some codes := by kernel_rfl
theorem run {a b k : Nat} {l : List UInt8} (ha : a < 2 ^ 64) (hb : b < 2 ^ 64) (hk : k ≠ 2) (hl : Okl k l) (hl2 : l.length ≤ 140737488351232) (S : AHeap) : vlim Try.prog O 5 [.int .u64 a, .int .u64 b, by_ k l] S = some (.bool true, S) := by
  obtain ⟨T, hTe⟩ : ∃ T, T = (.int .u64 a :: .int .u64 b :: by_ k l :: undef :: undef :: undef :: undef :: undef :: undef :: undef :: undef :: undef :: undef :: undef :: undef :: undef :: undef :: undef :: undef :: undef :: undef :: undef :: undef :: undef :: undef :: undef :: undef :: undef :: undef :: undef :: undef :: undef :: undef :: undef :: undef :: undef :: undef :: undef :: undef :: undef :: undef :: undef :: undef :: undef :: undef :: undef :: undef :: undef :: undef :: undef :: undef :: undef :: undef :: undef :: undef :: undef :: undef :: undef :: undef :: undef :: undef :: undef :: undef :: undef :: undef :: []) := ⟨_, rfl⟩
  have hr : vcodeV Try.prog O neaptidelaw01_WireLong.code T S = vcodeV Try.prog O neaptidelaw01_WireLong.code T S := rfl
  have c1 : ∀ S, vlim Try.prog O 16 [by_ k l] S = some (textV l, S) := wire_Text.v hl hk
  obtain ⟨x, hx, hx2⟩ : ∃ x : Nat, (if (b : Int) < a then (b : Int) else a) = (x : Nat) ∧ x = min a b := ⟨min a b, by split <;> omega, rfl⟩
  obtain ⟨y, hy, hy2⟩ : ∃ y : Nat, (if (b : Int) > a then (b : Int) else a) = (y : Nat) ∧ y = max a b := ⟨max a b, by split <;> omega, rfl⟩
  have hmono : (enc x).length ≤ (enc y).length := enc_mono (by omega)
  have h10 : (enc y).length ≤ 10 := enc_len10 (by omega)
  have hpos := enc_pos x
  have d1 : ¬ ((enc x).length : Int) < 1 := by omega
  have d2 : ¬ ((enc y).length : Int) < (enc x).length := by omega
  have d3 : ¬ (10 : Int) < (enc y).length := by omega
  have n1 : ∀ S, vlim Try.prog O 14 [.int .u64 (x : Nat)] S = some (by_ 2 (enc x), S) := wire_Num.v x (by omega)
  have n2 : ∀ S, vlim Try.prog O 14 [.int .u64 (y : Nat)] S = some (by_ 2 (enc y), S) := wire_Num.v y (by omega)
  have wl : IntKind.i64.wrap ((l.length : Int) + 1) = l.length + 1 := wrap_i64 (by omega) (by omega)
  have wl2 : IntKind.i64.wrap ((l.length : Int) + 2) = l.length + 2 := wrap_i64 (by omega) (by omega)
  unfold textV at c1
  by_cases h1 : 4096 < l.length
  · rw [if_pos h1] at c1
    have d4 : (4096 : Int) < (l.length : Int) := by omega
    have d5 : ¬ (11 : Int) = 0 := by omega
    conv at hr =>
      rhs
      rw [hTe]
      simp only [neaptidelaw01_WireLong.code, vcodeV_seq, vcodeV_region, vcodeV_block, vcodeV_skip, vcodeV_ret, vcodeV_exit, vcodeV_cond, vcodeV_loop, andThen_some, regV_some, seqV_normal, seqV_exit, seqV_ret, blockV_normal, blockV_ret, blockV_exit, condK_true, condK_false, andK_some, gdK_tt, gdK_ff, gdK_tf, gdK_ft, gdK_ut, gdCK_tt, gdCK_ff, gdCK_tf, gdCK_ft, gdCK_ut, okK_bool, okK_int, okK_string, okK_slice, okK_pointer, okK_SL, okK_EP, okK_sv, okK_vs, List.getD_cons_succ, List.getD_cons_zero, gd_tt, gd_ff, gd_tf, gd_ft, gd_ut, gdC_tt, gdC_ff, gdC_tf, gdC_ft, gdC_ut, ret_run, vPick_bool, if_true, if_false, reduceIte, Nat.reduceEqDiff, Bool.false_eq_true, okC_bool, okC_int, okC_string, okC_slice, okC_iface, okC_vs, okC_sv, okC_EP, dem_undef, dem_int, dem_bool, dem_string, dem_nil, dem_agg, dem_func, dem_pointer, dem_vs, dem_sv, dem_dem, vBin_int, vBin_string, vBin_bool, vConv_int, vExtract_tuple, List.getElem?_cons_succ, List.getElem?_cons_zero, Option.map_some, aBin_add, aBin_sub, aBin_mul, aBin_eql, aBin_neq, aBin_lss, aBin_leq, aBin_gtr, aBin_geq, aUn_not, Bool.not_true, Bool.not_false, Bool.true_eq_false, decide_true, decide_false, eq_self, exd_0_1, exd_0_2, exd_1_2, exd_0_3, exd_1_3, exd_2_3, exd_0_4, exd_1_4, exd_2_4, exd_3_4, exd_0_5, exd_1_5, exd_2_5, exd_3_5, exd_4_5, neaptidelaw01_WireLong.r0, neaptidelaw01_WireLong.r1, neaptidelaw01_wireAlive.v, neaptidelaw01_WireLong.r3, vMin, vMax, hx, hy, n1, n2, neaptidelaw01_WireLong.r4, by_len Okl.read, goInt, d1, d2, d3, neaptidelaw01_WireLong.r6, if_neg hk, c1, neaptidelaw01_WireLong.r7, d5, neaptidelaw01_WireLong.r8, by_len hl, d4]
    rw [hTe] at hr
    exact neaptidelaw01_WireLong.runs hr (.inr rfl)
  · rw [if_neg h1] at c1
    have e1 : (encT l).length = (enc l.length).length + l.length := by simp [encT]
    by_cases h2 : l.length < 128
    · have e2 := enc_len1 h2
      have d4 : ((encT l).length : Int) = (l.length : Int) + 1 := by omega
      conv at hr =>
        rhs
        rw [hTe]
        simp only [neaptidelaw01_WireLong.code, vcodeV_seq, vcodeV_region, vcodeV_block, vcodeV_skip, vcodeV_ret, vcodeV_exit, vcodeV_cond, vcodeV_loop, andThen_some, regV_some, seqV_normal, seqV_exit, seqV_ret, blockV_normal, blockV_ret, blockV_exit, condK_true, condK_false, andK_some, gdK_tt, gdK_ff, gdK_tf, gdK_ft, gdK_ut, gdCK_tt, gdCK_ff, gdCK_tf, gdCK_ft, gdCK_ut, okK_bool, okK_int, okK_string, okK_slice, okK_pointer, okK_SL, okK_EP, okK_sv, okK_vs, List.getD_cons_succ, List.getD_cons_zero, gd_tt, gd_ff, gd_tf, gd_ft, gd_ut, gdC_tt, gdC_ff, gdC_tf, gdC_ft, gdC_ut, ret_run, vPick_bool, if_true, if_false, reduceIte, Nat.reduceEqDiff, Bool.false_eq_true, okC_bool, okC_int, okC_string, okC_slice, okC_iface, okC_vs, okC_sv, okC_EP, dem_undef, dem_int, dem_bool, dem_string, dem_nil, dem_agg, dem_func, dem_pointer, dem_vs, dem_sv, dem_dem, vBin_int, vBin_string, vBin_bool, vConv_int, vExtract_tuple, List.getElem?_cons_succ, List.getElem?_cons_zero, Option.map_some, aBin_add, aBin_sub, aBin_mul, aBin_eql, aBin_neq, aBin_lss, aBin_leq, aBin_gtr, aBin_geq, aUn_not, Bool.not_true, Bool.not_false, Bool.true_eq_false, decide_true, decide_false, eq_self, exd_0_1, exd_0_2, exd_1_2, exd_0_3, exd_1_3, exd_2_3, exd_0_4, exd_1_4, exd_2_4, exd_3_4, exd_0_5, exd_1_5, exd_2_5, exd_3_5, exd_4_5, neaptidelaw01_WireLong.r0, neaptidelaw01_WireLong.r1, neaptidelaw01_wireAlive.v, neaptidelaw01_WireLong.r3, vMin, vMax, hx, hy, n1, n2, neaptidelaw01_WireLong.r4, by_len Okl.read, goInt, d1, d2, d3, neaptidelaw01_WireLong.r6, if_neg hk, c1, neaptidelaw01_WireLong.r7, neaptidelaw01_WireLong.r9, by_len hl, wl, d4]
      rw [hTe] at hr
      exact neaptidelaw01_WireLong.runs hr (.inr rfl)
    · have e2 := enc_len2 h2 (by omega)
      have d4 : ¬ (l.length : Int) + 2 = (l.length : Int) + 1 := by omega
      have d5 : ((encT l).length : Int) = (l.length : Int) + 2 := by omega
      have d6 : (127 : Int) < (l.length : Int) := by omega
      conv at hr =>
        rhs
        rw [hTe]
        simp only [neaptidelaw01_WireLong.code, vcodeV_seq, vcodeV_region, vcodeV_block, vcodeV_skip, vcodeV_ret, vcodeV_exit, vcodeV_cond, vcodeV_loop, andThen_some, regV_some, seqV_normal, seqV_exit, seqV_ret, blockV_normal, blockV_ret, blockV_exit, condK_true, condK_false, andK_some, gdK_tt, gdK_ff, gdK_tf, gdK_ft, gdK_ut, gdCK_tt, gdCK_ff, gdCK_tf, gdCK_ft, gdCK_ut, okK_bool, okK_int, okK_string, okK_slice, okK_pointer, okK_SL, okK_EP, okK_sv, okK_vs, List.getD_cons_succ, List.getD_cons_zero, gd_tt, gd_ff, gd_tf, gd_ft, gd_ut, gdC_tt, gdC_ff, gdC_tf, gdC_ft, gdC_ut, ret_run, vPick_bool, if_true, if_false, reduceIte, Nat.reduceEqDiff, Bool.false_eq_true, okC_bool, okC_int, okC_string, okC_slice, okC_iface, okC_vs, okC_sv, okC_EP, dem_undef, dem_int, dem_bool, dem_string, dem_nil, dem_agg, dem_func, dem_pointer, dem_vs, dem_sv, dem_dem, vBin_int, vBin_string, vBin_bool, vConv_int, vExtract_tuple, List.getElem?_cons_succ, List.getElem?_cons_zero, Option.map_some, aBin_add, aBin_sub, aBin_mul, aBin_eql, aBin_neq, aBin_lss, aBin_leq, aBin_gtr, aBin_geq, aUn_not, Bool.not_true, Bool.not_false, Bool.true_eq_false, decide_true, decide_false, eq_self, exd_0_1, exd_0_2, exd_1_2, exd_0_3, exd_1_3, exd_2_3, exd_0_4, exd_1_4, exd_2_4, exd_3_4, exd_0_5, exd_1_5, exd_2_5, exd_3_5, exd_4_5, neaptidelaw01_WireLong.r0, neaptidelaw01_WireLong.r1, neaptidelaw01_wireAlive.v, neaptidelaw01_WireLong.r3, vMin, vMax, hx, hy, n1, n2, neaptidelaw01_WireLong.r4, by_len Okl.read, goInt, d1, d2, d3, neaptidelaw01_WireLong.r6, if_neg hk, c1, neaptidelaw01_WireLong.r7, neaptidelaw01_WireLong.r9, by_len hl, wl, wl2, d5, d4, d6]
      rw [hTe] at hr
      exact neaptidelaw01_WireLong.runs hr (.inr rfl)
theorem law (x : Args codes) (h : Args.Good codes x) : ∃ k, (acall Try.prog k 5 (Args.place codes x AHeap.empty).1 (Args.place codes x AHeap.empty).2).map (·.1) = some (.bool true) := by
  obtain ⟨a, b, t, u⟩ := x
  obtain ⟨h1, h2, h3, _⟩ := h
  obtain ⟨a', rfl, ha⟩ := in_u64 h1
  obtain ⟨b', rfl, hb⟩ := in_u64 h2
  obtain ⟨k, l, q1, q2, q3, q4⟩ := in_bytes t h3
  refine law_of_vlim ora_ok (S' := AHeap.empty) ?_
  have e : Args.vval codes ((a' : Int), (b' : Int), t, u) = [.int .u64 a', .int .u64 b', by_ k l] := by
    show [argOf false [.int .u64 (a' : Int)], argOf false [.int .u64 (b' : Int)], argOf false ((Ty.slc 1 (.int .u8)).vval t)] = _
    rw [q3]; rfl
  rw [e]
  exact run ha hb q2 q1 q4 _
end wireLong
end Go.Proofs.Ytjlhjebmbllkiaa
