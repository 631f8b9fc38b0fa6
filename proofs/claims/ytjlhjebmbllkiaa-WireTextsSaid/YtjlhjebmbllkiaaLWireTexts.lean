/-
Texts: the law's run.
-/
import Derived.Test.YtjlhjebmbllkiaaF6
import Derived.Test.YtjlhjebmbllkiaaVW4
set_option linter.unusedVariables false
set_option linter.unusedSimpArgs false
set_option maxRecDepth 100000
namespace Go.Proofs.Ytjlhjebmbllkiaa
open Go.Abs

theorem neaptidelaw01_wireAlive.v (S : AHeap) : vlim Try.prog O 12 [] S = some (.bool true, S) := vlim_run (n := 20) (by kernel_rfl)
theorem by_copy {k : Nat} {l : List UInt8} {S : AHeap} (h : Okl k l) (hl : l.length ≤ 140737488355328) : vAppend Try.prog 23 23 (by_ 2 []) (by_ k l) S = some (by_ 2 l, S) := by
  rw [by_append Okl.own (by decide) h (by simpa using hl)]; rfl

namespace wireTexts
def codes : List (Bool × Ty) := [(false, .slc 1 (.int .u8)), (false, .slc 1 (.int .u8))]
theorem coded : argsOf Try.prog 9 [23, 23] = some codes := by kernel_rfl
theorem run {k j : Nat} {l m : List UInt8} (hk : k ≠ 2) (hj : j ≠ 2) (hl : Okl k l) (hm : Okl j m) (hl2 : l.length ≤ 140737488351232) (hm2 : m.length ≤ 140737488351232) (S : AHeap) : vlim Try.prog O 6 [by_ k l, by_ j m] S = some (.bool true, S) := by
  obtain ⟨T, hTe⟩ : ∃ T, T = (by_ k l :: by_ j m :: undef :: undef :: undef :: undef :: undef :: undef :: undef :: undef :: undef :: undef :: undef :: undef :: undef :: undef :: undef :: undef :: undef :: undef :: undef :: undef :: undef :: undef :: undef :: undef :: undef :: undef :: undef :: undef :: undef :: undef :: undef :: undef :: undef :: undef :: undef :: undef :: undef :: undef :: undef :: undef :: undef :: undef :: undef :: undef :: undef :: undef :: undef :: undef :: undef :: undef :: undef :: undef :: undef :: undef :: undef :: undef :: undef :: undef :: undef :: undef :: undef :: undef :: undef :: undef :: undef :: undef :: undef :: undef :: undef :: undef :: undef :: []) := ⟨_, rfl⟩
  have hr : vcodeV Try.prog O neaptidelaw01_WireTexts.code T S = vcodeV Try.prog O neaptidelaw01_WireTexts.code T S := rfl
  have a1 : ∀ S, vAppend Try.prog 23 23 (by_ 2 []) (by_ k l) S = some (by_ 2 l, S) := fun S => by_copy hl (by omega)
  have a2 : ∀ S, vAppend Try.prog 23 23 (by_ 2 []) (by_ j m) S = some (by_ 2 m, S) := fun S => by_copy hm (by omega)
  have c1 : ∀ S, vlim Try.prog O 16 [by_ 1 l] S = some (textV l, S) := wire_Text.v Okl.read (by decide)
  have c2 : ∀ S, vlim Try.prog O 17 [by_ k l] S = some (textV l, S) := neaptideref01_Text.v hl hk
  have c3 : ∀ S, vlim Try.prog O 18 [by_ 1 m] S = some (readTV 2 m, S) := wire_ReadText.v Okl.read (by decide) (by omega)
  have c4 : ∀ S, vlim Try.prog O 19 [by_ j m] S = some (readTV 1 m, S) := neaptideref01_ReadText.v hm hj (by omega)
  unfold textV at c1 c2
  unfold readTV at c3 c4
  have nil1 : ∀ S, vConv Try.prog 23 9 (.slice none 0 0) S = some (.string ⟨([] : List UInt8).toArray⟩, S) := fun S => by_str (k := 0) Okl.none
  have s1 : ∀ (a : List UInt8) S, vConv Try.prog 23 9 (by_ 1 a) S = some (.string ⟨a.toArray⟩, S) := fun a S => by_str Okl.read
  by_cases h1 : 4096 < l.length
  · rw [if_pos h1] at c1 c2
    cases h2 : scanT m with
    | none =>
      rw [h2] at c3 c4
      conv at hr =>
        rhs
        rw [hTe]
        simp only [neaptidelaw01_WireTexts.code, vcodeV_seq, vcodeV_region, vcodeV_block, vcodeV_skip, vcodeV_ret, vcodeV_exit, vcodeV_cond, vcodeV_loop, andThen_some, regV_some, seqV_normal, seqV_exit, seqV_ret, blockV_normal, blockV_ret, blockV_exit, condV_true, condV_false, List.getD_cons_succ, List.getD_cons_zero, gd_tt, gd_ff, gd_tf, gd_ft, gd_ut, gdC_tt, gdC_ff, gdC_tf, gdC_ft, gdC_ut, ret_run, vPick_bool, if_true, if_false, reduceIte, Nat.reduceEqDiff, Bool.false_eq_true, okC_bool, okC_int, okC_string, okC_slice, okC_iface, okC_vs, okC_sv, okC_EP, dem_int, dem_bool, dem_string, dem_nil, dem_agg, dem_func, dem_pointer, dem_vs, dem_sv, dem_dem, vBin_int, vBin_string, vBin_bool, vConv_int, vExtract_tuple, List.getElem?_cons_succ, List.getElem?_cons_zero, Option.map_some, aBin_add, aBin_sub, aBin_mul, aBin_eql, aBin_neq, aBin_lss, aBin_leq, aBin_gtr, aBin_geq, aUn_not, Bool.not_true, Bool.not_false, Bool.true_eq_false, decide_true, decide_false, eq_self, exd_0_1, exd_0_2, exd_1_2, exd_0_3, exd_1_3, exd_2_3, exd_0_4, exd_1_4, exd_2_4, exd_3_4, exd_0_5, exd_1_5, exd_2_5, exd_3_5, exd_4_5, neaptidelaw01_WireTexts.r0, neaptidelaw01_WireTexts.r1, bs_L_uint8_0, by2_0, if_neg hk, if_neg hj, a1, c1, neaptidelaw01_WireTexts.r2, c2, neaptidelaw01_WireTexts.r3, a2, c3, neaptidelaw01_WireTexts.r4, c4,
          neaptidelaw01_WireTexts.r5, neaptidelaw01_wireAlive.v, nil1, s1, aBin_streq]
      rw [hTe] at hr
      exact neaptidelaw01_WireTexts.runs hr (.inr rfl)
    | some ab =>
      obtain ⟨a, b⟩ := ab
      rw [h2] at c3 c4
      conv at hr =>
        rhs
        rw [hTe]
        simp only [neaptidelaw01_WireTexts.code, vcodeV_seq, vcodeV_region, vcodeV_block, vcodeV_skip, vcodeV_ret, vcodeV_exit, vcodeV_cond, vcodeV_loop, andThen_some, regV_some, seqV_normal, seqV_exit, seqV_ret, blockV_normal, blockV_ret, blockV_exit, condV_true, condV_false, List.getD_cons_succ, List.getD_cons_zero, gd_tt, gd_ff, gd_tf, gd_ft, gd_ut, gdC_tt, gdC_ff, gdC_tf, gdC_ft, gdC_ut, ret_run, vPick_bool, if_true, if_false, reduceIte, Nat.reduceEqDiff, Bool.false_eq_true, okC_bool, okC_int, okC_string, okC_slice, okC_iface, okC_vs, okC_sv, okC_EP, dem_int, dem_bool, dem_string, dem_nil, dem_agg, dem_func, dem_pointer, dem_vs, dem_sv, dem_dem, vBin_int, vBin_string, vBin_bool, vConv_int, vExtract_tuple, List.getElem?_cons_succ, List.getElem?_cons_zero, Option.map_some, aBin_add, aBin_sub, aBin_mul, aBin_eql, aBin_neq, aBin_lss, aBin_leq, aBin_gtr, aBin_geq, aUn_not, Bool.not_true, Bool.not_false, Bool.true_eq_false, decide_true, decide_false, eq_self, exd_0_1, exd_0_2, exd_1_2, exd_0_3, exd_1_3, exd_2_3, exd_0_4, exd_1_4, exd_2_4, exd_3_4, exd_0_5, exd_1_5, exd_2_5, exd_3_5, exd_4_5, neaptidelaw01_WireTexts.r0, neaptidelaw01_WireTexts.r1, bs_L_uint8_0, by2_0, if_neg hk, if_neg hj, a1, c1, neaptidelaw01_WireTexts.r2, c2, neaptidelaw01_WireTexts.r3, a2, c3, neaptidelaw01_WireTexts.r4, c4,
          neaptidelaw01_WireTexts.r5, neaptidelaw01_wireAlive.v, nil1, s1, aBin_streq]
      rw [hTe] at hr
      exact neaptidelaw01_WireTexts.runs hr (.inr rfl)
  · rw [if_neg h1] at c1 c2
    cases h2 : scanT m with
    | none =>
      rw [h2] at c3 c4
      conv at hr =>
        rhs
        rw [hTe]
        simp only [neaptidelaw01_WireTexts.code, vcodeV_seq, vcodeV_region, vcodeV_block, vcodeV_skip, vcodeV_ret, vcodeV_exit, vcodeV_cond, vcodeV_loop, andThen_some, regV_some, seqV_normal, seqV_exit, seqV_ret, blockV_normal, blockV_ret, blockV_exit, condV_true, condV_false, List.getD_cons_succ, List.getD_cons_zero, gd_tt, gd_ff, gd_tf, gd_ft, gd_ut, gdC_tt, gdC_ff, gdC_tf, gdC_ft, gdC_ut, ret_run, vPick_bool, if_true, if_false, reduceIte, Nat.reduceEqDiff, Bool.false_eq_true, okC_bool, okC_int, okC_string, okC_slice, okC_iface, okC_vs, okC_sv, okC_EP, dem_int, dem_bool, dem_string, dem_nil, dem_agg, dem_func, dem_pointer, dem_vs, dem_sv, dem_dem, vBin_int, vBin_string, vBin_bool, vConv_int, vExtract_tuple, List.getElem?_cons_succ, List.getElem?_cons_zero, Option.map_some, aBin_add, aBin_sub, aBin_mul, aBin_eql, aBin_neq, aBin_lss, aBin_leq, aBin_gtr, aBin_geq, aUn_not, Bool.not_true, Bool.not_false, Bool.true_eq_false, decide_true, decide_false, eq_self, exd_0_1, exd_0_2, exd_1_2, exd_0_3, exd_1_3, exd_2_3, exd_0_4, exd_1_4, exd_2_4, exd_3_4, exd_0_5, exd_1_5, exd_2_5, exd_3_5, exd_4_5, neaptidelaw01_WireTexts.r0, neaptidelaw01_WireTexts.r1, bs_L_uint8_0, by2_0, if_neg hk, if_neg hj, a1, c1, neaptidelaw01_WireTexts.r2, c2, neaptidelaw01_WireTexts.r3, a2, c3, neaptidelaw01_WireTexts.r4, c4,
          neaptidelaw01_WireTexts.r5, neaptidelaw01_wireAlive.v, nil1, s1, aBin_streq]
      rw [hTe] at hr
      exact neaptidelaw01_WireTexts.runs hr (.inr rfl)
    | some ab =>
      obtain ⟨a, b⟩ := ab
      rw [h2] at c3 c4
      conv at hr =>
        rhs
        rw [hTe]
        simp only [neaptidelaw01_WireTexts.code, vcodeV_seq, vcodeV_region, vcodeV_block, vcodeV_skip, vcodeV_ret, vcodeV_exit, vcodeV_cond, vcodeV_loop, andThen_some, regV_some, seqV_normal, seqV_exit, seqV_ret, blockV_normal, blockV_ret, blockV_exit, condV_true, condV_false, List.getD_cons_succ, List.getD_cons_zero, gd_tt, gd_ff, gd_tf, gd_ft, gd_ut, gdC_tt, gdC_ff, gdC_tf, gdC_ft, gdC_ut, ret_run, vPick_bool, if_true, if_false, reduceIte, Nat.reduceEqDiff, Bool.false_eq_true, okC_bool, okC_int, okC_string, okC_slice, okC_iface, okC_vs, okC_sv, okC_EP, dem_int, dem_bool, dem_string, dem_nil, dem_agg, dem_func, dem_pointer, dem_vs, dem_sv, dem_dem, vBin_int, vBin_string, vBin_bool, vConv_int, vExtract_tuple, List.getElem?_cons_succ, List.getElem?_cons_zero, Option.map_some, aBin_add, aBin_sub, aBin_mul, aBin_eql, aBin_neq, aBin_lss, aBin_leq, aBin_gtr, aBin_geq, aUn_not, Bool.not_true, Bool.not_false, Bool.true_eq_false, decide_true, decide_false, eq_self, exd_0_1, exd_0_2, exd_1_2, exd_0_3, exd_1_3, exd_2_3, exd_0_4, exd_1_4, exd_2_4, exd_3_4, exd_0_5, exd_1_5, exd_2_5, exd_3_5, exd_4_5, neaptidelaw01_WireTexts.r0, neaptidelaw01_WireTexts.r1, bs_L_uint8_0, by2_0, if_neg hk, if_neg hj, a1, c1, neaptidelaw01_WireTexts.r2, c2, neaptidelaw01_WireTexts.r3, a2, c3, neaptidelaw01_WireTexts.r4, c4,
          neaptidelaw01_WireTexts.r5, neaptidelaw01_wireAlive.v, nil1, s1, aBin_streq]
      rw [hTe] at hr
      exact neaptidelaw01_WireTexts.runs hr (.inr rfl)
theorem law (x : Args codes) (h : Args.Good codes x) : ∃ k, (acall Try.prog k 6 (Args.place codes x AHeap.empty).1 (Args.place codes x AHeap.empty).2).map (·.1) = some (.bool true) := by
  obtain ⟨t, b, u⟩ := x
  obtain ⟨h1, h2, _⟩ := h
  obtain ⟨k, l, q1, q2, q3, q4⟩ := in_bytes t h1
  obtain ⟨j, m, p1, p2, p3, p4⟩ := in_bytes b h2
  refine law_of_vlim ora_ok (S' := AHeap.empty) ?_
  have e : Args.vval codes (t, b, u) = [by_ k l, by_ j m] := by
    show [argOf false ((Ty.slc 1 (.int .u8)).vval t), argOf false ((Ty.slc 1 (.int .u8)).vval b)] = _
    rw [q3, p3]; rfl
  rw [e]
  exact run q2 p2 q1 p1 q4 p4 _
end wireTexts
end Go.Proofs.Ytjlhjebmbllkiaa
