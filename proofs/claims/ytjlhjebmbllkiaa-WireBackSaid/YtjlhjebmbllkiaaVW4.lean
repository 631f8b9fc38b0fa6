/-
Texts as bytes: what wire.Text, wire.ReadText and the document's answer.
-/
import Derived.Test.YtjlhjebmbllkiaaF16
import Derived.Test.YtjlhjebmbllkiaaF17
import Derived.Test.YtjlhjebmbllkiaaF18
import Derived.Test.YtjlhjebmbllkiaaF19
import Derived.Test.YtjlhjebmbllkiaaVW3
set_option linter.unusedVariables false
set_option linter.unusedSimpArgs false
namespace Go.Proofs.Ytjlhjebmbllkiaa
open Go.Abs

/-- A text's bytes. -/
def encT (l : List UInt8) : List UInt8 := enc l.length ++ l
def textV (l : List UInt8) : Value := if 4096 < l.length then .tuple #[.slice none 0 0, .int .i64 11] else .tuple #[by_ 2 (encT l), .int .i64 0]
/-- The text with which bytes begin, and what is behind it. -/
def scanT (l : List UInt8) : Option (List UInt8 × List UInt8) :=
  match scan 0 0 l with
  | some (m, rest) => if m ≤ 4096 ∧ m ≤ rest.length then some (rest.take m, rest.drop m) else none
  | none => none
def readTV (k : Nat) (l : List UInt8) : Value :=
  match scanT l with
  | some (a, b) => .tuple #[by_ k a, by_ k b, .int .i64 0]
  | none => .tuple #[.slice none 0 0, .slice none 0 0, .int .i64 11]

section
variable {k : Nat} {l : List UInt8}
theorem wire_Text.v (hv : Okl k l) (hk : k ≠ 2) (S : AHeap) : vlim Try.prog O wire_Text.id [by_ k l] S = some (textV l, S) := by
  obtain ⟨T, hTe⟩ : ∃ T, T = (by_ k l :: undef :: undef :: undef :: undef :: undef :: undef :: undef :: undef :: undef :: undef :: undef :: undef :: []) := ⟨_, rfl⟩
  have hr : vcodeV Try.prog O wire_Text.code T S = vcodeV Try.prog O wire_Text.code T S := rfl
  conv at hr =>
    rhs
    rw [hTe]
    simp only [wire_Text.code, vcodeV_seq, vcodeV_region, vcodeV_block, vcodeV_skip, vcodeV_ret, vcodeV_exit, vcodeV_cond, vcodeV_loop, andThen_some, regV_some, seqV_normal, seqV_exit, seqV_ret, blockV_normal, blockV_ret, blockV_exit, condK_true, condK_false, andK_some, gdK_tt, gdK_ff, gdK_tf, gdK_ft, gdK_ut, gdCK_tt, gdCK_ff, gdCK_tf, gdCK_ft, gdCK_ut, okK_bool, okK_int, okK_string, okK_slice, okK_pointer, okK_SL, okK_EP, okK_sv, okK_vs, List.getD_cons_succ, List.getD_cons_zero, gd_tt, gd_ff, gd_tf, gd_ft, gd_ut, gdC_tt, gdC_ff, gdC_tf, gdC_ft, gdC_ut, ret_run, vPick_bool, if_true, if_false, reduceIte, Nat.reduceEqDiff, Bool.false_eq_true, okC_bool, okC_int, okC_string, okC_slice, okC_iface, okC_vs, okC_sv, okC_EP, dem_undef, dem_int, dem_bool, dem_string, dem_nil, dem_agg, dem_func, dem_pointer, dem_vs, dem_sv, dem_dem, vBin_int, vBin_string, vBin_bool, vConv_int, vExtract_tuple, List.getElem?_cons_succ, List.getElem?_cons_zero, Option.map_some, aBin_add, aBin_sub, aBin_mul, aBin_eql, aBin_neq, aBin_lss, aBin_leq, aBin_gtr, aBin_geq, aUn_not, Bool.not_true, Bool.not_false, Bool.true_eq_false, decide_true, decide_false, eq_self, exd_0_1, exd_0_2, exd_1_2, exd_0_3, exd_1_3, exd_2_3, exd_0_4, exd_1_4, exd_2_4, exd_3_4, exd_0_5, exd_1_5, exd_2_5, exd_3_5, exd_4_5, wire_Text.r0, wire_Text.r1, if_neg hk, by_len hv, goInt]
  unfold textV
  by_cases hl : 4096 < l.length
  · have hd : decide ((4096 : Int) < (l.length : Int)) = true := by rw [decide_eq_true_eq]; omega
    conv at hr =>
      rhs
      simp only [hd, vcodeV_seq, vcodeV_region, vcodeV_block, vcodeV_skip, vcodeV_ret, vcodeV_exit, vcodeV_cond, vcodeV_loop, andThen_some, regV_some, seqV_normal, seqV_exit, seqV_ret, blockV_normal, blockV_ret, blockV_exit, condK_true, condK_false, andK_some, gdK_tt, gdK_ff, gdK_tf, gdK_ft, gdK_ut, gdCK_tt, gdCK_ff, gdCK_tf, gdCK_ft, gdCK_ut, okK_bool, okK_int, okK_string, okK_slice, okK_pointer, okK_SL, okK_EP, okK_sv, okK_vs, List.getD_cons_succ, List.getD_cons_zero, gd_tt, gd_ff, gd_tf, gd_ft, gd_ut, gdC_tt, gdC_ff, gdC_tf, gdC_ft, gdC_ut, ret_run, vPick_bool, if_true, if_false, reduceIte, Nat.reduceEqDiff, Bool.false_eq_true, okC_bool, okC_int, okC_string, okC_slice, okC_iface, okC_vs, okC_sv, okC_EP, dem_undef, dem_int, dem_bool, dem_string, dem_nil, dem_agg, dem_func, dem_pointer, dem_vs, dem_sv, dem_dem, vBin_int, vBin_string, vBin_bool, vConv_int, vExtract_tuple, List.getElem?_cons_succ, List.getElem?_cons_zero, Option.map_some, aBin_add, aBin_sub, aBin_mul, aBin_eql, aBin_neq, aBin_lss, aBin_leq, aBin_gtr, aBin_geq, aUn_not, Bool.not_true, Bool.not_false, Bool.true_eq_false, decide_true, decide_false, eq_self, exd_0_1, exd_0_2, exd_1_2, exd_0_3, exd_1_3, exd_2_3, exd_0_4, exd_1_4, exd_2_4, exd_3_4, exd_0_5, exd_1_5, exd_2_5, exd_3_5, exd_4_5, wire_Text.r2]
    rw [hTe] at hr
    rw [if_pos hl]
    exact wire_Text.runs hr (.inr rfl) (by simp only [List.getD_cons_succ, List.getD_cons_zero, notTuple_vs, notTuple_int, notTuple_slice, notTuple_bool, notTuple_agg]) (by simp only [List.getD_cons_succ, List.getD_cons_zero, notTuple_vs, notTuple_int, notTuple_slice, notTuple_bool, notTuple_agg])
  · have hd : decide ((4096 : Int) < (l.length : Int)) = false := by rw [decide_eq_false_iff_not]; omega
    have h10 := enc_len10 (n := l.length) (by omega)
    have hp := enc_pos l.length
    have e1 : ∀ S, vAppend Try.prog 23 23 (by_ 2 (enc l.length)) (by_ k l) S = some (by_ 2 (encT l), S) := fun S => by
      rw [by_append Okl.own (by decide) hv (by omega)]; rfl
    conv at hr =>
      rhs
      simp only [hd, vcodeV_seq, vcodeV_region, vcodeV_block, vcodeV_skip, vcodeV_ret, vcodeV_exit, vcodeV_cond, vcodeV_loop, andThen_some, regV_some, seqV_normal, seqV_exit, seqV_ret, blockV_normal, blockV_ret, blockV_exit, condK_true, condK_false, andK_some, gdK_tt, gdK_ff, gdK_tf, gdK_ft, gdK_ut, gdCK_tt, gdCK_ff, gdCK_tf, gdCK_ft, gdCK_ut, okK_bool, okK_int, okK_string, okK_slice, okK_pointer, okK_SL, okK_EP, okK_sv, okK_vs, List.getD_cons_succ, List.getD_cons_zero, gd_tt, gd_ff, gd_tf, gd_ft, gd_ut, gdC_tt, gdC_ff, gdC_tf, gdC_ft, gdC_ut, ret_run, vPick_bool, if_true, if_false, reduceIte, Nat.reduceEqDiff, Bool.false_eq_true, okC_bool, okC_int, okC_string, okC_slice, okC_iface, okC_vs, okC_sv, okC_EP, dem_undef, dem_int, dem_bool, dem_string, dem_nil, dem_agg, dem_func, dem_pointer, dem_vs, dem_sv, dem_dem, vBin_int, vBin_string, vBin_bool, vConv_int, vExtract_tuple, List.getElem?_cons_succ, List.getElem?_cons_zero, Option.map_some, aBin_add, aBin_sub, aBin_mul, aBin_eql, aBin_neq, aBin_lss, aBin_leq, aBin_gtr, aBin_geq, aUn_not, Bool.not_true, Bool.not_false, Bool.true_eq_false, decide_true, decide_false, eq_self, exd_0_1, exd_0_2, exd_1_2, exd_0_3, exd_1_3, exd_2_3, exd_0_4, exd_1_4, exd_2_4, exd_3_4, exd_0_5, exd_1_5, exd_2_5, exd_3_5, exd_4_5, wire_Text.r3, if_neg hk, by_len hv, goInt, cv_int_uint64, wrap_u64s (show l.length < 2 ^ 64 by omega), wire_Num.v _ (show l.length < 2 ^ 64 by omega), e1]
    rw [hTe] at hr
    rw [if_neg hl]
    exact wire_Text.runs hr (.inr rfl) (by simp only [List.getD_cons_succ, List.getD_cons_zero, notTuple_vs, notTuple_int, notTuple_slice, notTuple_bool, notTuple_agg]) (by simp only [List.getD_cons_succ, List.getD_cons_zero, notTuple_vs, notTuple_int, notTuple_slice, notTuple_bool, notTuple_agg])
theorem neaptideref01_Text.v (hv : Okl k l) (hk : k ≠ 2) (S : AHeap) : vlim Try.prog O neaptideref01_Text.id [by_ k l] S = some (textV l, S) := by
  obtain ⟨T, hTe⟩ : ∃ T, T = (by_ k l :: undef :: undef :: undef :: undef :: undef :: undef :: undef :: undef :: undef :: undef :: undef :: undef :: []) := ⟨_, rfl⟩
  have hr : vcodeV Try.prog O neaptideref01_Text.code T S = vcodeV Try.prog O neaptideref01_Text.code T S := rfl
  conv at hr =>
    rhs
    rw [hTe]
    simp only [neaptideref01_Text.code, vcodeV_seq, vcodeV_region, vcodeV_block, vcodeV_skip, vcodeV_ret, vcodeV_exit, vcodeV_cond, vcodeV_loop, andThen_some, regV_some, seqV_normal, seqV_exit, seqV_ret, blockV_normal, blockV_ret, blockV_exit, condK_true, condK_false, andK_some, gdK_tt, gdK_ff, gdK_tf, gdK_ft, gdK_ut, gdCK_tt, gdCK_ff, gdCK_tf, gdCK_ft, gdCK_ut, okK_bool, okK_int, okK_string, okK_slice, okK_pointer, okK_SL, okK_EP, okK_sv, okK_vs, List.getD_cons_succ, List.getD_cons_zero, gd_tt, gd_ff, gd_tf, gd_ft, gd_ut, gdC_tt, gdC_ff, gdC_tf, gdC_ft, gdC_ut, ret_run, vPick_bool, if_true, if_false, reduceIte, Nat.reduceEqDiff, Bool.false_eq_true, okC_bool, okC_int, okC_string, okC_slice, okC_iface, okC_vs, okC_sv, okC_EP, dem_undef, dem_int, dem_bool, dem_string, dem_nil, dem_agg, dem_func, dem_pointer, dem_vs, dem_sv, dem_dem, vBin_int, vBin_string, vBin_bool, vConv_int, vExtract_tuple, List.getElem?_cons_succ, List.getElem?_cons_zero, Option.map_some, aBin_add, aBin_sub, aBin_mul, aBin_eql, aBin_neq, aBin_lss, aBin_leq, aBin_gtr, aBin_geq, aUn_not, Bool.not_true, Bool.not_false, Bool.true_eq_false, decide_true, decide_false, eq_self, exd_0_1, exd_0_2, exd_1_2, exd_0_3, exd_1_3, exd_2_3, exd_0_4, exd_1_4, exd_2_4, exd_3_4, exd_0_5, exd_1_5, exd_2_5, exd_3_5, exd_4_5, neaptideref01_Text.r0, neaptideref01_Text.r1, if_neg hk, by_len hv, goInt]
  unfold textV
  by_cases hl : 4096 < l.length
  · have hd : decide ((4096 : Int) < (l.length : Int)) = true := by rw [decide_eq_true_eq]; omega
    conv at hr =>
      rhs
      simp only [hd, vcodeV_seq, vcodeV_region, vcodeV_block, vcodeV_skip, vcodeV_ret, vcodeV_exit, vcodeV_cond, vcodeV_loop, andThen_some, regV_some, seqV_normal, seqV_exit, seqV_ret, blockV_normal, blockV_ret, blockV_exit, condK_true, condK_false, andK_some, gdK_tt, gdK_ff, gdK_tf, gdK_ft, gdK_ut, gdCK_tt, gdCK_ff, gdCK_tf, gdCK_ft, gdCK_ut, okK_bool, okK_int, okK_string, okK_slice, okK_pointer, okK_SL, okK_EP, okK_sv, okK_vs, List.getD_cons_succ, List.getD_cons_zero, gd_tt, gd_ff, gd_tf, gd_ft, gd_ut, gdC_tt, gdC_ff, gdC_tf, gdC_ft, gdC_ut, ret_run, vPick_bool, if_true, if_false, reduceIte, Nat.reduceEqDiff, Bool.false_eq_true, okC_bool, okC_int, okC_string, okC_slice, okC_iface, okC_vs, okC_sv, okC_EP, dem_undef, dem_int, dem_bool, dem_string, dem_nil, dem_agg, dem_func, dem_pointer, dem_vs, dem_sv, dem_dem, vBin_int, vBin_string, vBin_bool, vConv_int, vExtract_tuple, List.getElem?_cons_succ, List.getElem?_cons_zero, Option.map_some, aBin_add, aBin_sub, aBin_mul, aBin_eql, aBin_neq, aBin_lss, aBin_leq, aBin_gtr, aBin_geq, aUn_not, Bool.not_true, Bool.not_false, Bool.true_eq_false, decide_true, decide_false, eq_self, exd_0_1, exd_0_2, exd_1_2, exd_0_3, exd_1_3, exd_2_3, exd_0_4, exd_1_4, exd_2_4, exd_3_4, exd_0_5, exd_1_5, exd_2_5, exd_3_5, exd_4_5, neaptideref01_Text.r2]
    rw [hTe] at hr
    rw [if_pos hl]
    exact neaptideref01_Text.runs hr (.inr rfl) (by simp only [List.getD_cons_succ, List.getD_cons_zero, notTuple_vs, notTuple_int, notTuple_slice, notTuple_bool, notTuple_agg]) (by simp only [List.getD_cons_succ, List.getD_cons_zero, notTuple_vs, notTuple_int, notTuple_slice, notTuple_bool, notTuple_agg])
  · have hd : decide ((4096 : Int) < (l.length : Int)) = false := by rw [decide_eq_false_iff_not]; omega
    have h10 := enc_len10 (n := l.length) (by omega)
    have e1 : ∀ S, vAppend Try.prog 23 23 (by_ 2 (enc l.length)) (by_ k l) S = some (by_ 2 (encT l), S) := fun S => by
      rw [by_append Okl.own (by decide) hv (by omega)]; rfl
    conv at hr =>
      rhs
      simp only [hd, vcodeV_seq, vcodeV_region, vcodeV_block, vcodeV_skip, vcodeV_ret, vcodeV_exit, vcodeV_cond, vcodeV_loop, andThen_some, regV_some, seqV_normal, seqV_exit, seqV_ret, blockV_normal, blockV_ret, blockV_exit, condK_true, condK_false, andK_some, gdK_tt, gdK_ff, gdK_tf, gdK_ft, gdK_ut, gdCK_tt, gdCK_ff, gdCK_tf, gdCK_ft, gdCK_ut, okK_bool, okK_int, okK_string, okK_slice, okK_pointer, okK_SL, okK_EP, okK_sv, okK_vs, List.getD_cons_succ, List.getD_cons_zero, gd_tt, gd_ff, gd_tf, gd_ft, gd_ut, gdC_tt, gdC_ff, gdC_tf, gdC_ft, gdC_ut, ret_run, vPick_bool, if_true, if_false, reduceIte, Nat.reduceEqDiff, Bool.false_eq_true, okC_bool, okC_int, okC_string, okC_slice, okC_iface, okC_vs, okC_sv, okC_EP, dem_undef, dem_int, dem_bool, dem_string, dem_nil, dem_agg, dem_func, dem_pointer, dem_vs, dem_sv, dem_dem, vBin_int, vBin_string, vBin_bool, vConv_int, vExtract_tuple, List.getElem?_cons_succ, List.getElem?_cons_zero, Option.map_some, aBin_add, aBin_sub, aBin_mul, aBin_eql, aBin_neq, aBin_lss, aBin_leq, aBin_gtr, aBin_geq, aUn_not, Bool.not_true, Bool.not_false, Bool.true_eq_false, decide_true, decide_false, eq_self, exd_0_1, exd_0_2, exd_1_2, exd_0_3, exd_1_3, exd_2_3, exd_0_4, exd_1_4, exd_2_4, exd_3_4, exd_0_5, exd_1_5, exd_2_5, exd_3_5, exd_4_5, neaptideref01_Text.r3, if_neg hk, by_len hv, goInt, cv_int_uint64, wrap_u64s (show l.length < 2 ^ 64 by omega), neaptideref01_Num.v _ (show l.length < 2 ^ 64 by omega), e1]
    rw [hTe] at hr
    rw [if_neg hl]
    exact neaptideref01_Text.runs hr (.inr rfl) (by simp only [List.getD_cons_succ, List.getD_cons_zero, notTuple_vs, notTuple_int, notTuple_slice, notTuple_bool, notTuple_agg]) (by simp only [List.getD_cons_succ, List.getD_cons_zero, notTuple_vs, notTuple_int, notTuple_slice, notTuple_bool, notTuple_agg])

theorem wire_ReadText.v (hv : Okl k l) (hk : k ≠ 2) (hlen : l.length ≤ 140737488355328) (S : AHeap) : vlim Try.prog O wire_ReadText.id [by_ k l] S = some (readTV 2 l, S) := by
  obtain ⟨T, hTe⟩ : ∃ T, T = (by_ k l :: undef :: undef :: undef :: undef :: undef :: undef :: undef :: undef :: undef :: undef :: undef :: undef :: undef :: undef :: undef :: undef :: undef :: undef :: undef :: undef :: undef :: undef :: undef :: undef :: undef :: undef :: undef :: undef :: undef :: undef :: undef :: undef :: undef :: undef :: []) := ⟨_, rfl⟩
  have hr : vcodeV Try.prog O wire_ReadText.code T S = vcodeV Try.prog O wire_ReadText.code T S := rfl
  have e1 : ∀ S, vlim Try.prog O 11 [by_ k l] S = some (readV l, S) := wire_ReadNum.v hv hk hlen
  conv at hr =>
    rhs
    rw [hTe]
    simp only [wire_ReadText.code, vcodeV_seq, vcodeV_region, vcodeV_block, vcodeV_skip, vcodeV_ret, vcodeV_exit, vcodeV_cond, vcodeV_loop, andThen_some, regV_some, seqV_normal, seqV_exit, seqV_ret, blockV_normal, blockV_ret, blockV_exit, condK_true, condK_false, andK_some, gdK_tt, gdK_ff, gdK_tf, gdK_ft, gdK_ut, gdCK_tt, gdCK_ff, gdCK_tf, gdCK_ft, gdCK_ut, okK_bool, okK_int, okK_string, okK_slice, okK_pointer, okK_SL, okK_EP, okK_sv, okK_vs, List.getD_cons_succ, List.getD_cons_zero, gd_tt, gd_ff, gd_tf, gd_ft, gd_ut, gdC_tt, gdC_ff, gdC_tf, gdC_ft, gdC_ut, ret_run, vPick_bool, if_true, if_false, reduceIte, Nat.reduceEqDiff, Bool.false_eq_true, okC_bool, okC_int, okC_string, okC_slice, okC_iface, okC_vs, okC_sv, okC_EP, dem_undef, dem_int, dem_bool, dem_string, dem_nil, dem_agg, dem_func, dem_pointer, dem_vs, dem_sv, dem_dem, vBin_int, vBin_string, vBin_bool, vConv_int, vExtract_tuple, List.getElem?_cons_succ, List.getElem?_cons_zero, Option.map_some, aBin_add, aBin_sub, aBin_mul, aBin_eql, aBin_neq, aBin_lss, aBin_leq, aBin_gtr, aBin_geq, aUn_not, Bool.not_true, Bool.not_false, Bool.true_eq_false, decide_true, decide_false, eq_self, exd_0_1, exd_0_2, exd_1_2, exd_0_3, exd_1_3, exd_2_3, exd_0_4, exd_1_4, exd_2_4, exd_3_4, exd_0_5, exd_1_5, exd_2_5, exd_3_5, exd_4_5, wire_ReadText.r0, wire_ReadText.r1, if_neg hk, e1]
  unfold readTV scanT
  unfold readV at hr
  cases hsc : scan 0 0 l with
  | none =>
    rw [hsc] at hr
    have d1 : decide ((11 : Int) = 0) = false := by decide
    conv at hr =>
      rhs
      simp only [vcodeV_seq, vcodeV_region, vcodeV_block, vcodeV_skip, vcodeV_ret, vcodeV_exit, vcodeV_cond, vcodeV_loop, andThen_some, regV_some, seqV_normal, seqV_exit, seqV_ret, blockV_normal, blockV_ret, blockV_exit, condK_true, condK_false, andK_some, gdK_tt, gdK_ff, gdK_tf, gdK_ft, gdK_ut, gdCK_tt, gdCK_ff, gdCK_tf, gdCK_ft, gdCK_ut, okK_bool, okK_int, okK_string, okK_slice, okK_pointer, okK_SL, okK_EP, okK_sv, okK_vs, List.getD_cons_succ, List.getD_cons_zero, gd_tt, gd_ff, gd_tf, gd_ft, gd_ut, gdC_tt, gdC_ff, gdC_tf, gdC_ft, gdC_ut, ret_run, vPick_bool, if_true, if_false, reduceIte, Nat.reduceEqDiff, Bool.false_eq_true, okC_bool, okC_int, okC_string, okC_slice, okC_iface, okC_vs, okC_sv, okC_EP, dem_undef, dem_int, dem_bool, dem_string, dem_nil, dem_agg, dem_func, dem_pointer, dem_vs, dem_sv, dem_dem, vBin_int, vBin_string, vBin_bool, vConv_int, vExtract_tuple, List.getElem?_cons_succ, List.getElem?_cons_zero, Option.map_some, aBin_add, aBin_sub, aBin_mul, aBin_eql, aBin_neq, aBin_lss, aBin_leq, aBin_gtr, aBin_geq, aUn_not, Bool.not_true, Bool.not_false, Bool.true_eq_false, decide_true, decide_false, eq_self, exd_0_1, exd_0_2, exd_1_2, exd_0_3, exd_1_3, exd_2_3, exd_0_4, exd_1_4, exd_2_4, exd_3_4, exd_0_5, exd_1_5, exd_2_5, exd_3_5, exd_4_5, wire_ReadText.r2, d1, wire_ReadText.r3]
    rw [hTe] at hr
    exact wire_ReadText.runs hr (.inr rfl) (by simp only [List.getD_cons_succ, List.getD_cons_zero, notTuple_vs, notTuple_int, notTuple_slice, notTuple_bool, notTuple_agg]) (by simp only [List.getD_cons_succ, List.getD_cons_zero, notTuple_vs, notTuple_int, notTuple_slice, notTuple_bool, notTuple_agg]) (by simp only [List.getD_cons_succ, List.getD_cons_zero, notTuple_vs, notTuple_int, notTuple_slice, notTuple_bool, notTuple_agg])
  | some mr =>
    obtain ⟨m, rest⟩ := mr
    obtain ⟨hm, hrl⟩ := scan_lt l 0 0 (by decide) (by omega) m rest hsc
    rw [hsc] at hr
    have d1 : decide ((0 : Int) = 0) = true := by decide
    dsimp only
    by_cases h1 : m ≤ 4096
    · have d2 : decide ((4096 : Int) < (m : Int)) = false := by rw [decide_eq_false_iff_not]; omega
      by_cases h2 : m ≤ rest.length
      · have d3 : decide ((rest.length : Int) < (m : Int)) = false := by rw [decide_eq_false_iff_not]; omega
        have s1 : ∀ S, vSlice Try.prog 23 (by_ 1 rest) none (some (.int .u64 m)) S = some (by_ 1 (rest.take m), S) := fun S => by
          rw [by_slice Okl.read (lo := none) (hi := some (.int .u64 m)) (i := 0) (j := m) rfl rfl (by omega) (by omega) (by omega)]; simp
        have s2 : ∀ S, vSlice Try.prog 23 (by_ 1 rest) (some (.int .u64 m)) none S = some (by_ 1 (rest.drop m), S) := fun S => by
          rw [by_slice Okl.read (lo := some (.int .u64 m)) (hi := none) (i := m) (j := rest.length) rfl rfl (by omega) (by omega) (by omega)]
          simp only [Int.toNat_natCast]
          rw [List.take_of_length_le (by simp)]; rfl
        have c1 : ∀ S, vlim Try.prog O 25 [by_ 1 (rest.take m)] S = some (by_ 2 (rest.take m), S) := fun S => slices_Clone.v Okl.read (by decide) (by simp; omega) S
        have c2 : ∀ S, vlim Try.prog O 25 [by_ 1 (rest.drop m)] S = some (by_ 2 (rest.drop m), S) := fun S => slices_Clone.v Okl.read (by decide) (by simp; omega) S
        conv at hr =>
          rhs
          simp only [vcodeV_seq, vcodeV_region, vcodeV_block, vcodeV_skip, vcodeV_ret, vcodeV_exit, vcodeV_cond, vcodeV_loop, andThen_some, regV_some, seqV_normal, seqV_exit, seqV_ret, blockV_normal, blockV_ret, blockV_exit, condK_true, condK_false, andK_some, gdK_tt, gdK_ff, gdK_tf, gdK_ft, gdK_ut, gdCK_tt, gdCK_ff, gdCK_tf, gdCK_ft, gdCK_ut, okK_bool, okK_int, okK_string, okK_slice, okK_pointer, okK_SL, okK_EP, okK_sv, okK_vs, List.getD_cons_succ, List.getD_cons_zero, gd_tt, gd_ff, gd_tf, gd_ft, gd_ut, gdC_tt, gdC_ff, gdC_tf, gdC_ft, gdC_ut, ret_run, vPick_bool, if_true, if_false, reduceIte, Nat.reduceEqDiff, Bool.false_eq_true, okC_bool, okC_int, okC_string, okC_slice, okC_iface, okC_vs, okC_sv, okC_EP, dem_undef, dem_int, dem_bool, dem_string, dem_nil, dem_agg, dem_func, dem_pointer, dem_vs, dem_sv, dem_dem, vBin_int, vBin_string, vBin_bool, vConv_int, vExtract_tuple, List.getElem?_cons_succ, List.getElem?_cons_zero, Option.map_some, aBin_add, aBin_sub, aBin_mul, aBin_eql, aBin_neq, aBin_lss, aBin_leq, aBin_gtr, aBin_geq, aUn_not, Bool.not_true, Bool.not_false, Bool.true_eq_false, decide_true, decide_false, eq_self, exd_0_1, exd_0_2, exd_1_2, exd_0_3, exd_1_3, exd_2_3, exd_0_4, exd_1_4, exd_2_4, exd_3_4, exd_0_5, exd_1_5, exd_2_5, exd_3_5, exd_4_5, wire_ReadText.r2, d1, d2, by_len (Okl.read), goInt, cv_int_uint64, wrap_u64s (show rest.length < 2 ^ 64 by omega), d3, wire_ReadText.r4, s1, s2, c1, c2]
        rw [hTe] at hr
        rw [if_pos ⟨h1, h2⟩]
        exact wire_ReadText.runs hr (.inr rfl) (by simp only [List.getD_cons_succ, List.getD_cons_zero, notTuple_vs, notTuple_int, notTuple_slice, notTuple_bool, notTuple_agg]) (by simp only [List.getD_cons_succ, List.getD_cons_zero, notTuple_vs, notTuple_int, notTuple_slice, notTuple_bool, notTuple_agg]) (by simp only [List.getD_cons_succ, List.getD_cons_zero, notTuple_vs, notTuple_int, notTuple_slice, notTuple_bool, notTuple_agg])
      · have d3 : decide ((rest.length : Int) < (m : Int)) = true := by rw [decide_eq_true_eq]; omega
        conv at hr =>
          rhs
          simp only [vcodeV_seq, vcodeV_region, vcodeV_block, vcodeV_skip, vcodeV_ret, vcodeV_exit, vcodeV_cond, vcodeV_loop, andThen_some, regV_some, seqV_normal, seqV_exit, seqV_ret, blockV_normal, blockV_ret, blockV_exit, condK_true, condK_false, andK_some, gdK_tt, gdK_ff, gdK_tf, gdK_ft, gdK_ut, gdCK_tt, gdCK_ff, gdCK_tf, gdCK_ft, gdCK_ut, okK_bool, okK_int, okK_string, okK_slice, okK_pointer, okK_SL, okK_EP, okK_sv, okK_vs, List.getD_cons_succ, List.getD_cons_zero, gd_tt, gd_ff, gd_tf, gd_ft, gd_ut, gdC_tt, gdC_ff, gdC_tf, gdC_ft, gdC_ut, ret_run, vPick_bool, if_true, if_false, reduceIte, Nat.reduceEqDiff, Bool.false_eq_true, okC_bool, okC_int, okC_string, okC_slice, okC_iface, okC_vs, okC_sv, okC_EP, dem_undef, dem_int, dem_bool, dem_string, dem_nil, dem_agg, dem_func, dem_pointer, dem_vs, dem_sv, dem_dem, vBin_int, vBin_string, vBin_bool, vConv_int, vExtract_tuple, List.getElem?_cons_succ, List.getElem?_cons_zero, Option.map_some, aBin_add, aBin_sub, aBin_mul, aBin_eql, aBin_neq, aBin_lss, aBin_leq, aBin_gtr, aBin_geq, aUn_not, Bool.not_true, Bool.not_false, Bool.true_eq_false, decide_true, decide_false, eq_self, exd_0_1, exd_0_2, exd_1_2, exd_0_3, exd_1_3, exd_2_3, exd_0_4, exd_1_4, exd_2_4, exd_3_4, exd_0_5, exd_1_5, exd_2_5, exd_3_5, exd_4_5, wire_ReadText.r2, d1, d2, by_len (Okl.read), goInt, cv_int_uint64, wrap_u64s (show rest.length < 2 ^ 64 by omega), d3, wire_ReadText.r3]
        rw [hTe] at hr
        rw [if_neg (fun h => h2 h.2)]
        exact wire_ReadText.runs hr (.inr rfl) (by simp only [List.getD_cons_succ, List.getD_cons_zero, notTuple_vs, notTuple_int, notTuple_slice, notTuple_bool, notTuple_agg]) (by simp only [List.getD_cons_succ, List.getD_cons_zero, notTuple_vs, notTuple_int, notTuple_slice, notTuple_bool, notTuple_agg]) (by simp only [List.getD_cons_succ, List.getD_cons_zero, notTuple_vs, notTuple_int, notTuple_slice, notTuple_bool, notTuple_agg])
    · have d2 : decide ((4096 : Int) < (m : Int)) = true := by rw [decide_eq_true_eq]; omega
      conv at hr =>
        rhs
        simp only [vcodeV_seq, vcodeV_region, vcodeV_block, vcodeV_skip, vcodeV_ret, vcodeV_exit, vcodeV_cond, vcodeV_loop, andThen_some, regV_some, seqV_normal, seqV_exit, seqV_ret, blockV_normal, blockV_ret, blockV_exit, condK_true, condK_false, andK_some, gdK_tt, gdK_ff, gdK_tf, gdK_ft, gdK_ut, gdCK_tt, gdCK_ff, gdCK_tf, gdCK_ft, gdCK_ut, okK_bool, okK_int, okK_string, okK_slice, okK_pointer, okK_SL, okK_EP, okK_sv, okK_vs, List.getD_cons_succ, List.getD_cons_zero, gd_tt, gd_ff, gd_tf, gd_ft, gd_ut, gdC_tt, gdC_ff, gdC_tf, gdC_ft, gdC_ut, ret_run, vPick_bool, if_true, if_false, reduceIte, Nat.reduceEqDiff, Bool.false_eq_true, okC_bool, okC_int, okC_string, okC_slice, okC_iface, okC_vs, okC_sv, okC_EP, dem_undef, dem_int, dem_bool, dem_string, dem_nil, dem_agg, dem_func, dem_pointer, dem_vs, dem_sv, dem_dem, vBin_int, vBin_string, vBin_bool, vConv_int, vExtract_tuple, List.getElem?_cons_succ, List.getElem?_cons_zero, Option.map_some, aBin_add, aBin_sub, aBin_mul, aBin_eql, aBin_neq, aBin_lss, aBin_leq, aBin_gtr, aBin_geq, aUn_not, Bool.not_true, Bool.not_false, Bool.true_eq_false, decide_true, decide_false, eq_self, exd_0_1, exd_0_2, exd_1_2, exd_0_3, exd_1_3, exd_2_3, exd_0_4, exd_1_4, exd_2_4, exd_3_4, exd_0_5, exd_1_5, exd_2_5, exd_3_5, exd_4_5, wire_ReadText.r2, d1, d2, wire_ReadText.r3]
      rw [hTe] at hr
      rw [if_neg (fun h => h1 h.1)]
      exact wire_ReadText.runs hr (.inr rfl) (by simp only [List.getD_cons_succ, List.getD_cons_zero, notTuple_vs, notTuple_int, notTuple_slice, notTuple_bool, notTuple_agg]) (by simp only [List.getD_cons_succ, List.getD_cons_zero, notTuple_vs, notTuple_int, notTuple_slice, notTuple_bool, notTuple_agg]) (by simp only [List.getD_cons_succ, List.getD_cons_zero, notTuple_vs, notTuple_int, notTuple_slice, notTuple_bool, notTuple_agg])

theorem neaptideref01_ReadText.v (hv : Okl k l) (hk : k ≠ 2) (hlen : l.length ≤ 140737488355328) (S : AHeap) : vlim Try.prog O neaptideref01_ReadText.id [by_ k l] S = some (readTV 1 l, S) := by
  obtain ⟨T, hTe⟩ : ∃ T, T = (by_ k l :: undef :: undef :: undef :: undef :: undef :: undef :: undef :: undef :: undef :: undef :: undef :: undef :: undef :: undef :: undef :: undef :: undef :: undef :: undef :: undef :: undef :: undef :: undef :: undef :: undef :: undef :: undef :: undef :: undef :: undef :: undef :: undef :: []) := ⟨_, rfl⟩
  have hr : vcodeV Try.prog O neaptideref01_ReadText.code T S = vcodeV Try.prog O neaptideref01_ReadText.code T S := rfl
  have e1 : ∀ S, vlim Try.prog O 13 [by_ k l] S = some (readV l, S) := neaptideref01_ReadNum.v hv hk hlen
  conv at hr =>
    rhs
    rw [hTe]
    simp only [neaptideref01_ReadText.code, vcodeV_seq, vcodeV_region, vcodeV_block, vcodeV_skip, vcodeV_ret, vcodeV_exit, vcodeV_cond, vcodeV_loop, andThen_some, regV_some, seqV_normal, seqV_exit, seqV_ret, blockV_normal, blockV_ret, blockV_exit, condK_true, condK_false, andK_some, gdK_tt, gdK_ff, gdK_tf, gdK_ft, gdK_ut, gdCK_tt, gdCK_ff, gdCK_tf, gdCK_ft, gdCK_ut, okK_bool, okK_int, okK_string, okK_slice, okK_pointer, okK_SL, okK_EP, okK_sv, okK_vs, List.getD_cons_succ, List.getD_cons_zero, gd_tt, gd_ff, gd_tf, gd_ft, gd_ut, gdC_tt, gdC_ff, gdC_tf, gdC_ft, gdC_ut, ret_run, vPick_bool, if_true, if_false, reduceIte, Nat.reduceEqDiff, Bool.false_eq_true, okC_bool, okC_int, okC_string, okC_slice, okC_iface, okC_vs, okC_sv, okC_EP, dem_undef, dem_int, dem_bool, dem_string, dem_nil, dem_agg, dem_func, dem_pointer, dem_vs, dem_sv, dem_dem, vBin_int, vBin_string, vBin_bool, vConv_int, vExtract_tuple, List.getElem?_cons_succ, List.getElem?_cons_zero, Option.map_some, aBin_add, aBin_sub, aBin_mul, aBin_eql, aBin_neq, aBin_lss, aBin_leq, aBin_gtr, aBin_geq, aUn_not, Bool.not_true, Bool.not_false, Bool.true_eq_false, decide_true, decide_false, eq_self, exd_0_1, exd_0_2, exd_1_2, exd_0_3, exd_1_3, exd_2_3, exd_0_4, exd_1_4, exd_2_4, exd_3_4, exd_0_5, exd_1_5, exd_2_5, exd_3_5, exd_4_5, neaptideref01_ReadText.r0, neaptideref01_ReadText.r1, if_neg hk, e1]
  unfold readTV scanT
  unfold readV at hr
  cases hsc : scan 0 0 l with
  | none =>
    rw [hsc] at hr
    have d1 : decide ((11 : Int) = 0) = false := by decide
    conv at hr =>
      rhs
      simp only [vcodeV_seq, vcodeV_region, vcodeV_block, vcodeV_skip, vcodeV_ret, vcodeV_exit, vcodeV_cond, vcodeV_loop, andThen_some, regV_some, seqV_normal, seqV_exit, seqV_ret, blockV_normal, blockV_ret, blockV_exit, condK_true, condK_false, andK_some, gdK_tt, gdK_ff, gdK_tf, gdK_ft, gdK_ut, gdCK_tt, gdCK_ff, gdCK_tf, gdCK_ft, gdCK_ut, okK_bool, okK_int, okK_string, okK_slice, okK_pointer, okK_SL, okK_EP, okK_sv, okK_vs, List.getD_cons_succ, List.getD_cons_zero, gd_tt, gd_ff, gd_tf, gd_ft, gd_ut, gdC_tt, gdC_ff, gdC_tf, gdC_ft, gdC_ut, ret_run, vPick_bool, if_true, if_false, reduceIte, Nat.reduceEqDiff, Bool.false_eq_true, okC_bool, okC_int, okC_string, okC_slice, okC_iface, okC_vs, okC_sv, okC_EP, dem_undef, dem_int, dem_bool, dem_string, dem_nil, dem_agg, dem_func, dem_pointer, dem_vs, dem_sv, dem_dem, vBin_int, vBin_string, vBin_bool, vConv_int, vExtract_tuple, List.getElem?_cons_succ, List.getElem?_cons_zero, Option.map_some, aBin_add, aBin_sub, aBin_mul, aBin_eql, aBin_neq, aBin_lss, aBin_leq, aBin_gtr, aBin_geq, aUn_not, Bool.not_true, Bool.not_false, Bool.true_eq_false, decide_true, decide_false, eq_self, exd_0_1, exd_0_2, exd_1_2, exd_0_3, exd_1_3, exd_2_3, exd_0_4, exd_1_4, exd_2_4, exd_3_4, exd_0_5, exd_1_5, exd_2_5, exd_3_5, exd_4_5, neaptideref01_ReadText.r2, d1, neaptideref01_ReadText.r3]
    rw [hTe] at hr
    exact neaptideref01_ReadText.runs hr (.inr rfl) (by simp only [List.getD_cons_succ, List.getD_cons_zero, notTuple_vs, notTuple_int, notTuple_slice, notTuple_bool, notTuple_agg]) (by simp only [List.getD_cons_succ, List.getD_cons_zero, notTuple_vs, notTuple_int, notTuple_slice, notTuple_bool, notTuple_agg]) (by simp only [List.getD_cons_succ, List.getD_cons_zero, notTuple_vs, notTuple_int, notTuple_slice, notTuple_bool, notTuple_agg])
  | some mr =>
    obtain ⟨m, rest⟩ := mr
    obtain ⟨hm, hrl⟩ := scan_lt l 0 0 (by decide) (by omega) m rest hsc
    rw [hsc] at hr
    have d1 : decide ((0 : Int) = 0) = true := by decide
    dsimp only
    by_cases h1 : m ≤ 4096
    · have d2 : decide ((4096 : Int) < (m : Int)) = false := by rw [decide_eq_false_iff_not]; omega
      have hmi : IntKind.i64.wrap (m : Int) = (m : Int) := wrap_i64 (by omega) (by omega)
      by_cases h2 : m ≤ rest.length
      · have d3 : decide ((rest.length : Int) < (m : Int)) = false := by rw [decide_eq_false_iff_not]; omega
        have s1 : ∀ S, vSlice Try.prog 23 (by_ 1 rest) none (some (.int .u64 m)) S = some (by_ 1 (rest.take m), S) := fun S => by
          rw [by_slice Okl.read (lo := none) (hi := some (.int .u64 m)) (i := 0) (j := m) rfl rfl (by omega) (by omega) (by omega)]; simp
        have s2 : ∀ S, vSlice Try.prog 23 (by_ 1 rest) (some (.int .u64 m)) none S = some (by_ 1 (rest.drop m), S) := fun S => by
          rw [by_slice Okl.read (lo := some (.int .u64 m)) (hi := none) (i := m) (j := rest.length) rfl rfl (by omega) (by omega) (by omega)]
          simp only [Int.toNat_natCast]
          rw [List.take_of_length_le (by simp)]; rfl
        conv at hr =>
          rhs
          simp only [vcodeV_seq, vcodeV_region, vcodeV_block, vcodeV_skip, vcodeV_ret, vcodeV_exit, vcodeV_cond, vcodeV_loop, andThen_some, regV_some, seqV_normal, seqV_exit, seqV_ret, blockV_normal, blockV_ret, blockV_exit, condK_true, condK_false, andK_some, gdK_tt, gdK_ff, gdK_tf, gdK_ft, gdK_ut, gdCK_tt, gdCK_ff, gdCK_tf, gdCK_ft, gdCK_ut, okK_bool, okK_int, okK_string, okK_slice, okK_pointer, okK_SL, okK_EP, okK_sv, okK_vs, List.getD_cons_succ, List.getD_cons_zero, gd_tt, gd_ff, gd_tf, gd_ft, gd_ut, gdC_tt, gdC_ff, gdC_tf, gdC_ft, gdC_ut, ret_run, vPick_bool, if_true, if_false, reduceIte, Nat.reduceEqDiff, Bool.false_eq_true, okC_bool, okC_int, okC_string, okC_slice, okC_iface, okC_vs, okC_sv, okC_EP, dem_undef, dem_int, dem_bool, dem_string, dem_nil, dem_agg, dem_func, dem_pointer, dem_vs, dem_sv, dem_dem, vBin_int, vBin_string, vBin_bool, vConv_int, vExtract_tuple, List.getElem?_cons_succ, List.getElem?_cons_zero, Option.map_some, aBin_add, aBin_sub, aBin_mul, aBin_eql, aBin_neq, aBin_lss, aBin_leq, aBin_gtr, aBin_geq, aUn_not, Bool.not_true, Bool.not_false, Bool.true_eq_false, decide_true, decide_false, eq_self, exd_0_1, exd_0_2, exd_1_2, exd_0_3, exd_1_3, exd_2_3, exd_0_4, exd_1_4, exd_2_4, exd_3_4, exd_0_5, exd_1_5, exd_2_5, exd_3_5, exd_4_5, neaptideref01_ReadText.r2, d1, d2, by_len (Okl.read), goInt, cv_uint64_int, hmi, d3, neaptideref01_ReadText.r4, s1, s2]
        rw [hTe] at hr
        rw [if_pos ⟨h1, h2⟩]
        exact neaptideref01_ReadText.runs hr (.inr rfl) (by simp only [List.getD_cons_succ, List.getD_cons_zero, notTuple_vs, notTuple_int, notTuple_slice, notTuple_bool, notTuple_agg]) (by simp only [List.getD_cons_succ, List.getD_cons_zero, notTuple_vs, notTuple_int, notTuple_slice, notTuple_bool, notTuple_agg]) (by simp only [List.getD_cons_succ, List.getD_cons_zero, notTuple_vs, notTuple_int, notTuple_slice, notTuple_bool, notTuple_agg])
      · have d3 : decide ((rest.length : Int) < (m : Int)) = true := by rw [decide_eq_true_eq]; omega
        conv at hr =>
          rhs
          simp only [vcodeV_seq, vcodeV_region, vcodeV_block, vcodeV_skip, vcodeV_ret, vcodeV_exit, vcodeV_cond, vcodeV_loop, andThen_some, regV_some, seqV_normal, seqV_exit, seqV_ret, blockV_normal, blockV_ret, blockV_exit, condK_true, condK_false, andK_some, gdK_tt, gdK_ff, gdK_tf, gdK_ft, gdK_ut, gdCK_tt, gdCK_ff, gdCK_tf, gdCK_ft, gdCK_ut, okK_bool, okK_int, okK_string, okK_slice, okK_pointer, okK_SL, okK_EP, okK_sv, okK_vs, List.getD_cons_succ, List.getD_cons_zero, gd_tt, gd_ff, gd_tf, gd_ft, gd_ut, gdC_tt, gdC_ff, gdC_tf, gdC_ft, gdC_ut, ret_run, vPick_bool, if_true, if_false, reduceIte, Nat.reduceEqDiff, Bool.false_eq_true, okC_bool, okC_int, okC_string, okC_slice, okC_iface, okC_vs, okC_sv, okC_EP, dem_undef, dem_int, dem_bool, dem_string, dem_nil, dem_agg, dem_func, dem_pointer, dem_vs, dem_sv, dem_dem, vBin_int, vBin_string, vBin_bool, vConv_int, vExtract_tuple, List.getElem?_cons_succ, List.getElem?_cons_zero, Option.map_some, aBin_add, aBin_sub, aBin_mul, aBin_eql, aBin_neq, aBin_lss, aBin_leq, aBin_gtr, aBin_geq, aUn_not, Bool.not_true, Bool.not_false, Bool.true_eq_false, decide_true, decide_false, eq_self, exd_0_1, exd_0_2, exd_1_2, exd_0_3, exd_1_3, exd_2_3, exd_0_4, exd_1_4, exd_2_4, exd_3_4, exd_0_5, exd_1_5, exd_2_5, exd_3_5, exd_4_5, neaptideref01_ReadText.r2, d1, d2, by_len (Okl.read), goInt, cv_uint64_int, hmi, d3, neaptideref01_ReadText.r3]
        rw [hTe] at hr
        rw [if_neg (fun h => h2 h.2)]
        exact neaptideref01_ReadText.runs hr (.inr rfl) (by simp only [List.getD_cons_succ, List.getD_cons_zero, notTuple_vs, notTuple_int, notTuple_slice, notTuple_bool, notTuple_agg]) (by simp only [List.getD_cons_succ, List.getD_cons_zero, notTuple_vs, notTuple_int, notTuple_slice, notTuple_bool, notTuple_agg]) (by simp only [List.getD_cons_succ, List.getD_cons_zero, notTuple_vs, notTuple_int, notTuple_slice, notTuple_bool, notTuple_agg])
    · have d2 : decide ((4096 : Int) < (m : Int)) = true := by rw [decide_eq_true_eq]; omega
      conv at hr =>
        rhs
        simp only [vcodeV_seq, vcodeV_region, vcodeV_block, vcodeV_skip, vcodeV_ret, vcodeV_exit, vcodeV_cond, vcodeV_loop, andThen_some, regV_some, seqV_normal, seqV_exit, seqV_ret, blockV_normal, blockV_ret, blockV_exit, condK_true, condK_false, andK_some, gdK_tt, gdK_ff, gdK_tf, gdK_ft, gdK_ut, gdCK_tt, gdCK_ff, gdCK_tf, gdCK_ft, gdCK_ut, okK_bool, okK_int, okK_string, okK_slice, okK_pointer, okK_SL, okK_EP, okK_sv, okK_vs, List.getD_cons_succ, List.getD_cons_zero, gd_tt, gd_ff, gd_tf, gd_ft, gd_ut, gdC_tt, gdC_ff, gdC_tf, gdC_ft, gdC_ut, ret_run, vPick_bool, if_true, if_false, reduceIte, Nat.reduceEqDiff, Bool.false_eq_true, okC_bool, okC_int, okC_string, okC_slice, okC_iface, okC_vs, okC_sv, okC_EP, dem_undef, dem_int, dem_bool, dem_string, dem_nil, dem_agg, dem_func, dem_pointer, dem_vs, dem_sv, dem_dem, vBin_int, vBin_string, vBin_bool, vConv_int, vExtract_tuple, List.getElem?_cons_succ, List.getElem?_cons_zero, Option.map_some, aBin_add, aBin_sub, aBin_mul, aBin_eql, aBin_neq, aBin_lss, aBin_leq, aBin_gtr, aBin_geq, aUn_not, Bool.not_true, Bool.not_false, Bool.true_eq_false, decide_true, decide_false, eq_self, exd_0_1, exd_0_2, exd_1_2, exd_0_3, exd_1_3, exd_2_3, exd_0_4, exd_1_4, exd_2_4, exd_3_4, exd_0_5, exd_1_5, exd_2_5, exd_3_5, exd_4_5, neaptideref01_ReadText.r2, d1, d2, neaptideref01_ReadText.r3]
      rw [hTe] at hr
      rw [if_neg (fun h => h1 h.1)]
      exact neaptideref01_ReadText.runs hr (.inr rfl) (by simp only [List.getD_cons_succ, List.getD_cons_zero, notTuple_vs, notTuple_int, notTuple_slice, notTuple_bool, notTuple_agg]) (by simp only [List.getD_cons_succ, List.getD_cons_zero, notTuple_vs, notTuple_int, notTuple_slice, notTuple_bool, notTuple_agg]) (by simp only [List.getD_cons_succ, List.getD_cons_zero, notTuple_vs, notTuple_int, notTuple_slice, notTuple_bool, notTuple_agg])
end
end Go.Proofs.Ytjlhjebmbllkiaa
