/-
Which draws can be, who wins where: the law's run.
-/
import Derived.Test.YtooljmmlekmkeaaF5
import Derived.Test.YtooljmmlekmkeaaVL4
import Derived.Test.YtooljmmlekmkeaaVSame
import Derived.Test.YtooljmmlekmkeaaVWords
set_option linter.unusedVariables false
set_option linter.unusedSimpArgs false
set_option maxRecDepth 100000
namespace Go.Proofs.Ytooljmmlekmkeaa
open Go.Abs

theorem neaptidelaw10_lotAlive.v (S : AHeap) : vlim Try.prog O 8 [] S = some (.bool true, S) := vlim_run (n := 20) (by kernel_rfl)

namespace lotTells
def codes : List (Bool × Ty) := [(false, .slc 8 (.int .i64)), (false, .int .i64), (false, .int .i64)]
theorem coded : argsOf Try.prog 9 [22, 3, 3] = some codes := by kernel_rfl
theorem run {k : Nat} {l : List Int} {a b : Int} (hk : Okl k l) (k2 : k ≠ 2) (hl : l.length ≤ 17592186043904) (S : AHeap) : vlim Try.prog O 5 [iz k l, .int .i64 a, .int .i64 b] S = some (.bool true, S) := by
  obtain ⟨T, hTe⟩ : ∃ T, T = (iz k l :: .int .i64 a :: .int .i64 b :: undef :: undef :: undef :: undef :: undef :: undef :: undef :: undef :: undef :: undef :: undef :: undef :: undef :: undef :: undef :: undef :: undef :: undef :: undef :: undef :: undef :: undef :: undef :: undef :: undef :: undef :: undef :: undef :: undef :: undef :: undef :: undef :: undef :: undef :: undef :: undef :: undef :: undef :: undef :: undef :: undef :: undef :: undef :: []) := ⟨_, rfl⟩
  have hr : vcodeV Try.prog O false neaptidelaw10_LotTells.code T S = vcodeV Try.prog O false neaptidelaw10_LotTells.code T S := rfl
  have c1 := fun S => neaptideref10_Check.v hk k2 (by omega) S
  have c0 := fun S => lot_Check.v hk k2 (by omega) S
  by_cases h1 : chkN l = 0
  · obtain ⟨h2, h3⟩ := chkN_ok h1
    have c2 := fun S => lot_Wins.v hk k2 h2 h3 (slot := a) (node := b) S
    have c3 := fun S => neaptideref10_Wins.v hk k2 h2 h3 (slot := a) (node := b) S
    have c4 := fun S => lot_Winners.v hk k2 h2 h3 (slot := a) S
    have c5 := fun S => neaptideref10_Winners.v hk k2 h2 h3 (slot := a) S
    have c6 := fun S => lot_Slots.v hk k2 h2 h3 (node := b) S
    have c7 := fun S => neaptideref10_Slots.v hk k2 h2 h3 (node := b) S
    rw [ite_self] at c5
    have o1 : Okl (if winners l a = [] then 0 else 2) (winners l a) := okl_nil (.inl rfl)
    have o2 : Okl (if slotsOf l b = [] then 0 else 2) (slotsOf l b) := okl_nil (.inl rfl)
    have l1 := winners_len l a
    have l2 : (slotsOf l b).length ≤ 200 := Nat.le_trans (List.length_filter_le _ _) (by rw [ints_len]; omega)
    have s1 := fun S => neaptideref01_SameInts.v o1.dem (Okl.read (l := winners l a)) (dem_ne2 _) (by decide) (by omega) S
    have s2 := fun S => neaptideref01_SameInts.v o2.dem (Okl.read (l := slotsOf l b)) (dem_ne2 _) (by decide) (by omega) S
    rw [decide_eq_true rfl] at s1 s2
    conv at hr =>
      rhs
      rw [hTe]
      simp only [neaptidelaw10_LotTells.code, neaptidelaw10_LotTells.r0, neaptidelaw10_LotTells.r1, neaptidelaw10_LotTells.r2, neaptidelaw10_LotTells.r3, neaptidelaw10_LotTells.r4, neaptidelaw10_LotTells.r5, vcodeV_seq, vcodeV_region, vcodeV_block, vcodeV_skip, vcodeV_ret, vcodeV_exit, vcodeV_cond, vcodeV_loop, andThen_some, regV_some, seqV_normal, seqV_exit, seqV_ret, blockV_normal, blockV_ret, blockV_exit, condK_true, condK_false, andK_some, gdK_tt, gdK_ff, gdK_tf, gdK_ft, gdK_ut, gdCK_tt, gdCK_ff, gdCK_tf, gdCK_ft, gdCK_ut, okK_bool, okK_int, okK_string, okK_slice, okK_pointer, okK_SL, okK_EP, okK_sv, okK_vs, List.getD_cons_succ, List.getD_cons_zero, gd_tt, gd_ff, gd_tf, gd_ft, gd_ut, gdC_tt, gdC_ff, gdC_tf, gdC_ft, gdC_ut, ret_run, vPick_bool, if_true, if_false, reduceIte, Nat.reduceEqDiff, Bool.false_eq_true, okC_bool, okC_int, okC_string, okC_slice, okC_iface, okC_vs, okC_sv, okC_EP, dem_undef, dem_int, dem_bool, dem_string, dem_nil, dem_agg, dem_func, dem_pointer, dem_vs, dem_sv, dem_dem, vBin_int, vBin_string, vBin_bool, vConv_int, vConvF_int, vConvF_string, vConvF_stringH, vConvF_sv, vConvF_vs, vSliceF_sv, vSliceF_vs, vSliceF_string, vcodeV_regionH, vExtract_tuple, List.getElem?_cons_succ, List.getElem?_cons_zero, Option.map_some, aBin_add, aBin_sub, aBin_mul, aBin_eql, aBin_neq, aBin_lss, aBin_leq, aBin_gtr, aBin_geq, aUn_not, Bool.not_true, Bool.not_false, Bool.true_eq_false, decide_true, decide_false, eq_self, exd_0_1, exd_0_2, exd_1_2, exd_0_3, exd_1_3, exd_2_3, exd_0_4, exd_1_4, exd_2_4, exd_3_4, exd_0_5, exd_1_5, exd_2_5, exd_3_5, exd_4_5, neaptidelaw10_lotAlive.v, if_neg k2, c0, c1, h1, c2, c3, tf_eql, beq_self_eq_true, c4, c5, c6, c7, s1, s2]
    rw [hTe] at hr
    exact neaptidelaw10_LotTells.runs hr (.inr rfl)
  · conv at hr =>
      rhs
      rw [hTe]
      simp only [neaptidelaw10_LotTells.code, neaptidelaw10_LotTells.r0, neaptidelaw10_LotTells.r1, neaptidelaw10_LotTells.r2, neaptidelaw10_LotTells.r3, neaptidelaw10_LotTells.r4, neaptidelaw10_LotTells.r5, vcodeV_seq, vcodeV_region, vcodeV_block, vcodeV_skip, vcodeV_ret, vcodeV_exit, vcodeV_cond, vcodeV_loop, andThen_some, regV_some, seqV_normal, seqV_exit, seqV_ret, blockV_normal, blockV_ret, blockV_exit, condK_true, condK_false, andK_some, gdK_tt, gdK_ff, gdK_tf, gdK_ft, gdK_ut, gdCK_tt, gdCK_ff, gdCK_tf, gdCK_ft, gdCK_ut, okK_bool, okK_int, okK_string, okK_slice, okK_pointer, okK_SL, okK_EP, okK_sv, okK_vs, List.getD_cons_succ, List.getD_cons_zero, gd_tt, gd_ff, gd_tf, gd_ft, gd_ut, gdC_tt, gdC_ff, gdC_tf, gdC_ft, gdC_ut, ret_run, vPick_bool, if_true, if_false, reduceIte, Nat.reduceEqDiff, Bool.false_eq_true, okC_bool, okC_int, okC_string, okC_slice, okC_iface, okC_vs, okC_sv, okC_EP, dem_undef, dem_int, dem_bool, dem_string, dem_nil, dem_agg, dem_func, dem_pointer, dem_vs, dem_sv, dem_dem, vBin_int, vBin_string, vBin_bool, vConv_int, vConvF_int, vConvF_string, vConvF_stringH, vConvF_sv, vConvF_vs, vSliceF_sv, vSliceF_vs, vSliceF_string, vcodeV_regionH, vExtract_tuple, List.getElem?_cons_succ, List.getElem?_cons_zero, Option.map_some, aBin_add, aBin_sub, aBin_mul, aBin_eql, aBin_neq, aBin_lss, aBin_leq, aBin_gtr, aBin_geq, aUn_not, Bool.not_true, Bool.not_false, Bool.true_eq_false, decide_true, decide_false, eq_self, exd_0_1, exd_0_2, exd_1_2, exd_0_3, exd_1_3, exd_2_3, exd_0_4, exd_1_4, exd_2_4, exd_3_4, exd_0_5, exd_1_5, exd_2_5, exd_3_5, exd_4_5, neaptidelaw10_lotAlive.v, if_neg k2, c0, c1, h1]
    rw [hTe] at hr
    exact neaptidelaw10_LotTells.runs hr (.inr rfl)
theorem law (x : Args codes) (h : Args.Good codes x) : ∃ k, (acall Try.prog k 5 (Args.place codes x AHeap.empty).1 (Args.place codes x AHeap.empty).2).map (·.1) = some (.bool true) := by
  obtain ⟨a, b, c, u⟩ := x
  obtain ⟨h1, h2, _⟩ := h
  obtain ⟨k, l, p1, p2, p3, p4, p5⟩ := in_ints a h1
  refine law_of_vlim ora_ok (S' := AHeap.empty) ?_
  have e : Args.vval codes (a, b, c, u) = [iz k l, .int .i64 b, .int .i64 c] := by
    show [argOf false ((Ty.slc 8 (.int .i64)).vval a), argOf false [.int .i64 b], argOf false [.int .i64 c]] = _
    rw [p3]; rfl
  rw [e]
  exact run p1 p2 p4 _
end lotTells
end Go.Proofs.Ytooljmmlekmkeaa
