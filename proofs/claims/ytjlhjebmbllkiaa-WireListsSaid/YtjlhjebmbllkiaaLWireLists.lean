/-
Any numbers as bytes: the law's run.
-/
import Derived.Test.YtjlhjebmbllkiaaF9
import Derived.Test.YtjlhjebmbllkiaaVW8
import Derived.Test.YtjlhjebmbllkiaaVWords
set_option linter.unusedVariables false
set_option linter.unusedSimpArgs false
set_option maxRecDepth 100000
namespace Go.Proofs.Ytjlhjebmbllkiaa
open Go.Abs

theorem neaptidelaw01_wireAlive.v (S : AHeap) : vlim Try.prog O 12 [] S = some (.bool true, S) := vlim_run (n := 20) (by kernel_rfl)

namespace wireLists
def codes : List (Bool × Ty) := [(false, .slc 8 (.int .i64)), (false, .slc 1 (.int .u8)), (false, .int .i64)]
theorem coded : argsOf Try.prog 9 [43, 23, 3] = some codes := by kernel_rfl
theorem run {k j : Nat} {l : List Int} {b : List UInt8} {many : Int} (hk : Okl k l) (k2 : k ≠ 2) (hl : l.length ≤ 17592186043904) (hb : ∀ n ∈ l, -9223372036854775808 ≤ n ∧ n < 9223372036854775808) (hj : Okl j b) (j2 : j ≠ 2) (hbl : b.length ≤ 140737488351232) (S : AHeap) : vlim Try.prog O 9 [iz k l, by_ j b, .int .i64 many] S = some (.bool true, S) := by
  obtain ⟨T, hTe⟩ : ∃ T, T = (iz k l :: by_ j b :: .int .i64 many :: undef :: undef :: undef :: undef :: undef :: undef :: undef :: undef :: undef :: undef :: undef :: undef :: undef :: undef :: undef :: undef :: undef :: undef :: undef :: undef :: undef :: undef :: undef :: undef :: undef :: undef :: undef :: undef :: undef :: undef :: undef :: undef :: undef :: undef :: undef :: undef :: undef :: undef :: undef :: undef :: undef :: undef :: undef :: undef :: undef :: undef :: undef :: undef :: undef :: undef :: undef :: undef :: undef :: undef :: undef :: undef :: undef :: undef :: undef :: undef :: undef :: undef :: undef :: undef :: undef :: undef :: undef :: undef :: undef :: undef :: undef :: undef :: []) := ⟨_, rfl⟩
  have hr : vcodeV Try.prog O neaptidelaw01_WireLists.code T S = vcodeV Try.prog O neaptidelaw01_WireLists.code T S := rfl
  have a1 := fun S => iz_copy hk (S := S) (by omega)
  have a2 := fun S => by_copy hj (S := S) (by omega)
  have c1 := fun S => wire_Nums.v (Okl.read (l := l)) (by decide) (fun n hn => (hb n hn).2) S
  have c2 := fun S => neaptideref01_Nums.v hk k2 (fun n hn => (hb n hn).2) S
  have c3 := fun S => wire_ReadNums.v (many := many) (Okl.read (l := b)) (by decide) (by omega) S
  have c4 := fun S => neaptideref01_ReadNums.v (many := many) hj j2 (by omega) S
  obtain ⟨k1, k3, m, e, o1, o3, hm, q1, q3⟩ := numsV_both (l := l) fun n hn => (hb n hn).2
  obtain ⟨k4, k5, k6, k7, x, y, f, o4, o5, o6, o7, hx, hy, q4, q5⟩ := readNsV_both (many := many) (Okl.read (l := b)) (by omega)
  rw [q1] at c1
  rw [q3] at c2
  rw [q4] at c3
  rw [q5] at c4
  have s1 := fun S => by_str o1.dem (S := S)
  have s3 := fun S => by_str o3.dem (S := S)
  have s5 := fun S => by_str o5.dem (S := S)
  have s7 := fun S => by_str o7.dem (S := S)
  have sm := fun S => neaptideref01_SameInts.v o4.dem o6.dem (by split <;> omega) (by split <;> omega) (by omega) S
  rw [decide_eq_true rfl] at sm
  conv at hr =>
    rhs
    rw [hTe]
    simp only [neaptidelaw01_WireLists.code, neaptidelaw01_WireLists.r0, neaptidelaw01_WireLists.r1, neaptidelaw01_WireLists.r2, neaptidelaw01_WireLists.r3, neaptidelaw01_WireLists.r4, neaptidelaw01_WireLists.r5, vcodeV_seq, vcodeV_region, vcodeV_block, vcodeV_skip, vcodeV_ret, vcodeV_exit, vcodeV_cond, vcodeV_loop, andThen_some, regV_some, seqV_normal, seqV_exit, seqV_ret, blockV_normal, blockV_ret, blockV_exit, condK_true, condK_false, andK_some, gdK_tt, gdK_ff, gdK_tf, gdK_ft, gdK_ut, gdCK_tt, gdCK_ff, gdCK_tf, gdCK_ft, gdCK_ut, okK_bool, okK_int, okK_string, okK_slice, okK_pointer, okK_SL, okK_EP, okK_sv, okK_vs, List.getD_cons_succ, List.getD_cons_zero, gd_tt, gd_ff, gd_tf, gd_ft, gd_ut, gdC_tt, gdC_ff, gdC_tf, gdC_ft, gdC_ut, ret_run, vPick_bool, if_true, if_false, reduceIte, Nat.reduceEqDiff, Bool.false_eq_true, okC_bool, okC_int, okC_string, okC_slice, okC_iface, okC_vs, okC_sv, okC_EP, dem_undef, dem_int, dem_bool, dem_string, dem_nil, dem_agg, dem_func, dem_pointer, dem_vs, dem_sv, dem_dem, vBin_int, vBin_string, vBin_bool, vConv_int, vExtract_tuple, List.getElem?_cons_succ, List.getElem?_cons_zero, Option.map_some, aBin_add, aBin_sub, aBin_mul, aBin_eql, aBin_neq, aBin_lss, aBin_leq, aBin_gtr, aBin_geq, aUn_not, Bool.not_true, Bool.not_false, Bool.true_eq_false, decide_true, decide_false, eq_self, exd_0_1, exd_0_2, exd_1_2, exd_0_3, exd_1_3, exd_2_3, exd_0_4, exd_1_4, exd_2_4, exd_3_4, exd_0_5, exd_1_5, exd_2_5, exd_3_5, exd_4_5, bz0, bb0, if_neg k2, if_neg j2, dem2, a1, a2, c1, c2, c3, c4, neaptidelaw01_wireAlive.v, s1, s3, s5, s7, tx_eql, sm]
  rw [hTe] at hr
  exact neaptidelaw01_WireLists.runs hr (.inr rfl)
theorem law (x : Args codes) (h : Args.Good codes x) : ∃ k, (acall Try.prog k 9 (Args.place codes x AHeap.empty).1 (Args.place codes x AHeap.empty).2).map (·.1) = some (.bool true) := by
  obtain ⟨a, t, c, u⟩ := x
  obtain ⟨h1, h2, h3, _⟩ := h
  obtain ⟨k, l, p1, p2, p3, p4, p5⟩ := in_ints a h1
  obtain ⟨j, b, q1, q2, q3, q4⟩ := in_bytes t h2
  refine law_of_vlim ora_ok (S' := AHeap.empty) ?_
  have e : Args.vval codes (a, t, c, u) = [iz k l, by_ j b, .int .i64 c] := by
    show [argOf false ((Ty.slc 8 (.int .i64)).vval a), argOf false ((Ty.slc 1 (.int .u8)).vval t), argOf false [.int .i64 c]] = _
    rw [p3, q3]; rfl
  rw [e]
  exact run p1 p2 p4 p5 q1 q2 q4 _
end wireLists
end Go.Proofs.Ytjlhjebmbllkiaa
