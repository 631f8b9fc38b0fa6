/-
slices.Clone of bytes; what wire.ReadNum answers.
-/
import Derived.Test.YtjlhjebmbllkiaaF25
import Derived.Test.YtjlhjebmbllkiaaF11
import Derived.Test.YtjlhjebmbllkiaaVW1
set_option linter.unusedVariables false
set_option linter.unusedSimpArgs false
namespace Go.Proofs.Ytjlhjebmbllkiaa
open Go.Abs

theorem slices_Clone.v {k : Nat} {l : List UInt8} (h : Okl k l) (hk : k ≠ 2) (hl : l.length ≤ 140737488355328) (S : AHeap) : vlim Try.prog O slices_Clone.id [by_ k l] S = some (by_ (if k = 0 then 0 else 2) l, S) := by
  obtain ⟨T, hTe⟩ : ∃ T, T = (by_ k l :: undef :: undef :: undef :: undef :: undef :: undef :: undef :: []) := ⟨_, rfl⟩
  have hr : vcodeV Try.prog O slices_Clone.code T S = vcodeV Try.prog O slices_Clone.code T S := rfl
  conv at hr =>
    rhs
    rw [hTe]
    simp only [slices_Clone.code, vcodeV_seq, vcodeV_region, vcodeV_block, vcodeV_skip, vcodeV_ret, vcodeV_exit, vcodeV_cond, vcodeV_loop, andThen_some, regV_some, seqV_normal, seqV_exit, seqV_ret, blockV_normal, blockV_ret, blockV_exit, condK_true, condK_false, andK_some, gdK_tt, gdK_ff, gdK_tf, gdK_ft, gdK_ut, gdCK_tt, gdCK_ff, gdCK_tf, gdCK_ft, gdCK_ut, okK_bool, okK_int, okK_string, okK_slice, okK_pointer, okK_SL, okK_EP, okK_sv, okK_vs, List.getD_cons_succ, List.getD_cons_zero, gd_tt, gd_ff, gd_tf, gd_ft, gd_ut, gdC_tt, gdC_ff, gdC_tf, gdC_ft, gdC_ut, ret_run, vPick_bool, if_true, if_false, reduceIte, Nat.reduceEqDiff, Bool.false_eq_true, okC_bool, okC_int, okC_string, okC_slice, okC_iface, okC_vs, okC_sv, okC_EP, dem_undef, dem_int, dem_bool, dem_string, dem_nil, dem_agg, dem_func, dem_pointer, dem_vs, dem_sv, dem_dem, vBin_int, vBin_string, vBin_bool, vConv_int, vExtract_tuple, List.getElem?_cons_succ, List.getElem?_cons_zero, Option.map_some, aBin_add, aBin_sub, aBin_mul, aBin_eql, aBin_neq, aBin_lss, aBin_leq, aBin_gtr, aBin_geq, aUn_not, Bool.not_true, Bool.not_false, Bool.true_eq_false, decide_true, decide_false, eq_self, exd_0_1, exd_0_2, exd_1_2, exd_0_3, exd_1_3, exd_2_3, exd_0_4, exd_1_4, exd_2_4, exd_3_4, exd_0_5, exd_1_5, exd_2_5, exd_3_5, exd_4_5, slices_Clone.r0, slices_Clone.r1, if_neg hk, by_isNil h]
  by_cases h0 : k = 0
  · have hl0 := h.nil h0
    subst h0 hl0
    conv at hr =>
      rhs
      simp only [decide_true, vcodeV_seq, vcodeV_region, vcodeV_block, vcodeV_skip, vcodeV_ret, vcodeV_exit, vcodeV_cond, vcodeV_loop, andThen_some, regV_some, seqV_normal, seqV_exit, seqV_ret, blockV_normal, blockV_ret, blockV_exit, condK_true, condK_false, andK_some, gdK_tt, gdK_ff, gdK_tf, gdK_ft, gdK_ut, gdCK_tt, gdCK_ff, gdCK_tf, gdCK_ft, gdCK_ut, okK_bool, okK_int, okK_string, okK_slice, okK_pointer, okK_SL, okK_EP, okK_sv, okK_vs, List.getD_cons_succ, List.getD_cons_zero, gd_tt, gd_ff, gd_tf, gd_ft, gd_ut, gdC_tt, gdC_ff, gdC_tf, gdC_ft, gdC_ut, ret_run, vPick_bool, if_true, if_false, reduceIte, Nat.reduceEqDiff, Bool.false_eq_true, okC_bool, okC_int, okC_string, okC_slice, okC_iface, okC_vs, okC_sv, okC_EP, dem_undef, dem_int, dem_bool, dem_string, dem_nil, dem_agg, dem_func, dem_pointer, dem_vs, dem_sv, dem_dem, vBin_int, vBin_string, vBin_bool, vConv_int, vExtract_tuple, List.getElem?_cons_succ, List.getElem?_cons_zero, Option.map_some, aBin_add, aBin_sub, aBin_mul, aBin_eql, aBin_neq, aBin_lss, aBin_leq, aBin_gtr, aBin_geq, aUn_not, Bool.not_true, Bool.not_false, Bool.true_eq_false, decide_true, decide_false, eq_self, exd_0_1, exd_0_2, exd_1_2, exd_0_3, exd_1_3, exd_2_3, exd_0_4, exd_1_4, exd_2_4, exd_3_4, exd_0_5, exd_1_5, exd_2_5, exd_3_5, exd_4_5, slices_Clone.r2]
    rw [hTe] at hr
    exact slices_Clone.runs hr (.inr rfl)
  · have e1 : ∀ S, vAppend Try.prog 23 23 (by_ 2 []) (by_ k l) S = some (by_ 2 l, S) := fun S => by
      rw [by_append Okl.own (by decide) h (by simpa using hl)]; rfl
    conv at hr =>
      rhs
      simp only [h0, decide_false, vcodeV_seq, vcodeV_region, vcodeV_block, vcodeV_skip, vcodeV_ret, vcodeV_exit, vcodeV_cond, vcodeV_loop, andThen_some, regV_some, seqV_normal, seqV_exit, seqV_ret, blockV_normal, blockV_ret, blockV_exit, condK_true, condK_false, andK_some, gdK_tt, gdK_ff, gdK_tf, gdK_ft, gdK_ut, gdCK_tt, gdCK_ff, gdCK_tf, gdCK_ft, gdCK_ut, okK_bool, okK_int, okK_string, okK_slice, okK_pointer, okK_SL, okK_EP, okK_sv, okK_vs, List.getD_cons_succ, List.getD_cons_zero, gd_tt, gd_ff, gd_tf, gd_ft, gd_ut, gdC_tt, gdC_ff, gdC_tf, gdC_ft, gdC_ut, ret_run, vPick_bool, if_true, if_false, reduceIte, Nat.reduceEqDiff, Bool.false_eq_true, okC_bool, okC_int, okC_string, okC_slice, okC_iface, okC_vs, okC_sv, okC_EP, dem_undef, dem_int, dem_bool, dem_string, dem_nil, dem_agg, dem_func, dem_pointer, dem_vs, dem_sv, dem_dem, vBin_int, vBin_string, vBin_bool, vConv_int, vExtract_tuple, List.getElem?_cons_succ, List.getElem?_cons_zero, Option.map_some, aBin_add, aBin_sub, aBin_mul, aBin_eql, aBin_neq, aBin_lss, aBin_leq, aBin_gtr, aBin_geq, aUn_not, Bool.not_true, Bool.not_false, Bool.true_eq_false, decide_true, decide_false, eq_self, exd_0_1, exd_0_2, exd_1_2, exd_0_3, exd_1_3, exd_2_3, exd_0_4, exd_1_4, exd_2_4, exd_3_4, exd_0_5, exd_1_5, exd_2_5, exd_3_5, exd_4_5, slices_Clone.r3, bs_L_uint8_0, by2_0, if_neg hk, e1]
    rw [hTe] at hr
    rw [if_neg h0]
    exact slices_Clone.runs hr (.inr rfl)

/-- The number with which bytes begin. -/
def scan : Nat → Nat → List UInt8 → Option (Nat × List UInt8)
  | _, _, [] => none
  | i, acc, x :: r => if (i = 9 ∧ 1 < x.toNat) ∨ (0 < i ∧ x.toNat = 0) then none else if x.toNat < 128 then some (acc + x.toNat * 128 ^ i, r) else scan (i + 1) (acc + (x.toNat - 128) * 128 ^ i) r
/-- What ReadNum answers. -/
def readV (l : List UInt8) : Value :=
  match scan 0 0 l with
  | none => .tuple #[.int .u64 0, .slice none 0 0, .int .i64 11]
  | some (m, rest) => .tuple #[.int .u64 (m : Nat), by_ 2 rest, .int .i64 0]

/-- Does it stop here? -/
theorem wire_ReadNum.stop (x0 x1 x2 x3 x4 x5 x6 x7 x8 x9 x10 x11 x12 x13 x14 x15 x16 x17 x18 x19 x20 x21 x22 x23 x24 x25 x26 x27 x28 x29 x30 x31 x32 x33 x34 x35 x36 x37 x38 x39 x40 x41 x42 x43 x44 x45 : Value) (i x : Int) (S : AHeap) (h6 : x6 = .int .i64 i) (h7 : x7 = .int .u8 x) : ∃ y15 y16 y17 y18 y19 y20 y21 y22 y23 y24 y25 y26 y27, vOps Try.prog false (vlim Try.prog O) (reg Try.f11 5) (reg Try.f11 5).toList (x0 :: x1 :: x2 :: x3 :: x4 :: x5 :: x6 :: x7 :: x8 :: x9 :: x10 :: x11 :: x12 :: x13 :: x14 :: x15 :: x16 :: x17 :: x18 :: x19 :: x20 :: x21 :: x22 :: x23 :: x24 :: x25 :: x26 :: x27 :: x28 :: x29 :: x30 :: x31 :: x32 :: x33 :: x34 :: x35 :: x36 :: x37 :: x38 :: x39 :: x40 :: x41 :: x42 :: x43 :: x44 :: x45 :: []) S =
    some ((x0 :: x1 :: x2 :: x3 :: x4 :: x5 :: x6 :: x7 :: x8 :: x9 :: x10 :: x11 :: x12 :: x13 :: x14 :: y15 :: y16 :: y17 :: y18 :: y19 :: y20 :: y21 :: y22 :: y23 :: y24 :: y25 :: y26 :: y27 :: .bool (decide ((i = 9 ∧ 1 < x) ∨ (0 < i ∧ x = 0))) :: x29 :: x30 :: x31 :: x32 :: x33 :: x34 :: x35 :: x36 :: x37 :: x38 :: x39 :: x40 :: x41 :: x42 :: x43 :: x44 :: x45 :: []), S) := by
  subst h6 h7
  rw [wire_ReadNum.r5]
  simp only [vcodeV_seq, vcodeV_region, vcodeV_block, vcodeV_skip, vcodeV_ret, vcodeV_exit, vcodeV_cond, vcodeV_loop, andThen_some, regV_some, seqV_normal, seqV_exit, seqV_ret, blockV_normal, blockV_ret, blockV_exit, condK_true, condK_false, andK_some, gdK_tt, gdK_ff, gdK_tf, gdK_ft, gdK_ut, gdCK_tt, gdCK_ff, gdCK_tf, gdCK_ft, gdCK_ut, okK_bool, okK_int, okK_string, okK_slice, okK_pointer, okK_SL, okK_EP, okK_sv, okK_vs, List.getD_cons_succ, List.getD_cons_zero, gd_tt, gd_ff, gd_tf, gd_ft, gd_ut, gdC_tt, gdC_ff, gdC_tf, gdC_ft, gdC_ut, ret_run, vPick_bool, if_true, if_false, reduceIte, Nat.reduceEqDiff, Bool.false_eq_true, okC_bool, okC_int, okC_string, okC_slice, okC_iface, okC_vs, okC_sv, okC_EP, dem_undef, dem_int, dem_bool, dem_string, dem_nil, dem_agg, dem_func, dem_pointer, dem_vs, dem_sv, dem_dem, vBin_int, vBin_string, vBin_bool, vConv_int, vExtract_tuple, List.getElem?_cons_succ, List.getElem?_cons_zero, Option.map_some, aBin_add, aBin_sub, aBin_mul, aBin_eql, aBin_neq, aBin_lss, aBin_leq, aBin_gtr, aBin_geq, aUn_not, Bool.not_true, Bool.not_false, Bool.true_eq_false, decide_true, decide_false, eq_self, exd_0_1, exd_0_2, exd_1_2, exd_0_3, exd_1_3, exd_2_3, exd_0_4, exd_1_4, exd_2_4, exd_3_4, exd_0_5, exd_1_5, exd_2_5, exd_3_5, exd_4_5]
  rcases Bool.eq_false_or_eq_true (decide (i = 9)) with d1 | d1 <;> rcases Bool.eq_false_or_eq_true (decide (1 < x)) with d2 | d2 <;> rcases Bool.eq_false_or_eq_true (decide (0 < i)) with d3 | d3 <;> rcases Bool.eq_false_or_eq_true (decide (x = 0)) with d4 | d4 <;>
    simp only [d1, d2, d3, d4, vcodeV_seq, vcodeV_region, vcodeV_block, vcodeV_skip, vcodeV_ret, vcodeV_exit, vcodeV_cond, vcodeV_loop, andThen_some, regV_some, seqV_normal, seqV_exit, seqV_ret, blockV_normal, blockV_ret, blockV_exit, condK_true, condK_false, andK_some, gdK_tt, gdK_ff, gdK_tf, gdK_ft, gdK_ut, gdCK_tt, gdCK_ff, gdCK_tf, gdCK_ft, gdCK_ut, okK_bool, okK_int, okK_string, okK_slice, okK_pointer, okK_SL, okK_EP, okK_sv, okK_vs, List.getD_cons_succ, List.getD_cons_zero, gd_tt, gd_ff, gd_tf, gd_ft, gd_ut, gdC_tt, gdC_ff, gdC_tf, gdC_ft, gdC_ut, ret_run, vPick_bool, if_true, if_false, reduceIte, Nat.reduceEqDiff, Bool.false_eq_true, okC_bool, okC_int, okC_string, okC_slice, okC_iface, okC_vs, okC_sv, okC_EP, dem_undef, dem_int, dem_bool, dem_string, dem_nil, dem_agg, dem_func, dem_pointer, dem_vs, dem_sv, dem_dem, vBin_int, vBin_string, vBin_bool, vConv_int, vExtract_tuple, List.getElem?_cons_succ, List.getElem?_cons_zero, Option.map_some, aBin_add, aBin_sub, aBin_mul, aBin_eql, aBin_neq, aBin_lss, aBin_leq, aBin_gtr, aBin_geq, aUn_not, Bool.not_true, Bool.not_false, Bool.true_eq_false, decide_true, decide_false, eq_self, exd_0_1, exd_0_2, exd_1_2, exd_0_3, exd_1_3, exd_2_3, exd_0_4, exd_1_4, exd_2_4, exd_3_4, exd_0_5, exd_1_5, exd_2_5, exd_3_5, exd_4_5] <;> simp only [decide_eq_true_eq, decide_eq_false_iff_not] at d1 d2 d3 d4 <;>
    simp only [d1, d2, d3, d4, true_and, false_and, and_true, and_false, or_true, true_or, or_false, false_or, decide_true, decide_false, not_true, not_false_iff, Int.reduceLT, Int.reduceEq, and_self, or_self] <;> first | exact ⟨_, _, _, _, _, _, _, _, _, _, _, _, _, rfl⟩ | omega

theorem and127 : ∀ m : Fin 256, andI .u8 (m.val : Int) 127 = ((m.val % 128 : Nat) : Int) := by decide +kernel
theorem and127_n (x : UInt8) : andI .u8 (x.toNat : Int) 127 = ((x.toNat % 128 : Nat) : Int) := and127 ⟨x.toNat, x.toNat_lt⟩
theorem wrap_i64 {n : Int} (h0 : -9223372036854775808 ≤ n) (h : n < 9223372036854775808) : IntKind.i64.wrap n = n := by
  simp [IntKind.wrap, IntKind.bits, IntKind.signed]
  split <;> omega
theorem wrap_u64s {n : Nat} (h : n < 2 ^ 64) : IntKind.u64.wrap (n : Int) = (n : Int) := by
  rw [wrap_u64, Nat.mod_eq_of_lt h]
theorem orI_u64 {a c i : Nat} (ha : a < 2 ^ i) (h : c * 2 ^ i < 2 ^ 64) (h2 : a < 2 ^ 64) : orI .u64 (a : Int) ((c * 2 ^ i : Nat) : Int) = ((a + c * 2 ^ i : Nat) : Int) := by
  have hor : a ||| c * 2 ^ i = a + c * 2 ^ i := by
    have := Nat.shiftLeft_add_eq_or_of_lt ha c
    rw [Nat.shiftLeft_eq] at this
    rw [Nat.or_comm, ← this, Nat.add_comm]
  have hlt : a ||| c * 2 ^ i < 2 ^ 64 := Nat.or_lt_two_pow h2 h
  unfold orI
  rw [BitVec.ofInt_natCast, BitVec.ofInt_natCast, BitVec.toNat_or, BitVec.toNat_ofNat, BitVec.toNat_ofNat]
  rw [show IntKind.bits .u64 = 64 from rfl, Nat.mod_eq_of_lt h2, Nat.mod_eq_of_lt h, wrap_u64s hlt, hor]
theorem shl7 {c i : Nat} (hi : i ≤ 9) (h : c * 128 ^ i < 2 ^ 64) : IntKind.u64.wrap ((c : Int) * 2 ^ (min (Int.toNat (7 * (i : Int))) (IntKind.bits .u64))) = ((c * 2 ^ (7 * i) : Nat) : Int) := by
  have e1 : min (Int.toNat (7 * (i : Int))) (IntKind.bits .u64) = 7 * i := by
    rw [show IntKind.bits .u64 = 64 from rfl]; omega
  have e2 : (128 : Nat) ^ i = 2 ^ (7 * i) := by rw [Nat.pow_mul]
  rw [e1, show (c : Int) * 2 ^ (7 * i) = ((c * 2 ^ (7 * i) : Nat) : Int) by simp, wrap_u64s (by rw [← e2]; exact h)]
theorem at_pre {l pre suf : List UInt8} {x : UInt8} (hl : l = pre ++ x :: suf) (h : Int.toNat (pre.length : Int) < l.length) : l[Int.toNat (pre.length : Int)] = x := by
  subst hl; simp
theorem drop_pre {l pre suf : List UInt8} {x : UInt8} (hl : l = pre ++ x :: suf) : (l.drop ((pre.length : Int) + 1).toNat).take ((l.length : Int).toNat - ((pre.length : Int) + 1).toNat) = suf := by
  rw [show ((pre.length : Int) + 1).toNat = pre.length + 1 by omega, show (l.length : Int).toNat = l.length by omega, hl]
  rw [show pre ++ x :: suf = (pre ++ [x]) ++ suf by simp, show pre.length + 1 = (pre ++ [x]).length by simp, List.drop_left]
  rw [List.take_of_length_le]; simp; omega

theorem wire_ReadNum.round {k : Nat} {l : List UInt8} (hv : Okl k l) (hk : k ≠ 2) (hlen : l.length ≤ 140737488355328) {S : AHeap} : ∀ (suf pre : List UInt8) (acc : Nat) {T : List Value} {r : St}, loopV (vcodeV Try.prog O wire_ReadNum.loop1) T S = r → T.length = 46 →
    T.getD 0 undef = by_ k l → T.getD 8 undef = by_ k l → T.getD 9 undef = .int .i64 l.length → T.getD 10 undef = .int .i64 pre.length → T.getD 5 undef = .int .u64 acc → l = pre ++ suf → acc < 128 ^ pre.length → pre.length ≤ 9 →
    ∃ e T', r = some (e, T', S) ∧ match scan pre.length acc suf with
      | none => e = .exit 0 ∧ T'.length = 46
      | some (m, rest) => e = .ret ∧ m < 2 ^ 64 ∧ T'.getD 2 undef = .int .u64 m ∧ T'.getD 3 undef = by_ 2 rest ∧ T'.getD 4 undef = .int .i64 0 := by
  intro suf
  induction suf with
  | nil =>
    intro pre acc T r hL hT h0 h8 h9 h10 h5 hl hacc hpre
    obtain ⟨x0, x1, x2, x3, x4, x5, x6, x7, x8, x9, x10, x11, x12, x13, x14, x15, x16, x17, x18, x19, x20, x21, x22, x23, x24, x25, x26, x27, x28, x29, x30, x31, x32, x33, x34, x35, x36, x37, x38, x39, x40, x41, x42, x43, x44, x45, hTe⟩ := wire_ReadNum.list hT
    rw [hTe] at h0 h8 h9 h10 h5
    simp only [List.getD_cons_succ, List.getD_cons_zero] at h0 h8 h9 h10 h5
    subst h0 h8 h9 h10 h5
    have hr : vcodeV Try.prog O wire_ReadNum.loop1 T S = vcodeV Try.prog O wire_ReadNum.loop1 T S := rfl
    have hd : decide ((pre.length : Int) < (l.length : Int)) = false := by rw [hl]; simp
    conv at hr =>
      rhs
      rw [hTe]
      simp only [wire_ReadNum.loop1, vcodeV_seq, vcodeV_region, vcodeV_block, vcodeV_skip, vcodeV_ret, vcodeV_exit, vcodeV_cond, vcodeV_loop, andThen_some, regV_some, seqV_normal, seqV_exit, seqV_ret, blockV_normal, blockV_ret, blockV_exit, condK_true, condK_false, andK_some, gdK_tt, gdK_ff, gdK_tf, gdK_ft, gdK_ut, gdCK_tt, gdCK_ff, gdCK_tf, gdCK_ft, gdCK_ut, okK_bool, okK_int, okK_string, okK_slice, okK_pointer, okK_SL, okK_EP, okK_sv, okK_vs, List.getD_cons_succ, List.getD_cons_zero, gd_tt, gd_ff, gd_tf, gd_ft, gd_ut, gdC_tt, gdC_ff, gdC_tf, gdC_ft, gdC_ut, ret_run, vPick_bool, if_true, if_false, reduceIte, Nat.reduceEqDiff, Bool.false_eq_true, okC_bool, okC_int, okC_string, okC_slice, okC_iface, okC_vs, okC_sv, okC_EP, dem_undef, dem_int, dem_bool, dem_string, dem_nil, dem_agg, dem_func, dem_pointer, dem_vs, dem_sv, dem_dem, vBin_int, vBin_string, vBin_bool, vConv_int, vExtract_tuple, List.getElem?_cons_succ, List.getElem?_cons_zero, Option.map_some, aBin_add, aBin_sub, aBin_mul, aBin_eql, aBin_neq, aBin_lss, aBin_leq, aBin_gtr, aBin_geq, aUn_not, Bool.not_true, Bool.not_false, Bool.true_eq_false, decide_true, decide_false, eq_self, exd_0_1, exd_0_2, exd_1_2, exd_0_3, exd_1_3, exd_2_3, exd_0_4, exd_1_4, exd_2_4, exd_3_4, exd_0_5, exd_1_5, exd_2_5, exd_3_5, exd_4_5, wire_ReadNum.r3, hd]
    exact ⟨_, _, hL.symm.trans (loopV_exit hr (by simp)), rfl, rfl⟩
  | cons x suf ih =>
    intro pre acc T r hL hT h0 h8 h9 h10 h5 hl hacc hpre
    obtain ⟨x0, x1, x2, x3, x4, x5, x6, x7, x8, x9, x10, x11, x12, x13, x14, x15, x16, x17, x18, x19, x20, x21, x22, x23, x24, x25, x26, x27, x28, x29, x30, x31, x32, x33, x34, x35, x36, x37, x38, x39, x40, x41, x42, x43, x44, x45, hTe⟩ := wire_ReadNum.list hT
    rw [hTe] at h0 h8 h9 h10 h5
    simp only [List.getD_cons_succ, List.getD_cons_zero] at h0 h8 h9 h10 h5
    subst h0 h8 h9 h10 h5
    have hr : vcodeV Try.prog O wire_ReadNum.loop1 T S = vcodeV Try.prog O wire_ReadNum.loop1 T S := rfl
    have hlt : (pre.length : Int) < (l.length : Int) := by rw [hl]; simp; omega
    have hd : decide ((pre.length : Int) < (l.length : Int)) = true := by simpa using hlt
    have k0 : k ≠ 0 := fun h => by have := hv.nil h; rw [this] at hl; simp at hl
    have e1 : ∀ S, vIndexAddr Try.prog 23 (by_ k l) (.int .i64 pre.length) S = some (EP [.int .u8 x.toNat], S) := fun S => by
      rw [by_at hv (by omega) hlt]; rw [at_pre hl]
    obtain ⟨y15, y16, y17, y18, y19, y20, y21, y22, y23, y24, y25, y26, y27, e3⟩ := wire_ReadNum.stop (by_ k l) x1 x2 x3 x4 (.int .u64 acc) (.int .i64 pre.length) (.int .u8 x.toNat) (by_ k l) (.int .i64 l.length) (.int .i64 pre.length) (.bool true) (.int .i64 pre.length) (EP [.int .u8 x.toNat]) (.int .u8 x.toNat) x15 x16 x17 x18 x19 x20 x21 x22 x23 x24 x25 x26 x27 x28 x29 x30 x31 x32 x33 x34 x35 x36 x37 x38 x39 x40 x41 x42 x43 x44 x45 (pre.length : Int) (x.toNat : Int) S rfl rfl
    conv at hr =>
      rhs
      rw [hTe]
      simp only [wire_ReadNum.loop1, vcodeV_seq, vcodeV_region, vcodeV_block, vcodeV_skip, vcodeV_ret, vcodeV_exit, vcodeV_cond, vcodeV_loop, andThen_some, regV_some, seqV_normal, seqV_exit, seqV_ret, blockV_normal, blockV_ret, blockV_exit, condK_true, condK_false, andK_some, gdK_tt, gdK_ff, gdK_tf, gdK_ft, gdK_ut, gdCK_tt, gdCK_ff, gdCK_tf, gdCK_ft, gdCK_ut, okK_bool, okK_int, okK_string, okK_slice, okK_pointer, okK_SL, okK_EP, okK_sv, okK_vs, List.getD_cons_succ, List.getD_cons_zero, gd_tt, gd_ff, gd_tf, gd_ft, gd_ut, gdC_tt, gdC_ff, gdC_tf, gdC_ft, gdC_ut, ret_run, vPick_bool, if_true, if_false, reduceIte, Nat.reduceEqDiff, Bool.false_eq_true, okC_bool, okC_int, okC_string, okC_slice, okC_iface, okC_vs, okC_sv, okC_EP, dem_undef, dem_int, dem_bool, dem_string, dem_nil, dem_agg, dem_func, dem_pointer, dem_vs, dem_sv, dem_dem, vBin_int, vBin_string, vBin_bool, vConv_int, vExtract_tuple, List.getElem?_cons_succ, List.getElem?_cons_zero, Option.map_some, aBin_add, aBin_sub, aBin_mul, aBin_eql, aBin_neq, aBin_lss, aBin_leq, aBin_gtr, aBin_geq, aUn_not, Bool.not_true, Bool.not_false, Bool.true_eq_false, decide_true, decide_false, eq_self, exd_0_1, exd_0_2, exd_1_2, exd_0_3, exd_1_3, exd_2_3, exd_0_4, exd_1_4, exd_2_4, exd_3_4, exd_0_5, exd_1_5, exd_2_5, exd_3_5, exd_4_5, wire_ReadNum.r3, hd, wire_ReadNum.r4, e1, by_load, if_neg hk, e3]
    have hst : ((pre.length : Int) = 9 ∧ 1 < (x.toNat : Int) ∨ 0 < (pre.length : Int) ∧ (x.toNat : Int) = 0) ↔ ((pre.length = 9 ∧ 1 < x.toNat) ∨ (0 < pre.length ∧ x.toNat = 0)) := by omega
    by_cases hs : (pre.length = 9 ∧ 1 < x.toNat) ∨ (0 < pre.length ∧ x.toNat = 0)
    · have hs2 := decide_eq_true (hst.2 hs)
      conv at hr =>
        rhs
        simp only [hs2, vcodeV_seq, vcodeV_region, vcodeV_block, vcodeV_skip, vcodeV_ret, vcodeV_exit, vcodeV_cond, vcodeV_loop, andThen_some, regV_some, seqV_normal, seqV_exit, seqV_ret, blockV_normal, blockV_ret, blockV_exit, condK_true, condK_false, andK_some, gdK_tt, gdK_ff, gdK_tf, gdK_ft, gdK_ut, gdCK_tt, gdCK_ff, gdCK_tf, gdCK_ft, gdCK_ut, okK_bool, okK_int, okK_string, okK_slice, okK_pointer, okK_SL, okK_EP, okK_sv, okK_vs, List.getD_cons_succ, List.getD_cons_zero, gd_tt, gd_ff, gd_tf, gd_ft, gd_ut, gdC_tt, gdC_ff, gdC_tf, gdC_ft, gdC_ut, ret_run, vPick_bool, if_true, if_false, reduceIte, Nat.reduceEqDiff, Bool.false_eq_true, okC_bool, okC_int, okC_string, okC_slice, okC_iface, okC_vs, okC_sv, okC_EP, dem_undef, dem_int, dem_bool, dem_string, dem_nil, dem_agg, dem_func, dem_pointer, dem_vs, dem_sv, dem_dem, vBin_int, vBin_string, vBin_bool, vConv_int, vExtract_tuple, List.getElem?_cons_succ, List.getElem?_cons_zero, Option.map_some, aBin_add, aBin_sub, aBin_mul, aBin_eql, aBin_neq, aBin_lss, aBin_leq, aBin_gtr, aBin_geq, aUn_not, Bool.not_true, Bool.not_false, Bool.true_eq_false, decide_true, decide_false, eq_self, exd_0_1, exd_0_2, exd_1_2, exd_0_3, exd_1_3, exd_2_3, exd_0_4, exd_1_4, exd_2_4, exd_3_4, exd_0_5, exd_1_5, exd_2_5, exd_3_5, exd_4_5]
      refine ⟨_, _, hL.symm.trans (loopV_exit hr (by simp)), ?_⟩
      rw [scan, if_pos hs]
      exact ⟨rfl, rfl⟩
    · have hs2 := decide_eq_false (fun h => hs (hst.1 h))
      have hx256 := x.toNat_lt
      have hpw : 128 ^ pre.length ≤ 128 ^ 9 := Nat.pow_le_pow_right (by omega) hpre
      have hc64 : x.toNat % 128 * 128 ^ pre.length < 2 ^ 64 := by
        by_cases h9 : pre.length = 9
        · rw [h9]; have : x.toNat % 128 ≤ 1 := by omega
          exact Nat.lt_of_le_of_lt (Nat.mul_le_mul_right _ this) (by decide)
        · have h8 : 128 ^ pre.length ≤ 128 ^ 8 := Nat.pow_le_pow_right (by omega) (by omega)
          exact Nat.lt_of_le_of_lt (Nat.mul_le_mul (by omega : x.toNat % 128 ≤ 127) h8) (by decide)
      have hm : IntKind.i64.wrap (7 * (pre.length : Int)) = 7 * (pre.length : Int) := wrap_i64 (by omega) (by omega)
      have e128 : (128 : Nat) ^ pre.length = 2 ^ (7 * pre.length) := by rw [Nat.pow_mul]
      have hor := orI_u64 (a := acc) (c := x.toNat % 128) (i := 7 * pre.length) (by rw [← e128]; exact hacc) (by rw [← e128]; exact hc64) (Nat.lt_of_lt_of_le hacc (Nat.le_trans hpw (by decide)))
      conv at hr =>
        rhs
        simp only [hs2, vcodeV_seq, vcodeV_region, vcodeV_block, vcodeV_skip, vcodeV_ret, vcodeV_exit, vcodeV_cond, vcodeV_loop, andThen_some, regV_some, seqV_normal, seqV_exit, seqV_ret, blockV_normal, blockV_ret, blockV_exit, condK_true, condK_false, andK_some, gdK_tt, gdK_ff, gdK_tf, gdK_ft, gdK_ut, gdCK_tt, gdCK_ff, gdCK_tf, gdCK_ft, gdCK_ut, okK_bool, okK_int, okK_string, okK_slice, okK_pointer, okK_SL, okK_EP, okK_sv, okK_vs, List.getD_cons_succ, List.getD_cons_zero, gd_tt, gd_ff, gd_tf, gd_ft, gd_ut, gdC_tt, gdC_ff, gdC_tf, gdC_ft, gdC_ut, ret_run, vPick_bool, if_true, if_false, reduceIte, Nat.reduceEqDiff, Bool.false_eq_true, okC_bool, okC_int, okC_string, okC_slice, okC_iface, okC_vs, okC_sv, okC_EP, dem_undef, dem_int, dem_bool, dem_string, dem_nil, dem_agg, dem_func, dem_pointer, dem_vs, dem_sv, dem_dem, vBin_int, vBin_string, vBin_bool, vConv_int, vExtract_tuple, List.getElem?_cons_succ, List.getElem?_cons_zero, Option.map_some, aBin_add, aBin_sub, aBin_mul, aBin_eql, aBin_neq, aBin_lss, aBin_leq, aBin_gtr, aBin_geq, aUn_not, Bool.not_true, Bool.not_false, Bool.true_eq_false, decide_true, decide_false, eq_self, exd_0_1, exd_0_2, exd_1_2, exd_0_3, exd_1_3, exd_2_3, exd_0_4, exd_1_4, exd_2_4, exd_3_4, exd_0_5, exd_1_5, exd_2_5, exd_3_5, exd_4_5, wire_ReadNum.r6, aBin_and, and127_n, cv_uint8_uint64, wrap_u64s (show x.toNat % 128 < 2 ^ 64 by omega), hm, aBin_shl _ _ _ _ (show (0 : Int) ≤ 7 * (pre.length : Int) by omega), shl7 hpre hc64, aBin_or, hor, wire_ReadNum.r7]
      rw [← e128] at hr
      have hadd : acc + x.toNat % 128 * 128 ^ pre.length < 128 ^ (pre.length + 1) := by
        rw [Nat.pow_succ]
        have : x.toNat % 128 * 128 ^ pre.length ≤ 127 * 128 ^ pre.length := Nat.mul_le_mul_right _ (by omega)
        omega
      have hi1 : IntKind.i64.wrap ((pre.length : Int) + 1) = (pre.length : Int) + 1 := wrap_i64 (by omega) (by omega)
      by_cases hxs : x.toNat < 128
      · have hd2 : decide ((x.toNat : Int) < 128) = true := by simp; omega
        have e4 : ∀ S, vSlice Try.prog 23 (by_ k l) (some (.int .i64 ((pre.length : Int) + 1))) none S = some (by_ k suf, S) := fun S => by
          rw [by_slice hv (lo := some (.int .i64 ((pre.length : Int) + 1))) (hi := none) (i := (pre.length : Int) + 1) (j := l.length) rfl rfl (by omega) (by omega) (by omega), drop_pre hl, if_neg hk]
        have ok2 : Okl k suf := ⟨hv.le, fun h => absurd h k0⟩
        have e5 : ∀ S, vlim Try.prog O slices_Clone.id [by_ k suf] S = some (by_ 2 suf, S) := fun S => by
          rw [slices_Clone.v ok2 hk (by have := congrArg List.length hl; simp at this; omega), if_neg k0]
        conv at hr =>
          rhs
          simp only [hd2, vcodeV_seq, vcodeV_region, vcodeV_block, vcodeV_skip, vcodeV_ret, vcodeV_exit, vcodeV_cond, vcodeV_loop, andThen_some, regV_some, seqV_normal, seqV_exit, seqV_ret, blockV_normal, blockV_ret, blockV_exit, condK_true, condK_false, andK_some, gdK_tt, gdK_ff, gdK_tf, gdK_ft, gdK_ut, gdCK_tt, gdCK_ff, gdCK_tf, gdCK_ft, gdCK_ut, okK_bool, okK_int, okK_string, okK_slice, okK_pointer, okK_SL, okK_EP, okK_sv, okK_vs, List.getD_cons_succ, List.getD_cons_zero, gd_tt, gd_ff, gd_tf, gd_ft, gd_ut, gdC_tt, gdC_ff, gdC_tf, gdC_ft, gdC_ut, ret_run, vPick_bool, if_true, if_false, reduceIte, Nat.reduceEqDiff, Bool.false_eq_true, okC_bool, okC_int, okC_string, okC_slice, okC_iface, okC_vs, okC_sv, okC_EP, dem_undef, dem_int, dem_bool, dem_string, dem_nil, dem_agg, dem_func, dem_pointer, dem_vs, dem_sv, dem_dem, vBin_int, vBin_string, vBin_bool, vConv_int, vExtract_tuple, List.getElem?_cons_succ, List.getElem?_cons_zero, Option.map_some, aBin_add, aBin_sub, aBin_mul, aBin_eql, aBin_neq, aBin_lss, aBin_leq, aBin_gtr, aBin_geq, aUn_not, Bool.not_true, Bool.not_false, Bool.true_eq_false, decide_true, decide_false, eq_self, exd_0_1, exd_0_2, exd_1_2, exd_0_3, exd_1_3, exd_2_3, exd_0_4, exd_1_4, exd_2_4, exd_3_4, exd_0_5, exd_1_5, exd_2_5, exd_3_5, exd_4_5, wire_ReadNum.r8, hi1, if_neg hk, e4, e5]
        refine ⟨_, _, hL.symm.trans (loopV_exit hr (by simp)), ?_⟩
        rw [scan, if_neg hs, if_pos hxs]
        have hxm : x.toNat % 128 = x.toNat := by omega
        rw [hxm]
        refine ⟨rfl, ?_, rfl, rfl, rfl⟩
        rw [hxm] at hadd
        by_cases h9 : pre.length = 9
        · rw [h9] at hacc ⊢
          have : x.toNat ≤ 1 := by omega
          have h1 : x.toNat * 128 ^ 9 ≤ 1 * 128 ^ 9 := Nat.mul_le_mul_right _ this
          have h2 : (128 : Nat) ^ 9 + 1 * 128 ^ 9 = 2 ^ 64 := by decide
          omega
        · have h8 : 128 ^ (pre.length + 1) ≤ 128 ^ 9 := Nat.pow_le_pow_right (by omega) (by omega)
          exact Nat.lt_of_lt_of_le hadd (Nat.le_trans h8 (by decide))
      · have hd2 : decide ((x.toNat : Int) < 128) = false := by simp; omega
        conv at hr =>
          rhs
          simp only [hd2, vcodeV_seq, vcodeV_region, vcodeV_block, vcodeV_skip, vcodeV_ret, vcodeV_exit, vcodeV_cond, vcodeV_loop, andThen_some, regV_some, seqV_normal, seqV_exit, seqV_ret, blockV_normal, blockV_ret, blockV_exit, condK_true, condK_false, andK_some, gdK_tt, gdK_ff, gdK_tf, gdK_ft, gdK_ut, gdCK_tt, gdCK_ff, gdCK_tf, gdCK_ft, gdCK_ut, okK_bool, okK_int, okK_string, okK_slice, okK_pointer, okK_SL, okK_EP, okK_sv, okK_vs, List.getD_cons_succ, List.getD_cons_zero, gd_tt, gd_ff, gd_tf, gd_ft, gd_ut, gdC_tt, gdC_ff, gdC_tf, gdC_ft, gdC_ut, ret_run, vPick_bool, if_true, if_false, reduceIte, Nat.reduceEqDiff, Bool.false_eq_true, okC_bool, okC_int, okC_string, okC_slice, okC_iface, okC_vs, okC_sv, okC_EP, dem_undef, dem_int, dem_bool, dem_string, dem_nil, dem_agg, dem_func, dem_pointer, dem_vs, dem_sv, dem_dem, vBin_int, vBin_string, vBin_bool, vConv_int, vExtract_tuple, List.getElem?_cons_succ, List.getElem?_cons_zero, Option.map_some, aBin_add, aBin_sub, aBin_mul, aBin_eql, aBin_neq, aBin_lss, aBin_leq, aBin_gtr, aBin_geq, aUn_not, Bool.not_true, Bool.not_false, Bool.true_eq_false, decide_true, decide_false, eq_self, exd_0_1, exd_0_2, exd_1_2, exd_0_3, exd_1_3, exd_2_3, exd_0_4, exd_1_4, exd_2_4, exd_3_4, exd_0_5, exd_1_5, exd_2_5, exd_3_5, exd_4_5, wire_ReadNum.r9, hi1]
        obtain ⟨e, T', g1, g3⟩ := ih (pre ++ [x]) (acc + x.toNat % 128 * 128 ^ pre.length) ((loopV_step hr).symm.trans hL) rfl rfl rfl rfl (by simp) rfl (by simp [hl]) (by simpa using hadd) (by simp; omega)
        refine ⟨e, T', g1, ?_⟩
        rw [scan, if_neg hs, if_neg hxs]
        have hxm : x.toNat % 128 = x.toNat - 128 := by omega
        rw [hxm] at g3
        simpa using g3

theorem wire_ReadNum.v {k : Nat} {l : List UInt8} (hv : Okl k l) (hk : k ≠ 2) (hlen : l.length ≤ 140737488355328) (S : AHeap) : vlim Try.prog O wire_ReadNum.id [by_ k l] S = some (readV l, S) := by
  obtain ⟨T, hTe⟩ : ∃ T, T = (by_ k l :: undef :: undef :: undef :: undef :: undef :: undef :: undef :: undef :: undef :: undef :: undef :: undef :: undef :: undef :: undef :: undef :: undef :: undef :: undef :: undef :: undef :: undef :: undef :: undef :: undef :: undef :: undef :: undef :: undef :: undef :: undef :: undef :: undef :: undef :: undef :: undef :: undef :: undef :: undef :: undef :: undef :: undef :: undef :: undef :: undef :: []) := ⟨_, rfl⟩
  have hr : vcodeV Try.prog O wire_ReadNum.code T S = vcodeV Try.prog O wire_ReadNum.code T S := rfl
  conv at hr =>
    rhs
    rw [hTe]
    simp only [wire_ReadNum.code, vcodeV_seq, vcodeV_region, vcodeV_block, vcodeV_skip, vcodeV_ret, vcodeV_exit, vcodeV_cond, vcodeV_loop, andThen_some, regV_some, seqV_normal, seqV_exit, seqV_ret, blockV_normal, blockV_ret, blockV_exit, condK_true, condK_false, andK_some, gdK_tt, gdK_ff, gdK_tf, gdK_ft, gdK_ut, gdCK_tt, gdCK_ff, gdCK_tf, gdCK_ft, gdCK_ut, okK_bool, okK_int, okK_string, okK_slice, okK_pointer, okK_SL, okK_EP, okK_sv, okK_vs, List.getD_cons_succ, List.getD_cons_zero, gd_tt, gd_ff, gd_tf, gd_ft, gd_ut, gdC_tt, gdC_ff, gdC_tf, gdC_ft, gdC_ut, ret_run, vPick_bool, if_true, if_false, reduceIte, Nat.reduceEqDiff, Bool.false_eq_true, okC_bool, okC_int, okC_string, okC_slice, okC_iface, okC_vs, okC_sv, okC_EP, dem_undef, dem_int, dem_bool, dem_string, dem_nil, dem_agg, dem_func, dem_pointer, dem_vs, dem_sv, dem_dem, vBin_int, vBin_string, vBin_bool, vConv_int, vExtract_tuple, List.getElem?_cons_succ, List.getElem?_cons_zero, Option.map_some, aBin_add, aBin_sub, aBin_mul, aBin_eql, aBin_neq, aBin_lss, aBin_leq, aBin_gtr, aBin_geq, aUn_not, Bool.not_true, Bool.not_false, Bool.true_eq_false, decide_true, decide_false, eq_self, exd_0_1, exd_0_2, exd_1_2, exd_0_3, exd_1_3, exd_2_3, exd_0_4, exd_1_4, exd_2_4, exd_3_4, exd_0_5, exd_1_5, exd_2_5, exd_3_5, exd_4_5, wire_ReadNum.r0, wire_ReadNum.r1, wire_ReadNum.r2, if_neg hk, by_len hv]
  generalize hL : loopV (vcodeV Try.prog O wire_ReadNum.loop1) _ _ = r at hr
  obtain ⟨e, T', rfl, g3⟩ := wire_ReadNum.round hv hk hlen l [] 0 hL rfl rfl rfl rfl rfl rfl rfl (by simp) (by simp)
  simp only [List.length_nil] at g3
  unfold readV
  cases hsc : scan 0 0 l with
  | none =>
    rw [hsc] at g3
    obtain ⟨rfl, hT'⟩ := g3
    obtain ⟨x0, x1, x2, x3, x4, x5, x6, x7, x8, x9, x10, x11, x12, x13, x14, x15, x16, x17, x18, x19, x20, x21, x22, x23, x24, x25, x26, x27, x28, x29, x30, x31, x32, x33, x34, x35, x36, x37, x38, x39, x40, x41, x42, x43, x44, x45, hTe'⟩ := wire_ReadNum.list hT'
    conv at hr =>
      rhs
      rw [hTe']
      simp only [vcodeV_seq, vcodeV_region, vcodeV_block, vcodeV_skip, vcodeV_ret, vcodeV_exit, vcodeV_cond, vcodeV_loop, andThen_some, regV_some, seqV_normal, seqV_exit, seqV_ret, blockV_normal, blockV_ret, blockV_exit, condK_true, condK_false, andK_some, gdK_tt, gdK_ff, gdK_tf, gdK_ft, gdK_ut, gdCK_tt, gdCK_ff, gdCK_tf, gdCK_ft, gdCK_ut, okK_bool, okK_int, okK_string, okK_slice, okK_pointer, okK_SL, okK_EP, okK_sv, okK_vs, List.getD_cons_succ, List.getD_cons_zero, gd_tt, gd_ff, gd_tf, gd_ft, gd_ut, gdC_tt, gdC_ff, gdC_tf, gdC_ft, gdC_ut, ret_run, vPick_bool, if_true, if_false, reduceIte, Nat.reduceEqDiff, Bool.false_eq_true, okC_bool, okC_int, okC_string, okC_slice, okC_iface, okC_vs, okC_sv, okC_EP, dem_undef, dem_int, dem_bool, dem_string, dem_nil, dem_agg, dem_func, dem_pointer, dem_vs, dem_sv, dem_dem, vBin_int, vBin_string, vBin_bool, vConv_int, vExtract_tuple, List.getElem?_cons_succ, List.getElem?_cons_zero, Option.map_some, aBin_add, aBin_sub, aBin_mul, aBin_eql, aBin_neq, aBin_lss, aBin_leq, aBin_gtr, aBin_geq, aUn_not, Bool.not_true, Bool.not_false, Bool.true_eq_false, decide_true, decide_false, eq_self, exd_0_1, exd_0_2, exd_1_2, exd_0_3, exd_1_3, exd_2_3, exd_0_4, exd_1_4, exd_2_4, exd_3_4, exd_0_5, exd_1_5, exd_2_5, exd_3_5, exd_4_5, wire_ReadNum.r10]
    rw [hTe] at hr
    exact wire_ReadNum.runs hr (.inr rfl) rfl rfl rfl
  | some mr =>
    obtain ⟨m, rest⟩ := mr
    rw [hsc] at g3
    obtain ⟨rfl, hm, h2, h3, h4⟩ := g3
    conv at hr =>
      rhs
      simp only [vcodeV_seq, vcodeV_region, vcodeV_block, vcodeV_skip, vcodeV_ret, vcodeV_exit, vcodeV_cond, vcodeV_loop, andThen_some, regV_some, seqV_normal, seqV_exit, seqV_ret, blockV_normal, blockV_ret, blockV_exit, condK_true, condK_false, andK_some, gdK_tt, gdK_ff, gdK_tf, gdK_ft, gdK_ut, gdCK_tt, gdCK_ff, gdCK_tf, gdCK_ft, gdCK_ut, okK_bool, okK_int, okK_string, okK_slice, okK_pointer, okK_SL, okK_EP, okK_sv, okK_vs, List.getD_cons_succ, List.getD_cons_zero, gd_tt, gd_ff, gd_tf, gd_ft, gd_ut, gdC_tt, gdC_ff, gdC_tf, gdC_ft, gdC_ut, ret_run, vPick_bool, if_true, if_false, reduceIte, Nat.reduceEqDiff, Bool.false_eq_true, okC_bool, okC_int, okC_string, okC_slice, okC_iface, okC_vs, okC_sv, okC_EP, dem_undef, dem_int, dem_bool, dem_string, dem_nil, dem_agg, dem_func, dem_pointer, dem_vs, dem_sv, dem_dem, vBin_int, vBin_string, vBin_bool, vConv_int, vExtract_tuple, List.getElem?_cons_succ, List.getElem?_cons_zero, Option.map_some, aBin_add, aBin_sub, aBin_mul, aBin_eql, aBin_neq, aBin_lss, aBin_leq, aBin_gtr, aBin_geq, aUn_not, Bool.not_true, Bool.not_false, Bool.true_eq_false, decide_true, decide_false, eq_self, exd_0_1, exd_0_2, exd_1_2, exd_0_3, exd_1_3, exd_2_3, exd_0_4, exd_1_4, exd_2_4, exd_3_4, exd_0_5, exd_1_5, exd_2_5, exd_3_5, exd_4_5]
    rw [hTe] at hr
    have hrun := wire_ReadNum.runs hr (.inr rfl) (by rw [h2]; rfl) (by rw [h3]; exact notTuple_vs) (by rw [h4]; rfl)
    rw [h2, h3, h4] at hrun
    exact hrun
theorem scan_lt : ∀ (suf : List UInt8) (i acc : Nat), acc < 128 ^ i → i ≤ 9 → ∀ m rest, scan i acc suf = some (m, rest) → m < 2 ^ 64 ∧ rest.length < suf.length := by
  intro suf
  induction suf with
  | nil => intro i acc _ _ m rest h; cases h
  | cons x suf ih =>
    intro i acc hacc hi m rest h
    rw [scan] at h
    have hx256 := x.toNat_lt
    split at h
    · cases h
    · rename_i hs
      split at h
      · rename_i hx
        cases h
        refine ⟨?_, by simp⟩
        by_cases h9 : i = 9
        · subst h9
          have : x.toNat ≤ 1 := by omega
          have h1 : x.toNat * 128 ^ 9 ≤ 1 * 128 ^ 9 := Nat.mul_le_mul_right _ this
          have h2 : (128 : Nat) ^ 9 + 1 * 128 ^ 9 = 2 ^ 64 := by decide
          omega
        · have h8 : 128 ^ (i + 1) ≤ 128 ^ 9 := Nat.pow_le_pow_right (by omega) (by omega)
          have h3 : acc + x.toNat * 128 ^ i < 128 ^ (i + 1) := by
            rw [Nat.pow_succ]
            have : x.toNat * 128 ^ i ≤ 127 * 128 ^ i := Nat.mul_le_mul_right _ (by omega)
            omega
          exact Nat.lt_of_lt_of_le h3 (Nat.le_trans h8 (by decide))
      · rename_i hx
        have h9 : i ≠ 9 := by omega
        have hadd : acc + (x.toNat - 128) * 128 ^ i < 128 ^ (i + 1) := by
          rw [Nat.pow_succ]
          have : (x.toNat - 128) * 128 ^ i ≤ 127 * 128 ^ i := Nat.mul_le_mul_right _ (by omega)
          omega
        obtain ⟨h1, h2⟩ := ih (i + 1) _ hadd (by omega) m rest h
        exact ⟨h1, by simp; omega⟩
end Go.Proofs.Ytjlhjebmbllkiaa
