/-
What wire.ReadNum answers.
-/
import Derived.Test.YtjlhjebmbllkiaaWire3
set_option linter.unusedVariables false
set_option linter.unusedSimpArgs false
namespace Go.Proofs.Ytjlhjebmbllkiaa
open Go.Abs

theorem and127 : ∀ m : Fin 256, andI .u8 (m.val : Int) 127 = ((m.val % 128 : Nat) : Int) := by decide +kernel
theorem and127_n (x : UInt8) : andI .u8 (x.toNat : Int) 127 = ((x.toNat % 128 : Nat) : Int) := and127 ⟨x.toNat, x.toNat_lt⟩
theorem wrap_i64 {n : Int} (h0 : -9223372036854775808 ≤ n) (h : n < 9223372036854775808) : IntKind.i64.wrap n = n := by
  simp [IntKind.wrap, IntKind.bits, IntKind.signed]
  split <;> omega
theorem wrap_u64s {n : Nat} (h : n < 2 ^ 64) : IntKind.u64.wrap (n : Int) = (n : Int) := by
  rw [wrap_u64, Nat.mod_eq_of_lt h]
theorem orI_u64 {a c i : Nat} (ha : a < 2 ^ i) (h : c * 2 ^ i < 2 ^ 64) (h2 : a < 2 ^ 64) : orI .u64 (a : Int) ((c * 2 ^ i : Nat) : Int) = ((a + c * 2 ^ i : Nat) : Int) := by
  have hor : a ||| c * 2 ^ i = a + c * 2 ^ i := by
    have := Nat.shiftLeft_add_eq_or_of_lt ha c
    rw [Nat.shiftLeft_eq] at this
    rw [Nat.or_comm, ← this, Nat.add_comm]
  have hlt : a ||| c * 2 ^ i < 2 ^ 64 := Nat.or_lt_two_pow h2 h
  unfold orI
  rw [BitVec.ofInt_natCast, BitVec.ofInt_natCast, BitVec.toNat_or, BitVec.toNat_ofNat, BitVec.toNat_ofNat]
  rw [show IntKind.bits .u64 = 64 from rfl, Nat.mod_eq_of_lt h2, Nat.mod_eq_of_lt h, wrap_u64s hlt, hor]
theorem shl7 {c i : Nat} (hi : i ≤ 9) (h : c * 128 ^ i < 2 ^ 64) : IntKind.u64.wrap ((c : Int) * 2 ^ (min (Int.toNat (7 * (i : Int))) (IntKind.bits .u64))) = ((c * 2 ^ (7 * i) : Nat) : Int) := by
  have e1 : min (Int.toNat (7 * (i : Int))) (IntKind.bits .u64) = 7 * i := by
    rw [show IntKind.bits .u64 = 64 from rfl]; omega
  have e2 : (128 : Nat) ^ i = 2 ^ (7 * i) := by rw [Nat.pow_mul]
  rw [e1, show (c : Int) * 2 ^ (7 * i) = ((c * 2 ^ (7 * i) : Nat) : Int) by simp, wrap_u64s (by rw [← e2]; exact h)]

theorem wire_ReadNum.round {l : List UInt8} {v : Value} {H : AHeap} (hv : Sb H l v) (hlen : l.length ≤ 140737488355328) : ∀ (suf pre : List UInt8) (acc : Nat) {T : List Value} {r : St}, loopV (codeV Try.prog wire_ReadNum.loop1) T H = r → T.length = 46 →
    T.getD 0 undef = v → T.getD 8 undef = v → T.getD 9 undef = .int .i64 l.length → T.getD 10 undef = .int .i64 pre.length → T.getD 5 undef = .int .u64 acc → l = pre ++ suf → acc < 128 ^ pre.length → pre.length ≤ 9 →
    ∃ e T' H', r = some (e, T', H') ∧ Keeps H.next H H' ∧ match scan pre.length acc suf with
      | none => e = .exit 0 ∧ T'.length = 46
      | some (m, rest) => e = .ret ∧ m < 2 ^ 64 ∧ T'.getD 2 undef = .int .u64 m ∧ Sob H.next H' rest (T'.getD 3 undef) ∧ T'.getD 4 undef = .int .i64 0 := by
  intro suf
  induction suf with
  | nil =>
    intro pre acc T r hL hT h0 h8 h9 h10 h5 hl hacc hpre
    obtain ⟨x0, x1, x2, x3, x4, x5, x6, x7, x8, x9, x10, x11, x12, x13, x14, x15, x16, x17, x18, x19, x20, x21, x22, x23, x24, x25, x26, x27, x28, x29, x30, x31, x32, x33, x34, x35, x36, x37, x38, x39, x40, x41, x42, x43, x44, x45, hTe⟩ := wire_ReadNum.list hT
    rw [hTe] at h0 h8 h9 h10 h5
    simp only [List.getD_cons_succ, List.getD_cons_zero] at h0 h8 h9 h10 h5
    have hr : codeV Try.prog wire_ReadNum.loop1 T H = codeV Try.prog wire_ReadNum.loop1 T H := rfl
    have hd : decide ((pre.length : Int) < (l.length : Int)) = false := by rw [hl]; simp
    conv at hr =>
      rhs
      rw [hTe]
      simp only [wire_ReadNum.loop1, codeV_seq, codeV_region, codeV_block, codeV_skip, codeV_ret, codeV_exit, codeV_cond, codeV_loop, andThen_some, regV_some, seqV_normal, seqV_exit, seqV_ret, blockV_normal, blockV_ret, blockV_exit, condV_true, condV_false, List.getD_cons_succ, List.getD_cons_zero, gd_tt, gd_ff, gd_tf, gd_ft, gd_ut, ret_run, aPick_bool, if_true, if_false, reduceIte, Nat.reduceEqDiff, Bool.false_eq_true, wire_ReadNum.r3, h9, h10, aBin_lss, hd]
    exact ⟨_, _, _, hL.symm.trans (loopV_exit hr (by simp)), Keeps.refl _ _, rfl, rfl⟩
  | cons x suf ih =>
    intro pre acc T r hL hT h0 h8 h9 h10 h5 hl hacc hpre
    obtain ⟨x0, x1, x2, x3, x4, x5, x6, x7, x8, x9, x10, x11, x12, x13, x14, x15, x16, x17, x18, x19, x20, x21, x22, x23, x24, x25, x26, x27, x28, x29, x30, x31, x32, x33, x34, x35, x36, x37, x38, x39, x40, x41, x42, x43, x44, x45, hTe⟩ := wire_ReadNum.list hT
    rw [hTe] at h0 h8 h9 h10 h5
    simp only [List.getD_cons_succ, List.getD_cons_zero] at h0 h8 h9 h10 h5
    have hr : codeV Try.prog wire_ReadNum.loop1 T H = codeV Try.prog wire_ReadNum.loop1 T H := rfl
    have hlt : (pre.length : Int) < (l.length : Int) := by rw [hl]; simp; omega
    have hd : decide ((pre.length : Int) < (l.length : Int)) = true := by simpa using hlt
    obtain ⟨p, e1, e2⟩ := aByte u_L_uint8 s_uint8 g_uint8 hv (k := .i64) (Int.natCast_nonneg pre.length) hlt
    have hx : l.getD (Int.toNat (pre.length : Int)) 0 = x := by rw [hl, Int.toNat_natCast, List.getD_eq_getElem?_getD, List.getElem?_append_right (Nat.le_refl _)]; simp
    rw [hx] at e2
    obtain ⟨y15, y16, y17, y18, y19, y20, y21, y22, y23, y24, y25, y26, y27, e3⟩ := wire_ReadNum.stop x0 x1 x2 x3 x4 x5 (.int .i64 pre.length) (.int .u8 x.toNat) x8 x9 x10 (.bool true) x10 p (.int .u8 x.toNat) x15 x16 x17 x18 x19 x20 x21 x22 x23 x24 x25 x26 x27 x28 x29 x30 x31 x32 x33 x34 x35 x36 x37 x38 x39 x40 x41 x42 x43 x44 x45 (pre.length : Int) (x.toNat : Int) H rfl rfl
    rw [h8, h9, h10, h5, h0] at e3
    conv at hr =>
      rhs
      rw [hTe]
      simp only [wire_ReadNum.loop1, codeV_seq, codeV_region, codeV_block, codeV_skip, codeV_ret, codeV_exit, codeV_cond, codeV_loop, andThen_some, regV_some, seqV_normal, seqV_exit, seqV_ret, blockV_normal, blockV_ret, blockV_exit, condV_true, condV_false, List.getD_cons_succ, List.getD_cons_zero, gd_tt, gd_ff, gd_tf, gd_ft, gd_ut, ret_run, aPick_bool, if_true, if_false, reduceIte, Nat.reduceEqDiff, Bool.false_eq_true, wire_ReadNum.r3, h0, h8, h9, h10, h5, aBin_lss, hd, wire_ReadNum.r4, e1, e2, e3]
    have hst : ((pre.length : Int) = 9 ∧ 1 < (x.toNat : Int) ∨ 0 < (pre.length : Int) ∧ (x.toNat : Int) = 0) ↔ ((pre.length = 9 ∧ 1 < x.toNat) ∨ (0 < pre.length ∧ x.toNat = 0)) := by omega
    by_cases hs : (pre.length = 9 ∧ 1 < x.toNat) ∨ (0 < pre.length ∧ x.toNat = 0)
    · have hs2 := decide_eq_true (hst.2 hs)
      conv at hr =>
        rhs
        simp only [hs2, codeV_seq, codeV_region, codeV_block, codeV_skip, codeV_ret, codeV_exit, codeV_cond, codeV_loop, andThen_some, regV_some, seqV_normal, seqV_exit, seqV_ret, blockV_normal, blockV_ret, blockV_exit, condV_true, condV_false, List.getD_cons_succ, List.getD_cons_zero, gd_tt, gd_ff, gd_tf, gd_ft, gd_ut, ret_run, aPick_bool, if_true, if_false, reduceIte, Nat.reduceEqDiff, Bool.false_eq_true]
      refine ⟨_, _, _, hL.symm.trans (loopV_exit hr (by simp)), Keeps.refl _ _, ?_⟩
      rw [scan, if_pos hs]
      exact ⟨rfl, rfl⟩
    · have hs2 := decide_eq_false (fun h => hs (hst.1 h))
      have hx256 := x.toNat_lt
      have hpw : 128 ^ pre.length ≤ 128 ^ 9 := Nat.pow_le_pow_right (by omega) hpre
      have hc64 : x.toNat % 128 * 128 ^ pre.length < 2 ^ 64 := by
        by_cases h9 : pre.length = 9
        · rw [h9]; have : x.toNat % 128 ≤ 1 := by omega
          exact Nat.lt_of_le_of_lt (Nat.mul_le_mul_right _ this) (by decide)
        · have h8 : 128 ^ pre.length ≤ 128 ^ 8 := Nat.pow_le_pow_right (by omega) (by omega)
          exact Nat.lt_of_le_of_lt (Nat.mul_le_mul (by omega : x.toNat % 128 ≤ 127) h8) (by decide)
      have hm : IntKind.i64.wrap (7 * (pre.length : Int)) = 7 * (pre.length : Int) := wrap_i64 (by omega) (by omega)
      have e128 : (128 : Nat) ^ pre.length = 2 ^ (7 * pre.length) := by rw [Nat.pow_mul]
      have hor := orI_u64 (a := acc) (c := x.toNat % 128) (i := 7 * pre.length) (by rw [← e128]; exact hacc) (by rw [← e128]; exact hc64) (Nat.lt_of_lt_of_le hacc (Nat.le_trans hpw (by decide)))
      conv at hr =>
        rhs
        simp only [hs2, codeV_seq, codeV_region, codeV_block, codeV_skip, codeV_ret, codeV_exit, codeV_cond, codeV_loop, andThen_some, regV_some, seqV_normal, seqV_exit, seqV_ret, blockV_normal, blockV_ret, blockV_exit, condV_true, condV_false, List.getD_cons_succ, List.getD_cons_zero, gd_tt, gd_ff, gd_tf, gd_ft, gd_ut, ret_run, aPick_bool, if_true, if_false, reduceIte, Nat.reduceEqDiff, Bool.false_eq_true, wire_ReadNum.r6, aBin_and, and127_n, cv_uint8_uint64, wrap_u64s (show x.toNat % 128 < 2 ^ 64 by omega), aBin_mul, hm, aBin_shl _ _ _ _ (show (0 : Int) ≤ 7 * (pre.length : Int) by omega), shl7 hpre hc64, aBin_or, hor, wire_ReadNum.r7, aBin_lss]
      rw [← e128] at hr
      have hadd : acc + x.toNat % 128 * 128 ^ pre.length < 128 ^ (pre.length + 1) := by
        rw [Nat.pow_succ]
        have : x.toNat % 128 * 128 ^ pre.length ≤ 127 * 128 ^ pre.length := Nat.mul_le_mul_right _ (by omega)
        omega
      have hi1 : IntKind.i64.wrap ((pre.length : Int) + 1) = (pre.length : Int) + 1 := wrap_i64 (by omega) (by omega)
      by_cases hxs : x.toNat < 128
      · have hd2 : decide ((x.toNat : Int) < 128) = true := by simp; omega
        obtain ⟨v', e4, e5⟩ := aSlice_bytes u_L_uint8 s_uint8 hv (lo := some (.int .i64 ((pre.length : Int) + 1))) (hi := none) (i := (pre.length : Int) + 1) (j := l.length) rfl rfl (by omega) (by omega) (by omega)
        have hdrop : (l.drop ((pre.length : Int) + 1).toNat).take ((l.length : Int).toNat - ((pre.length : Int) + 1).toNat) = suf := by
          rw [show ((pre.length : Int) + 1).toNat = pre.length + 1 by omega, show (l.length : Int).toNat = l.length by omega, hl]
          rw [show pre ++ x :: suf = (pre ++ [x]) ++ suf by simp, show pre.length + 1 = (pre ++ [x]).length by simp, List.drop_left]
          rw [List.take_of_length_le]; simp; omega
        rw [hdrop] at e5
        obtain ⟨v2, H2, e6, e7, e8⟩ := slices_Clone.spec e5 (by have := congrArg List.length hl; simp at this; omega)
        conv at hr =>
          rhs
          simp only [hd2, codeV_seq, codeV_region, codeV_block, codeV_skip, codeV_ret, codeV_exit, codeV_cond, codeV_loop, andThen_some, regV_some, seqV_normal, seqV_exit, seqV_ret, blockV_normal, blockV_ret, blockV_exit, condV_true, condV_false, List.getD_cons_succ, List.getD_cons_zero, gd_tt, gd_ff, gd_tf, gd_ft, gd_ut, ret_run, aPick_bool, if_true, if_false, reduceIte, Nat.reduceEqDiff, Bool.false_eq_true, wire_ReadNum.r8, aBin_add, hi1, e4, e6]
        refine ⟨_, _, _, hL.symm.trans (loopV_exit hr (by simp)), e7, ?_⟩
        rw [scan, if_neg hs, if_pos hxs]
        have hxm : x.toNat % 128 = x.toNat := by omega
        rw [hxm]
        refine ⟨rfl, ?_, rfl, e8, rfl⟩
        rw [hxm] at hadd
        by_cases h9 : pre.length = 9
        · rw [h9] at hacc ⊢
          have : x.toNat ≤ 1 := by omega
          have h1 : x.toNat * 128 ^ 9 ≤ 1 * 128 ^ 9 := Nat.mul_le_mul_right _ this
          have h2 : (128 : Nat) ^ 9 + 1 * 128 ^ 9 = 2 ^ 64 := by decide
          omega
        · have h8 : 128 ^ (pre.length + 1) ≤ 128 ^ 9 := Nat.pow_le_pow_right (by omega) (by omega)
          exact Nat.lt_of_lt_of_le hadd (Nat.le_trans h8 (by decide))
      · have hd2 : decide ((x.toNat : Int) < 128) = false := by simp; omega
        conv at hr =>
          rhs
          simp only [hd2, codeV_seq, codeV_region, codeV_block, codeV_skip, codeV_ret, codeV_exit, codeV_cond, codeV_loop, andThen_some, regV_some, seqV_normal, seqV_exit, seqV_ret, blockV_normal, blockV_ret, blockV_exit, condV_true, condV_false, List.getD_cons_succ, List.getD_cons_zero, gd_tt, gd_ff, gd_tf, gd_ft, gd_ut, ret_run, aPick_bool, if_true, if_false, reduceIte, Nat.reduceEqDiff, Bool.false_eq_true, wire_ReadNum.r9, aBin_add, hi1]
        obtain ⟨T1, hr, q0, q1, q2, q3, q4, q5⟩ : ∃ T1, codeV Try.prog wire_ReadNum.loop1 T H = some (.normal, T1, H) ∧ T1.length = 46 ∧ T1.getD 0 undef = v ∧ T1.getD 8 undef = v ∧ T1.getD 9 undef = .int .i64 l.length ∧ T1.getD 10 undef = .int .i64 ((pre.length : Int) + 1) ∧
          T1.getD 5 undef = .int .u64 ((acc + x.toNat % 128 * 128 ^ pre.length : Nat) : Int) := ⟨_, hr, rfl, rfl, rfl, rfl, rfl, rfl⟩
        have hp9 : pre.length ≠ 9 := by omega
        obtain ⟨e, T', H', g1, g2, g3⟩ := ih (pre ++ [x]) (acc + x.toNat % 128 * 128 ^ pre.length) ((loopV_step hr).symm.trans hL) q0 q1 q2 q3 (by simpa using q4) q5 (by simp [hl]) (by simpa using hadd) (by simp; omega)
        refine ⟨e, T', H', g1, g2, ?_⟩
        rw [scan, if_neg hs, if_neg hxs]
        have hxm : x.toNat % 128 = x.toNat - 128 := by omega
        rw [hxm] at g3
        simpa using g3

/-- What ReadNum's answer says. -/
def ReadsNum (b : Nat) (l : List UInt8) (r : Value) (H : AHeap) : Prop := ∃ n v e, r = .tuple #[.int .u64 (n : Nat), v, .int .i64 e] ∧ match scan 0 0 l with
  | none => n = 0 ∧ v = .slice none 0 0 ∧ e = 11
  | some (m, rest) => n = m ∧ m < 2 ^ 64 ∧ Sob b H rest v ∧ e = 0
theorem wire_ReadNum.spec {l : List UInt8} {v : Value} {H : AHeap} (hv : Sb H l v) (hlen : l.length ≤ 140737488355328) : ∃ r H', lim Try.prog wire_ReadNum.id [v] H = some (r, H') ∧ Keeps H.next H H' ∧ ReadsNum H.next l r H' := by
  obtain ⟨T, hTe⟩ : ∃ T, T = (v :: undef :: undef :: undef :: undef :: undef :: undef :: undef :: undef :: undef :: undef :: undef :: undef :: undef :: undef :: undef :: undef :: undef :: undef :: undef :: undef :: undef :: undef :: undef :: undef :: undef :: undef :: undef :: undef :: undef :: undef :: undef :: undef :: undef :: undef :: undef :: undef :: undef :: undef :: undef :: undef :: undef :: undef :: undef :: undef :: undef :: []) := ⟨_, rfl⟩
  have hr : codeV Try.prog wire_ReadNum.code T H = codeV Try.prog wire_ReadNum.code T H := rfl
  conv at hr =>
    rhs
    rw [hTe]
    simp only [wire_ReadNum.code, codeV_seq, codeV_region, codeV_block, codeV_skip, codeV_ret, codeV_exit, codeV_cond, codeV_loop, andThen_some, regV_some, seqV_normal, seqV_exit, seqV_ret, blockV_normal, blockV_ret, blockV_exit, condV_true, condV_false, List.getD_cons_succ, List.getD_cons_zero, gd_tt, gd_ff, gd_tf, gd_ft, gd_ut, ret_run, aPick_bool, if_true, if_false, reduceIte, Nat.reduceEqDiff, Bool.false_eq_true, wire_ReadNum.r0, wire_ReadNum.r1, wire_ReadNum.r2, aLen_sl u_L_uint8 hv]
  generalize hL : loopV (codeV Try.prog wire_ReadNum.loop1) _ _ = r at hr
  obtain ⟨e, T', H', rfl, g2, g3⟩ := wire_ReadNum.round hv hlen l [] 0 hL rfl rfl rfl rfl rfl rfl rfl (by simp) (by simp)
  simp only [List.length_nil] at g3
  cases hsc : scan 0 0 l with
  | none =>
    rw [hsc] at g3
    obtain ⟨rfl, hT'⟩ := g3
    obtain ⟨x0, x1, x2, x3, x4, x5, x6, x7, x8, x9, x10, x11, x12, x13, x14, x15, x16, x17, x18, x19, x20, x21, x22, x23, x24, x25, x26, x27, x28, x29, x30, x31, x32, x33, x34, x35, x36, x37, x38, x39, x40, x41, x42, x43, x44, x45, hTe'⟩ := wire_ReadNum.list hT'
    conv at hr =>
      rhs
      rw [hTe']
      simp only [codeV_seq, codeV_region, codeV_block, codeV_skip, codeV_ret, codeV_exit, codeV_cond, codeV_loop, andThen_some, regV_some, seqV_normal, seqV_exit, seqV_ret, blockV_normal, blockV_ret, blockV_exit, condV_true, condV_false, List.getD_cons_succ, List.getD_cons_zero, gd_tt, gd_ff, gd_tf, gd_ft, gd_ut, ret_run, aPick_bool, if_true, if_false, reduceIte, Nat.reduceEqDiff, Bool.false_eq_true, wire_ReadNum.r10]
    rw [hTe] at hr
    exact ⟨_, _, wire_ReadNum.runs hr (.inr rfl), g2, 0, _, _, rfl, by rw [hsc]; exact ⟨rfl, rfl, rfl⟩⟩
  | some mr =>
    obtain ⟨m, rest⟩ := mr
    rw [hsc] at g3
    obtain ⟨rfl, hm, h2, h3, h4⟩ := g3
    conv at hr =>
      rhs
      simp only [codeV_seq, codeV_region, codeV_block, codeV_skip, codeV_ret, codeV_exit, codeV_cond, codeV_loop, andThen_some, regV_some, seqV_normal, seqV_exit, seqV_ret, blockV_normal, blockV_ret, blockV_exit, condV_true, condV_false, List.getD_cons_succ, List.getD_cons_zero, gd_tt, gd_ff, gd_tf, gd_ft, gd_ut, ret_run, aPick_bool, if_true, if_false, reduceIte, Nat.reduceEqDiff, Bool.false_eq_true]
    rw [hTe] at hr
    have hrun := wire_ReadNum.runs hr (.inr rfl)
    rw [h2, h4] at hrun
    exact ⟨_, _, hrun, g2, m, _, _, rfl, by rw [hsc]; exact ⟨rfl, hm, h3, rfl⟩⟩
end Go.Proofs.Ytjlhjebmbllkiaa
