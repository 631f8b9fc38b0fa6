/-
The chapter's examples hold; numbers: the law's run.
-/
import Derived.Test.YtjlhjebmbllkiaaF12
import Derived.Test.YtjlhjebmbllkiaaWire6
set_option linter.unusedVariables false
set_option linter.unusedSimpArgs false
namespace Go.Proofs.Ytjlhjebmbllkiaa
open Go.Abs

theorem push2 {H : AHeap} (x y : UInt8) : Sob H.next (H.push (.cells [.int .u8 x.toNat, .int .u8 y.toNat] true 1)) [x, y] (.slice (some ⟨H.next, 0, none⟩) 2 2) := Sob.push [x, y] rfl
theorem push3 {H : AHeap} (x y z : UInt8) : Sob H.next (H.push (.cells [.int .u8 x.toNat, .int .u8 y.toNat, .int .u8 z.toNat] true 1)) [x, y, z] (.slice (some ⟨H.next, 0, none⟩) 3 3) := Sob.push [x, y, z] rfl
theorem aConv_own {P : Program} {t e : TypeId} (ht : P.underlying t = some (.slice e)) (he : P.underlying e = some (.int .u8)) {H : AHeap} {r n c : Nat} {cs : List Value} {esz : Nat} (hg : H.get r = some (.cells cs true esz)) :
    aConv P t t (.slice (some ⟨r, 0, none⟩) n c) H = some (.slice (some ⟨r, 0, none⟩) n c, H) := by
  simp only [aConv, ht, he, hg, if_true]
theorem aExtract_at {vs : Array Value} {i : Nat} {v : Value} {H : AHeap} (h : vs[i]? = some v) : aExtract (.tuple vs) i H = some (v, H) := by
  simp only [aExtract, h]
theorem enc300 : enc 300 = [172, 2] := by rw [enc_big (by omega), enc_small (by omega)]; rfl
theorem enc2 : enc 2 = [2] := by rw [enc_small (by omega)]; rfl
theorem scan_ex : scan 0 0 [172, 2, 9] = some (300, [9]) := by decide

theorem neaptidelaw01_wireAlive.spec (H : AHeap) : ∃ H', lim Try.prog neaptidelaw01_wireAlive.id [] H = some (.bool true, H') ∧ Keeps H.next H H' := by
  obtain ⟨T, hTe⟩ : ∃ T, T = (undef :: undef :: undef :: undef :: undef :: undef :: undef :: undef :: undef :: undef :: undef :: undef :: undef :: undef :: undef :: undef :: undef :: undef :: undef :: undef :: undef :: undef :: undef :: undef :: undef :: undef :: undef :: undef :: undef :: undef :: undef :: undef :: undef :: undef :: undef :: undef :: undef :: undef :: undef :: undef :: undef :: undef :: undef :: undef :: undef :: undef :: undef :: undef :: undef :: []) := ⟨_, rfl⟩
  have hr : codeV Try.prog neaptidelaw01_wireAlive.code T H = codeV Try.prog neaptidelaw01_wireAlive.code T H := rfl
  have p1 : Sob H.next (H.push (.cells [.int .u8 104, .int .u8 105] true 1)) [104, 105] (.slice (some ⟨H.next, 0, none⟩) 2 2) := push2 104 105
  have k1 : Keeps H.next H (H.push (.cells [.int .u8 104, .int .u8 105] true 1)) := Keeps.push _ (Nat.le_refl _)
  obtain ⟨r1, H2, e1, k2, v1, n1, rfl, s1⟩ := wire_Text.spec p1.sb
  rw [if_neg (by simp)] at s1
  obtain ⟨s1, rfl⟩ := s1
  have hg : (H.push (.cells [.int .u8 104, .int .u8 105] true 1)).get H.next = some (.cells [.int .u8 104, .int .u8 105] true 1) := by rw [AHeap.get_push, if_pos rfl]
  have p2 : Sob H2.next (H2.push (.cells [.int .u8 172, .int .u8 2, .int .u8 9] true 1)) [172, 2, 9] (.slice (some ⟨H2.next, 0, none⟩) 3 3) := push3 172 2 9
  have k3 : Keeps H2.next H2 (H2.push (.cells [.int .u8 172, .int .u8 2, .int .u8 9] true 1)) := Keeps.push _ (Nat.le_refl _)
  obtain ⟨r2, H3, e2, k4, n2, v2, n3, rfl, s2⟩ := wire_ReadNum.spec p2.sb (by simp)
  rw [scan_ex] at s2
  obtain ⟨rfl, _, s2, rfl⟩ := s2
  obtain ⟨v3, H4, e3, k5, s3⟩ : ∃ v H', lim Try.prog wire_Num.id [.int .u64 300] H3 = some (v, H') ∧ Keeps H3.next H3 H' ∧ Sob H3.next H' (enc 300) v := wire_Num.spec 300 (by omega) H3
  have t1 : Sb H4 [2, 104, 105] v1 := by
    have := s1.sb
    rw [encT, show ([104, 105] : List UInt8).length = 2 from rfl, enc2] at this
    exact ((this.keeps k3).keeps k4).keeps k5
  rw [enc300] at s3
  have c1 := aConv_bytes (dst := 9) u_L_uint8 u_uint8 u_string s3.sb
  have c2 := aConv_bytes (dst := 9) u_L_uint8 u_uint8 u_string t1
  have t2 : Sb H4 [9] v2 := s2.sb.keeps k5
  obtain ⟨p, a1, a2⟩ := aByte u_L_uint8 s_uint8 g_uint8 t2 (k := .i64) (i := 0) (by omega) (by simp)
  conv at hr =>
    rhs
    rw [hTe]
    simp only [neaptidelaw01_wireAlive.code, codeV_seq, codeV_region, codeV_block, codeV_skip, codeV_ret, codeV_exit, codeV_cond, codeV_loop, andThen_some, regV_some, seqV_normal, seqV_exit, seqV_ret, blockV_normal, blockV_ret, blockV_exit, condV_true, condV_false, List.getD_cons_succ, List.getD_cons_zero, gd_tt, gd_ff, gd_tf, gd_ft, gd_ut, ret_run, aPick_bool, if_true, if_false, reduceIte, Nat.reduceEqDiff, Bool.false_eq_true, neaptidelaw01_wireAlive.r0, neaptidelaw01_wireAlive.r1, bs_L_uint8_2, aConv_own u_L_uint8 u_uint8 hg, e1, aExtract_at (show (#[v1, Value.int .i64 0] : Array Value)[0]? = some v1 from rfl), aExtract_at (show (#[v1, Value.int .i64 0] : Array Value)[1]? = some (.int .i64 0) from rfl),
      neaptidelaw01_wireAlive.r2, bs_L_uint8_3, e2, aExtract_at (show (#[Value.int .u64 (300 : Nat), v2, Value.int .i64 0] : Array Value)[0]? = some (.int .u64 (300 : Nat)) from rfl), aExtract_at (show (#[Value.int .u64 (300 : Nat), v2, Value.int .i64 0] : Array Value)[1]? = some v2 from rfl), aExtract_at (show (#[Value.int .u64 (300 : Nat), v2, Value.int .i64 0] : Array Value)[2]? = some (.int .i64 0) from rfl),
      neaptidelaw01_wireAlive.r3, e3, c1, c2, aBin_streq, aBin_eql, aLen_sl u_L_uint8 t2, a1, a2, goInt, decide_true, show decide (((300 : Nat) : Int) = 300) = true from rfl, show decide ((([9] : List UInt8).length : Int) = 1) = true from rfl,
      show decide ((((([9] : List UInt8).getD (Int.toNat 0) 0).toNat : Nat) : Int) = 9) = true from rfl]
  rw [hTe] at hr
  exact ⟨_, neaptidelaw01_wireAlive.runs hr (.inr rfl), (k1.trans (k2.mono k1.1)).trans ((k3.trans (k4.mono k3.1)).trans (k5.mono (Nat.le_trans k3.1 k4.1)) |>.mono (Nat.le_trans k1.1 k2.1))⟩
end Go.Proofs.Ytjlhjebmbllkiaa
