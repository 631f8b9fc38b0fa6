/-
The numbers with which bytes begin: what wire.ReadNums and the document's answer.
-/
import Derived.Test.YtjlhjebmbllkiaaF22
import Derived.Test.YtjlhjebmbllkiaaF23
import Derived.Test.YtjlhjebmbllkiaaVW6
set_option linter.unusedVariables false
set_option linter.unusedSimpArgs false
namespace Go.Proofs.Ytjlhjebmbllkiaa
open Go.Abs

/-- So many numbers. -/
def readNs : Nat → List UInt8 → Option (List Int × List UInt8)
  | 0, l => some ([], l)
  | m + 1, l => match scan 0 0 l with
    | some (n, r) => if n ≤ 4611686018427387905 then (match readNs m r with
      | some (a, b) => some (((n : Int) - 1) :: a, b)
      | none => none) else none
    | none => none
/-- What ReadNums answers. -/
def readNsV (k0 k1 : Nat) (many : Int) (l : List UInt8) : Value :=
  if many < 0 ∨ 64 < many then .tuple #[.slice none 0 0, .slice none 0 0, .int .i64 11]
  else match readNs many.toNat l with
    | some (a, b) => .tuple #[iz (if many = 0 then k0 else 2) a, by_ (if many = 0 then k1 else 2) b, .int .i64 0]
    | none => .tuple #[.slice none 0 0, .slice none 0 0, .int .i64 11]
theorem dem2 (k : Nat) : (if (if k = 2 then 1 else k) = 2 then 1 else if k = 2 then 1 else k) = if k = 2 then 1 else k := by split <;> simp_all
theorem bz0 (S : AHeap) : vBuildSlice Try.prog 43 0 [] S = some (iz 2 [], S) := by rw [bs_L_int_0]; rfl
theorem bb0 (S : AHeap) : vBuildSlice Try.prog 23 0 [] S = some (by_ 2 [], S) := by rw [bs_L_uint8_0]; rfl
theorem iz2_1 (x : Int) : sv 2 1 1 [.int .i64 x] = iz 2 [x] := rfl
theorem iz_more {k : Nat} {l : List Int} {x : Int} {S : AHeap} (h : Okl k l) (hk : k ≠ 1) (hl : l.length ≤ 17592186044000) : vAppend Try.prog 43 43 (iz k l) (iz 2 [x]) S = some (iz 2 (l ++ [x]), S) := by
  rw [iz_append h hk Okl.own (by simp; omega), if_neg (fun h => by have := h.2; simp at this)]

theorem wire_ReadNums.round {many : Int} (hmany : many ≤ 64) {S : AHeap} : ∀ (m : Nat) (i : Int) (rest : List UInt8) (kr : Nat) (out : List Int) (ko : Nat) {T : List Value} {r : St}, loopV (vcodeV Try.prog O wire_ReadNums.loop1) T S = r → T.length = 45 →
    T.getD 20 undef = .int .i64 many → T.getD 21 undef = .int .i64 i → T.getD 7 undef = by_ kr rest → T.getD 8 undef = iz ko out → 0 ≤ i → many = i + m → Okl kr rest → rest.length ≤ 140737488355328 → Okl ko out → ko ≠ 1 → (out.length : Int) = i →
    ∃ e T', r = some (e, T', S) ∧ match readNs m rest with
      | none => e = .ret ∧ T'.getD 4 undef = .slice none 0 0 ∧ T'.getD 5 undef = .slice none 0 0 ∧ T'.getD 6 undef = .int .i64 11
      | some (a, b) => e = .exit 0 ∧ T'.length = 45 ∧ T'.getD 8 undef = iz (if m = 0 then ko else 2) (out ++ a) ∧ T'.getD 7 undef = by_ (if m = 0 then kr else 2) b := by
  intro m
  induction m with
  | zero =>
    intro i rest kr out ko T r hL hT h1 h2 h3 h4 h0 hm hkr hlen hko hk1 hol
    have hTe := wire_ReadNums.eta hT
    rw [h1, h2, h3, h4] at hTe
    have hr : vcodeV Try.prog O wire_ReadNums.loop1 T S = vcodeV Try.prog O wire_ReadNums.loop1 T S := rfl
    have hd : ¬ i < many := by omega
    conv at hr =>
      rhs
      rw [hTe]
      simp only [wire_ReadNums.loop1, wire_ReadNums.code, wire_ReadNums.r0, wire_ReadNums.r1, wire_ReadNums.r2, wire_ReadNums.r3, wire_ReadNums.r4, wire_ReadNums.r5, wire_ReadNums.r6, wire_ReadNums.r7, wire_ReadNums.r8, wire_ReadNums.r9, wire_ReadNums.r10, wire_ReadNums.r11, wire_ReadNums.r12, wire_ReadNums.r13, vcodeV_seq, vcodeV_region, vcodeV_block, vcodeV_skip, vcodeV_ret, vcodeV_exit, vcodeV_cond, vcodeV_loop, andThen_some, regV_some, seqV_normal, seqV_exit, seqV_ret, blockV_normal, blockV_ret, blockV_exit, condK_true, condK_false, andK_some, gdK_tt, gdK_ff, gdK_tf, gdK_ft, gdK_ut, gdCK_tt, gdCK_ff, gdCK_tf, gdCK_ft, gdCK_ut, okK_bool, okK_int, okK_string, okK_slice, okK_pointer, okK_SL, okK_EP, okK_sv, okK_vs, List.getD_cons_succ, List.getD_cons_zero, gd_tt, gd_ff, gd_tf, gd_ft, gd_ut, gdC_tt, gdC_ff, gdC_tf, gdC_ft, gdC_ut, ret_run, vPick_bool, if_true, if_false, reduceIte, Nat.reduceEqDiff, Bool.false_eq_true, okC_bool, okC_int, okC_string, okC_slice, okC_iface, okC_vs, okC_sv, okC_EP, dem_undef, dem_int, dem_bool, dem_string, dem_nil, dem_agg, dem_func, dem_pointer, dem_vs, dem_sv, dem_dem, vBin_int, vBin_string, vBin_bool, vConv_int, vExtract_tuple, List.getElem?_cons_succ, List.getElem?_cons_zero, Option.map_some, aBin_add, aBin_sub, aBin_mul, aBin_eql, aBin_neq, aBin_lss, aBin_leq, aBin_gtr, aBin_geq, aUn_not, Bool.not_true, Bool.not_false, Bool.true_eq_false, decide_true, decide_false, eq_self, exd_0_1, exd_0_2, exd_1_2, exd_0_3, exd_1_3, exd_2_3, exd_0_4, exd_1_4, exd_2_4, exd_3_4, exd_0_5, exd_1_5, exd_2_5, exd_3_5, exd_4_5, hd]
    exact ⟨_, _, hL.symm.trans (loopV_exit hr (by simp)), rfl, rfl, by simp, rfl⟩
  | succ m ih =>
    intro i rest kr out ko T r hL hT h1 h2 h3 h4 h0 hm hkr hlen hko hk1 hol
    have hTe := wire_ReadNums.eta hT
    rw [h1, h2, h3, h4] at hTe
    have hr : vcodeV Try.prog O wire_ReadNums.loop1 T S = vcodeV Try.prog O wire_ReadNums.loop1 T S := rfl
    have hd : i < many := by omega
    have g1 : ∀ S, vlim Try.prog O wire_ReadNum.id [by_ (if kr = 2 then 1 else kr) rest] S = some (readV rest, S) := wire_ReadNum.v hkr.dem (by split <;> omega) hlen
    unfold readV at g1
    rw [readNs]
    cases hsc : scan 0 0 rest with
    | none =>
      rw [hsc] at g1
      have d11 : ¬ (11 : Int) = 0 := by omega
      conv at hr =>
        rhs
        rw [hTe]
        simp only [wire_ReadNums.loop1, wire_ReadNums.code, wire_ReadNums.r0, wire_ReadNums.r1, wire_ReadNums.r2, wire_ReadNums.r3, wire_ReadNums.r4, wire_ReadNums.r5, wire_ReadNums.r6, wire_ReadNums.r7, wire_ReadNums.r8, wire_ReadNums.r9, wire_ReadNums.r10, wire_ReadNums.r11, wire_ReadNums.r12, wire_ReadNums.r13, vcodeV_seq, vcodeV_region, vcodeV_block, vcodeV_skip, vcodeV_ret, vcodeV_exit, vcodeV_cond, vcodeV_loop, andThen_some, regV_some, seqV_normal, seqV_exit, seqV_ret, blockV_normal, blockV_ret, blockV_exit, condK_true, condK_false, andK_some, gdK_tt, gdK_ff, gdK_tf, gdK_ft, gdK_ut, gdCK_tt, gdCK_ff, gdCK_tf, gdCK_ft, gdCK_ut, okK_bool, okK_int, okK_string, okK_slice, okK_pointer, okK_SL, okK_EP, okK_sv, okK_vs, List.getD_cons_succ, List.getD_cons_zero, gd_tt, gd_ff, gd_tf, gd_ft, gd_ut, gdC_tt, gdC_ff, gdC_tf, gdC_ft, gdC_ut, ret_run, vPick_bool, if_true, if_false, reduceIte, Nat.reduceEqDiff, Bool.false_eq_true, okC_bool, okC_int, okC_string, okC_slice, okC_iface, okC_vs, okC_sv, okC_EP, dem_undef, dem_int, dem_bool, dem_string, dem_nil, dem_agg, dem_func, dem_pointer, dem_vs, dem_sv, dem_dem, vBin_int, vBin_string, vBin_bool, vConv_int, vExtract_tuple, List.getElem?_cons_succ, List.getElem?_cons_zero, Option.map_some, aBin_add, aBin_sub, aBin_mul, aBin_eql, aBin_neq, aBin_lss, aBin_leq, aBin_gtr, aBin_geq, aUn_not, Bool.not_true, Bool.not_false, Bool.true_eq_false, decide_true, decide_false, eq_self, exd_0_1, exd_0_2, exd_1_2, exd_0_3, exd_1_3, exd_2_3, exd_0_4, exd_1_4, exd_2_4, exd_3_4, exd_0_5, exd_1_5, exd_2_5, exd_3_5, exd_4_5, dem2, hd, g1, d11]
      exact ⟨_, _, hL.symm.trans (loopV_exit hr (by simp)), rfl, rfl, rfl, rfl⟩
    | some nr =>
      obtain ⟨n, r'⟩ := nr
      rw [hsc] at g1
      obtain ⟨hn, hrl⟩ := scan_lt rest 0 0 (by decide) (by omega) n r' hsc
      dsimp only
      by_cases h5 : n ≤ 4611686018427387905
      · have d1 : ¬ (4611686018427387905 : Int) < (n : Int) := by omega
        have w1 : IntKind.i64.wrap (n : Int) = (n : Int) := wrap_i64 (by omega) (by omega)
        have w2 : IntKind.i64.wrap ((n : Int) - 1) = (n : Int) - 1 := wrap_i64 (by omega) (by omega)
        have w3 : IntKind.i64.wrap (i + 1) = i + 1 := wrap_i64 (by omega) (by omega)
        have e1 : ∀ x S, vAppend Try.prog 43 43 (iz ko out) (iz 2 [x]) S = some (iz 2 (out ++ [x]), S) := fun x S => iz_more hko hk1 (by omega)
        conv at hr =>
          rhs
          rw [hTe]
          simp only [wire_ReadNums.loop1, wire_ReadNums.code, wire_ReadNums.r0, wire_ReadNums.r1, wire_ReadNums.r2, wire_ReadNums.r3, wire_ReadNums.r4, wire_ReadNums.r5, wire_ReadNums.r6, wire_ReadNums.r7, wire_ReadNums.r8, wire_ReadNums.r9, wire_ReadNums.r10, wire_ReadNums.r11, wire_ReadNums.r12, wire_ReadNums.r13, vcodeV_seq, vcodeV_region, vcodeV_block, vcodeV_skip, vcodeV_ret, vcodeV_exit, vcodeV_cond, vcodeV_loop, andThen_some, regV_some, seqV_normal, seqV_exit, seqV_ret, blockV_normal, blockV_ret, blockV_exit, condK_true, condK_false, andK_some, gdK_tt, gdK_ff, gdK_tf, gdK_ft, gdK_ut, gdCK_tt, gdCK_ff, gdCK_tf, gdCK_ft, gdCK_ut, okK_bool, okK_int, okK_string, okK_slice, okK_pointer, okK_SL, okK_EP, okK_sv, okK_vs, List.getD_cons_succ, List.getD_cons_zero, gd_tt, gd_ff, gd_tf, gd_ft, gd_ut, gdC_tt, gdC_ff, gdC_tf, gdC_ft, gdC_ut, ret_run, vPick_bool, if_true, if_false, reduceIte, Nat.reduceEqDiff, Bool.false_eq_true, okC_bool, okC_int, okC_string, okC_slice, okC_iface, okC_vs, okC_sv, okC_EP, dem_undef, dem_int, dem_bool, dem_string, dem_nil, dem_agg, dem_func, dem_pointer, dem_vs, dem_sv, dem_dem, vBin_int, vBin_string, vBin_bool, vConv_int, vExtract_tuple, List.getElem?_cons_succ, List.getElem?_cons_zero, Option.map_some, aBin_add, aBin_sub, aBin_mul, aBin_eql, aBin_neq, aBin_lss, aBin_leq, aBin_gtr, aBin_geq, aUn_not, Bool.not_true, Bool.not_false, Bool.true_eq_false, decide_true, decide_false, eq_self, exd_0_1, exd_0_2, exd_1_2, exd_0_3, exd_1_3, exd_2_3, exd_0_4, exd_1_4, exd_2_4, exd_3_4, exd_0_5, exd_1_5, exd_2_5, exd_3_5, exd_4_5, dem2, hd, g1, d1, cv_uint64_int, w1, w2, w3, bs_L_int_1, iz2_1, e1]
        obtain ⟨e, T', g2, g3⟩ := ih (i + 1) r' 2 (out ++ [(n : Int) - 1]) 2 ((loopV_step hr).symm.trans hL) rfl rfl rfl rfl rfl (by omega) (by omega) Okl.own (by omega) Okl.own (by decide) (by simp; omega)
        refine ⟨e, T', g2, ?_⟩
        rw [if_pos h5]
        cases hrn : readNs m r' with
        | none => rw [hrn] at g3; exact g3
        | some ab =>
          obtain ⟨a, b⟩ := ab
          rw [hrn] at g3
          obtain ⟨q1, q2, q3, q4⟩ := g3
          refine ⟨q1, q2, ?_, ?_⟩
          · rw [q3]; simp
          · rw [q4]; simp
      · have d1 : (4611686018427387905 : Int) < (n : Int) := by omega
        conv at hr =>
          rhs
          rw [hTe]
          simp only [wire_ReadNums.loop1, wire_ReadNums.code, wire_ReadNums.r0, wire_ReadNums.r1, wire_ReadNums.r2, wire_ReadNums.r3, wire_ReadNums.r4, wire_ReadNums.r5, wire_ReadNums.r6, wire_ReadNums.r7, wire_ReadNums.r8, wire_ReadNums.r9, wire_ReadNums.r10, wire_ReadNums.r11, wire_ReadNums.r12, wire_ReadNums.r13, vcodeV_seq, vcodeV_region, vcodeV_block, vcodeV_skip, vcodeV_ret, vcodeV_exit, vcodeV_cond, vcodeV_loop, andThen_some, regV_some, seqV_normal, seqV_exit, seqV_ret, blockV_normal, blockV_ret, blockV_exit, condK_true, condK_false, andK_some, gdK_tt, gdK_ff, gdK_tf, gdK_ft, gdK_ut, gdCK_tt, gdCK_ff, gdCK_tf, gdCK_ft, gdCK_ut, okK_bool, okK_int, okK_string, okK_slice, okK_pointer, okK_SL, okK_EP, okK_sv, okK_vs, List.getD_cons_succ, List.getD_cons_zero, gd_tt, gd_ff, gd_tf, gd_ft, gd_ut, gdC_tt, gdC_ff, gdC_tf, gdC_ft, gdC_ut, ret_run, vPick_bool, if_true, if_false, reduceIte, Nat.reduceEqDiff, Bool.false_eq_true, okC_bool, okC_int, okC_string, okC_slice, okC_iface, okC_vs, okC_sv, okC_EP, dem_undef, dem_int, dem_bool, dem_string, dem_nil, dem_agg, dem_func, dem_pointer, dem_vs, dem_sv, dem_dem, vBin_int, vBin_string, vBin_bool, vConv_int, vExtract_tuple, List.getElem?_cons_succ, List.getElem?_cons_zero, Option.map_some, aBin_add, aBin_sub, aBin_mul, aBin_eql, aBin_neq, aBin_lss, aBin_leq, aBin_gtr, aBin_geq, aUn_not, Bool.not_true, Bool.not_false, Bool.true_eq_false, decide_true, decide_false, eq_self, exd_0_1, exd_0_2, exd_1_2, exd_0_3, exd_1_3, exd_2_3, exd_0_4, exd_1_4, exd_2_4, exd_3_4, exd_0_5, exd_1_5, exd_2_5, exd_3_5, exd_4_5, dem2, hd, g1, d1]
        refine ⟨_, _, hL.symm.trans (loopV_exit hr (by simp)), ?_⟩
        rw [if_neg h5]
        exact ⟨rfl, rfl, rfl, rfl⟩
theorem neaptideref01_ReadNums.round {many : Int} (hmany : many ≤ 64) {S : AHeap} : ∀ (m : Nat) (i : Int) (rest : List UInt8) (kr : Nat) (out : List Int) (ko : Nat) {T : List Value} {r : St}, loopV (vcodeV Try.prog O neaptideref01_ReadNums.loop1) T S = r → T.length = 49 →
    T.getD 1 undef = .int .i64 many → T.getD 9 undef = .int .i64 i → T.getD 8 undef = by_ kr rest → T.getD 7 undef = iz ko out → 0 ≤ i → many = i + m → Okl kr rest → rest.length ≤ 140737488355328 → Okl ko out → ko ≠ 1 → (out.length : Int) = i →
    ∃ e T', r = some (e, T', S) ∧ match readNs m rest with
      | none => e = .ret ∧ T'.getD 4 undef = .slice none 0 0 ∧ T'.getD 5 undef = .slice none 0 0 ∧ T'.getD 6 undef = .int .i64 11
      | some (a, b) => e = .exit 0 ∧ T'.length = 49 ∧ T'.getD 7 undef = iz (if m = 0 then ko else 2) (out ++ a) ∧ T'.getD 8 undef = by_ (if m = 0 then kr else 2) b := by
  intro m
  induction m with
  | zero =>
    intro i rest kr out ko T r hL hT h1 h2 h3 h4 h0 hm hkr hlen hko hk1 hol
    have hTe := neaptideref01_ReadNums.eta hT
    rw [h1, h2, h3, h4] at hTe
    have hr : vcodeV Try.prog O neaptideref01_ReadNums.loop1 T S = vcodeV Try.prog O neaptideref01_ReadNums.loop1 T S := rfl
    have hd : ¬ i < many := by omega
    conv at hr =>
      rhs
      rw [hTe]
      simp only [neaptideref01_ReadNums.loop1, neaptideref01_ReadNums.code, neaptideref01_ReadNums.r0, neaptideref01_ReadNums.r1, neaptideref01_ReadNums.r2, neaptideref01_ReadNums.r3, neaptideref01_ReadNums.r4, neaptideref01_ReadNums.r5, neaptideref01_ReadNums.r6, neaptideref01_ReadNums.r8, neaptideref01_ReadNums.r9, neaptideref01_ReadNums.r10, neaptideref01_ReadNums.r11, neaptideref01_ReadNums.r12, neaptideref01_ReadNums.r7, neaptideref01_ReadNums.r13, vcodeV_seq, vcodeV_region, vcodeV_block, vcodeV_skip, vcodeV_ret, vcodeV_exit, vcodeV_cond, vcodeV_loop, andThen_some, regV_some, seqV_normal, seqV_exit, seqV_ret, blockV_normal, blockV_ret, blockV_exit, condK_true, condK_false, andK_some, gdK_tt, gdK_ff, gdK_tf, gdK_ft, gdK_ut, gdCK_tt, gdCK_ff, gdCK_tf, gdCK_ft, gdCK_ut, okK_bool, okK_int, okK_string, okK_slice, okK_pointer, okK_SL, okK_EP, okK_sv, okK_vs, List.getD_cons_succ, List.getD_cons_zero, gd_tt, gd_ff, gd_tf, gd_ft, gd_ut, gdC_tt, gdC_ff, gdC_tf, gdC_ft, gdC_ut, ret_run, vPick_bool, if_true, if_false, reduceIte, Nat.reduceEqDiff, Bool.false_eq_true, okC_bool, okC_int, okC_string, okC_slice, okC_iface, okC_vs, okC_sv, okC_EP, dem_undef, dem_int, dem_bool, dem_string, dem_nil, dem_agg, dem_func, dem_pointer, dem_vs, dem_sv, dem_dem, vBin_int, vBin_string, vBin_bool, vConv_int, vExtract_tuple, List.getElem?_cons_succ, List.getElem?_cons_zero, Option.map_some, aBin_add, aBin_sub, aBin_mul, aBin_eql, aBin_neq, aBin_lss, aBin_leq, aBin_gtr, aBin_geq, aUn_not, Bool.not_true, Bool.not_false, Bool.true_eq_false, decide_true, decide_false, eq_self, exd_0_1, exd_0_2, exd_1_2, exd_0_3, exd_1_3, exd_2_3, exd_0_4, exd_1_4, exd_2_4, exd_3_4, exd_0_5, exd_1_5, exd_2_5, exd_3_5, exd_4_5, hd]
    exact ⟨_, _, hL.symm.trans (loopV_exit hr (by simp)), rfl, rfl, by simp, rfl⟩
  | succ m ih =>
    intro i rest kr out ko T r hL hT h1 h2 h3 h4 h0 hm hkr hlen hko hk1 hol
    have hTe := neaptideref01_ReadNums.eta hT
    rw [h1, h2, h3, h4] at hTe
    have hr : vcodeV Try.prog O neaptideref01_ReadNums.loop1 T S = vcodeV Try.prog O neaptideref01_ReadNums.loop1 T S := rfl
    have hd : i < many := by omega
    have g1 : ∀ S, vlim Try.prog O neaptideref01_ReadNum.id [by_ (if kr = 2 then 1 else kr) rest] S = some (readV rest, S) := neaptideref01_ReadNum.v hkr.dem (by split <;> omega) hlen
    unfold readV at g1
    rw [readNs]
    cases hsc : scan 0 0 rest with
    | none =>
      rw [hsc] at g1
      have d11 : ¬ (11 : Int) = 0 := by omega
      conv at hr =>
        rhs
        rw [hTe]
        simp only [neaptideref01_ReadNums.loop1, neaptideref01_ReadNums.code, neaptideref01_ReadNums.r0, neaptideref01_ReadNums.r1, neaptideref01_ReadNums.r2, neaptideref01_ReadNums.r3, neaptideref01_ReadNums.r4, neaptideref01_ReadNums.r5, neaptideref01_ReadNums.r6, neaptideref01_ReadNums.r8, neaptideref01_ReadNums.r9, neaptideref01_ReadNums.r10, neaptideref01_ReadNums.r11, neaptideref01_ReadNums.r12, neaptideref01_ReadNums.r7, neaptideref01_ReadNums.r13, vcodeV_seq, vcodeV_region, vcodeV_block, vcodeV_skip, vcodeV_ret, vcodeV_exit, vcodeV_cond, vcodeV_loop, andThen_some, regV_some, seqV_normal, seqV_exit, seqV_ret, blockV_normal, blockV_ret, blockV_exit, condK_true, condK_false, andK_some, gdK_tt, gdK_ff, gdK_tf, gdK_ft, gdK_ut, gdCK_tt, gdCK_ff, gdCK_tf, gdCK_ft, gdCK_ut, okK_bool, okK_int, okK_string, okK_slice, okK_pointer, okK_SL, okK_EP, okK_sv, okK_vs, List.getD_cons_succ, List.getD_cons_zero, gd_tt, gd_ff, gd_tf, gd_ft, gd_ut, gdC_tt, gdC_ff, gdC_tf, gdC_ft, gdC_ut, ret_run, vPick_bool, if_true, if_false, reduceIte, Nat.reduceEqDiff, Bool.false_eq_true, okC_bool, okC_int, okC_string, okC_slice, okC_iface, okC_vs, okC_sv, okC_EP, dem_undef, dem_int, dem_bool, dem_string, dem_nil, dem_agg, dem_func, dem_pointer, dem_vs, dem_sv, dem_dem, vBin_int, vBin_string, vBin_bool, vConv_int, vExtract_tuple, List.getElem?_cons_succ, List.getElem?_cons_zero, Option.map_some, aBin_add, aBin_sub, aBin_mul, aBin_eql, aBin_neq, aBin_lss, aBin_leq, aBin_gtr, aBin_geq, aUn_not, Bool.not_true, Bool.not_false, Bool.true_eq_false, decide_true, decide_false, eq_self, exd_0_1, exd_0_2, exd_1_2, exd_0_3, exd_1_3, exd_2_3, exd_0_4, exd_1_4, exd_2_4, exd_3_4, exd_0_5, exd_1_5, exd_2_5, exd_3_5, exd_4_5, dem2, hd, g1, d11]
      exact ⟨_, _, hL.symm.trans (loopV_exit hr (by simp)), rfl, rfl, rfl, rfl⟩
    | some nr =>
      obtain ⟨n, r'⟩ := nr
      rw [hsc] at g1
      obtain ⟨hn, hrl⟩ := scan_lt rest 0 0 (by decide) (by omega) n r' hsc
      dsimp only
      by_cases h5 : n ≤ 4611686018427387905
      · have d1 : ¬ (4611686018427387905 : Int) < (n : Int) := by omega
        have w1 : IntKind.i64.wrap (n : Int) = (n : Int) := wrap_i64 (by omega) (by omega)
        have w2 : IntKind.i64.wrap ((n : Int) - 1) = (n : Int) - 1 := wrap_i64 (by omega) (by omega)
        have w3 : IntKind.i64.wrap (i + 1) = i + 1 := wrap_i64 (by omega) (by omega)
        have e1 : ∀ x S, vAppend Try.prog 43 43 (iz ko out) (iz 2 [x]) S = some (iz 2 (out ++ [x]), S) := fun x S => iz_more hko hk1 (by omega)
        conv at hr =>
          rhs
          rw [hTe]
          simp only [neaptideref01_ReadNums.loop1, neaptideref01_ReadNums.code, neaptideref01_ReadNums.r0, neaptideref01_ReadNums.r1, neaptideref01_ReadNums.r2, neaptideref01_ReadNums.r3, neaptideref01_ReadNums.r4, neaptideref01_ReadNums.r5, neaptideref01_ReadNums.r6, neaptideref01_ReadNums.r8, neaptideref01_ReadNums.r9, neaptideref01_ReadNums.r10, neaptideref01_ReadNums.r11, neaptideref01_ReadNums.r12, neaptideref01_ReadNums.r7, neaptideref01_ReadNums.r13, vcodeV_seq, vcodeV_region, vcodeV_block, vcodeV_skip, vcodeV_ret, vcodeV_exit, vcodeV_cond, vcodeV_loop, andThen_some, regV_some, seqV_normal, seqV_exit, seqV_ret, blockV_normal, blockV_ret, blockV_exit, condK_true, condK_false, andK_some, gdK_tt, gdK_ff, gdK_tf, gdK_ft, gdK_ut, gdCK_tt, gdCK_ff, gdCK_tf, gdCK_ft, gdCK_ut, okK_bool, okK_int, okK_string, okK_slice, okK_pointer, okK_SL, okK_EP, okK_sv, okK_vs, List.getD_cons_succ, List.getD_cons_zero, gd_tt, gd_ff, gd_tf, gd_ft, gd_ut, gdC_tt, gdC_ff, gdC_tf, gdC_ft, gdC_ut, ret_run, vPick_bool, if_true, if_false, reduceIte, Nat.reduceEqDiff, Bool.false_eq_true, okC_bool, okC_int, okC_string, okC_slice, okC_iface, okC_vs, okC_sv, okC_EP, dem_undef, dem_int, dem_bool, dem_string, dem_nil, dem_agg, dem_func, dem_pointer, dem_vs, dem_sv, dem_dem, vBin_int, vBin_string, vBin_bool, vConv_int, vExtract_tuple, List.getElem?_cons_succ, List.getElem?_cons_zero, Option.map_some, aBin_add, aBin_sub, aBin_mul, aBin_eql, aBin_neq, aBin_lss, aBin_leq, aBin_gtr, aBin_geq, aUn_not, Bool.not_true, Bool.not_false, Bool.true_eq_false, decide_true, decide_false, eq_self, exd_0_1, exd_0_2, exd_1_2, exd_0_3, exd_1_3, exd_2_3, exd_0_4, exd_1_4, exd_2_4, exd_3_4, exd_0_5, exd_1_5, exd_2_5, exd_3_5, exd_4_5, dem2, hd, g1, d1, cv_uint64_int, w1, w2, w3, bs_L_int_1, iz2_1, e1]
        obtain ⟨e, T', g2, g3⟩ := ih (i + 1) r' 2 (out ++ [(n : Int) - 1]) 2 ((loopV_step hr).symm.trans hL) rfl rfl rfl rfl rfl (by omega) (by omega) Okl.own (by omega) Okl.own (by decide) (by simp; omega)
        refine ⟨e, T', g2, ?_⟩
        rw [if_pos h5]
        cases hrn : readNs m r' with
        | none => rw [hrn] at g3; exact g3
        | some ab =>
          obtain ⟨a, b⟩ := ab
          rw [hrn] at g3
          obtain ⟨q1, q2, q3, q4⟩ := g3
          refine ⟨q1, q2, ?_, ?_⟩
          · rw [q3]; simp
          · rw [q4]; simp
      · have d1 : (4611686018427387905 : Int) < (n : Int) := by omega
        conv at hr =>
          rhs
          rw [hTe]
          simp only [neaptideref01_ReadNums.loop1, neaptideref01_ReadNums.code, neaptideref01_ReadNums.r0, neaptideref01_ReadNums.r1, neaptideref01_ReadNums.r2, neaptideref01_ReadNums.r3, neaptideref01_ReadNums.r4, neaptideref01_ReadNums.r5, neaptideref01_ReadNums.r6, neaptideref01_ReadNums.r8, neaptideref01_ReadNums.r9, neaptideref01_ReadNums.r10, neaptideref01_ReadNums.r11, neaptideref01_ReadNums.r12, neaptideref01_ReadNums.r7, neaptideref01_ReadNums.r13, vcodeV_seq, vcodeV_region, vcodeV_block, vcodeV_skip, vcodeV_ret, vcodeV_exit, vcodeV_cond, vcodeV_loop, andThen_some, regV_some, seqV_normal, seqV_exit, seqV_ret, blockV_normal, blockV_ret, blockV_exit, condK_true, condK_false, andK_some, gdK_tt, gdK_ff, gdK_tf, gdK_ft, gdK_ut, gdCK_tt, gdCK_ff, gdCK_tf, gdCK_ft, gdCK_ut, okK_bool, okK_int, okK_string, okK_slice, okK_pointer, okK_SL, okK_EP, okK_sv, okK_vs, List.getD_cons_succ, List.getD_cons_zero, gd_tt, gd_ff, gd_tf, gd_ft, gd_ut, gdC_tt, gdC_ff, gdC_tf, gdC_ft, gdC_ut, ret_run, vPick_bool, if_true, if_false, reduceIte, Nat.reduceEqDiff, Bool.false_eq_true, okC_bool, okC_int, okC_string, okC_slice, okC_iface, okC_vs, okC_sv, okC_EP, dem_undef, dem_int, dem_bool, dem_string, dem_nil, dem_agg, dem_func, dem_pointer, dem_vs, dem_sv, dem_dem, vBin_int, vBin_string, vBin_bool, vConv_int, vExtract_tuple, List.getElem?_cons_succ, List.getElem?_cons_zero, Option.map_some, aBin_add, aBin_sub, aBin_mul, aBin_eql, aBin_neq, aBin_lss, aBin_leq, aBin_gtr, aBin_geq, aUn_not, Bool.not_true, Bool.not_false, Bool.true_eq_false, decide_true, decide_false, eq_self, exd_0_1, exd_0_2, exd_1_2, exd_0_3, exd_1_3, exd_2_3, exd_0_4, exd_1_4, exd_2_4, exd_3_4, exd_0_5, exd_1_5, exd_2_5, exd_3_5, exd_4_5, dem2, hd, g1, d1]
        refine ⟨_, _, hL.symm.trans (loopV_exit hr (by simp)), ?_⟩
        rw [if_neg h5]
        exact ⟨rfl, rfl, rfl, rfl⟩
theorem wire_ReadNums.v {k : Nat} {l : List UInt8} {many : Int} (hv : Okl k l) (hk : k ≠ 2) (hlen : l.length ≤ 140737488355328) (S : AHeap) : vlim Try.prog O wire_ReadNums.id [by_ k l, .int .i64 many] S = some (readNsV 0 (if k = 0 then 0 else 2) many l, S) := by
  obtain ⟨T, hTe⟩ : ∃ T, T = (by_ k l :: .int .i64 many :: undef :: undef :: undef :: undef :: undef :: undef :: undef :: undef :: undef :: undef :: undef :: undef :: undef :: undef :: undef :: undef :: undef :: undef :: undef :: undef :: undef :: undef :: undef :: undef :: undef :: undef :: undef :: undef :: undef :: undef :: undef :: undef :: undef :: undef :: undef :: undef :: undef :: undef :: undef :: undef :: undef :: undef :: undef :: []) := ⟨_, rfl⟩
  have hr : vcodeV Try.prog O wire_ReadNums.code T S = vcodeV Try.prog O wire_ReadNums.code T S := rfl
  have c1 : ∀ S, vlim Try.prog O 25 [by_ k l] S = some (by_ (if k = 0 then 0 else 2) l, S) := slices_Clone.v hv hk hlen
  unfold readNsV
  by_cases h1 : many < 0
  · conv at hr =>
      rhs
      rw [hTe]
      simp only [wire_ReadNums.code, wire_ReadNums.r0, wire_ReadNums.r1, wire_ReadNums.r2, wire_ReadNums.r3, wire_ReadNums.r4, wire_ReadNums.r5, wire_ReadNums.r6, wire_ReadNums.r7, wire_ReadNums.r8, wire_ReadNums.r9, wire_ReadNums.r10, wire_ReadNums.r11, wire_ReadNums.r12, wire_ReadNums.r13, vcodeV_seq, vcodeV_region, vcodeV_block, vcodeV_skip, vcodeV_ret, vcodeV_exit, vcodeV_cond, vcodeV_loop, andThen_some, regV_some, seqV_normal, seqV_exit, seqV_ret, blockV_normal, blockV_ret, blockV_exit, condK_true, condK_false, andK_some, gdK_tt, gdK_ff, gdK_tf, gdK_ft, gdK_ut, gdCK_tt, gdCK_ff, gdCK_tf, gdCK_ft, gdCK_ut, okK_bool, okK_int, okK_string, okK_slice, okK_pointer, okK_SL, okK_EP, okK_sv, okK_vs, List.getD_cons_succ, List.getD_cons_zero, gd_tt, gd_ff, gd_tf, gd_ft, gd_ut, gdC_tt, gdC_ff, gdC_tf, gdC_ft, gdC_ut, ret_run, vPick_bool, if_true, if_false, reduceIte, Nat.reduceEqDiff, Bool.false_eq_true, okC_bool, okC_int, okC_string, okC_slice, okC_iface, okC_vs, okC_sv, okC_EP, dem_undef, dem_int, dem_bool, dem_string, dem_nil, dem_agg, dem_func, dem_pointer, dem_vs, dem_sv, dem_dem, vBin_int, vBin_string, vBin_bool, vConv_int, vExtract_tuple, List.getElem?_cons_succ, List.getElem?_cons_zero, Option.map_some, aBin_add, aBin_sub, aBin_mul, aBin_eql, aBin_neq, aBin_lss, aBin_leq, aBin_gtr, aBin_geq, aUn_not, Bool.not_true, Bool.not_false, Bool.true_eq_false, decide_true, decide_false, eq_self, exd_0_1, exd_0_2, exd_1_2, exd_0_3, exd_1_3, exd_2_3, exd_0_4, exd_1_4, exd_2_4, exd_3_4, exd_0_5, exd_1_5, exd_2_5, exd_3_5, exd_4_5, h1]
    rw [hTe] at hr
    rw [if_pos (.inl h1)]
    exact wire_ReadNums.runs hr (.inr rfl) (by simp only [List.getD_cons_succ, List.getD_cons_zero, notTuple_vs, notTuple_int, notTuple_slice, notTuple_bool, notTuple_agg]) (by simp only [List.getD_cons_succ, List.getD_cons_zero, notTuple_vs, notTuple_int, notTuple_slice, notTuple_bool, notTuple_agg]) (by simp only [List.getD_cons_succ, List.getD_cons_zero, notTuple_vs, notTuple_int, notTuple_slice, notTuple_bool, notTuple_agg])
  · by_cases h2 : 64 < many
    · conv at hr =>
        rhs
        rw [hTe]
        simp only [wire_ReadNums.code, wire_ReadNums.r0, wire_ReadNums.r1, wire_ReadNums.r2, wire_ReadNums.r3, wire_ReadNums.r4, wire_ReadNums.r5, wire_ReadNums.r6, wire_ReadNums.r7, wire_ReadNums.r8, wire_ReadNums.r9, wire_ReadNums.r10, wire_ReadNums.r11, wire_ReadNums.r12, wire_ReadNums.r13, vcodeV_seq, vcodeV_region, vcodeV_block, vcodeV_skip, vcodeV_ret, vcodeV_exit, vcodeV_cond, vcodeV_loop, andThen_some, regV_some, seqV_normal, seqV_exit, seqV_ret, blockV_normal, blockV_ret, blockV_exit, condK_true, condK_false, andK_some, gdK_tt, gdK_ff, gdK_tf, gdK_ft, gdK_ut, gdCK_tt, gdCK_ff, gdCK_tf, gdCK_ft, gdCK_ut, okK_bool, okK_int, okK_string, okK_slice, okK_pointer, okK_SL, okK_EP, okK_sv, okK_vs, List.getD_cons_succ, List.getD_cons_zero, gd_tt, gd_ff, gd_tf, gd_ft, gd_ut, gdC_tt, gdC_ff, gdC_tf, gdC_ft, gdC_ut, ret_run, vPick_bool, if_true, if_false, reduceIte, Nat.reduceEqDiff, Bool.false_eq_true, okC_bool, okC_int, okC_string, okC_slice, okC_iface, okC_vs, okC_sv, okC_EP, dem_undef, dem_int, dem_bool, dem_string, dem_nil, dem_agg, dem_func, dem_pointer, dem_vs, dem_sv, dem_dem, vBin_int, vBin_string, vBin_bool, vConv_int, vExtract_tuple, List.getElem?_cons_succ, List.getElem?_cons_zero, Option.map_some, aBin_add, aBin_sub, aBin_mul, aBin_eql, aBin_neq, aBin_lss, aBin_leq, aBin_gtr, aBin_geq, aUn_not, Bool.not_true, Bool.not_false, Bool.true_eq_false, decide_true, decide_false, eq_self, exd_0_1, exd_0_2, exd_1_2, exd_0_3, exd_1_3, exd_2_3, exd_0_4, exd_1_4, exd_2_4, exd_3_4, exd_0_5, exd_1_5, exd_2_5, exd_3_5, exd_4_5, h1, h2]
      rw [hTe] at hr
      rw [if_pos (.inr h2)]
      exact wire_ReadNums.runs hr (.inr rfl) (by simp only [List.getD_cons_succ, List.getD_cons_zero, notTuple_vs, notTuple_int, notTuple_slice, notTuple_bool, notTuple_agg]) (by simp only [List.getD_cons_succ, List.getD_cons_zero, notTuple_vs, notTuple_int, notTuple_slice, notTuple_bool, notTuple_agg]) (by simp only [List.getD_cons_succ, List.getD_cons_zero, notTuple_vs, notTuple_int, notTuple_slice, notTuple_bool, notTuple_agg])
    · rw [if_neg (by omega)]
      conv at hr =>
        rhs
        rw [hTe]
        simp only [wire_ReadNums.code, wire_ReadNums.r0, wire_ReadNums.r1, wire_ReadNums.r2, wire_ReadNums.r3, wire_ReadNums.r4, wire_ReadNums.r5, wire_ReadNums.r6, wire_ReadNums.r7, wire_ReadNums.r8, wire_ReadNums.r9, wire_ReadNums.r10, wire_ReadNums.r11, wire_ReadNums.r12, wire_ReadNums.r13, vcodeV_seq, vcodeV_region, vcodeV_block, vcodeV_skip, vcodeV_ret, vcodeV_exit, vcodeV_cond, vcodeV_loop, andThen_some, regV_some, seqV_normal, seqV_exit, seqV_ret, blockV_normal, blockV_ret, blockV_exit, condK_true, condK_false, andK_some, gdK_tt, gdK_ff, gdK_tf, gdK_ft, gdK_ut, gdCK_tt, gdCK_ff, gdCK_tf, gdCK_ft, gdCK_ut, okK_bool, okK_int, okK_string, okK_slice, okK_pointer, okK_SL, okK_EP, okK_sv, okK_vs, List.getD_cons_succ, List.getD_cons_zero, gd_tt, gd_ff, gd_tf, gd_ft, gd_ut, gdC_tt, gdC_ff, gdC_tf, gdC_ft, gdC_ut, ret_run, vPick_bool, if_true, if_false, reduceIte, Nat.reduceEqDiff, Bool.false_eq_true, okC_bool, okC_int, okC_string, okC_slice, okC_iface, okC_vs, okC_sv, okC_EP, dem_undef, dem_int, dem_bool, dem_string, dem_nil, dem_agg, dem_func, dem_pointer, dem_vs, dem_sv, dem_dem, vBin_int, vBin_string, vBin_bool, vConv_int, vExtract_tuple, List.getElem?_cons_succ, List.getElem?_cons_zero, Option.map_some, aBin_add, aBin_sub, aBin_mul, aBin_eql, aBin_neq, aBin_lss, aBin_leq, aBin_gtr, aBin_geq, aUn_not, Bool.not_true, Bool.not_false, Bool.true_eq_false, decide_true, decide_false, eq_self, exd_0_1, exd_0_2, exd_1_2, exd_0_3, exd_1_3, exd_2_3, exd_0_4, exd_1_4, exd_2_4, exd_3_4, exd_0_5, exd_1_5, exd_2_5, exd_3_5, exd_4_5, h1, h2, if_neg hk, c1]
      generalize hL : loopV (vcodeV Try.prog O wire_ReadNums.loop1) _ _ = r at hr
      have okr : Okl (if k = 0 then 0 else 2) l := ⟨by split <;> omega, fun h => by split at h <;> first | (rename_i hp; exact hv.nil hp) | omega⟩
      obtain ⟨e, T', rfl, g⟩ := wire_ReadNums.round (many := many) (by omega) many.toNat 0 l (if k = 0 then 0 else 2) [] 0 hL rfl rfl rfl rfl rfl (by omega) (by omega) okr hlen Okl.none (by decide) rfl
      cases hrn : readNs many.toNat l with
      | none =>
        rw [hrn] at g
        obtain ⟨rfl, g2, g3, g4⟩ := g
        conv at hr =>
          rhs
          simp only [vcodeV_seq, vcodeV_region, vcodeV_block, vcodeV_skip, vcodeV_ret, vcodeV_exit, vcodeV_cond, vcodeV_loop, andThen_some, regV_some, seqV_normal, seqV_exit, seqV_ret, blockV_normal, blockV_ret, blockV_exit, condK_true, condK_false, andK_some, gdK_tt, gdK_ff, gdK_tf, gdK_ft, gdK_ut, gdCK_tt, gdCK_ff, gdCK_tf, gdCK_ft, gdCK_ut, okK_bool, okK_int, okK_string, okK_slice, okK_pointer, okK_SL, okK_EP, okK_sv, okK_vs, List.getD_cons_succ, List.getD_cons_zero, gd_tt, gd_ff, gd_tf, gd_ft, gd_ut, gdC_tt, gdC_ff, gdC_tf, gdC_ft, gdC_ut, ret_run, vPick_bool, if_true, if_false, reduceIte, Nat.reduceEqDiff, Bool.false_eq_true, okC_bool, okC_int, okC_string, okC_slice, okC_iface, okC_vs, okC_sv, okC_EP, dem_undef, dem_int, dem_bool, dem_string, dem_nil, dem_agg, dem_func, dem_pointer, dem_vs, dem_sv, dem_dem, vBin_int, vBin_string, vBin_bool, vConv_int, vExtract_tuple, List.getElem?_cons_succ, List.getElem?_cons_zero, Option.map_some, aBin_add, aBin_sub, aBin_mul, aBin_eql, aBin_neq, aBin_lss, aBin_leq, aBin_gtr, aBin_geq, aUn_not, Bool.not_true, Bool.not_false, Bool.true_eq_false, decide_true, decide_false, eq_self, exd_0_1, exd_0_2, exd_1_2, exd_0_3, exd_1_3, exd_2_3, exd_0_4, exd_1_4, exd_2_4, exd_3_4, exd_0_5, exd_1_5, exd_2_5, exd_3_5, exd_4_5]
        rw [hTe] at hr
        have hrun := wire_ReadNums.runs hr (.inr rfl) (by rw [g2]; rfl) (by rw [g3]; rfl) (by rw [g4]; rfl)
        rw [g2, g3, g4] at hrun
        exact hrun
      | some ab =>
        obtain ⟨a, b⟩ := ab
        rw [hrn] at g
        obtain ⟨rfl, g2, g3, g4⟩ := g
        have hTe' := wire_ReadNums.eta g2
        rw [g3, g4] at hTe'
        have hz : (many.toNat = 0) ↔ (many = 0) := by omega
        simp only [hz, List.nil_append] at hTe'
        conv at hr =>
          rhs
          rw [hTe']
          simp only [wire_ReadNums.code, wire_ReadNums.r0, wire_ReadNums.r1, wire_ReadNums.r2, wire_ReadNums.r3, wire_ReadNums.r4, wire_ReadNums.r5, wire_ReadNums.r6, wire_ReadNums.r7, wire_ReadNums.r8, wire_ReadNums.r9, wire_ReadNums.r10, wire_ReadNums.r11, wire_ReadNums.r12, wire_ReadNums.r13, vcodeV_seq, vcodeV_region, vcodeV_block, vcodeV_skip, vcodeV_ret, vcodeV_exit, vcodeV_cond, vcodeV_loop, andThen_some, regV_some, seqV_normal, seqV_exit, seqV_ret, blockV_normal, blockV_ret, blockV_exit, condK_true, condK_false, andK_some, gdK_tt, gdK_ff, gdK_tf, gdK_ft, gdK_ut, gdCK_tt, gdCK_ff, gdCK_tf, gdCK_ft, gdCK_ut, okK_bool, okK_int, okK_string, okK_slice, okK_pointer, okK_SL, okK_EP, okK_sv, okK_vs, List.getD_cons_succ, List.getD_cons_zero, gd_tt, gd_ff, gd_tf, gd_ft, gd_ut, gdC_tt, gdC_ff, gdC_tf, gdC_ft, gdC_ut, ret_run, vPick_bool, if_true, if_false, reduceIte, Nat.reduceEqDiff, Bool.false_eq_true, okC_bool, okC_int, okC_string, okC_slice, okC_iface, okC_vs, okC_sv, okC_EP, dem_undef, dem_int, dem_bool, dem_string, dem_nil, dem_agg, dem_func, dem_pointer, dem_vs, dem_sv, dem_dem, vBin_int, vBin_string, vBin_bool, vConv_int, vExtract_tuple, List.getElem?_cons_succ, List.getElem?_cons_zero, Option.map_some, aBin_add, aBin_sub, aBin_mul, aBin_eql, aBin_neq, aBin_lss, aBin_leq, aBin_gtr, aBin_geq, aUn_not, Bool.not_true, Bool.not_false, Bool.true_eq_false, decide_true, decide_false, eq_self, exd_0_1, exd_0_2, exd_1_2, exd_0_3, exd_1_3, exd_2_3, exd_0_4, exd_1_4, exd_2_4, exd_3_4, exd_0_5, exd_1_5, exd_2_5, exd_3_5, exd_4_5]
        rw [hTe] at hr
        exact wire_ReadNums.runs hr (.inr rfl) (by simp only [List.getD_cons_succ, List.getD_cons_zero, notTuple_vs, notTuple_int, notTuple_slice, notTuple_bool, notTuple_agg]) (by simp only [List.getD_cons_succ, List.getD_cons_zero, notTuple_vs, notTuple_int, notTuple_slice, notTuple_bool, notTuple_agg]) (by simp only [List.getD_cons_succ, List.getD_cons_zero, notTuple_vs, notTuple_int, notTuple_slice, notTuple_bool, notTuple_agg])
theorem neaptideref01_ReadNums.v {k : Nat} {l : List UInt8} {many : Int} (hv : Okl k l) (hk : k ≠ 2) (hlen : l.length ≤ 140737488355328) (S : AHeap) : vlim Try.prog O neaptideref01_ReadNums.id [by_ k l, .int .i64 many] S = some (readNsV 2 2 many l, S) := by
  obtain ⟨T, hTe⟩ : ∃ T, T = (by_ k l :: .int .i64 many :: undef :: undef :: undef :: undef :: undef :: undef :: undef :: undef :: undef :: undef :: undef :: undef :: undef :: undef :: undef :: undef :: undef :: undef :: undef :: undef :: undef :: undef :: undef :: undef :: undef :: undef :: undef :: undef :: undef :: undef :: undef :: undef :: undef :: undef :: undef :: undef :: undef :: undef :: undef :: undef :: undef :: undef :: undef :: undef :: undef :: undef :: undef :: []) := ⟨_, rfl⟩
  have hr : vcodeV Try.prog O neaptideref01_ReadNums.code T S = vcodeV Try.prog O neaptideref01_ReadNums.code T S := rfl
  have c1 := fun S => by_copy hv hlen (S := S)
  unfold readNsV
  by_cases h1 : many < 0
  · conv at hr =>
      rhs
      rw [hTe]
      simp only [neaptideref01_ReadNums.code, neaptideref01_ReadNums.r0, neaptideref01_ReadNums.r1, neaptideref01_ReadNums.r2, neaptideref01_ReadNums.r3, neaptideref01_ReadNums.r4, neaptideref01_ReadNums.r5, neaptideref01_ReadNums.r6, neaptideref01_ReadNums.r8, neaptideref01_ReadNums.r9, neaptideref01_ReadNums.r10, neaptideref01_ReadNums.r11, neaptideref01_ReadNums.r12, neaptideref01_ReadNums.r7, neaptideref01_ReadNums.r13, vcodeV_seq, vcodeV_region, vcodeV_block, vcodeV_skip, vcodeV_ret, vcodeV_exit, vcodeV_cond, vcodeV_loop, andThen_some, regV_some, seqV_normal, seqV_exit, seqV_ret, blockV_normal, blockV_ret, blockV_exit, condK_true, condK_false, andK_some, gdK_tt, gdK_ff, gdK_tf, gdK_ft, gdK_ut, gdCK_tt, gdCK_ff, gdCK_tf, gdCK_ft, gdCK_ut, okK_bool, okK_int, okK_string, okK_slice, okK_pointer, okK_SL, okK_EP, okK_sv, okK_vs, List.getD_cons_succ, List.getD_cons_zero, gd_tt, gd_ff, gd_tf, gd_ft, gd_ut, gdC_tt, gdC_ff, gdC_tf, gdC_ft, gdC_ut, ret_run, vPick_bool, if_true, if_false, reduceIte, Nat.reduceEqDiff, Bool.false_eq_true, okC_bool, okC_int, okC_string, okC_slice, okC_iface, okC_vs, okC_sv, okC_EP, dem_undef, dem_int, dem_bool, dem_string, dem_nil, dem_agg, dem_func, dem_pointer, dem_vs, dem_sv, dem_dem, vBin_int, vBin_string, vBin_bool, vConv_int, vExtract_tuple, List.getElem?_cons_succ, List.getElem?_cons_zero, Option.map_some, aBin_add, aBin_sub, aBin_mul, aBin_eql, aBin_neq, aBin_lss, aBin_leq, aBin_gtr, aBin_geq, aUn_not, Bool.not_true, Bool.not_false, Bool.true_eq_false, decide_true, decide_false, eq_self, exd_0_1, exd_0_2, exd_1_2, exd_0_3, exd_1_3, exd_2_3, exd_0_4, exd_1_4, exd_2_4, exd_3_4, exd_0_5, exd_1_5, exd_2_5, exd_3_5, exd_4_5, h1]
    rw [hTe] at hr
    rw [if_pos (.inl h1)]
    exact neaptideref01_ReadNums.runs hr (.inr rfl) (by simp only [List.getD_cons_succ, List.getD_cons_zero, notTuple_vs, notTuple_int, notTuple_slice, notTuple_bool, notTuple_agg]) (by simp only [List.getD_cons_succ, List.getD_cons_zero, notTuple_vs, notTuple_int, notTuple_slice, notTuple_bool, notTuple_agg]) (by simp only [List.getD_cons_succ, List.getD_cons_zero, notTuple_vs, notTuple_int, notTuple_slice, notTuple_bool, notTuple_agg])
  · by_cases h2 : 64 < many
    · conv at hr =>
        rhs
        rw [hTe]
        simp only [neaptideref01_ReadNums.code, neaptideref01_ReadNums.r0, neaptideref01_ReadNums.r1, neaptideref01_ReadNums.r2, neaptideref01_ReadNums.r3, neaptideref01_ReadNums.r4, neaptideref01_ReadNums.r5, neaptideref01_ReadNums.r6, neaptideref01_ReadNums.r8, neaptideref01_ReadNums.r9, neaptideref01_ReadNums.r10, neaptideref01_ReadNums.r11, neaptideref01_ReadNums.r12, neaptideref01_ReadNums.r7, neaptideref01_ReadNums.r13, vcodeV_seq, vcodeV_region, vcodeV_block, vcodeV_skip, vcodeV_ret, vcodeV_exit, vcodeV_cond, vcodeV_loop, andThen_some, regV_some, seqV_normal, seqV_exit, seqV_ret, blockV_normal, blockV_ret, blockV_exit, condK_true, condK_false, andK_some, gdK_tt, gdK_ff, gdK_tf, gdK_ft, gdK_ut, gdCK_tt, gdCK_ff, gdCK_tf, gdCK_ft, gdCK_ut, okK_bool, okK_int, okK_string, okK_slice, okK_pointer, okK_SL, okK_EP, okK_sv, okK_vs, List.getD_cons_succ, List.getD_cons_zero, gd_tt, gd_ff, gd_tf, gd_ft, gd_ut, gdC_tt, gdC_ff, gdC_tf, gdC_ft, gdC_ut, ret_run, vPick_bool, if_true, if_false, reduceIte, Nat.reduceEqDiff, Bool.false_eq_true, okC_bool, okC_int, okC_string, okC_slice, okC_iface, okC_vs, okC_sv, okC_EP, dem_undef, dem_int, dem_bool, dem_string, dem_nil, dem_agg, dem_func, dem_pointer, dem_vs, dem_sv, dem_dem, vBin_int, vBin_string, vBin_bool, vConv_int, vExtract_tuple, List.getElem?_cons_succ, List.getElem?_cons_zero, Option.map_some, aBin_add, aBin_sub, aBin_mul, aBin_eql, aBin_neq, aBin_lss, aBin_leq, aBin_gtr, aBin_geq, aUn_not, Bool.not_true, Bool.not_false, Bool.true_eq_false, decide_true, decide_false, eq_self, exd_0_1, exd_0_2, exd_1_2, exd_0_3, exd_1_3, exd_2_3, exd_0_4, exd_1_4, exd_2_4, exd_3_4, exd_0_5, exd_1_5, exd_2_5, exd_3_5, exd_4_5, h1, h2]
      rw [hTe] at hr
      rw [if_pos (.inr h2)]
      exact neaptideref01_ReadNums.runs hr (.inr rfl) (by simp only [List.getD_cons_succ, List.getD_cons_zero, notTuple_vs, notTuple_int, notTuple_slice, notTuple_bool, notTuple_agg]) (by simp only [List.getD_cons_succ, List.getD_cons_zero, notTuple_vs, notTuple_int, notTuple_slice, notTuple_bool, notTuple_agg]) (by simp only [List.getD_cons_succ, List.getD_cons_zero, notTuple_vs, notTuple_int, notTuple_slice, notTuple_bool, notTuple_agg])
    · rw [if_neg (by omega)]
      conv at hr =>
        rhs
        rw [hTe]
        simp only [neaptideref01_ReadNums.code, neaptideref01_ReadNums.r0, neaptideref01_ReadNums.r1, neaptideref01_ReadNums.r2, neaptideref01_ReadNums.r3, neaptideref01_ReadNums.r4, neaptideref01_ReadNums.r5, neaptideref01_ReadNums.r6, neaptideref01_ReadNums.r8, neaptideref01_ReadNums.r9, neaptideref01_ReadNums.r10, neaptideref01_ReadNums.r11, neaptideref01_ReadNums.r12, neaptideref01_ReadNums.r7, neaptideref01_ReadNums.r13, vcodeV_seq, vcodeV_region, vcodeV_block, vcodeV_skip, vcodeV_ret, vcodeV_exit, vcodeV_cond, vcodeV_loop, andThen_some, regV_some, seqV_normal, seqV_exit, seqV_ret, blockV_normal, blockV_ret, blockV_exit, condK_true, condK_false, andK_some, gdK_tt, gdK_ff, gdK_tf, gdK_ft, gdK_ut, gdCK_tt, gdCK_ff, gdCK_tf, gdCK_ft, gdCK_ut, okK_bool, okK_int, okK_string, okK_slice, okK_pointer, okK_SL, okK_EP, okK_sv, okK_vs, List.getD_cons_succ, List.getD_cons_zero, gd_tt, gd_ff, gd_tf, gd_ft, gd_ut, gdC_tt, gdC_ff, gdC_tf, gdC_ft, gdC_ut, ret_run, vPick_bool, if_true, if_false, reduceIte, Nat.reduceEqDiff, Bool.false_eq_true, okC_bool, okC_int, okC_string, okC_slice, okC_iface, okC_vs, okC_sv, okC_EP, dem_undef, dem_int, dem_bool, dem_string, dem_nil, dem_agg, dem_func, dem_pointer, dem_vs, dem_sv, dem_dem, vBin_int, vBin_string, vBin_bool, vConv_int, vExtract_tuple, List.getElem?_cons_succ, List.getElem?_cons_zero, Option.map_some, aBin_add, aBin_sub, aBin_mul, aBin_eql, aBin_neq, aBin_lss, aBin_leq, aBin_gtr, aBin_geq, aUn_not, Bool.not_true, Bool.not_false, Bool.true_eq_false, decide_true, decide_false, eq_self, exd_0_1, exd_0_2, exd_1_2, exd_0_3, exd_1_3, exd_2_3, exd_0_4, exd_1_4, exd_2_4, exd_3_4, exd_0_5, exd_1_5, exd_2_5, exd_3_5, exd_4_5, h1, h2, if_neg hk, bz0, bb0, c1]
      generalize hL : loopV (vcodeV Try.prog O neaptideref01_ReadNums.loop1) _ _ = r at hr
      obtain ⟨e, T', rfl, g⟩ := neaptideref01_ReadNums.round (many := many) (by omega) many.toNat 0 l 2 [] 2 hL rfl rfl rfl rfl rfl (by omega) (by omega) Okl.own hlen Okl.own (by decide) rfl
      cases hrn : readNs many.toNat l with
      | none =>
        rw [hrn] at g
        obtain ⟨rfl, g2, g3, g4⟩ := g
        conv at hr =>
          rhs
          simp only [vcodeV_seq, vcodeV_region, vcodeV_block, vcodeV_skip, vcodeV_ret, vcodeV_exit, vcodeV_cond, vcodeV_loop, andThen_some, regV_some, seqV_normal, seqV_exit, seqV_ret, blockV_normal, blockV_ret, blockV_exit, condK_true, condK_false, andK_some, gdK_tt, gdK_ff, gdK_tf, gdK_ft, gdK_ut, gdCK_tt, gdCK_ff, gdCK_tf, gdCK_ft, gdCK_ut, okK_bool, okK_int, okK_string, okK_slice, okK_pointer, okK_SL, okK_EP, okK_sv, okK_vs, List.getD_cons_succ, List.getD_cons_zero, gd_tt, gd_ff, gd_tf, gd_ft, gd_ut, gdC_tt, gdC_ff, gdC_tf, gdC_ft, gdC_ut, ret_run, vPick_bool, if_true, if_false, reduceIte, Nat.reduceEqDiff, Bool.false_eq_true, okC_bool, okC_int, okC_string, okC_slice, okC_iface, okC_vs, okC_sv, okC_EP, dem_undef, dem_int, dem_bool, dem_string, dem_nil, dem_agg, dem_func, dem_pointer, dem_vs, dem_sv, dem_dem, vBin_int, vBin_string, vBin_bool, vConv_int, vExtract_tuple, List.getElem?_cons_succ, List.getElem?_cons_zero, Option.map_some, aBin_add, aBin_sub, aBin_mul, aBin_eql, aBin_neq, aBin_lss, aBin_leq, aBin_gtr, aBin_geq, aUn_not, Bool.not_true, Bool.not_false, Bool.true_eq_false, decide_true, decide_false, eq_self, exd_0_1, exd_0_2, exd_1_2, exd_0_3, exd_1_3, exd_2_3, exd_0_4, exd_1_4, exd_2_4, exd_3_4, exd_0_5, exd_1_5, exd_2_5, exd_3_5, exd_4_5]
        rw [hTe] at hr
        have hrun := neaptideref01_ReadNums.runs hr (.inr rfl) (by rw [g2]; rfl) (by rw [g3]; rfl) (by rw [g4]; rfl)
        rw [g2, g3, g4] at hrun
        exact hrun
      | some ab =>
        obtain ⟨a, b⟩ := ab
        rw [hrn] at g
        obtain ⟨rfl, g2, g3, g4⟩ := g
        have hTe' := neaptideref01_ReadNums.eta g2
        rw [g3, g4] at hTe'
        simp only [ite_self, List.nil_append] at hTe'
        conv at hr =>
          rhs
          rw [hTe']
          simp only [neaptideref01_ReadNums.code, neaptideref01_ReadNums.r0, neaptideref01_ReadNums.r1, neaptideref01_ReadNums.r2, neaptideref01_ReadNums.r3, neaptideref01_ReadNums.r4, neaptideref01_ReadNums.r5, neaptideref01_ReadNums.r6, neaptideref01_ReadNums.r8, neaptideref01_ReadNums.r9, neaptideref01_ReadNums.r10, neaptideref01_ReadNums.r11, neaptideref01_ReadNums.r12, neaptideref01_ReadNums.r7, neaptideref01_ReadNums.r13, vcodeV_seq, vcodeV_region, vcodeV_block, vcodeV_skip, vcodeV_ret, vcodeV_exit, vcodeV_cond, vcodeV_loop, andThen_some, regV_some, seqV_normal, seqV_exit, seqV_ret, blockV_normal, blockV_ret, blockV_exit, condK_true, condK_false, andK_some, gdK_tt, gdK_ff, gdK_tf, gdK_ft, gdK_ut, gdCK_tt, gdCK_ff, gdCK_tf, gdCK_ft, gdCK_ut, okK_bool, okK_int, okK_string, okK_slice, okK_pointer, okK_SL, okK_EP, okK_sv, okK_vs, List.getD_cons_succ, List.getD_cons_zero, gd_tt, gd_ff, gd_tf, gd_ft, gd_ut, gdC_tt, gdC_ff, gdC_tf, gdC_ft, gdC_ut, ret_run, vPick_bool, if_true, if_false, reduceIte, Nat.reduceEqDiff, Bool.false_eq_true, okC_bool, okC_int, okC_string, okC_slice, okC_iface, okC_vs, okC_sv, okC_EP, dem_undef, dem_int, dem_bool, dem_string, dem_nil, dem_agg, dem_func, dem_pointer, dem_vs, dem_sv, dem_dem, vBin_int, vBin_string, vBin_bool, vConv_int, vExtract_tuple, List.getElem?_cons_succ, List.getElem?_cons_zero, Option.map_some, aBin_add, aBin_sub, aBin_mul, aBin_eql, aBin_neq, aBin_lss, aBin_leq, aBin_gtr, aBin_geq, aUn_not, Bool.not_true, Bool.not_false, Bool.true_eq_false, decide_true, decide_false, eq_self, exd_0_1, exd_0_2, exd_1_2, exd_0_3, exd_1_3, exd_2_3, exd_0_4, exd_1_4, exd_2_4, exd_3_4, exd_0_5, exd_1_5, exd_2_5, exd_3_5, exd_4_5]
        rw [hTe] at hr
        simp only [ite_self]
        exact neaptideref01_ReadNums.runs hr (.inr rfl) (by simp only [List.getD_cons_succ, List.getD_cons_zero, notTuple_vs, notTuple_int, notTuple_slice, notTuple_bool, notTuple_agg]) (by simp only [List.getD_cons_succ, List.getD_cons_zero, notTuple_vs, notTuple_int, notTuple_slice, notTuple_bool, notTuple_agg]) (by simp only [List.getD_cons_succ, List.getD_cons_zero, notTuple_vs, notTuple_int, notTuple_slice, notTuple_bool, notTuple_agg])
end Go.Proofs.Ytjlhjebmbllkiaa
