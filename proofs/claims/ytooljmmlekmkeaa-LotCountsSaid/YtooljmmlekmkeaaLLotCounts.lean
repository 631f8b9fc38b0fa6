/-
As many slots as winners: the law's run.
-/
import Derived.Test.YtooljmmlekmkeaaF6
import Derived.Test.YtooljmmlekmkeaaVL4
import Derived.Test.YtooljmmlekmkeaaVMem
import Derived.Test.YtooljmmlekmkeaaVWords
set_option linter.unusedVariables false
set_option linter.unusedSimpArgs false
set_option maxRecDepth 100000
namespace Go.Proofs.Ytooljmmlekmkeaa
open Go.Abs

theorem swap_len {α β : Type} (p : α → β → Bool) : ∀ (xs : List α) (ys : List β), (xs.flatMap fun x => ys.filter (p x)).length = (ys.flatMap fun y => xs.filter fun x => p x y).length := by
  intro xs
  induction xs with
  | nil => intro ys; induction ys with
    | nil => rfl
    | cons y ys ih => simpa using ih
  | cons x xs ih =>
    intro ys
    rw [List.flatMap_cons, List.length_append, ih]
    induction ys with
    | nil => rfl
    | cons y ys ih2 =>
      rw [List.flatMap_cons, List.flatMap_cons, List.length_append, List.length_append, ← ih2, List.filter_cons, List.filter_cons]
      split <;> simp <;> omega
def bump (L : List Int) (s : Int) : List Int := L.set s.toNat (L.getD s.toNat 0 + 1)
theorem bump_len (L : List Int) (s : Int) : (bump L s).length = L.length := by simp [bump]
theorem bumps_len : ∀ (xs : List Int) (L : List Int), (xs.foldl bump L).length = L.length := by
  intro xs
  induction xs with
  | nil => intro L; rfl
  | cons x xs ih => intro L; rw [List.foldl_cons, ih, bump_len]
theorem bumps_get : ∀ (xs : List Int) (L : List Int), (∀ x ∈ xs, 0 ≤ x ∧ x < L.length) → ∀ s : Int, 0 ≤ s → s < L.length → (xs.foldl bump L).getD s.toNat 0 = L.getD s.toNat 0 + xs.count s := by
  intro xs
  induction xs with
  | nil => intro L _ s _ _; simp
  | cons x xs ih =>
    intro L hx s h0 h1
    obtain ⟨x0, x1⟩ := hx x (by simp)
    rw [List.foldl_cons, ih _ (fun y hy => by rw [bump_len]; exact hx y (by simp [hy])) s h0 (by rw [bump_len]; exact h1)]
    have e : (bump L x).getD s.toNat 0 = L.getD s.toNat 0 + if x = s then 1 else 0 := by
      unfold bump
      rw [List.getD_eq_getElem?_getD, List.getElem?_set]
      by_cases h : x = s
      · subst h
        rw [if_pos rfl, if_pos (by omega), if_pos rfl]; rfl
      · rw [if_neg (by omega), if_neg h, ← List.getD_eq_getElem?_getD]; omega
    rw [e, List.count_cons]
    by_cases h : x = s
    · subst h; simp; omega
    · simp [h]
theorem count_filter_ints (p : Int → Bool) (s : Int) (xs : List Int) (h : xs.Nodup) : (xs.filter p).count s = if s ∈ xs ∧ p s = true then 1 else 0 := by
  by_cases hs : s ∈ xs ∧ p s = true
  · rw [if_pos hs]
    have : (xs.filter p).Nodup := h.filter _
    rw [this.count, if_pos (by simp [hs])]
  · rw [if_neg hs]
    exact List.count_eq_zero_of_not_mem (by simpa using hs)
theorem count_flatMap_len {p : Int → Int → Bool} {ys : List Int} (hy : ys.Nodup) {s : Int} (hs : s ∈ ys) : ∀ xs : List Int, (xs.flatMap fun n => ys.filter (p n)).count s = (xs.filter fun n => p n s).length := by
  intro xs
  induction xs with
  | nil => rfl
  | cons x xs ih =>
    rw [List.flatMap_cons, List.count_append, ih, count_filter_ints _ _ _ hy, List.filter_cons]
    by_cases h : p x s = true
    · rw [if_pos ⟨hs, h⟩, if_pos h]; simp; omega
    · rw [if_neg (fun k => h k.2), if_neg h]; simp
theorem ints_nodup : ∀ (m : Nat) (i : Int), (ints i m).Nodup
  | 0, _ => List.nodup_nil
  | m + 1, i => by
    rw [ints, List.nodup_cons]
    exact ⟨fun h => by have := (mem_ints m (i + 1) i).1 h; omega, ints_nodup m (i + 1)⟩
theorem ints_split : ∀ (a b : Nat) (i : Int), ints i (a + b) = ints i a ++ ints (i + a) b
  | 0, b, i => by simp [ints]
  | a + 1, b, i => by
    rw [show a + 1 + b = (a + b) + 1 by omega, ints, ints, ints_split a b, List.cons_append, show i + 1 + (a : Int) = i + ((a + 1 : Nat) : Int) by omega]
def seenL (done : List Int) : List Int := done.foldl bump (List.replicate 201 0)
theorem seenL_len (done : List Int) : (seenL done).length = 201 := by rw [seenL, bumps_len, List.length_replicate]
theorem seenL_get {done : List Int} (h : ∀ x ∈ done, 0 ≤ x ∧ x < 201) {s : Int} (h0 : 0 ≤ s) (h1 : s < 201) : (seenL done).getD s.toNat 0 = done.count s := by
  rw [seenL, bumps_get done _ (fun x hx => by rw [List.length_replicate]; exact h x hx) s h0 (by rw [List.length_replicate]; exact h1)]
  rw [List.getD_eq_getElem?_getD, List.getElem?_replicate]; split <;> simp
theorem seenL_snoc (done : List Int) (s : Int) : seenL (done ++ [s]) = bump (seenL done) s := by simp [seenL, List.foldl_append]
def zc (n : Int) : Value := .int .i64 n
theorem al_seen (S : AHeap) : aAlloc Try.prog 30 S = some (.pointer (some ⟨S.next, 0, none⟩), S.push (.cells (List.replicate 201 (.int .i64 0)) (.own []) 0)) := by kernel_rfl
theorem bd_seen (S : AHeap) : aBuild Try.prog 30 [] S = some (.agg (List.replicate 201 (.int .i64 0)).toArray, S) := by kernel_rfl
theorem splice_one {cs : List Value} {o : Nat} {x : Value} (h : o < cs.length) : splice cs o [x] = cs.set o x := by
  unfold splice
  rw [List.set_eq_take_append_cons_drop, if_pos h]; simp
theorem slots_mem {l : List Int} {node s : Int} (h : s ∈ slotsOf l node) : winB l s node = true ∧ 1 ≤ s ∧ s ≤ l.length := by
  unfold slotsOf at h
  rw [List.mem_filter, mem_ints] at h
  exact ⟨h.2, h.1.1, by omega⟩

section
variable {k : Nat} {l : List Int}
theorem neaptidelaw10_LotCounts.in1 (hv : Okl k l) (hk : k ≠ 2) (hl : l.length ≤ 200) (hd : ∀ d ∈ l, 0 ≤ d ∧ d ≤ 127) {node : Int} {ks q : Nat} {ss : List Int} (hks : Okl ks ss) (hss : ∀ s ∈ ss, winB l s node = true ∧ 1 ≤ s ∧ s ≤ l.length) : ∀ (suf pre done : List Int) {T : List Value} {r : St} {S : AHeap}, loopV (vcodeV Try.prog O false neaptidelaw10_LotCounts.loop1) T S = r → T.length = 80 →
    T.getD 0 undef = iz k l → T.getD 5 undef = .pointer (some ⟨q, 0, none⟩) → T.getD 6 undef = .int .i64 node → T.getD 23 undef = iz ks ss → T.getD 24 undef = .int .i64 ss.length → T.getD 25 undef = .int .i64 pre.length → T.getD 3 undef = .int .i64 done.length → ss = pre ++ suf →
    S.get q = some (.cells ((seenL done).map zc) (.own []) 0) → (∀ x ∈ done, 0 ≤ x ∧ x < 201) → done.length + suf.length ≤ 1400 → ss.length ≤ 200 →
    ∃ T' S', r = some (.exit 2, T', S') ∧ T'.length = 80 ∧ T'.getD 0 undef = iz k l ∧ T'.getD 4 undef = T.getD 4 undef ∧ T'.getD 5 undef = .pointer (some ⟨q, 0, none⟩) ∧ T'.getD 6 undef = .int .i64 node ∧ T'.getD 3 undef = .int .i64 (done ++ suf).length ∧
      S'.get q = some (.cells ((seenL (done ++ suf)).map zc) (.own []) 0) := by
  intro suf
  induction suf with
  | nil =>
    intro pre done T r S hL hT h0 h5 h6 h23 h24 h25 h3 hpre hg hdone hb hb2
    have hTe := neaptidelaw10_LotCounts.eta hT
    rw [h0, h5, h6, h23, h24, h25, h3] at hTe
    have hr : vcodeV Try.prog O false neaptidelaw10_LotCounts.loop1 T S = vcodeV Try.prog O false neaptidelaw10_LotCounts.loop1 T S := rfl
    have d1 : ¬ (pre.length : Int) < (ss.length : Int) := by rw [hpre]; simp
    conv at hr =>
      rhs
      rw [hTe]
      simp only [neaptidelaw10_LotCounts.loop1, neaptidelaw10_LotCounts.code, neaptidelaw10_LotCounts.rs, wk, List.getD_cons_succ, List.getD_cons_zero, if_true, if_false, List.getElem?_cons_succ, List.getElem?_cons_zero, Option.map_some, eq_self, reduceIte, Nat.reduceEqDiff, Int.reduceEq, Int.reduceLT, Int.reduceLE, d1]
    rw [List.append_nil]
    exact ⟨_, _, hL.symm.trans (loopV_exit hr (by simp)), rfl, rfl, rfl, rfl, rfl, rfl, hg⟩
  | cons s suf ih =>
    intro pre done T r S hL hT h0 h5 h6 h23 h24 h25 h3 hpre hg hdone hb hb2
    have hTe := neaptidelaw10_LotCounts.eta hT
    rw [h0, h5, h6, h23, h24, h25, h3] at hTe
    have hr : vcodeV Try.prog O false neaptidelaw10_LotCounts.loop1 T S = vcodeV Try.prog O false neaptidelaw10_LotCounts.loop1 T S := rfl
    have d1 : (pre.length : Int) < (ss.length : Int) := by rw [hpre]; simp; omega
    obtain ⟨hw, hs1, hs2⟩ := hss s (by rw [hpre]; simp)
    have e1 : ∀ S, vIndexAddr Try.prog 22 (iz ks ss) (.int .i64 pre.length) S = some (EP [.int .i64 s], S) := fun S => by
      rw [iz_at hks (by omega) d1]; rw [iz_at_pre hpre]
    have c1 := fun S => lot_Wins.v hv hk hl hd (slot := s) (node := node) S
    rw [hw] at c1
    have d2 : ¬ s < 1 := by omega
    have d3 : ¬ (l.length : Int) < s := by omega
    have b1 : (List.length (suf) : Int) + 1 = ((s :: suf).length : Int) := by simp
    have hbl : done.length ≤ 1400 := by omega
    have hsl : pre.length ≤ 200 := by rw [hpre] at hb2; simp at hb2; omega
    have hcnt : (seenL done).getD s.toNat 0 = done.count s := seenL_get hdone (by omega) (by omega)
    have hcl : done.count s ≤ 1400 := Nat.le_trans List.count_le_length hbl
    have hlen := seenL_len done
    have a1 := fun S => idx_arr (P := Try.prog) (q := q) (o := 0) (k := .i64) (j := s) (S := S) u_A201_int s_int (by omega) (by omega)
    have l1 := load_int (t := 3) (o := 0 + s.toNat * 1) (k := .i64) (m := (seenL done).getD s.toNat 0) hg g_int (by
      rw [Nat.zero_add, Nat.mul_one, List.getElem?_map, List.getD_eq_getElem?_getD, List.getElem?_eq_getElem (by omega)]; rfl)
    have wc : IntKind.i64.wrap ((seenL done).getD s.toNat 0 + 1) = (seenL done).getD s.toNat 0 + 1 := by rw [hcnt]; exact wrap_i64 (by omega) (by omega)
    have s1 := store_mem (P := Try.prog) (t := 3) (o := 0 + s.toNat * 1) (x := .int .i64 ((seenL done).getD s.toNat 0 + 1)) hg s_int rfl rfl (by rw [List.length_map]; omega)
    have hg2 : (((S.kills []).set q (.cells (splice ((seenL done).map zc) (0 + s.toNat * 1) [Value.int .i64 ((seenL done).getD s.toNat 0 + 1)]) (.own []) 0))).get q = some (.cells ((seenL (done ++ [s])).map zc) (.own []) 0) := by
      rw [AHeap.get_set, if_pos rfl, splice_one (by rw [List.length_map]; omega), Nat.zero_add, Nat.mul_one, seenL_snoc]
      unfold bump
      rw [List.map_set]; rfl
    have wd : IntKind.i64.wrap ((done.length : Int) + 1) = ((done ++ [s]).length : Int) := by rw [wrap_i64 (by omega) (by omega)]; simp
    have wi : IntKind.i64.wrap ((pre.length : Int) + 1) = ((pre ++ [s]).length : Int) := by rw [wrap_i64 (by omega) (by omega)]; simp
    conv at hr =>
      rhs
      rw [hTe]
      simp only [neaptidelaw10_LotCounts.loop1, neaptidelaw10_LotCounts.code, neaptidelaw10_LotCounts.rs, wk, List.getD_cons_succ, List.getD_cons_zero, if_true, if_false, List.getElem?_cons_succ, List.getElem?_cons_zero, Option.map_some, eq_self, reduceIte, Nat.reduceEqDiff, Int.reduceEq, Int.reduceLT, Int.reduceLE, d1, e1, iz_load, if_neg hk, iz_len hv, goInt, c1, d2, d3, a1, l1, wc, s1, wd, wi]
    obtain ⟨T', S', q1, q2, q3, q4, q5, q6, q7, q8⟩ := ih (pre ++ [s]) (done ++ [s]) ((loopV_step hr).symm.trans hL) rfl rfl rfl rfl rfl rfl rfl rfl (by simp [hpre]) hg2 (fun x hx => by
      rcases List.mem_append.1 hx with hx | hx
      · exact hdone x hx
      · rw [List.mem_singleton.1 hx]; omega) (by simp at hb ⊢; omega) hb2
    rw [List.append_assoc, List.singleton_append] at q7 q8
    exact ⟨T', S', q1, q2, q3, q4, q5, q6, q7, q8⟩

theorem slots_len (l : List Int) (node : Int) : (slotsOf l node).length ≤ l.length := Nat.le_trans (List.length_filter_le _ _) (by rw [ints_len]; exact Nat.le_refl _)
theorem neaptidelaw10_LotCounts.in2 (hv : Okl k l) (hk : k ≠ 2) (hl : l.length ≤ 200) (hd : ∀ d ∈ l, 0 ≤ d ∧ d ≤ 127) {q : Nat} : ∀ (m : Nat) (i : Int) (done : List Int) {T : List Value} {r : St} {S : AHeap}, loopV (vcodeV Try.prog O false neaptidelaw10_LotCounts.loop2) T S = r → T.length = 80 →
    T.getD 0 undef = iz k l → T.getD 5 undef = .pointer (some ⟨q, 0, none⟩) → T.getD 6 undef = .int .i64 i → T.getD 3 undef = .int .i64 done.length → 0 ≤ i → i + m = 7 →
    S.get q = some (.cells ((seenL done).map zc) (.own []) 0) → (∀ x ∈ done, 0 ≤ x ∧ x < 201) → done.length + m * 200 ≤ 1400 →
    ∃ T' S', r = some (.exit 0, T', S') ∧ T'.length = 80 ∧ T'.getD 0 undef = iz k l ∧ T'.getD 4 undef = T.getD 4 undef ∧ T'.getD 5 undef = .pointer (some ⟨q, 0, none⟩) ∧ T'.getD 3 undef = .int .i64 (done ++ (ints i m).flatMap (slotsOf l)).length ∧
      S'.get q = some (.cells ((seenL (done ++ (ints i m).flatMap (slotsOf l))).map zc) (.own []) 0) := by
  intro m
  induction m with
  | zero =>
    intro i done T r S hL hT h0 h5 h6 h3 hi him hg hdone hb
    have hTe := neaptidelaw10_LotCounts.eta hT
    rw [h0, h5, h6, h3] at hTe
    have hr : vcodeV Try.prog O false neaptidelaw10_LotCounts.loop2 T S = vcodeV Try.prog O false neaptidelaw10_LotCounts.loop2 T S := rfl
    have d1 : ¬ i < 7 := by omega
    conv at hr =>
      rhs
      rw [hTe]
      simp only [neaptidelaw10_LotCounts.loop2, neaptidelaw10_LotCounts.code, neaptidelaw10_LotCounts.rs, wk, List.getD_cons_succ, List.getD_cons_zero, if_true, if_false, List.getElem?_cons_succ, List.getElem?_cons_zero, Option.map_some, eq_self, reduceIte, Nat.reduceEqDiff, Int.reduceEq, Int.reduceLT, Int.reduceLE, d1]
    rw [ints, List.flatMap_nil, List.append_nil]
    exact ⟨_, _, hL.symm.trans (loopV_exit hr (by simp)), rfl, rfl, rfl, rfl, rfl, hg⟩
  | succ m ih =>
    intro i done T r S hL hT h0 h5 h6 h3 hi him hg hdone hb
    have hTe := neaptidelaw10_LotCounts.eta hT
    rw [h0, h5, h6, h3] at hTe
    have hr : vcodeV Try.prog O false neaptidelaw10_LotCounts.loop2 T S = vcodeV Try.prog O false neaptidelaw10_LotCounts.loop2 T S := rfl
    have d1 : i < 7 := by omega
    have c1 := fun S => lot_Slots.v hv hk hl hd (node := i) S
    have hsl := slots_len l i
    have hks : Okl (if slotsOf l i = [] then 0 else 2) (slotsOf l i) := okl_nil (.inl rfl)
    have hmem := fun s hs => slots_mem (l := l) (node := i) (s := s) hs
    generalize (if slotsOf l i = [] then 0 else 2) = ks at c1 hks
    have w1 : IntKind.i64.wrap (i + 1) = i + 1 := wrap_i64 (by omega) (by omega)
    conv at hr =>
      rhs
      rw [hTe]
      simp only [neaptidelaw10_LotCounts.loop2, neaptidelaw10_LotCounts.code, neaptidelaw10_LotCounts.rs, wk, List.getD_cons_succ, List.getD_cons_zero, if_true, if_false, List.getElem?_cons_succ, List.getElem?_cons_zero, Option.map_some, eq_self, reduceIte, Nat.reduceEqDiff, Int.reduceEq, Int.reduceLT, Int.reduceLE, d1, if_neg hk, c1, iz_len hks, goInt]
    generalize hL2 : loopV (vcodeV Try.prog O false neaptidelaw10_LotCounts.loop1) _ _ = r2 at hr
    obtain ⟨T2, S2, rfl, q1, q2, q3, q4, q5, q6, q7⟩ := neaptidelaw10_LotCounts.in1 hv hk hl hd hks hmem (slotsOf l i) [] done hL2 rfl rfl rfl rfl rfl rfl rfl rfl rfl hg hdone (by omega) (by omega)
    have hT2 := neaptidelaw10_LotCounts.eta q1
    rw [q2, q4, q5, q6] at hT2
    conv at hr =>
      rhs
      rw [hT2]
      simp only [neaptidelaw10_LotCounts.code, neaptidelaw10_LotCounts.rs, wk, List.getD_cons_succ, List.getD_cons_zero, if_true, if_false, List.getElem?_cons_succ, List.getElem?_cons_zero, Option.map_some, eq_self, reduceIte, Nat.reduceEqDiff, Int.reduceEq, Int.reduceLT, Int.reduceLE, w1]
    obtain ⟨T', S', p1, p2, p3, p4, p5, p6, p7⟩ := ih (i + 1) (done ++ slotsOf l i) ((loopV_step hr).symm.trans hL) rfl rfl rfl rfl rfl (by omega) (by omega) q7 (fun x hx => by
      rcases List.mem_append.1 hx with hx | hx
      · exact hdone x hx
      · have := hmem x hx; omega) (by rw [List.length_append]; omega)
    have e : done ++ slotsOf l i ++ (ints (i + 1) m).flatMap (slotsOf l) = done ++ (ints i (m + 1)).flatMap (slotsOf l) := by rw [ints, List.flatMap_cons, List.append_assoc]
    rw [e] at p6 p7
    exact ⟨T', S', p1, p2, p3, p4.trans q3, p5, p6, p7⟩

def mostN (l : List Int) (s : Int) (m : Nat) (a : Int) : Int := (ints s m).foldl (fun a s => if ((winners l s).length : Int) > a then (winners l s).length else a) a
theorem mostN_one (l : List Int) : ∀ (m : Nat) (s : Int) (a : Int), decide (mostN l s m a ≤ 1) = (decide (a ≤ 1) && (ints s m).all fun s => decide ((winners l s).length ≤ 1))
  | 0, s, a => by simp [mostN, ints]
  | m + 1, s, a => by
    have := mostN_one l m (s + 1) (if ((winners l s).length : Int) > a then (winners l s).length else a)
    unfold mostN at this ⊢
    rw [ints, List.foldl_cons, this, List.all_cons, ← Bool.and_assoc]
    congr 1
    rw [Bool.eq_iff_iff]
    simp only [decide_eq_true_eq, Bool.and_eq_true]
    split <;> omega
theorem winners_seen {l : List Int} {s : Int} (h1 : 1 ≤ s) (h2 : s ≤ l.length) : ((ints 0 7).flatMap (slotsOf l)).count s = (winners l s).length := by
  unfold slotsOf winners
  exact count_flatMap_len (p := fun n s => winB l s n) (ints_nodup _ _) ((mem_ints _ _ _).2 (by omega)) _

theorem neaptidelaw10_LotCounts.in3 (hv : Okl k l) (hk : k ≠ 2) (hl : l.length ≤ 200) (hd : ∀ d ∈ l, 0 ≤ d ∧ d ≤ 127) {q : Nat} {S : AHeap} {done : List Int} (hg : S.get q = some (.cells ((seenL done).map zc) (.own []) 0)) (hdone : ∀ x ∈ done, 0 ≤ x ∧ x < 201)
    (hcnt : ∀ s : Int, 1 ≤ s → s ≤ l.length → done.count s = (winners l s).length) : ∀ (m : Nat) (i w a : Int) {T : List Value} {r : St}, loopV (vcodeV Try.prog O false neaptidelaw10_LotCounts.loop3) T S = r → T.length = 80 →
    T.getD 0 undef = iz k l → T.getD 5 undef = .pointer (some ⟨q, 0, none⟩) → T.getD 10 undef = .int .i64 i → T.getD 4 undef = .int .i64 w → T.getD 9 undef = .int .i64 a → 1 ≤ i → i + m = l.length + 1 → 0 ≤ w → w + m * 7 ≤ 1400 →
    ∃ T', r = some (.exit 4, T', S) ∧ T'.length = 80 ∧ T'.getD 0 undef = iz k l ∧ T'.getD 3 undef = T.getD 3 undef ∧ T'.getD 4 undef = .int .i64 (w + ((ints i m).flatMap (winners l)).length) ∧ T'.getD 9 undef = .int .i64 (mostN l i m a) := by
  intro m
  induction m with
  | zero =>
    intro i w a T r hL hT h0 h5 h10 h4 h9 hi him hw hb
    have hTe := neaptidelaw10_LotCounts.eta hT
    rw [h0, h5, h10, h4, h9] at hTe
    have hr : vcodeV Try.prog O false neaptidelaw10_LotCounts.loop3 T S = vcodeV Try.prog O false neaptidelaw10_LotCounts.loop3 T S := rfl
    have d1 : ¬ i ≤ (l.length : Int) := by omega
    conv at hr =>
      rhs
      rw [hTe]
      simp only [neaptidelaw10_LotCounts.loop3, neaptidelaw10_LotCounts.code, neaptidelaw10_LotCounts.rs, wk, List.getD_cons_succ, List.getD_cons_zero, if_true, if_false, List.getElem?_cons_succ, List.getElem?_cons_zero, Option.map_some, eq_self, reduceIte, Nat.reduceEqDiff, Int.reduceEq, Int.reduceLT, Int.reduceLE, if_neg hk, iz_len hv, goInt, d1]
    rw [ints, List.flatMap_nil, show w + (([] : List Int).length : Int) = w by simp]
    exact ⟨_, hL.symm.trans (loopV_exit hr (by simp)), rfl, rfl, rfl, rfl, rfl⟩
  | succ m ih =>
    intro i w a T r hL hT h0 h5 h10 h4 h9 hi him hw hb
    have hTe := neaptidelaw10_LotCounts.eta hT
    rw [h0, h5, h10, h4, h9] at hTe
    have hr : vcodeV Try.prog O false neaptidelaw10_LotCounts.loop3 T S = vcodeV Try.prog O false neaptidelaw10_LotCounts.loop3 T S := rfl
    have d1 : i ≤ (l.length : Int) := by omega
    have c1 := fun S => lot_Winners.v hv hk hl hd (slot := i) S
    have h7 := winners_len l i
    have hkw : Okl (if winners l i = [] then 0 else 2) (winners l i) := okl_nil (.inl rfl)
    generalize (if winners l i = [] then 0 else 2) = kw at c1 hkw
    have hlen := seenL_len done
    have hsn : (seenL done).getD i.toNat 0 = (winners l i).length := by rw [seenL_get hdone (by omega) (by omega), hcnt i hi (by omega)]
    have a1 := fun S => idx_arr (P := Try.prog) (q := q) (o := 0) (k := .i64) (j := i) (S := S) u_A201_int s_int (by omega) (by omega)
    have l1 := load_int (t := 3) (o := 0 + i.toNat * 1) (k := .i64) (m := (winners l i).length) hg g_int (by
      rw [Nat.zero_add, Nat.mul_one, List.getElem?_map, ← hsn, List.getD_eq_getElem?_getD, List.getElem?_eq_getElem (by omega)]; rfl)
    have w1 : IntKind.i64.wrap (w + (winners l i).length) = w + (winners l i).length := wrap_i64 (by omega) (by omega)
    have w2 : IntKind.i64.wrap (i + 1) = i + 1 := wrap_i64 (by omega) (by omega)
    conv at hr =>
      rhs
      rw [hTe]
      simp only [neaptidelaw10_LotCounts.loop3, neaptidelaw10_LotCounts.code, neaptidelaw10_LotCounts.rs, wk, List.getD_cons_succ, List.getD_cons_zero, if_true, if_false, List.getElem?_cons_succ, List.getElem?_cons_zero, Option.map_some, eq_self, reduceIte, Nat.reduceEqDiff, Int.reduceEq, Int.reduceLT, Int.reduceLE, d1, if_neg hk, iz_len hv, c1, iz_len hkw, goInt, a1, l1, vMax, w1, w2]
    obtain ⟨T', p1, p2, p3, p4, p5, p6⟩ := ih (i + 1) (w + (winners l i).length) (if ((winners l i).length : Int) > a then (winners l i).length else a) ((loopV_step hr).symm.trans hL) rfl rfl rfl rfl rfl rfl (by omega) (by omega) (by omega) (by omega)
    refine ⟨T', p1, p2, p3, p4, ?_, ?_⟩
    · rw [p5, ints, List.flatMap_cons, List.length_append]
      congr 1
      omega
    · rw [p6]
      simp only [mostN, ints, List.foldl_cons]
theorem single_all (l : List Int) (m : Nat) : single l [0, 1, 2, 3, 4, 5, 6] 1 m = (ints 1 m).all fun s => decide ((winners l s).length ≤ 1) := by
  unfold single
  rw [Bool.eq_iff_iff, List.all_eq_true, List.all_eq_true]
  refine forall_congr' fun s => forall_congr' fun hs => ?_
  have hw : ∀ x ∈ winners l s, 0 ≤ x ∧ x < 7 := fun x hx => by
    unfold winners at hx
    rw [List.mem_filter, mem_ints] at hx
    omega
  match hw2 : winners l s with
  | [] => simp [oneOf]
  | [x] =>
    have := hw x (by rw [hw2]; simp)
    have h7 : x = 0 ∨ x = 1 ∨ x = 2 ∨ x = 3 ∨ x = 4 ∨ x = 5 ∨ x = 6 := by omega
    simp [oneOf]; omega
  | x :: y :: w => simp [oneOf]
end
theorem neaptidelaw10_lotAlive.v (S : AHeap) : vlim Try.prog O 8 [] S = some (.bool true, S) := vlim_run (n := 20) (by kernel_rfl)

namespace lotCounts
def codes : List (Bool × Ty) := [(false, .slc 8 (.int .i64))]
theorem coded : argsOf Try.prog 9 [22] = some codes := by kernel_rfl
theorem run {k : Nat} {l : List Int} (hk : Okl k l) (k2 : k ≠ 2) (hl : l.length ≤ 17592186043904) (S : AHeap) : ∃ S', vlim Try.prog O 6 [iz k l] S = some (.bool true, S') := by
  obtain ⟨T, hTe⟩ : ∃ T, T = (iz k l :: undef :: undef :: undef :: undef :: undef :: undef :: undef :: undef :: undef :: undef :: undef :: undef :: undef :: undef :: undef :: undef :: undef :: undef :: undef :: undef :: undef :: undef :: undef :: undef :: undef :: undef :: undef :: undef :: undef :: undef :: undef :: undef :: undef :: undef :: undef :: undef :: undef :: undef :: undef :: undef :: undef :: undef :: undef :: undef :: undef :: undef :: undef :: undef :: undef :: undef :: undef :: undef :: undef :: undef :: undef :: undef :: undef :: undef :: undef :: undef :: undef :: undef :: undef :: undef :: undef :: undef :: undef :: undef :: undef :: undef :: undef :: undef :: undef :: undef :: undef :: undef :: undef :: undef :: undef :: []) := ⟨_, rfl⟩
  have hr : vcodeV Try.prog O false neaptidelaw10_LotCounts.code T S = vcodeV Try.prog O false neaptidelaw10_LotCounts.code T S := rfl
  have c0 := fun S => lot_Check.v hk k2 (by omega) S
  by_cases h1 : chkN l = 0
  · obtain ⟨h2, h3⟩ := chkN_ok h1
    obtain ⟨S2, s1, g1, x1, n1⟩ := new_store (P := Try.prog) (t := 30) (z := List.replicate 201 (.int .i64 0)) (xs := List.replicate 201 (.int .i64 0)) (x := .agg (List.replicate 201 (.int .i64 0)).toArray) S (by rw [cells_agg]) (by rw [List.length_replicate]; exact s_A201_int) rfl (by rw [List.all_eq_true]; intro x hx; rw [List.eq_of_mem_replicate hx]; rfl)
    conv at hr =>
      rhs
      rw [hTe]
      simp only [neaptidelaw10_LotCounts.code, neaptidelaw10_LotCounts.rs, wk, List.getD_cons_succ, List.getD_cons_zero, if_true, if_false, List.getElem?_cons_succ, List.getElem?_cons_zero, Option.map_some, eq_self, reduceIte, Nat.reduceEqDiff, Int.reduceEq, Int.reduceLT, Int.reduceLE, neaptidelaw10_lotAlive.v, if_neg k2, c0, h1, bd_seen, al_seen, dem_agg, s1]
    generalize hL : loopV (vcodeV Try.prog O false neaptidelaw10_LotCounts.loop2) _ _ = r at hr
    have hg0 : S2.get S.next = some (.cells ((seenL []).map zc) (.own []) 0) := by rw [g1]; rfl
    obtain ⟨T', S', rfl, q1, q2, q3, q4, q5, q6⟩ := neaptidelaw10_LotCounts.in2 hk k2 h2 h3 7 0 [] hL rfl rfl rfl rfl rfl (by omega) (by omega) hg0 (fun x hx => by cases hx) (by simp)
    have q3 : T'.getD 4 undef = .int .i64 0 := q3
    rw [List.nil_append] at q5 q6
    have hT' := neaptidelaw10_LotCounts.eta q1
    rw [q2, q3, q4, q5] at hT'
    conv at hr =>
      rhs
      rw [hT']
      simp only [neaptidelaw10_LotCounts.code, neaptidelaw10_LotCounts.rs, wk, List.getD_cons_succ, List.getD_cons_zero, if_true, if_false, List.getElem?_cons_succ, List.getElem?_cons_zero, Option.map_some, eq_self, reduceIte, Nat.reduceEqDiff, Int.reduceEq, Int.reduceLT, Int.reduceLE]
    generalize hL2 : loopV (vcodeV Try.prog O false neaptidelaw10_LotCounts.loop3) _ _ = r at hr
    obtain ⟨T2, rfl, p1, p2, p3, p4, p5⟩ := neaptidelaw10_LotCounts.in3 hk k2 h2 h3 q6 (fun x hx => by
      obtain ⟨n, _, hx⟩ := List.mem_flatMap.1 hx
      have := slots_mem hx; omega) (fun s a b => winners_seen a b) l.length 1 0 0 hL2 rfl rfl rfl rfl rfl rfl (by omega) (by omega) (by omega) (by omega)
    have p3 : T2.getD 3 undef = .int .i64 ((ints 0 7).flatMap (slotsOf l)).length := p3
    have hT2 := neaptidelaw10_LotCounts.eta p1
    rw [p2, p3, p4, p5] at hT2
    have ec : ((ints 0 7).flatMap (slotsOf l)).length = ((ints 1 l.length).flatMap (winners l)).length := swap_len (fun n s => winB l s n) (ints 0 7) (ints 1 l.length)
    have e2 : (((ints 0 7).flatMap (slotsOf l)).length : Int) = 0 + ((ints 1 l.length).flatMap (winners l)).length := by rw [ec]; omega
    have b7 : ∀ S, vBuildSlice Try.prog 22 7 [(0, (.int .i64 0)), (1, (.int .i64 1)), (2, (.int .i64 2)), (3, (.int .i64 3)), (4, (.int .i64 4)), (5, (.int .i64 5)), (6, (.int .i64 6))] S = some (iz 2 [0, 1, 2, 3, 4, 5, 6], S) := fun S => by kernel_rfl
    have c3 := fun S => lot_Single.v hk k2 h2 h3 (Okl.read (l := [0, 1, 2, 3, 4, 5, 6])) (by decide) (by decide) S
    have em : decide (mostN l 1 l.length 0 ≤ 1) = single l [0, 1, 2, 3, 4, 5, 6] 1 l.length := by rw [mostN_one, single_all]; rfl
    conv at hr =>
      rhs
      rw [hT2]
      simp only [neaptidelaw10_LotCounts.code, neaptidelaw10_LotCounts.rs, wk, List.getD_cons_succ, List.getD_cons_zero, if_true, if_false, List.getElem?_cons_succ, List.getElem?_cons_zero, Option.map_some, eq_self, reduceIte, Nat.reduceEqDiff, Int.reduceEq, Int.reduceLT, Int.reduceLE, e2, b7, if_neg k2, c3, em, tf_eql, beq_self_eq_true]
    rw [hTe] at hr
    exact ⟨_, neaptidelaw10_LotCounts.runs hr (.inr rfl)⟩
  · conv at hr =>
      rhs
      rw [hTe]
      simp only [neaptidelaw10_LotCounts.code, neaptidelaw10_LotCounts.rs, wk, List.getD_cons_succ, List.getD_cons_zero, if_true, if_false, List.getElem?_cons_succ, List.getElem?_cons_zero, Option.map_some, eq_self, reduceIte, Nat.reduceEqDiff, Int.reduceEq, Int.reduceLT, Int.reduceLE, neaptidelaw10_lotAlive.v, if_neg k2, c0, h1]
    rw [hTe] at hr
    exact ⟨_, neaptidelaw10_LotCounts.runs hr (.inr rfl)⟩
theorem law (x : Args codes) (h : Args.Good codes x) : ∃ k, (acall Try.prog k 6 (Args.place codes x AHeap.empty).1 (Args.place codes x AHeap.empty).2).map (·.1) = some (.bool true) := by
  obtain ⟨a, u⟩ := x
  obtain ⟨h1, _⟩ := h
  obtain ⟨k, l, p1, p2, p3, p4, p5⟩ := in_ints a h1
  obtain ⟨S', e⟩ := run p1 p2 p4 AHeap.empty
  refine law_of_vlim ora_ok (S' := S') ?_
  have e2 : Args.vval codes (a, u) = [iz k l] := by
    show [argOf false ((Ty.slc 8 (.int .i64)).vval a)] = _
    rw [p3]; rfl
  rw [e2]
  exact e
end lotCounts
end Go.Proofs.Ytooljmmlekmkeaa
