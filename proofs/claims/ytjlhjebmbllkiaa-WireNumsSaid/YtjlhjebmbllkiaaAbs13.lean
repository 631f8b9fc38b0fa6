/-
Regions that draw their order: the walk over all orders.
-/
import Derived.Test.YtjlhjebmbllkiaaAbs12
set_option linter.unusedVariables false
set_option linter.unusedSimpArgs false
namespace Go.Abs
open Go.RowKit
section
variable {P : Program} {B : Nat} {w0 : World} {m : Mp} {H H' : AHeap} {w : World}

theorem count_set {l : List Bool} {i : Nat} (h : l[i]? = some false) : (l.set i true).count false + 1 = l.count false := by
  induction l generalizing i with
  | nil => simp at h
  | cons b l ih =>
    cases i with
    | zero => simp at h; subst h; simp
    | succ i =>
      simp at h
      have := ih (i := i) (by simpa using h)
      simp only [List.set_cons_succ, List.count_cons]
      omega
theorem count_zero {l : List Bool} (h : l.count false = 0) {i : Nat} (hi : i < l.length) : l[i]? = some true := by
  have : false ∉ l := List.count_eq_zero.1 h
  rw [List.getElem?_eq_getElem hi]
  cases hb : l[i] with
  | true => rfl
  | false => exact absurd (hb ▸ List.getElem_mem hi) this

structure DInv (P : Program) (B : Nat) (w0 : World) (m : Mp) (l : List Oper) (T : List Value) (Hs : Nat → AHeap) (vs : Nat → Value) (listed : Array Bool) (a : Act) (w : World) : Prop where
  size : listed.size = l.length
  down : ∀ i j, listed.getD i false = true → pre (masks l []) i j = true → listed.getD j false = true
  state : ∃ m', m.le m' ∧ a.tmps.size = T.length ∧ (∀ t, VR m' (cur (fun k => listed.getD k false) (dstAt l) vs T l.length t) (a.tmps.getD t undef)) ∧ a.defers = [] ∧
    Rel B w0 m' (hcur (fun k => listed.getD k false) (chAt P l) Hs l.length) w

theorem getD_false {listed : Array Bool} {i : Nat} (h : listed.getD i true = false) : i < listed.size ∧ listed.getD i false = false := by
  by_cases hi : i < listed.size
  · refine ⟨hi, ?_⟩
    simp [Array.getD_eq_getD_getElem?, hi] at h ⊢
    exact h
  · simp [Array.getD_eq_getD_getElem?, Array.getElem?_eq_none (Nat.le_of_not_lt hi)] at h

theorem drawn_any {call : FuncId → List Value → M Value} (hc : CallOK P B w0 call) {ops : Array Oper} {T : List Value} {Ts : Nat → List Value} {Hs : Nat → AHeap} {vs : Nat → Value}
    (htr : Tr P call ops ops.toList T H Ts Hs vs) (hdraw : drawOk P ops = true)
    (hchk : ∀ i o, ops.toList[i]? = some o → isCh P o = false → Region.wanted o (ynd ops (Ts i)) = true → ∀ k, k < ops.toList.length → chAt P ops.toList k = true → pre (masks ops.toList []) i k = false → pre (masks ops.toList []) k i = false →
      ∃ v' G', aOp P (evalT (Ts i)) o (Hs (if k < i then k else k + 1)) = some (v', G') ∧ v' = vs i)
    {Q : Exit → Act → World → Prop} (hQ : ∀ a' w', Post B w0 m (Ts ops.toList.length) (Hs ops.toList.length) a' w' → Q .normal a' w') :
    ∀ (fuel : Nat) (listed : Array Bool) (a : Act) (w : World), DInv P B w0 m ops.toList T Hs vs listed a w → listed.toList.count false = fuel → wpAny P .any ops Q fuel listed a w := by
  simp only [drawOk, Bool.and_eq_true] at hdraw
  obtain ⟨hedge, hpairs⟩ := hdraw
  have hn : ops.toList.length = ops.size := Array.length_toList
  generalize hl : ops.toList = l at *
  have hget : ∀ i : Nat, ops[i]? = l[i]? := fun i => by rw [← hl]; simp
  -- all listed
  have fin : ∀ (listed : Array Bool) (a : Act) (w : World), DInv P B w0 m l T Hs vs listed a w → (∀ i, i < l.length → listed.getD i false = true) → Q .normal a w := by
    intro listed a w hI hall
    obtain ⟨m', hm, hsz, hvr, hd, hrel⟩ := hI.state
    refine hQ a w ⟨m', hm, ⟨by rw [htr.len _ (Nat.le_refl _)]; simp [hsz], fun t => ?_⟩, hd, ?_⟩
    · have := hvr t
      rw [cur_agree (Nat.le_refl _) (fun k hk _ => hall k hk) (fun k h1 h2 => by omega), htr.fullT _ (Nat.le_refl _)] at this
      simpa [List.getD_eq_getElem?_getD, Array.getD_eq_getD_getElem?] using this
    · rw [hcur_agree (Nat.le_refl _) (fun k hk _ => hall k hk) (fun k h1 h2 => by omega), htr.fullH _ (Nat.le_refl _)] at hrel
      exact hrel
  have pairs : ∀ x y ox oy, l[x]? = some ox → l[y]? = some oy → x ≠ y → pre (masks l []) x y = false → pre (masks l []) y x = false →
      (∀ d, ox.dst = some d → d ∉ oy.looksAt ops) ∧ (∀ d, ox.dst = some d → oy.dst ≠ some d) ∧ ¬ (isCh P ox = true ∧ isCh P oy = true) := by
    have half : ∀ i j oi oj, l[i]? = some oi → l[j]? = some oj → j < i → pre (masks l []) i j = false → Oper.apart ops oj oi = true ∧ ¬ (isCh P oj = true ∧ isCh P oi = true) := by
      intro i j oi oj hi hj hji hp
      have hil : i < l.length := (List.getElem?_eq_some_iff.1 hi).1
      have := List.all_eq_true.1 (List.all_eq_true.1 hpairs i (List.mem_range.2 hil)) j (List.mem_range.2 hji)
      rw [hp, hi, hj] at this
      simp only [Bool.false_or, Bool.and_eq_true, Bool.not_eq_true', Bool.and_eq_false_iff] at this
      refine ⟨this.1, fun ⟨h1, h2⟩ => ?_⟩
      rcases this.2 with h | h
      · rw [h1] at h; cases h
      · rw [h2] at h; cases h
    intro x y ox oy hx hy hne h1 h2
    rcases Nat.lt_or_gt_of_ne hne with hlt | hgt
    · obtain ⟨ha, hb⟩ := half y x oy ox hy hx hlt h2
      obtain ⟨a1, a2, a3⟩ := Oper.apart_spec ha
      exact ⟨a1, a2, hb⟩
    · obtain ⟨ha, hb⟩ := half x y ox oy hx hy hgt h1
      obtain ⟨a1, a2, a3⟩ := Oper.apart_spec ha
      exact ⟨a3, fun d hd e => a2 d e hd, fun ⟨p, q⟩ => hb ⟨q, p⟩⟩
  intro fuel
  induction fuel with
  | zero =>
    intro listed a w hI hcnt
    have hall : ∀ i, i < l.length → listed.getD i false = true := by
      intro i hi
      have := count_zero hcnt (i := i) (by simpa [hI.size] using hi)
      simp at this
      simp [Array.getD_eq_getD_getElem?, this]
    refine ⟨?_, fin listed a w hI hall⟩
    rw [List.eq_nil_iff_forall_not_mem]
    intro j hj
    obtain ⟨h1, _⟩ := mem_ready.1 hj
    obtain ⟨h2, h3⟩ := getD_false h1
    rw [hall j (by rw [← hI.size]; exact h2)] at h3
    cases h3
  | succ fuel ih =>
    intro listed a w hI hcnt
    refine ⟨fun hnil => ?_, fun j hj => ?_⟩
    · -- something is unlisted; the first such is ready
      exfalso
      have hex : ∃ i, i < l.length ∧ listed.getD i false = false := by
        have : false ∈ listed.toList := List.count_pos_iff.1 (by omega)
        obtain ⟨i, hi, hb⟩ := List.mem_iff_getElem.1 this
        refine ⟨i, by rw [← hI.size]; simpa using hi, ?_⟩
        simp at hb hi
        simp [Array.getD_eq_getD_getElem?, hi, hb]
      obtain ⟨i, hi, hp, hmin⟩ := exists_first _ hex
      have ho : l[i]? = some l[i] := List.getElem?_eq_getElem hi
      have hmem : i ∈ Region.ready .any ops listed := by
        refine mem_ready.2 ⟨?_, l[i], by rw [hget]; exact ho, fun e he hb => ?_⟩
        · have : i < listed.size := by rw [hI.size]; exact hi
          simp [Array.getD_eq_getD_getElem?, this] at hp ⊢
          exact hp
        · have hlt : e.on < i := pre_lt hedge i e.on ((pre_iff hedge ho).2 ⟨e, he, hb, .inl rfl⟩)
          have := hmin e.on hlt
          simpa using this
      rw [hnil] at hmem
      cases hmem
    · -- an operation that is ready
      obtain ⟨h1, o, ho, hpre⟩ := mem_ready.1 hj
      obtain ⟨hjs, hjf⟩ := getD_false h1
      rw [hget] at ho
      have hjl : j < l.length := (List.getElem?_eq_some_iff.1 ho).1
      obtain ⟨m', hm, hsz, hvr, hd, hrel⟩ := hI.state
      have predsL : ∀ i, pre (masks l []) j i = true → listed.getD i false = true := by
        intro i hp
        obtain ⟨e, he, hb, h⟩ := (pre_iff hedge ho).1 hp
        rcases h with rfl | h
        · exact hpre e he hb
        · exact hI.down e.on i (hpre e he hb) h
      have succsN : ∀ i, pre (masks l []) i j = true → listed.getD i false = false := by
        intro i hp
        cases hh : listed.getD i false with
        | false => rfl
        | true => rw [hI.down i j hh hp] at hjf; cases hjf
      have hdj : dstAt l j = o.dst := by simp [dstAt, ho]
      have hcj : chAt P l j = isCh P o := by simp [chAt, ho]
      -- writers of what the operation looks at, or writes
      have writers : ∀ k t, k < l.length → k ≠ j → dstAt l k = some t → (t ∈ o.looksAt ops ∨ o.dst = some t) → (k < j → listed.getD k false = true) ∧ (j < k → listed.getD k false = false) := by
        intro k t hk hkj hdk hor
        have hok : l[k]? = some l[k] := List.getElem?_eq_getElem hk
        have hdk' : l[k].dst = some t := by simpa [dstAt, hok] using hdk
        have comp : pre (masks l []) j k = true ∨ pre (masks l []) k j = true := by
          cases e1 : pre (masks l []) j k with
          | true => exact .inl rfl
          | false =>
            cases e2 : pre (masks l []) k j with
            | true => exact .inr rfl
            | false =>
              obtain ⟨p1, p2, _⟩ := pairs k j _ _ hok ho hkj e2 e1
              rcases hor with h | h
              · exact absurd h (p1 t hdk')
              · exact absurd h (p2 t hdk')
        constructor
        · intro hlt
          rcases comp with c | c
          · exact predsL k c
          · have := pre_lt hedge k j c; omega
        · intro hlt
          rcases comp with c | c
          · have := pre_lt hedge j k c; omega
          · exact succsN k c
      -- the temporaries as they stand
      have hTl : ∀ t, ((List.range T.length).map (cur (fun k => listed.getD k false) (dstAt l) vs T l.length)).getD t undef = cur (fun k => listed.getD k false) (dstAt l) vs T l.length t := by
        intro t
        by_cases ht : t < T.length
        · simp [List.getD_eq_getElem?_getD, ht]
        · have hz : ∀ n, cur (fun k => listed.getD k false) (dstAt l) vs T n t = undef := by
            intro n
            induction n with
            | zero => simp [cur, List.getD_eq_getElem?_getD, List.getElem?_eq_none (Nat.le_of_not_lt ht)]
            | succ n ihn => rw [cur, if_neg (fun hh => ht hh.2.2), ihn]
          rw [hz, List.getD_eq_getElem?_getD, List.getElem?_eq_none (by simp; omega)]
          rfl
      generalize hTc : (List.range T.length).map (cur (fun k => listed.getD k false) (dstAt l) vs T l.length) = Tc at hTl
      have hTclen : Tc.length = T.length := by rw [← hTc]; simp
      have hLR : LR m' Tc a.tmps.toList := by
        refine ⟨by rw [hTclen]; simp [hsz], fun t => ?_⟩
        rw [hTl]
        simpa [List.getD_eq_getElem?_getD, Array.getD_eq_getD_getElem?] using hvr t
      have hlook : ∀ t, t ∈ o.looksAt ops → Tc.getD t undef = (Ts j).getD t undef := by
        intro t ht
        rw [hTl, ← htr.fullT j (by omega)]
        refine cur_agree (by omega) (fun k hk hdk => (writers k t (by omega) (by omega) hdk (.inl ht)).1 hk) (fun k hk1 hk2 hdk => ?_)
        by_cases e : k = j
        · subst e; exact hjf
        · exact (writers k t hk2 e hdk (.inl ht)).2 (by omega)
      have hTslen : (Ts j).length = T.length := htr.len j (by omega)
      have hevs : ∀ x ∈ o.op.operands.toList, evalT Tc x = evalT (Ts j) x := by
        intro x hx
        cases x with
        | tmp t => exact hlook t (List.mem_append_left _ (List.mem_filterMap.2 ⟨.tmp t, hx, rfl⟩))
        | const v => rfl
        | global g => rfl
        | func f => rfl
      have hstep : aStep P call Tc o = aStep P call (Ts j) o := step_congr hevs
      have hwant : Region.wanted o (yielded ops a.tmps) = Region.wanted o (ynd ops (Ts j)) := by
        unfold Region.wanted
        cases hg : o.guard with
        | none => rfl
        | some gw =>
          obtain ⟨g, wv⟩ := gw
          simp only [ynd_eq hLR]
          have : ynd ops Tc g = ynd ops (Ts j) g := by
            unfold ynd
            cases hdg : (ops[g]?).bind (·.dst) with
            | none => rfl
            | some d =>
              have hmem : d ∈ o.looksAt ops := List.mem_append_right _ (by rw [hg]; simp [hdg])
              have := hlook d hmem
              simp only [Option.bind_some]
              by_cases hdl : d < T.length
              · have a1 : d < Tc.length := by rw [hTclen]; exact hdl
                have a2 : d < (Ts j).length := by rw [hTslen]; exact hdl
                simp only [List.getD_eq_getElem?_getD, List.getElem?_eq_getElem a1, List.getElem?_eq_getElem a2, Option.getD_some] at this ⊢
                rw [this]
              · rw [List.getElem?_eq_none (by rw [hTclen]; exact Nat.le_of_not_lt hdl), List.getElem?_eq_none (by rw [hTslen]; exact Nat.le_of_not_lt hdl)]
          rw [this]
      -- what is listed next
      have hL' : ∀ k, k ≠ j → (listed.setIfInBounds j true).getD k false = listed.getD k false := fun k hk => getD_set_ne false (fun e => hk e.symm)
      have hLj : (listed.setIfInBounds j true).getD j false = true := by simp [Array.getD_eq_getD_getElem?, hjs]
      have hcnt' : (listed.setIfInBounds j true).toList.count false = fuel := by
        have hb : listed.toList[j]? = some false := by
          simp only [Array.getElem?_toList, Array.getElem?_eq_getElem hjs]
          simp [Array.getD_eq_getD_getElem?, hjs] at hjf
          rw [hjf]
        have := count_set hb
        rw [Array.toList_setIfInBounds]
        omega
      -- the new state
      have next : ∀ (v' : Value) (m2 : Mp) (w2 : World), VR m2 (vs j) v' → m'.le m2 → Rel B w0 m2 (hcur (fun k => (listed.setIfInBounds j true).getD k false) (chAt P l) Hs l.length) w2 →
          wpAny P .any ops Q fuel (listed.setIfInBounds j true) (a.put o.dst v') w2 := by
        intro v' m2 w2 hv hm2 hrel2
        refine ih _ _ _ ⟨by simpa using hI.size, ?_, m2, Mp.le_trans hm hm2, ?_, ?_, ?_, hrel2⟩ hcnt'
        · intro i k hi hp
          by_cases hij : i = j
          · subst hij
            have hk := predsL k hp
            by_cases hki : k = i
            · subst hki; exact hLj
            · rw [hL' k hki]; exact hk
          · rw [hL' i hij] at hi
            have hk := hI.down i k hi hp
            by_cases hkj : k = j
            · subst hkj; exact hLj
            · rw [hL' k hkj]; exact hk
        · cases hdo : o.dst with
          | none => exact hsz
          | some d => simpa [Act.put] using hsz
        · intro t
          by_cases hdt : o.dst = some t
          · by_cases ht : t < T.length
            · have e1 : cur (fun k => (listed.setIfInBounds j true).getD k false) (dstAt l) vs T l.length t = vs j := by
                rw [cur_agree (j := j + 1) (by omega)]
                · rw [cur, if_pos ⟨rfl, by rw [hdj]; exact hdt, ht⟩]
                · intro k hk hdk
                  by_cases e : k = j
                  · subst e; exact hLj
                  · rw [hL' k e]; exact (writers k t (by omega) e hdk (.inr hdt)).1 (by omega)
                · intro k hk1 hk2 hdk
                  rw [hL' k (by omega)]; exact (writers k t hk2 (by omega) hdk (.inr hdt)).2 (by omega)
              rw [e1, hdt]
              have hts : t < a.tmps.size := by rw [hsz]; exact ht
              have : (a.put (some t) v').tmps.getD t undef = v' := by simp [Act.put, Array.getD_eq_getD_getElem?, hts]
              rw [this]; exact hv
            · have hz : ∀ n, cur (fun k => (listed.setIfInBounds j true).getD k false) (dstAt l) vs T n t = undef := by
                intro n
                induction n with
                | zero => simp [cur, List.getD_eq_getElem?_getD, List.getElem?_eq_none (Nat.le_of_not_lt ht)]
                | succ n ihn => rw [cur, if_neg (fun hh => ht hh.2.2), ihn]
              rw [hz]
              have hsize : (a.put o.dst v').tmps.size = a.tmps.size := by cases o.dst <;> simp [Act.put]
              have : (a.put o.dst v').tmps.getD t undef = undef := by
                rw [Array.getD_eq_getD_getElem?, Array.getElem?_eq_none (by rw [hsize, hsz]; exact Nat.le_of_not_lt ht)]; rfl
              rw [this]; exact VR.undef
          · rw [cur_other hL' (by rw [hdj]; exact hdt)]
            have : (a.put o.dst v').tmps.getD t undef = a.tmps.getD t undef := by
              cases hdo : o.dst with
              | none => rfl
              | some d =>
                have hne : d ≠ t := fun e => hdt (by rw [hdo, e])
                simp [Act.put, Array.getD_eq_getD_getElem?, Array.getElem?_setIfInBounds_ne hne]
            rw [this]
            exact (hvr t).mono hm2
        · cases o.dst <;> exact hd
      -- changers
      have chOrd : isCh P o = true → ∀ k, k < l.length → k ≠ j → chAt P l k = true → (k < j → listed.getD k false = true) ∧ (j < k → listed.getD k false = false) := by
        intro hco k hk hkj hck
        have hok : l[k]? = some l[k] := List.getElem?_eq_getElem hk
        have hck' : isCh P l[k] = true := by simpa [chAt, hok] using hck
        have comp : pre (masks l []) j k = true ∨ pre (masks l []) k j = true := by
          cases e1 : pre (masks l []) j k with
          | true => exact .inl rfl
          | false =>
            cases e2 : pre (masks l []) k j with
            | true => exact .inr rfl
            | false => exact absurd ⟨hck', hco⟩ (pairs k j _ _ hok ho hkj e2 e1).2.2
        constructor
        · intro hlt
          rcases comp with c | c
          · exact predsL k c
          · have := pre_lt hedge k j c; omega
        · intro hlt
          rcases comp with c | c
          · have := pre_lt hedge j k c; omega
          · exact succsN k c
      have hNow : isCh P o = true → hcur (fun k => listed.getD k false) (chAt P l) Hs l.length = Hs j := by
        intro hco
        rw [← htr.fullH j (by omega)]
        refine hcur_agree (by omega) (fun k hk hck => (chOrd hco k (by omega) (by omega) hck).1 hk) (fun k h1 h2 hck => ?_)
        by_cases e : k = j
        · subst e; exact hjf
        · exact (chOrd hco k h2 e hck).2 (by omega)
      have hThen : isCh P o = true → hcur (fun k => (listed.setIfInBounds j true).getD k false) (chAt P l) Hs l.length = Hs (j + 1) := by
        intro hco
        rw [← htr.fullH (j + 1) (by omega)]
        refine hcur_agree (by omega) (fun k hk hck => ?_) (fun k h1 h2 hck => ?_)
        · by_cases e : k = j
          · subst e; exact hLj
          · rw [hL' k e]; exact (chOrd hco k (by omega) e hck).1 (by omega)
        · rw [hL' k (by omega)]; exact (chOrd hco k h2 (by omega) hck).2 (by omega)
      have hStill : isCh P o = false → hcur (fun k => (listed.setIfInBounds j true).getD k false) (chAt P l) Hs l.length = hcur (fun k => listed.getD k false) (chAt P l) Hs l.length :=
        fun hco => hcur_other hL' (by rw [hcj]; exact hco) _
      have hH := htr.stepH j o ho
      unfold wpOp
      rw [hget, ho]
      simp only []
      rw [hwant]
      split
      · rename_i hw
        rw [if_pos hw] at hH
        -- what the step comes to where it stands
        have hst : ∃ G', aStep P call Tc o (hcur (fun k => listed.getD k false) (chAt P l) Hs l.length) = some (vs j, G') ∧ G' = hcur (fun k => (listed.setIfInBounds j true).getD k false) (chAt P l) Hs l.length := by
          rw [hstep]
          cases hco : isCh P o with
          | true => rw [hNow hco, hThen hco]; exact ⟨_, hH, rfl⟩
          | false =>
            rw [hStill hco]
            have hok : opOk o = true := by
              rw [step_noCh hco] at hH
              split at hH
              · rename_i h; exact h
              · cases hH
            rw [step_noCh hco, if_pos hok] at hH
            rw [step_noCh hco, if_pos hok]
            have viaChk : ∀ k, k < l.length → chAt P l k = true → pre (masks l []) j k = false → pre (masks l []) k j = false → hcur (fun k => listed.getD k false) (chAt P l) Hs l.length = Hs (if k < j then k else k + 1) →
                ∃ G', aOp P (evalT (Ts j)) o (hcur (fun k => listed.getD k false) (chAt P l) Hs l.length) = some (vs j, G') ∧ G' = hcur (fun k => listed.getD k false) (chAt P l) Hs l.length := by
              intro k hk hck p1 p2 he
              obtain ⟨v', G', hv, rfl⟩ := hchk j o ho hco hw k hk hck p1 p2
              rw [← he] at hv
              exact ⟨G', hv, noCh_same hco hv⟩
            have down2 : ∀ k k', k < l.length → k' < k → chAt P l k = true → chAt P l k' = true → listed.getD k false = true → listed.getD k' false = true := by
              intro k k' hk hlt hck hck' hLk
              have hok1 : l[k]? = some l[k] := List.getElem?_eq_getElem hk
              have hok2 : l[k']? = some l[k'] := List.getElem?_eq_getElem (by omega)
              cases e1 : pre (masks l []) k k' with
              | true => exact hI.down k k' hLk e1
              | false =>
                have e2 : pre (masks l []) k' k = false := by
                  cases e2 : pre (masks l []) k' k with
                  | false => rfl
                  | true => have := pre_lt hedge k' k e2; omega
                exact absurd ⟨by simpa [chAt, hok1] using hck, by simpa [chAt, hok2] using hck'⟩ (pairs k k' _ _ hok1 hok2 (by omega) e1 e2).2.2
            by_cases hA : ∃ k, k < j ∧ (chAt P l k = true ∧ listed.getD k false = false)
            · obtain ⟨k, hkj, ⟨hck, hLk⟩, hmin⟩ := exists_first j hA
              have he : hcur (fun k => listed.getD k false) (chAt P l) Hs l.length = Hs k := by
                rw [← htr.fullH k (by omega)]
                refine hcur_agree (by omega) (fun k' hk' hck' => ?_) (fun k' h1 h2 hck' => ?_)
                · cases hh : listed.getD k' false with
                  | true => rfl
                  | false => exact absurd ⟨hck', hh⟩ (hmin k' hk')
                · by_cases e : k' = k
                  · subst e; exact hLk
                  · cases hh : listed.getD k' false with
                    | false => rfl
                    | true => rw [down2 k' k h2 (by omega) hck' hck hh] at hLk; cases hLk
              refine viaChk k (by omega) hck ?_ ?_ (by rw [if_pos hkj]; exact he)
              · cases e : pre (masks l []) j k with
                | false => rfl
                | true => rw [predsL k e] at hLk; cases hLk
              · cases e : pre (masks l []) k j with
                | false => rfl
                | true => have := pre_lt hedge k j e; omega
            · by_cases hB : ∃ k, k < l.length ∧ (j < k ∧ chAt P l k = true ∧ listed.getD k false = true)
              · obtain ⟨k, hk, ⟨hjk, hck, hLk⟩, hmax⟩ := exists_last _ hB
                have he : hcur (fun k => listed.getD k false) (chAt P l) Hs l.length = Hs (k + 1) := by
                  rw [← htr.fullH (k + 1) (by omega)]
                  refine hcur_agree (by omega) (fun k' hk' hck' => ?_) (fun k' h1 h2 hck' => ?_)
                  · by_cases e : k' = k
                    · subst e; exact hLk
                    · exact down2 k k' hk (by omega) hck hck' hLk
                  · cases hh : listed.getD k' false with
                    | false => rfl
                    | true => exact absurd ⟨by omega, hck', hh⟩ (hmax k' (by omega) h2)
                refine viaChk k hk hck ?_ ?_ (by rw [if_neg (by omega)]; exact he)
                · cases e : pre (masks l []) j k with
                  | false => rfl
                  | true => have := pre_lt hedge j k e; omega
                · cases e : pre (masks l []) k j with
                  | false => rfl
                  | true => rw [succsN k e] at hLk; cases hLk
              · have he : hcur (fun k => listed.getD k false) (chAt P l) Hs l.length = Hs j := by
                  rw [← htr.fullH j (by omega)]
                  refine hcur_agree (by omega) (fun k hk hck => ?_) (fun k h1 h2 hck => ?_)
                  · cases hh : listed.getD k false with
                    | true => rfl
                    | false => exact absurd ⟨k, hk, hck, hh⟩ hA
                  · by_cases e : k = j
                    · subst e; exact hjf
                    · cases hh : listed.getD k false with
                      | false => rfl
                      | true => exact absurd ⟨k, h2, by omega, hck, hh⟩ hB
                rw [he]
                exact ⟨_, hH, noCh_same hco hH⟩
        obtain ⟨G', hst, hG'⟩ := hst
        refine .inl (step_wp hc hrel hLR hst ?_)
        intro v' w2 m2 hv hm2 hrel2
        exact next v' m2 w2 hv hm2 (by rw [← hG']; exact hrel2)
      · rename_i hw
        rw [if_neg hw] at hH
        refine next undef m' w (by rw [hH.1]; exact VR.undef) (Mp.le_refl m') ?_
        cases hco : isCh P o with
        | true => rw [hThen hco, hH.2, ← hNow hco]; exact hrel
        | false => rw [hStill hco]; exact hrel

/-- A region that draws its order. -/
theorem sim_drawn {call : FuncId → List Value → M Value} (hc : CallOK P B w0 call) (hmix : P.follows .mixedOrders = true) {id : Nat} {ops : Array Oper} {T T' : List Value} {Q : Exit → Act → World → Prop} {a : Act}
    (h : aDrawn P call ops T H = some (T', H')) (hT : LR m T a.tmps.toList) (hd : a.defers = []) (hr : Rel B w0 m H w) (hQ : ∀ a' w', Post B w0 m T' H' a' w' → Q .normal a' w') :
    (Code.region id ops true).wp P Q a w := by
  unfold aDrawn at h
  split at h
  · rename_i hdraw
    split at h
    · rename_i tr T2 H2 htr
      split at h
      · rename_i hall
        simp only [Option.some.injEq, Prod.mk.injEq] at h
        obtain ⟨rfl, rfl⟩ := h
        obtain ⟨hlen, hTr⟩ := trace_tr _ _ _ _ _ _ htr
        have e1 : tsOf tr T2 ops.toList.length = T2 := by unfold tsOf; rw [List.getElem?_eq_none (by omega)]
        have e2 : hsOf tr H2 ops.toList.length = H2 := by unfold hsOf; rw [List.getElem?_eq_none (by omega)]
        refine wp_region_any hmix (drawn_any (m := m) hc hTr hdraw ?_ (fun a' w' hp => hQ a' w' (by rw [e1, e2] at hp; exact hp)) ops.size _ a _ ?_ ?_)
        · intro i o ho hco hw k hk hck p1 p2
          have hil : i < ops.toList.length := (List.getElem?_eq_some_iff.1 ho).1
          have hone := List.all_eq_true.1 hall i (List.mem_range.2 hil)
          unfold chkOne at hone
          have hti : tr[i]? = some tr[i] := List.getElem?_eq_getElem (by omega)
          rw [ho, hti] at hone
          have hTi : tsOf tr T2 i = tr[i].1 := by simp [tsOf, hti]
          rw [hTi] at hw ⊢
          simp only [hco, hw, Bool.not_true, Bool.or_self, Bool.false_eq_true, if_false] at hone
          have hk2 := List.all_eq_true.1 hone k (List.mem_range.2 hk)
          have hok : ops.toList[k]? = some ops.toList[k] := List.getElem?_eq_getElem hk
          have hck' : isCh P ops.toList[k] = true := by simpa [chAt, hok] using hck
          rw [hok] at hk2
          simp only [hck', p1, p2, Bool.or_self, Bool.not_false, Bool.and_self, if_true] at hk2
          have hHs : (tr.map (·.2.1) ++ [H2])[if k < i then k else k + 1]? = some (hsOf tr H2 (if k < i then k else k + 1)) := by
            generalize hq : (if k < i then k else k + 1) = q
            have hq2 : q ≤ tr.length := by rw [← hq]; split <;> omega
            by_cases hqt : q < tr.length
            · rw [List.getElem?_append_left (by simpa using hqt)]
              simp [hsOf, List.getElem?_eq_getElem hqt]
            · have : q = tr.length := by omega
              subst this
              rw [List.getElem?_append_right (by simp)]
              simp [hsOf]
          rw [hHs] at hk2
          simp only at hk2
          unfold recheck at hk2
          split at hk2
          · rename_i v' G' hv
            refine ⟨v', G', hv, ?_⟩
            rw [veqN_eq _ _ _ hk2]
            simp [vsOf, hti]
          · cases hk2
        · have hf : ∀ k, (Array.replicate ops.size false).getD k false = false := fun k => by
            simp only [Array.getD_eq_getD_getElem?, Array.getElem?_replicate]
            split <;> rfl
          refine ⟨by simp, (fun i j hi => by rw [hf] at hi; cases hi), m, Mp.le_refl m, by have := hT.1; simp at this; omega, fun t => ?_, hd, ?_⟩
          · have hz : ∀ n, cur (fun k => (Array.replicate ops.size false).getD k false) (dstAt ops.toList) (vsOf tr) T n t = T.getD t undef := by
              intro n
              induction n with
              | zero => rfl
              | succ n ihn => rw [cur, if_neg (fun hh => by rw [hf] at hh; cases hh.1), ihn]
            rw [hz]
            have := hT.2 t
            simpa [List.getD_eq_getElem?_getD, Array.getD_eq_getD_getElem?] using this
          · have hz : ∀ n, hcur (fun k => (Array.replicate ops.size false).getD k false) (chAt P ops.toList) (hsOf tr H2) n = H := by
              intro n
              induction n with
              | zero => exact hTr.h0
              | succ n ihn => rw [hcur, if_neg (fun hh => by rw [hf] at hh; cases hh.1), ihn]
            rw [hz]
            exact hr.draw _
        · simp [List.count_replicate]
      · cases h
    · cases h
  · cases h

end
end Go.Abs
