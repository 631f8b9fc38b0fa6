/-
More operations: maps, append, copy, clear, len.
-/
import Derived.Test.YtjlhjebmbllkiaaAbs6
set_option linter.unusedVariables false
set_option linter.unusedSimpArgs false
namespace Go.Abs
open Go.RowKit
section
variable {P : Program} {B : Nat} {w0 : World} {m : Mp} {H H' : AHeap} {w : World}

/-! ### Maps -/
theorem sim_makeMap {t : TypeId} {r r' : Option Value} {v : Value} (hr : Rel B w0 m H w) (h : aMakeMap P t r H = some (v, H')) (hx : r = none → r' = none) : Sim P B w0 m H' w (Instr.makeMap t r') v := by
  unfold aMakeMap at h
  split at h
  · cases h
    rw [hx rfl]
    have hrel := hr.push (.map #[] 0) (.map [] 0) ⟨w.heap.size, 0, 1, 0⟩ rfl (Grows.push w _ w.drawn) ⟨rfl, rfl, #[], (Grows.push w (.map #[] 0) w.drawn).new, rfl, fun i e h => by simp at h⟩
    refine ⟨.map (some w.heap.size), _, _, ?_, ?_, Mp.le_add (hr.fresh _ (Nat.le_refl _)), hrel⟩
    · simp [Instr.makeMap, newObj, Sem.run]
    · exact .map (Mp.add_same m H.next ⟨w.heap.size, 0, 1, 0⟩)
  · cases h

def ESR (m : Mp) (es : List MapEntry) (es' : List MapEntry) : Prop := es.length = es'.length ∧ ∀ (i : Nat) (e : MapEntry), es[i]? = some e → ∃ e', es'[i]? = some e' ∧ ER m e e'
theorem ESR.tail {e e' : MapEntry} {es es' : List MapEntry} (h : ESR m (e :: es) (e' :: es')) : ESR m es es' :=
  ⟨by have := h.1; simpa using this, fun i x hx => by simpa using h.2 (i + 1) x (by simpa using hx)⟩
theorem ESR.head {e e' : MapEntry} {es es' : List MapEntry} (h : ESR m (e :: es) (e' :: es')) : ER m e e' := by
  obtain ⟨x, hx, h1⟩ := h.2 0 e rfl
  simp at hx
  rw [hx]; exact h1

theorem findNow_rel {kd : TypeDesc} {k : Value} : ∀ (es es' : List MapEntry) (i : Nat) (r : Option (Nat × Value)), ESR m es es' → Instr.findNow kd k es i = some r →
    ∃ r', Instr.findNow kd k es' i = some r' ∧ ((r = none ∧ r' = none) ∨ ∃ j v v', r = some (j, v) ∧ r' = some (j, v') ∧ VR m v v') := by
  intro es
  induction es with
  | nil =>
    intro es' i r h hf
    have : es' = [] := by have := h.1; cases es' <;> simp_all
    subst this
    simp only [Instr.findNow, Option.some.injEq] at hf
    subst hf
    exact ⟨none, rfl, .inl ⟨rfl, rfl⟩⟩
  | cons e es ih =>
    intro es' i r h hf
    cases es' with
    | nil => have := h.1; simp at this
    | cons e' es' =>
      obtain ⟨h1, h2, h3⟩ := h.head
      simp only [Instr.findNow, h1] at hf ⊢
      split at hf
      · cases hf
        exact ⟨_, rfl, .inr ⟨i, e.val, e'.val, rfl, rfl, h3⟩⟩
      · exact ih es' (i + 1) r h.tail hf
      · cases hf

theorem findNow_at {kd : TypeDesc} {k : Value} : ∀ (es : List MapEntry) (i j : Nat) (v : Value), Instr.findNow kd k es i = some (some (j, v)) → i ≤ j ∧ ∃ e, es[j - i]? = some e ∧ Instr.sameNow kd k e.key = some true := by
  intro es
  induction es with
  | nil => intro i j v h; simp [Instr.findNow] at h
  | cons e es ih =>
    intro i j v h
    simp only [Instr.findNow] at h
    split at h
    · rename_i hs
      simp only [Option.some.injEq, Prod.mk.injEq] at h
      obtain ⟨rfl, rfl⟩ := h
      exact ⟨Nat.le_refl _, e, by simp, hs⟩
    · obtain ⟨h1, e2, h2, h3⟩ := ih (i + 1) j v h
      refine ⟨by omega, e2, ?_, h3⟩
      obtain ⟨n, hn⟩ : ∃ n, j - i = n + 1 := ⟨j - i - 1, by omega⟩
      rw [hn, List.getElem?_cons_succ, ← h2]
      congr 1; omega
    · cases h

theorem run_checkKey {kd : TypeDesc} {kt : TypeId} {k : Value} (hu : P.underlying kt = some kd) (hk : keyKind kd k = true) (em : Bool) (w : World) : (Instr.checkKey em 10000 kt k).run P w = .ok () w := by
  rw [show (10000 : Nat) = 9999 + 1 from rfl]
  generalize 9999 = d
  simp only [Instr.checkKey, Sem.run_bind, run_underlying hu, Result.andThen_ok]
  unfold keyKind at hk
  split at hk <;> first | rfl | cases hk
theorem keyKind_ground {kd : TypeDesc} {k : Value} (hk : keyKind kd k = true) : ground k = true := by
  unfold keyKind at hk
  split at hk <;> first | rfl | cases hk
theorem run_findKey {kd : TypeDesc} {kt : TypeId} {k : Value} {es : List MapEntry} {r : Option (Nat × Value)} (hu : P.underlying kt = some kd) (h : Instr.findNow kd k es 0 = some r) (w : World) :
    (Instr.findKey kt k es).run P w = .ok r w := by
  simp only [Instr.findKey, Sem.run_bind, run_underlying hu, Result.andThen_ok, h]
  rfl
theorem run_getMap {b : Nat} {es : Array MapEntry} {clock : Nat} (h : w.heap[b]? = some (.map es clock)) : (getObj b).run P w = .ok (.map es clock) w := by
  simp [getObj, Sem.run, h]

theorem Rel.map {r : Nat} {L : Loc} {es : List MapEntry} {clock : Nat} (hr : Rel B w0 m H w) (hm : m r = some L) (hg : H.get r = some (.map es clock)) :
    ∃ es' : Array MapEntry, w.heap[L.blk]? = some (.map es' clock) ∧ ESR m es es'.toList := by
  obtain ⟨_, _, es', h1, h2, h3⟩ := hr.obj r L _ hm hg
  exact ⟨es', h1, by simpa using h2, fun i e he => by simpa using h3 i e he⟩

theorem sim_lookup {t : TypeId} {x x' k k' v : Value} {ok : Bool} (hr : Rel B w0 m H w) (h : aLookup P t x k ok H = some (v, H')) (hx : VR m x x') (hk : VR m k k') :
    Sim P B w0 m H' w (Instr.lookup t x' k' ok) v := by
  unfold aLookup at h
  split at h
  · rename_i kt et hu
    split at h
    · rename_i kd hkd
      split at h
      · rename_i hkk
        obtain rfl := ground_eq (keyKind_ground hkk) hk
        split at h
        · rename_i es hes
          -- the entries
          have ent : ∃ es' : Array MapEntry, ESR m es es'.toList ∧ ((x' = .map none ∧ es' = #[]) ∨ ∃ b clock, x' = .map (some b) ∧ w.heap[b]? = some (.map es' clock)) := by
            split at hes
            · cases hes
              cases hx
              exact ⟨#[], ⟨rfl, fun i e h => by simp at h⟩, .inl ⟨rfl, rfl⟩⟩
            · split at hes
              · rename_i r es2 clock hg
                cases hes
                cases hx with
                | map hm =>
                  obtain ⟨es', h1, h2⟩ := hr.map hm hg
                  exact ⟨es', h2, .inr ⟨_, _, rfl, h1⟩⟩
              · cases hes
            · cases hes
          obtain ⟨es', hes', hrun⟩ := ent
          have lk : ∀ (r' : Option (Nat × Value)), Instr.findNow kd k' es'.toList 0 = some r' → (Instr.lookup t x' k' ok).run P w =
              (match r' with
               | some (_, v) => .ok (if ok then .tuple #[v, .bool true] else v) w
               | none => ((zeroValue et).run P w).andThen fun z w' => .ok (if ok then .tuple #[z, .bool false] else z) w' : Result Value) := by
            intro r' hf
            rcases hrun with ⟨rfl, rfl⟩ | ⟨b, clock, rfl, hb⟩
            · simp only [Instr.lookup, Sem.run_bind, run_underlying hu, Result.andThen_ok, Sem.run_pure, run_checkKey hkd hkk, run_findKey hkd hf]
              cases r' with
              | none =>
                simp only [Sem.run_bind]
                cases (zeroValue et).run P w <;> rfl
              | some q => obtain ⟨j, u⟩ := q; rfl
            · simp only [Instr.lookup, Sem.run_bind, run_underlying hu, Result.andThen_ok, run_getMap hb, Sem.run_pure, run_checkKey hkd hkk, run_findKey hkd hf]
              cases r' with
              | none =>
                simp only [Sem.run_bind]
                cases (zeroValue et).run P w <;> rfl
              | some q => obtain ⟨j, u⟩ := q; rfl
          split at h
          · rename_i j u hf
            cases h
            obtain ⟨r', hf', hh⟩ := findNow_rel es es'.toList 0 _ hes' hf
            rcases hh with ⟨h1, _⟩ | ⟨j', u1, u', h1, rfl, hvr⟩
            · cases h1
            · cases h1
              refine Sim.same hr (lk _ hf') ?_
              cases ok
              · exact hvr
              · have := (LR.cons hvr (LR.cons (VR.bool (m := m) true) LR.nil)).toArray
                exact .tuple this.1 this.2
          · rename_i hf
            split at h
            · rename_i z hz
              split at h
              · rename_i hgz
                cases h
                obtain ⟨r', hf', hh⟩ := findNow_rel es es'.toList 0 _ hes' hf
                rcases hh with ⟨_, rfl⟩ | ⟨_, _, _, h1, _⟩
                · refine Sim.same hr (v' := if ok then .tuple #[z, .bool false] else z) ?_ ?_
                  · rw [lk _ hf']
                    simp only [run_zeroOf hz, Result.andThen_ok]
                  · cases ok
                    · exact ground_refl hgz
                    · have := (LR.cons (ground_refl (m := m) hgz) (LR.cons (VR.bool (m := m) false) LR.nil)).toArray
                      exact .tuple this.1 this.2
                · cases h1
              · cases h
            · cases h
          · cases h
        · cases h
      · cases h
    · cases h
  · cases h

theorem ER.mono {m' : Mp} (hm : m.le m') {e e' : MapEntry} (h : ER m e e') : ER m' e e' := ⟨h.1, h.2.1, h.2.2.mono hm⟩

/-- A map is written. -/
theorem Rel.setMap {r : Nat} {L : Loc} {es es2 : List MapEntry} {clock clock2 : Nat} {es2' : Array MapEntry} (hr : Rel B w0 m H w) (hm : m r = some L) (hg : H.get r = some (.map es clock))
    (h2 : ESR m es2 es2'.toList) : Rel B w0 m (H.set r (.map es2 clock2)) { w with heap := w.heap.setIfInBounds L.blk (.map es2' clock2) } := by
  obtain ⟨hs, hl, es', hb, _, _⟩ := hr.obj r L _ hm hg
  have hB := hr.own r L _ hm hg rfl
  have hlt := hr.lt r L hm
  refine ⟨?_, ?_, ?_, ?_, ?_, ?_, ?_⟩
  · refine ⟨hr.below.os, hr.below.tape, hr.below.output, by simpa using hr.below.size, fun k hk => ?_⟩
    show (w.heap.setIfInBounds L.blk _)[k]? = _
    rw [Array.getElem?_setIfInBounds_ne (by omega)]; exact hr.below.block k hk
  · simpa using hr.base
  · intro r' L' o' hm' hg'
    rw [AHeap.get_set] at hg'
    by_cases hrr : r' = r
    · subst hrr
      rw [if_pos rfl] at hg'
      cases hg'
      rw [hm] at hm'; cases hm'
      exact ⟨hs, hl, es2', by simp [hlt], by simpa using h2.1, fun i e he => by simpa using h2.2 i e he⟩
    · rw [if_neg hrr] at hg'
      have hold := hr.obj r' L' o' hm' hg'
      have hne : o'.alive = true → L'.blk ≠ L.blk := by
        intro hal hbk
        have hap := hr.apart r r' L L' _ o' (fun e => hrr e.symm) hm hm' hg hg' rfl hal hbk.symm
        cases o' with
        | dead => cases hal
        | cells cs own esz =>
          obtain ⟨_, cc, e, fr, a1, _⟩ := hold
          rw [hbk, hb] at a1; cases a1
        | map es3 c3 =>
          obtain ⟨a1, a2, _⟩ := hold
          omega
      cases o' with
      | dead => exact True.intro
      | cells cs own esz =>
        obtain ⟨a0, cc, e, fr, a1, a2⟩ := hold
        refine ⟨a0, cc, e, fr, ?_, a2⟩
        show (w.heap.setIfInBounds L.blk _)[L'.blk]? = _
        rw [Array.getElem?_setIfInBounds_ne (fun e => hne rfl e.symm)]; exact a1
      | map es3 c3 =>
        obtain ⟨a0, a1, e3, a2, a3⟩ := hold
        refine ⟨a0, a1, e3, ?_, a3⟩
        show (w.heap.setIfInBounds L.blk _)[L'.blk]? = _
        rw [Array.getElem?_setIfInBounds_ne (fun e => hne rfl e.symm)]; exact a2
  · intro r' L' hm'; have := hr.lt r' L' hm'; simpa using this
  · intro r' L' o' hm' hg' hw
    rw [AHeap.get_set] at hg'
    by_cases hrr : r' = r
    · subst hrr; rw [hm] at hm'; cases hm'; exact hB
    · rw [if_neg hrr] at hg'; exact hr.own r' L' o' hm' hg' hw
  · intro ra rb La Lb oa ob hne ma mb ga gb hw hal hbk
    rw [AHeap.get_set] at ga gb
    have fa : ∃ oa', H.get ra = some oa' ∧ oa'.owns = true := by
      by_cases e1 : ra = r
      · subst e1; exact ⟨_, hg, rfl⟩
      · rw [if_neg e1] at ga; exact ⟨_, ga, hw⟩
    have fb : ∃ ob', H.get rb = some ob' ∧ ob'.alive = true := by
      by_cases e1 : rb = r
      · subst e1; exact ⟨_, hg, rfl⟩
      · rw [if_neg e1] at gb; exact ⟨_, gb, hal⟩
    obtain ⟨oa', ga', wa⟩ := fa
    obtain ⟨ob', gb', wb⟩ := fb
    exact hr.apart ra rb La Lb oa' ob' hne ma mb ga' gb' wa wb hbk
  · exact fun r' h => hr.fresh r' h

theorem sameNow_bits {kd : TypeDesc} {k k2 : Value} (h : Instr.sameNow kd k k2 = some true) : Instr.sameBits 10000 k2 k = true := by
  unfold Instr.sameNow at h
  split at h
  · split at h
    · rename_i hk
      simp only [Option.some.injEq, beq_iff_eq] at h
      subst h; subst hk
      simp [Instr.sameBits]
    · cases h
  · simp only [Option.some.injEq] at h
    obtain rfl := (MapKept.bytes_beq _ _).mp h
    simpa [Instr.sameBits] using h
  · simp only [Option.some.injEq, beq_iff_eq] at h
    subst h
    simp [Instr.sameBits]
  · cases h

theorem run_setMap {b : Nat} {es es2 : Array MapEntry} {c c2 : Nat} (h : w.heap[b]? = some (.map es c)) : (setObj b (.map es2 c2)).run P w = .ok () { w with heap := w.heap.setIfInBounds b (.map es2 c2) } := by
  simp [setObj, Sem.run, h]

theorem sim_mapUpdate {t : TypeId} {x x' k k' u u' v : Value} (hr : Rel B w0 m H w) (h : aMapUpdate P t x k u H = some (v, H')) (hx : VR m x x') (hk : VR m k k') (hu' : VR m u u') :
    v = undef ∧ ∃ w', (Instr.mapUpdate t x' k' u').run P w = .ok () w' ∧ Rel B w0 m H' w' := by
  unfold aMapUpdate at h
  split at h
  · rename_i kt et hu
    split at h
    · rename_i kd hkd
      split at h
      · rename_i hkk
        obtain rfl := ground_eq (keyKind_ground hkk) hk
        split at h
        · rename_i r
          cases hx with
          | @map _ L hm =>
            split at h
            · rename_i es clock hg
              obtain ⟨es', hb, hes⟩ := hr.map hm hg
              split at h
              · rename_i i w2 hf
                cases h
                refine ⟨rfl, ?_⟩
                obtain ⟨r', hf', hh⟩ := findNow_rel es es'.toList 0 _ hes hf
                rcases hh with ⟨h1, _⟩ | ⟨j', u1, u2, h1, rfl, hvr⟩
                · cases h1
                · cases h1
                  obtain ⟨_, e2, he2, hsame⟩ := findNow_at _ _ _ _ hf'
                  have he2' : es'[i]? = some e2 := by simpa using he2
                  refine ⟨_, ?_, hr.setMap (es2 := es.modify i fun e => { e with key := k', val := u }) (es2' := es'.modify i fun e => { e with key := k', val := u' }) (clock2 := clock) hm hg ?_⟩
                  · simp only [Instr.mapUpdate, Sem.run_bind, run_underlying hu, Result.andThen_ok, run_getMap hb, run_checkKey hkd hkk, run_findKey hkd hf', Instr.keyThatStays, he2', Option.map_some, Option.getD_some,
                      sameNow_bits hsame, if_true, Sem.run_pure, run_setMap hb]
                  · refine ⟨by simpa using hes.1, fun j e he => ?_⟩
                    rw [List.getElem?_modify] at he
                    rw [Array.getElem?_toList, Array.getElem?_modify]
                    by_cases hij : i = j
                    · subst hij
                      simp only [if_true] at he ⊢
                      cases hei : es[i]? with
                      | none => simp [hei] at he
                      | some e0 =>
                        simp only [hei, Option.map_eq_map, Option.map_some, Option.some.injEq] at he
                        subst he
                        obtain ⟨e0', he0', hER⟩ := hes.2 i e0 hei
                        have : es'[i]? = some e0' := by simpa using he0'
                        exact ⟨{ e0' with key := k', val := u' }, by simp [this], rfl, hER.2.1, hu'⟩
                    · simp only [if_neg hij] at he ⊢
                      cases hei : es[j]? with
                      | none => simp [hei] at he
                      | some e0 =>
                        simp [hei] at he
                        subst he
                        obtain ⟨e0', he0', hER⟩ := hes.2 j e0 hei
                        exact ⟨e0', by simpa using he0', hER⟩
              · rename_i hf
                cases h
                refine ⟨rfl, ?_⟩
                obtain ⟨r', hf', hh⟩ := findNow_rel es es'.toList 0 _ hes hf
                rcases hh with ⟨_, rfl⟩ | ⟨_, _, _, h1, _⟩
                · refine ⟨_, ?_, hr.setMap (es2 := es ++ [{ key := k', val := u, born := clock }]) (es2' := es'.push { key := k', val := u', born := clock }) (clock2 := clock + 1) hm hg ?_⟩
                  · simp only [Instr.mapUpdate, Sem.run_bind, run_underlying hu, Result.andThen_ok, run_getMap hb, run_checkKey hkd hkk, run_findKey hkd hf', run_setMap hb]
                  · refine ⟨by simp [hes.1], fun j e he => ?_⟩
                    rw [Array.toList_push]
                    by_cases hj : j < es.length
                    · rw [List.getElem?_append_left hj] at he
                      rw [List.getElem?_append_left (by rw [← hes.1]; exact hj)]
                      exact hes.2 j e he
                    · rw [List.getElem?_append_right (by omega)] at he
                      rw [List.getElem?_append_right (by rw [← hes.1]; omega), ← hes.1]
                      cases hjj : j - es.length with
                      | zero =>
                        rw [hjj] at he
                        simp at he
                        subst he
                        exact ⟨_, rfl, rfl, rfl, hu'⟩
                      | succ n => rw [hjj] at he; simp at he
                · cases h1
              · cases h
            · cases h
        · cases h
      · cases h
    · cases h
  · cases h

end
end Go.Abs
