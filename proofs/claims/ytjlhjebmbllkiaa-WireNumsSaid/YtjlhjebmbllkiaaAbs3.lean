/-
Each operation of the interpreter is what the model does, in every world that the abstract heap tells of.
-/
import Derived.Test.YtjlhjebmbllkiaaAbs2
set_option linter.unusedVariables false
set_option linter.unusedSimpArgs false
namespace Go.Abs
open Go.RowKit

/-- What the model's computation comes to where the interpreter comes to v and H'. -/
def Sim (P : Program) (B : Nat) (w0 : World) (m : Mp) (H' : AHeap) (w : World) (s : Sem Value) (v : Value) : Prop :=
  ∃ v' w' m', s.run P w = .ok v' w' ∧ VR m' v v' ∧ m.le m' ∧ Rel B w0 m' H' w'

section
variable {P : Program} {B : Nat} {w0 : World} {m : Mp} {H H' : AHeap} {w : World}

theorem Sim.same {s : Sem Value} {v v' : Value} (hr : Rel B w0 m H w) (hs : s.run P w = .ok v' w) (hv : VR m v v') : Sim P B w0 m H w s v :=
  ⟨v', w, m, hs, hv, Mp.le_refl m, hr⟩

theorem LR.ground {l l' : List Value} (h : LR m l l') (hg : l.all ground = true) : l' = l := by
  induction l generalizing l' with
  | nil => have := h.1; cases l' with
    | nil => rfl
    | cons => simp at this
  | cons v l ih =>
    cases l' with
    | nil => have := h.1; simp at this
    | cons v' l' =>
      simp only [List.all_cons, Bool.and_eq_true] at hg
      rw [ground_eq hg.1 h.head, ih h.tail hg.2]

theorem sim_ground {args args' : List Value} {s s' : Sem Value} {v : Value} (hr : Rel B w0 m H w) (h : aGround P args s H = some (v, H')) (ha : LR m args args')
    (hs : args' = args → s' = s) : Sim P B w0 m H' w s' v := by
  unfold aGround at h
  split at h
  · rename_i hg
    split at h
    · rename_i u hu
      split at h
      · rename_i hu2
        cases h
        refine Sim.same hr ?_ (ground_refl hu2)
        rw [hs (ha.ground hg)]
        exact pureRun_run _ hu w
      · cases h
    · cases h
  · cases h

theorem cell_at {w : World} {b o : Nat} {cc : Array Value} {e : TypeId} {fr : Nat × Nat} (h : w.heap[b]? = some (.cells cc e fr)) : w.cell? ⟨b, o, none⟩ = cc[o]? := by
  simp [World.cell?, h]
theorem frozen_at {w : World} {b o : Nat} {cc : Array Value} {e : TypeId} {fr : Nat × Nat} (h : w.heap[b]? = some (.cells cc e fr)) (hf : ¬(fr.1 ≤ o ∧ o < fr.2)) : w.frozen? ⟨b, o, none⟩ = false := by
  simp only [World.frozen?, h]
  obtain ⟨lo, hi⟩ := fr
  simp only [not_and, Nat.not_lt] at hf
  simp only [Bool.and_eq_false_iff, decide_eq_false_iff_not, Nat.not_le, Nat.not_lt]
  by_cases h1 : lo ≤ o
  · exact .inr (hf h1)
  · exact .inl (by omega)

/-- Cells of an abstract object, read: what lies in the world. -/
theorem Rel.range {r : Nat} {L : Loc} {cs : List Value} {own : Bool} {esz o n : Nat} (hr : Rel B w0 m H w) (hm : m r = some L) (hg : H.get r = some (.cells cs own esz))
    (hn : o + n ≤ cs.length) : ∃ cs' : List Value, LR m ((cs.drop o).take n) cs' ∧ w.rangeAt L.blk (L.shift + o) cs' := by
  obtain ⟨_, cc, e, fr, hb, h1, h2, h3, _⟩ := hr.obj r L _ hm hg
  refine ⟨(cc.toList.drop (L.shift + o)).take n, ⟨?_, ?_⟩, ?_⟩
  · simp only [List.length_take, List.length_drop, Array.length_toList]; omega
  · intro i
    by_cases hi : i < n
    · have hlt : o + i < cs.length := by omega
      obtain ⟨v', hv', hvr⟩ := h3 (o + i) cs[o + i] (by simp [hlt])
      have e1 : ((cs.drop o).take n).getD i undef = cs[o + i] := by
        simp [List.getD_eq_getElem?_getD, List.getElem?_take, hi, List.getElem?_drop, hlt]
      have e2 : ((cc.toList.drop (L.shift + o)).take n).getD i undef = v' := by
        have : cc.toList[L.shift + o + i]? = some v' := by rw [← hv', Array.getElem?_toList, Nat.add_assoc]
        simp only [List.getD_eq_getElem?_getD, List.getElem?_take, hi, if_true, List.getElem?_drop, this, Option.getD_some]
      rw [e1, e2]
      exact hvr
    · have e1 : ((cs.drop o).take n).getD i undef = undef := by simp [List.getD_eq_getElem?_getD, List.getElem?_take, hi]
      have e2 : ((cc.toList.drop (L.shift + o)).take n).getD i undef = undef := by simp [List.getD_eq_getElem?_getD, List.getElem?_take, hi]
      rw [e1, e2]
      exact VR.undef
  · intro j v hj
    rw [cell_at hb]
    rw [List.getElem?_take] at hj
    split at hj
    · rw [List.getElem?_drop, Array.getElem?_toList] at hj
      exact hj
    · cases hj

theorem Rel.cell {r : Nat} {L : Loc} {cs : List Value} {own : Bool} {esz o : Nat} {v : Value} (hr : Rel B w0 m H w) (hm : m r = some L) (hg : H.get r = some (.cells cs own esz))
    (hv : cs[o]? = some v) : ∃ v', w.cell? ⟨L.blk, L.shift + o, none⟩ = some v' ∧ VR m v v' := by
  obtain ⟨_, cc, e, fr, hb, h1, h2, h3, _⟩ := hr.obj r L _ hm hg
  obtain ⟨v', h, k⟩ := h3 o v hv
  exact ⟨v', by rw [cell_at hb]; exact h, k⟩

theorem isAgg_true {t : TypeId} (h : isAgg? P t = some true) : ∃ d, P.underlying t = some d ∧ d.isRow = true := by
  unfold isAgg? at h
  split at h
  · rename_i x hx; exact ⟨_, hx, rfl⟩
  · rename_i x y hx; exact ⟨_, hx, rfl⟩
  · cases h
  · cases h
theorem isAgg_false {t : TypeId} (h : isAgg? P t = some false) (w : World) : (isAgg t).run P w = .ok false w := by
  unfold isAgg? at h
  split at h
  · cases h
  · cases h
  · rename_i d h1 h2 hx
    unfold isAgg
    rw [Sem.run_bind, run_underlying hx w]
    cases d <;> first | rfl | (exact absurd rfl (h1 _)) | (exact absurd rfl (h2 _ _))
  · cases h

theorem sim_load {t : TypeId} {p p' v : Value} (hr : Rel B w0 m H w) (h : aLoad P t p H = some (v, H')) (hp : VR m p p') : Sim P B w0 m H' w (Instr.loadAt t p') v := by
  unfold aLoad at h
  split at h
  · rename_i r o
    cases hp with
    | @ptr _ _ L hm =>
      split at h
      · rename_i cs own esz hg
        split at h
        · rename_i ha
          split at h
          · rename_i n hsz
            split at h
            · rename_i hn
              cases h
              obtain ⟨cs', hl, hra⟩ := hr.range hm hg hn
              obtain ⟨d, hd, hd2⟩ := isAgg_true ha
              have hlen : cs'.length = n := by rw [← hl.1]; simp; omega
              refine Sim.same hr (run_loadAt_mid w L.blk (L.shift + o) t cs' d hra hd hd2 (by rw [hlen]; exact hsz)) ?_
              have := hl.toArray
              exact .agg this.1 this.2
            · cases h
          · cases h
        · rename_i ha
          split at h
          · rename_i u hu
            cases h
            obtain ⟨v', hc, hv⟩ := hr.cell hm hg hu
            refine Sim.same hr ?_ hv
            simp only [Instr.loadAt, Instr.sureAddr, Sem.run_bind, Sem.run_pure, Result.andThen_ok, loadVar, isAgg_false ha w, Bool.false_eq_true, if_false, Sem.run_ite, run_load, hc]
          · cases h
        · cases h
      · cases h
  · cases h

/-! ### Stores -/
def putA (cc : Array Value) : Nat → List Value → Array Value
  | _, [] => cc
  | o, v :: r => putA (cc.setIfInBounds o v) (o + 1) r
theorem putA_size (vs : List Value) : ∀ (cc : Array Value) (o : Nat), (putA cc o vs).size = cc.size := by
  induction vs with
  | nil => intro cc o; rfl
  | cons v r ih => intro cc o; rw [putA, ih]; simp
theorem putA_get (vs : List Value) : ∀ (cc : Array Value) (o k : Nat), (putA cc o vs)[k]? = if o ≤ k ∧ k < o + vs.length ∧ k < cc.size then vs[k - o]? else cc[k]? := by
  induction vs with
  | nil => intro cc o k; rw [putA, if_neg (by simp; omega)]
  | cons v r ih =>
    intro cc o k
    rw [putA, ih]
    simp only [Array.size_setIfInBounds, List.length_cons]
    by_cases h1 : o + 1 ≤ k ∧ k < o + 1 + r.length ∧ k < cc.size
    · rw [if_pos h1, if_pos (by omega)]
      obtain ⟨j, hj⟩ : ∃ j, k - o = j + 1 := ⟨k - o - 1, by omega⟩
      rw [hj, List.getElem?_cons_succ]
      congr 1; omega
    · rw [if_neg h1]
      by_cases h2 : k = o
      · subst h2
        by_cases h3 : k < cc.size
        · rw [if_pos (by omega)]; simp [h3]
        · rw [if_neg (by omega)]; simp [h3]
      · rw [Array.getElem?_setIfInBounds_ne (by omega), if_neg (by omega)]
theorem setCells_heap (b : Nat) (vs : List Value) : ∀ (o : Nat) (w : World) (cc : Array Value) (e : TypeId) (fr : Nat × Nat), w.heap[b]? = some (.cells cc e fr) →
    (w.setCells b o vs).heap[b]? = some (.cells (putA cc o vs) e fr) := by
  induction vs with
  | nil => intro o w cc e fr h; exact h
  | cons v r ih =>
    intro o w cc e fr h
    rw [World.setCells, putA]
    refine ih _ _ _ _ _ ?_
    simp [World.setCell, Array.getElem?_modify, h]
theorem setCells_other (b : Nat) (vs : List Value) : ∀ (o : Nat) (w : World) (k : Nat), k ≠ b → (w.setCells b o vs).heap[k]? = w.heap[k]? := by
  induction vs with
  | nil => intro o w k h; rfl
  | cons v r ih =>
    intro o w k h
    rw [World.setCells, ih _ _ _ h, Below.heap_setCell _ _ _ _ h]
theorem setCells_rest (b : Nat) (vs : List Value) : ∀ (o : Nat) (w : World), (w.setCells b o vs).os = w.os ∧ (w.setCells b o vs).tape = w.tape ∧ (w.setCells b o vs).output = w.output ∧ (w.setCells b o vs).heap.size = w.heap.size := by
  induction vs with
  | nil => intro o w; exact ⟨rfl, rfl, rfl, rfl⟩
  | cons v r ih =>
    intro o w
    rw [World.setCells]
    obtain ⟨a, b, c, d⟩ := ih (o + 1) (w.setCell ⟨b, o, none⟩ v)
    exact ⟨a, b, c, by rw [d]; simp [World.setCell]⟩

theorem splice_length {cs xs : List Value} {o : Nat} (h : o + xs.length ≤ cs.length) : (splice cs o xs).length = cs.length := by
  simp [splice]; omega
theorem splice_get {cs xs : List Value} {o : Nat} (h : o + xs.length ≤ cs.length) (k : Nat) : (splice cs o xs)[k]? = if o ≤ k ∧ k < o + xs.length then xs[k - o]? else cs[k]? := by
  unfold splice
  have ht : (cs.take o).length = o := by simp; omega
  by_cases h1 : k < o
  · rw [if_neg (by omega), List.append_assoc, List.getElem?_append_left (by omega), List.getElem?_take, if_pos h1]
  · by_cases h2 : k < o + xs.length
    · rw [if_pos (by omega), List.append_assoc, List.getElem?_append_right (by omega), ht, List.getElem?_append_left (by omega)]
    · rw [if_neg (by omega), List.getElem?_append_right (by simp; omega), List.getElem?_drop]
      congr 1
      simp
      omega

/-- Cells of an own object are written. -/
theorem Rel.store {r : Nat} {L : Loc} {cs xs xs' : List Value} {esz o : Nat} (hr : Rel B w0 m H w) (hm : m r = some L) (hg : H.get r = some (.cells cs true esz))
    (hx : LR m xs xs') (ho : o + xs.length ≤ cs.length) :
    w.there L.blk (L.shift + o) xs'.length ∧ Rel B w0 m (H.set r (.cells (splice cs o xs) true esz)) (w.setCells L.blk (L.shift + o) xs') := by
  obtain ⟨hesz, cc, e, fr, hb, h1, h2, h3, h4⟩ := hr.obj r L _ hm hg
  have hlen := hx.1
  have hB : B ≤ L.blk := hr.own r L _ hm hg rfl
  obtain ⟨r1, r2, r3, r4⟩ := setCells_rest L.blk xs' (L.shift + o) w
  refine ⟨fun j hj => ⟨?_, ?_⟩, ?_⟩
  · rw [cell_at hb]; simp; omega
  · exact frozen_at hb (by have := h4 rfl; omega)
  · refine ⟨?_, ?_, ?_, ?_, ?_, ?_, ?_⟩
    · refine ⟨r1.trans hr.below.os, r2.trans hr.below.tape, r3.trans hr.below.output, by rw [r4]; exact hr.below.size, fun k hk => ?_⟩
      rw [setCells_other _ _ _ _ _ (by omega)]; exact hr.below.block k hk
    · rw [r4]; exact hr.base
    · intro r' L' o' hm' hg'
      rw [AHeap.get_set] at hg'
      by_cases hrr : r' = r
      · subst hrr
        rw [if_pos rfl] at hg'
        cases hg'
        rw [hm] at hm'; cases hm'
        refine ⟨hesz, _, e, fr, setCells_heap _ _ _ _ _ _ _ hb, by rw [splice_length ho]; exact h1, by rw [putA_size]; exact h2, ?_, fun h => by rw [putA_size]; exact h4 h⟩
        intro j v hj
        rw [splice_get ho] at hj
        rw [putA_get]
        by_cases hin : o ≤ j ∧ j < o + xs.length
        · rw [if_pos hin] at hj
          rw [if_pos (by omega)]
          obtain ⟨v', hv', hvr⟩ := hx.get hj
          exact ⟨v', by rw [← hv']; congr 1; omega, hvr⟩
        · rw [if_neg hin] at hj
          rw [if_neg (by omega)]
          exact h3 j v hj
      · rw [if_neg hrr] at hg'
        have hold := hr.obj r' L' o' hm' hg'
        have hap : o'.alive = true → L.blk = L'.blk → L.lim ≤ L'.shift ∨ L'.lim ≤ L.shift := hr.apart r r' L L' _ o' (fun e => hrr e.symm) hm hm' hg hg' rfl
        cases o' with
        | dead => exact True.intro
        | map es clock =>
          obtain ⟨a1, a2, es', a3, a4⟩ := hold
          have : L'.blk ≠ L.blk := by rintro e2; rw [e2, hb] at a3; cases a3
          exact ⟨a1, a2, es', by rw [setCells_other _ _ _ _ _ this]; exact a3, a4⟩
        | cells cs2 own2 esz2 =>
          obtain ⟨a0, cc2, e2, fr2, a1, a2, a3, a4, a5⟩ := hold
          by_cases hbb : L'.blk = L.blk
          · have hdis := hap rfl hbb.symm
            rw [hbb, hb] at a1
            cases a1
            refine ⟨a0, _, e, fr, by rw [hbb]; exact setCells_heap _ _ _ _ _ _ _ hb, a2, by rw [putA_size]; exact a3, ?_, fun h => by rw [putA_size]; exact a5 h⟩
            intro j v hj
            have hjl : j < cs2.length := (List.getElem?_eq_some_iff.1 hj).1
            rw [putA_get, if_neg (by omega)]
            exact a4 j v hj
          · exact ⟨a0, cc2, e2, fr2, by rw [setCells_other _ _ _ _ _ hbb]; exact a1, a2, a3, a4, a5⟩
    · intro r' L' hm'; rw [r4]; exact hr.lt r' L' hm'
    · intro r' L' o' hm' hg' hw
      rw [AHeap.get_set] at hg'
      by_cases hrr : r' = r
      · subst hrr; rw [hm] at hm'; cases hm'; exact hB
      · rw [if_neg hrr] at hg'; exact hr.own r' L' o' hm' hg' hw
    · intro ra rb La Lb oa ob hne ma mb ga gb hw hal hbk
      rw [AHeap.get_set] at ga gb
      have fa : ∃ oa', H.get ra = some oa' ∧ oa'.owns = true := by
        by_cases e1 : ra = r
        · subst e1; exact ⟨_, hg, rfl⟩
        · rw [if_neg e1] at ga; exact ⟨_, ga, hw⟩
      have fb : ∃ ob', H.get rb = some ob' ∧ ob'.alive = true := by
        by_cases e1 : rb = r
        · subst e1; exact ⟨_, hg, rfl⟩
        · rw [if_neg e1] at gb; exact ⟨_, gb, hal⟩
      obtain ⟨oa', ga', wa⟩ := fa
      obtain ⟨ob', gb', wb⟩ := fb
      exact hr.apart ra rb La Lb oa' ob' hne ma mb ga' gb' wa wb hbk
    · exact fun r' h => hr.fresh r' h

theorem all_one {xs xs' : List Value} (h : LR m xs xs') (hx : xs.all (·.oneCell') = true) : ∀ v ∈ xs', v.oneCell' = true := by
  intro v hv
  obtain ⟨i, hi, rfl⟩ := List.mem_iff_getElem.1 hv
  have hi' : i < xs.length := h.1 ▸ hi
  have hvr : VR m xs[i] xs'[i] := by
    have := h.2 i
    simpa [List.getD_eq_getElem?_getD, hi, hi'] using this
  have h1 := List.all_eq_true.1 hx _ (List.getElem_mem hi')
  cases hh : xs'[i] <;> first | rfl | skip
  all_goals (rw [hh] at hvr; generalize xs[i] = u at *; cases hvr <;> simp [Value.oneCell'] at h1)

theorem sim_store {t : TypeId} {p p' x x' v : Value} (hr : Rel B w0 m H w) (h : aStore P t p x H = some (v, H')) (hp : VR m p p') (hx : VR m x x') :
    v = undef ∧ ∃ w', (Instr.storeAt t p' x').run P w = .ok () w' ∧ Rel B w0 m H' w' := by
  unfold aStore at h
  split at h
  · rename_i r o
    cases hp with
    | @ptr _ _ L hm =>
      split at h
      · rename_i cs esz hg
        split at h
        · rename_i n hsz
          split at h
          · rename_i hn
            split at h
            · rename_i h1
              split at h
              · rename_i ho
                cases h
                refine ⟨rfl, ?_⟩
                have hl := hx.cells.toList
                have hlen : x.cells.toList.length = n := by simpa using hn
                obtain ⟨ht, hrel⟩ := hr.store hm hg hl (by rw [hlen]; exact ho)
                have hone := all_one hl h1
                have hsz' : x'.cells.size = n := by have := hl.1; simp at this; omega
                refine ⟨_, ?_, hrel⟩
                have hst := run_storeCells_cells (P := P) L.blk (L.shift + o) x'.cells.toList 0 w (fun j hj => by simpa using (ht j hj).1) (fun j hj => by simpa using (ht j hj).2) hone
                simp only [Nat.add_zero] at hst
                cases hq : P.info? t with
                | none => simp [szOf, hq] at hsz
                | some i =>
                  have hs : i.size = n := by simpa [szOf, hq] using hsz
                  simp [Instr.storeAt, Instr.sureAddr, storeVar, sizeOf, typeInfo, hq, hs, hsz', hst]
              · cases h
            · cases h
          · cases h
        · cases h
      · cases h
  · cases h

end
end Go.Abs
