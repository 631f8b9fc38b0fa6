/-
append, copy, clear, len; every operation that calls no function.
-/
import Derived.Test.YtjlhjebmbllkiaaAbs7
set_option linter.unusedVariables false
set_option linter.unusedSimpArgs false
namespace Go.Abs
open Go.RowKit
section
variable {P : Program} {B : Nat} {w0 : World} {m : Mp} {H H' : AHeap} {w : World}

theorem Rel.drew (hr : Rel B w0 m H w) : Rel B w0 m H w.drew := hr.draw _

/-- What an append's second argument yields. -/
theorem Rel.src {tx : TypeId} {size n : Nat} {x x' : Value} {cs : List Value} (hr : Rel B w0 m H w) (h : srcCells P tx size x H = some (n, cs)) (hx : VR m x x') :
    ∃ cs', LR m cs cs' ∧ Src P size tx x' n cs' w := by
  unfold srcCells at h
  split at h
  · rename_i e a n' c hu
    split at h
    · rename_i cs2 hc
      split at h
      · rename_i h1
        cases h
        have hn : ∀ k a' c', Value.slice a n c = .slice a' k c' → k = n := fun k a' c' e => by cases e; rfl
        obtain ⟨hlen, cs', hl, hh⟩ := hr.cells hc hx (fun h0 k a' c' e => by
          have := hn _ _ _ e; subst this
          exact Nat.pos_of_ne_zero (fun e => by rw [e] at h0; simp at h0))
        refine ⟨cs', hl, ?_⟩
        have hone := all_one hl h1
        rcases hh with ⟨ad, k, c', rfl, hcell⟩ | ⟨rfl, rfl⟩
        · have hk : k = n := by cases hx <;> rfl
          subst hk
          exact Src.ofSlice w hu ad k c' cs' (by rw [← hl.1]; exact hlen) hcell hone
        · have hn0 : n = 0 := by cases hx; rfl
          subst hn0
          exact Src.ofNil w hu 0
      · cases h
    · cases h
  · rename_i s hu
    split at h
    · rename_i h1
      cases h
      cases hx
      subst h1
      refine ⟨byteCells s, LR.refl_sg ?_, Src.ofString w hu s⟩
      rw [List.all_eq_true]; intro x hx; obtain ⟨_, _, rfl⟩ := List.mem_map.1 hx; rfl
    · cases h
  · cases h

/-- An object is no more; what was its own from some cell on is another's. -/
theorem Rel.moved {r : Nat} {L : Loc} {cs news news' : List Value} {size o n : Nat} (hr : Rel B w0 m H w) (hm : m r = some L) (hg : H.get r = some (.cells cs true size))
    (ho : o + n ≤ cs.length) (hx : LR m news news') (hl : L.shift + o + n + news.length ≤ L.lim) :
    w.there L.blk (L.shift + o + n) news'.length ∧
    Rel B w0 (m.add H.next ⟨L.blk, L.shift + o, L.lim, size⟩) ((H.set r .dead).push (.cells ((cs.drop o).take n ++ news) true size)) (w.setCells L.blk (L.shift + o + n) news') := by
  obtain ⟨hesz, cc, e, fr, hb, h1, h2, h3, h4⟩ := hr.obj r L _ hm hg
  have hlen := hx.1
  have hB : B ≤ L.blk := hr.own r L _ hm hg rfl
  obtain ⟨r1, r2, r3, r4⟩ := setCells_rest L.blk news' (L.shift + o + n) w
  have hle : m.le (m.add H.next ⟨L.blk, L.shift + o, L.lim, size⟩) := Mp.le_add (hr.fresh _ (Nat.le_refl _))
  have hrn : r ≠ H.next := by
    intro e1; rw [e1, hr.fresh _ (Nat.le_refl _)] at hm; cases hm
  have getE : ∀ k, ((H.set r .dead).push (.cells ((cs.drop o).take n ++ news) true size)).get k = if k = H.next then some (.cells ((cs.drop o).take n ++ news) true size) else if k = r then some .dead else H.get k := by
    intro k; rw [AHeap.get_push, AHeap.get_set]; rfl
  refine ⟨fun j hj => ⟨?_, ?_⟩, ?_⟩
  · rw [cell_at hb]; simp; omega
  · exact frozen_at hb (by have := h4 rfl; omega)
  · -- a new object's range lies in the old one's
    have apartNew : ∀ r' L' o', r' ≠ H.next → r' ≠ r → m r' = some L' → H.get r' = some o' → o'.alive = true → L.blk = L'.blk → L.lim ≤ L'.shift ∨ L'.lim ≤ L.shift :=
      fun r' L' o' _ hne hm' hg' hal hbk => hr.apart r r' L L' _ o' (fun e => hne e.symm) hm hm' hg hg' rfl hal hbk
    refine ⟨?_, ?_, ?_, ?_, ?_, ?_, ?_⟩
    · refine ⟨r1.trans hr.below.os, r2.trans hr.below.tape, r3.trans hr.below.output, by rw [r4]; exact hr.below.size, fun k hk => ?_⟩
      rw [setCells_other _ _ _ _ _ (by omega)]; exact hr.below.block k hk
    · rw [r4]; exact hr.base
    · intro r' L' o' hm' hg'
      rw [getE] at hg'
      by_cases hrr : r' = H.next
      · subst hrr
        rw [if_pos rfl] at hg'
        cases hg'
        rw [Mp.add_same] at hm'; cases hm'
        refine ⟨rfl, _, e, fr, setCells_heap _ _ _ _ _ _ _ hb, ?_, by rw [putA_size]; exact h2, ?_, fun h => by rw [putA_size]; exact h4 h⟩
        · simp only [List.length_append, List.length_take, List.length_drop]
          omega
        · intro j v hj
          dsimp only
          rw [putA_get]
          by_cases hjn : j < n
          · rw [List.getElem?_append_left (by simp; omega), List.getElem?_take, if_pos hjn, List.getElem?_drop] at hj
            rw [if_neg (by omega)]
            obtain ⟨v', hv', hvr⟩ := h3 (o + j) v hj
            exact ⟨v', by rw [← hv']; congr 1; omega, hvr.mono hle⟩
          · have hl2 : ((cs.drop o).take n).length = n := by simp; omega
            rw [List.getElem?_append_right (by omega), hl2] at hj
            have hjl : j - n < news.length := (List.getElem?_eq_some_iff.1 hj).1
            rw [if_pos (by omega)]
            obtain ⟨v', hv', hvr⟩ := hx.get hj
            exact ⟨v', by rw [← hv']; congr 1; omega, hvr.mono hle⟩
      · rw [if_neg hrr] at hg'
        rw [Mp.add_other hrr] at hm'
        by_cases hr2 : r' = r
        · subst hr2; rw [if_pos rfl] at hg'; cases hg'; exact True.intro
        · rw [if_neg hr2] at hg'
          have hold := (hr.obj r' L' o' hm' hg').mono hle
          cases o' with
          | dead => exact True.intro
          | map es clock =>
            obtain ⟨a1, a2, es', a3, a4⟩ := hold
            have : L'.blk ≠ L.blk := by rintro e2; rw [e2, hb] at a3; cases a3
            exact ⟨a1, a2, es', by rw [setCells_other _ _ _ _ _ this]; exact a3, a4⟩
          | cells cs2 own2 esz2 =>
            obtain ⟨a0, cc2, e2, fr2, a1, a2, a3, a4, a5⟩ := hold
            by_cases hbb : L'.blk = L.blk
            · have hdis := apartNew r' L' _ hrr hr2 hm' hg' rfl hbb.symm
              rw [hbb, hb] at a1
              cases a1
              refine ⟨a0, _, e, fr, by rw [hbb]; exact setCells_heap _ _ _ _ _ _ _ hb, a2, by rw [putA_size]; exact a3, ?_, fun h => by rw [putA_size]; exact a5 h⟩
              intro j v hj
              have hjl : j < cs2.length := (List.getElem?_eq_some_iff.1 hj).1
              rw [putA_get, if_neg (by omega)]
              exact a4 j v hj
            · exact ⟨a0, cc2, e2, fr2, by rw [setCells_other _ _ _ _ _ hbb]; exact a1, a2, a3, a4, a5⟩
    · intro r' L' hm'
      rw [r4]
      by_cases hrr : r' = H.next
      · subst hrr; rw [Mp.add_same] at hm'; cases hm'; exact hr.lt r L hm
      · rw [Mp.add_other hrr] at hm'; exact hr.lt r' L' hm'
    · intro r' L' o' hm' hg' hw
      rw [getE] at hg'
      by_cases hrr : r' = H.next
      · subst hrr; rw [Mp.add_same] at hm'; cases hm'; exact hB
      · rw [if_neg hrr] at hg'; rw [Mp.add_other hrr] at hm'
        by_cases hr2 : r' = r
        · subst hr2; rw [if_pos rfl] at hg'; cases hg'; cases hw
        · rw [if_neg hr2] at hg'; exact hr.own r' L' o' hm' hg' hw
    · intro ra rb La Lb oa ob hne ma mb ga gb hw hal hbk
      rw [getE] at ga gb
      have aliveNot : ∀ k o', (if k = r then some AObj.dead else H.get k) = some o' → (o'.alive = true ∨ o'.owns = true) → k ≠ r ∧ H.get k = some o' := by
        intro k o' hk hor
        by_cases e1 : k = r
        · rw [if_pos e1] at hk; cases hk; rcases hor with h | h <;> cases h
        · rw [if_neg e1] at hk; exact ⟨e1, hk⟩
      by_cases ea : ra = H.next
      · subst ea
        have eb : rb ≠ H.next := fun e => hne e.symm
        rw [if_neg eb] at gb
        rw [Mp.add_same] at ma; cases ma
        rw [Mp.add_other eb] at mb
        obtain ⟨hbr, gb'⟩ := aliveNot rb ob gb (.inl hal)
        have := apartNew rb Lb ob eb hbr mb gb' hal hbk
        dsimp only at *
        omega
      · rw [if_neg ea] at ga
        rw [Mp.add_other ea] at ma
        obtain ⟨har, ga'⟩ := aliveNot ra oa ga (.inr hw)
        by_cases eb : rb = H.next
        · subst eb
          rw [Mp.add_same] at mb; cases mb
          have halA : oa.alive = true := by cases oa <;> simp_all [AObj.owns, AObj.alive]
          have := apartNew ra La oa ea har ma ga' halA hbk.symm
          dsimp only at *
          omega
        · rw [if_neg eb] at gb
          rw [Mp.add_other eb] at mb
          obtain ⟨hbr, gb'⟩ := aliveNot rb ob gb (.inl hal)
          exact hr.apart ra rb La Lb oa ob hne ma mb ga' gb' hw hal hbk
    · intro r' hr'
      simp only [AHeap.next_push, AHeap.next_set] at hr'
      rw [Mp.add_other (by omega)]
      exact hr.fresh r' (by omega)

/-- An object is no more. -/
theorem Rel.kill {r : Nat} {o : AObj} (hr : Rel B w0 m H w) (hg : H.get r = some o) : Rel B w0 m (H.set r .dead) w := by
  refine ⟨hr.below, hr.base, ?_, hr.lt, ?_, ?_, hr.fresh⟩
  · intro r' L' o' hm' hg'
    rw [AHeap.get_set] at hg'
    by_cases e : r' = r
    · rw [if_pos e] at hg'; cases hg'; exact True.intro
    · rw [if_neg e] at hg'; exact hr.obj r' L' o' hm' hg'
  · intro r' L' o' hm' hg' hw
    rw [AHeap.get_set] at hg'
    by_cases e : r' = r
    · rw [if_pos e] at hg'; cases hg'; cases hw
    · rw [if_neg e] at hg'; exact hr.own r' L' o' hm' hg' hw
  · intro ra rb La Lb oa ob hne ma mb ga gb hw hal hbk
    rw [AHeap.get_set] at ga gb
    by_cases ea : ra = r
    · rw [if_pos ea] at ga; cases ga; cases hw
    · rw [if_neg ea] at ga
      by_cases eb : rb = r
      · rw [if_pos eb] at gb; cases gb; cases hal
      · rw [if_neg eb] at gb; exact hr.apart ra rb La Lb oa ob hne ma mb ga gb hw hal hbk

theorem rangeAt_first {b o n size c : Nat} {l : List Value} (hl : l.length = n * size) (h : w.rangeAt b o l) : (Builtin.firstCells size n (.slice (some ⟨b, o, none⟩) n c)).run P w.drew = .ok l.toArray w.drew :=
  run_firstCells_some w.drew size n ⟨b, o, none⟩ n c l hl (fun j u hj => by rw [Addr.add_mid]; exact h j u hj)

theorem sim_append {t tx ty : TypeId} {s s' x x' v : Value} (hr : Rel B w0 m H w) (h : aAppend P t tx s x H = some (v, H')) (hs : VR m s s') (hx : VR m x x') :
    Sim P B w0 m H' w (Builtin.append_ #[t, tx] ty #[s', x']) v := by
  unfold aAppend at h
  split at h
  · rename_i e he
    split at h
    · rename_i size z bytes hsz hz hb
      split at h <;> first | cases h | skip
      rename_i hpos
      split at h <;> first | cases h | skip
      rename_i hzs
      split at h
      · rename_i k news hsrc
        obtain ⟨news', hln, hS⟩ := hr.src hsrc hx
        obtain ⟨i, hi, hiz⟩ := zeroOf_spec hz
        have his : i.size = size := by simpa [szOf, hi] using hsz
        have hib : i.bytes = bytes := by simpa [bytesOf, hi] using hb
        have hut := elemOf_spec he
        have hnl : news'.length = k * size := hS.newsLen
        split at h
        · -- nil
          cases hs
          split at h
          · rename_i hk
            cases h
            subst hk
            refine Sim.same hr ?_ .sliceNil
            rcases hS.kind with ⟨e', hk⟩ | hk <;>
              simp [Builtin.append_, run_underlying hut, run_underlying hk, sizeOf, typeInfo, hi, hS.len, his, hS.cells]
          · rename_i hk0
            split at h <;> first | cases h | skip
            rename_i hbig
            split at h <;> first | cases h | skip
            rename_i hbig2
            subst his; subst hib
            have hold : (Builtin.firstCells i.size 0 (.slice none 0 0)).run P w.drew = .ok (([] : List Value)).toArray w.drew := run_firstCells_none w.drew i.size 0 0 0
            have hrun := run_append_grow_src (P := P) w t tx ty e i z hut hi hiz none 0 0 [] hold x' k news' hS (by omega) (by omega) (growslice_fits (by omega) (by rw [Nat.zero_add]; exact hbig))
            have hge := grownCap_ge w (0 + k) 0 e
            have hg : Grows w (w.drew.alloc (.cells (([] ++ news').toArray ++ Builtin.zeroCells z.cells (grownCap w (0 + k) 0 e - (0 + k))) e)) (.cells (news' ++ (Builtin.zeroCells z.cells (grownCap w (0 + k) 0 e - (0 + k))).toList).toArray e (0, 0)) := by
              have hc : (([] ++ news').toArray ++ Builtin.zeroCells z.cells (grownCap w (0 + k) 0 e - (0 + k))) = (news' ++ (Builtin.zeroCells z.cells (grownCap w (0 + k) 0 e - (0 + k))).toList).toArray := by
                apply Array.ext'; simp
              rw [hc]
              exact Grows.da w _
            obtain ⟨L, l1, l2, l3, l4, hrel⟩ := hr.new (esz := i.size) hln hg (.inl rfl)
            refine ⟨_, _, m.add H.next L, hrun, ?_, Mp.le_add (hr.fresh _ (Nat.le_refl _)), hrel⟩
            have hlim : L.lim = grownCap w (0 + k) 0 e * i.size := by
              have hzl : (Builtin.zeroCells z.cells (grownCap w (0 + k) 0 e - (0 + k))).toList.length = (grownCap w (0 + k) 0 e - (0 + k)) * z.cells.size := by rw [Array.length_toList, size_zeroCells]
              rw [l3, hzl, hzs, hnl, ← Nat.add_mul]
              congr 1; omega
            have := VR.newSlice (n := k) (c := grownCap w (0 + k) 0 e) (Mp.add_same m H.next L) l2 (by omega) (by rw [l4, hlim]; exact Nat.le_refl _)
            rw [l1] at this
            rw [show 0 + k = k by omega] at this ⊢
            exact this
        · rename_i r o n c
          split at h
          · rename_i cs esz hg
            split at h <;> first | cases h | skip
            rename_i hes
            split at h <;> first | cases h | skip
            rename_i hle
            split at h <;> first | cases h | skip
            rename_i hbig
            split at h <;> first | cases h | skip
            rename_i hbig2
            split at h <;> first | cases h | skip
            rename_i hone
            subst esz
            -- the slice's value
            have hsv : ∃ L, m r = some L ∧ ((∃ c', s' = .slice (some ⟨L.blk, L.shift + o, none⟩) n c' ∧ n ≤ c' ∧ L.shift + o + c' * L.esz ≤ L.lim) ∨ (n = 0 ∧ ∃ a, s' = .slice (some a) 0 0 ∧ L.shift + o ≤ L.lim ∧ a.block = L.blk)) := by
              cases hs with
              | slice hm h1 h2 => exact ⟨_, hm, .inl ⟨_, rfl, h1, h2⟩⟩
              | slice0 hm h1 ha => exact ⟨_, hm, .inr ⟨rfl, _, rfl, h1, ha⟩⟩
            obtain ⟨L, hm, hsv⟩ := hsv
            have hL : L.esz = size := (hr.obj r L _ hm hg).1
            obtain ⟨olds', hlo, hra⟩ := hr.range hm hg hle
            have hol : olds'.length = n * size := by rw [← hlo.1]; simp; omega
            subst his; subst hib
            -- a new block
            have grow : ∀ (base : Option Addr) (cap : Nat), (Builtin.firstCells i.size n (.slice base n cap)).run P w.drew = .ok olds'.toArray w.drew → cap < n + k →
                (Builtin.append_ #[t, tx] ty #[.slice base n cap, x']).run P w = .ok (.slice (some ⟨w.heap.size, 0, none⟩) (n + k) (grownCap w (n + k) cap e)) (w.drew.alloc (.cells ((olds' ++ news').toArray ++ Builtin.zeroCells z.cells (grownCap w (n + k) cap e - (n + k))) e)) :=
              fun base cap hold hcap => run_append_grow_src (P := P) w t tx ty e i z hut hi hiz base n cap olds' hold x' k news' hS hcap (by omega) (growslice_fits hcap hbig)
            have growSim : ∀ (base : Option Addr) (cap : Nat), (Builtin.firstCells i.size n (.slice base n cap)).run P w.drew = .ok olds'.toArray w.drew → cap < n + k → s' = .slice base n cap →
                Sim P B w0 m ((H.set r .dead).push (.cells ((cs.drop o).take (n * i.size) ++ news) true i.size)) w (Builtin.append_ #[t, tx] ty #[s', x']) (.slice (some ⟨H.next, 0, none⟩) (n + k) (n + k)) := by
              intro base cap hold hcap hs'
              subst hs'
              have hge := grownCap_ge w (n + k) cap e
              have hg1 : Grows w (w.drew.alloc (.cells ((olds' ++ news').toArray ++ Builtin.zeroCells z.cells (grownCap w (n + k) cap e - (n + k))) e)) (.cells ((olds' ++ news') ++ (Builtin.zeroCells z.cells (grownCap w (n + k) cap e - (n + k))).toList).toArray e (0, 0)) := by
                have hc : ((olds' ++ news').toArray ++ Builtin.zeroCells z.cells (grownCap w (n + k) cap e - (n + k))) = ((olds' ++ news') ++ (Builtin.zeroCells z.cells (grownCap w (n + k) cap e - (n + k))).toList).toArray := by
                  apply Array.ext'; simp
                rw [hc]
                exact Grows.da w _
              obtain ⟨L2, l1, l2, l3, l4, hrel⟩ := (hr.kill hg).new (esz := i.size) (hlo.append hln) hg1 (.inl rfl)
              refine ⟨_, _, m.add H.next L2, grow base cap hold hcap, ?_, Mp.le_add (hr.fresh _ (Nat.le_refl _)), hrel⟩
              have hlim : L2.lim = grownCap w (n + k) cap e * i.size := by
                have hzl : (Builtin.zeroCells z.cells (grownCap w (n + k) cap e - (n + k))).toList.length = (grownCap w (n + k) cap e - (n + k)) * z.cells.size := by rw [Array.length_toList, size_zeroCells]
                rw [l3, hzl, hzs, List.length_append, hol, hnl, ← Nat.add_mul, ← Nat.add_mul]
                congr 1; omega
              have := VR.newSlice (n := n + k) (c := grownCap w (n + k) cap e) (Mp.add_same m H.next L2) l2 (by omega) (by rw [l4, hlim]; exact Nat.le_refl _)
              rw [l1] at this
              exact this
            rcases hsv with ⟨c', hs', h1, h2⟩ | ⟨hn0, a, hs', h1, hab⟩
            · by_cases hroom : n + k ≤ c'
              · -- there is room
                have hmul : (n + k) * i.size ≤ c' * i.size := Nat.mul_le_mul_right _ hroom
                rw [Nat.add_mul] at hmul
                rw [hL] at h2
                obtain ⟨ht, hrel⟩ := hr.moved (o := o) (n := n * i.size) hm hg hle hln (by have := hln.1; omega)
                have hrun := run_append_room_src (P := P) w t tx ty e i hut hi L.blk (L.shift + o) n c' x' k news' hS hroom (fun j hj => (ht j hj).1) (fun j hj => (ht j hj).2)
                subst hs'
                refine ⟨_, _, _, hrun, ?_, Mp.le_add (hr.fresh _ (Nat.le_refl _)), hrel⟩
                have := VR.slice (o := 0) (n := n + k) (c := c') (Mp.add_same m H.next ⟨L.blk, L.shift + o, L.lim, i.size⟩) hroom (by dsimp only; omega)
                exact this
              · exact growSim _ c' (by rw [← hs'] ; subst hs'; exact rangeAt_first hol hra) (by omega) hs'
            · subst hn0
              by_cases hk0 : k = 0
              · subst hk0
                have hnil : news' = [] := by
                  have := hS.newsLen; simp at this; exact this
                have hnil2 : news = [] := by
                  have := hln.1; rw [hnil] at this; simpa using this
                subst hnil; subst hnil2
                obtain ⟨ht, hrel⟩ := hr.moved (o := o) (n := 0) (news := []) (news' := []) hm hg (by omega) LR.nil (by simpa using h1)
                subst hs'
                refine ⟨.slice (some a) 0 0, w, _, ?_, ?_, Mp.le_add (hr.fresh _ (Nat.le_refl _)), by simpa [World.setCells] using hrel⟩
                · have hst : (storeCells (a.add 0) []).run P w = .ok () w := rfl
                  rcases hS.kind with ⟨e', hk⟩ | hk <;>
                    simp [Builtin.append_, run_underlying hut, run_underlying hk, sizeOf, typeInfo, hi, hS.len, hS.cells, hst]
                · exact .slice0 (Mp.add_same m H.next ⟨L.blk, L.shift + o, L.lim, i.size⟩) (by dsimp only; omega) hab
              · have hnil : olds' = [] := by simpa using hol
                refine growSim (some a) 0 ?_ (by omega) hs'
                rw [hnil]
                have := run_firstCells_some (P := P) w.drew i.size 0 a 0 0 [] (by simp) (fun j u hj => by simp at hj)
                exact this
          · cases h
        · cases h
      · cases h
    · cases h
  · cases h


theorem sim_copy {t tx ty : TypeId} {d d' s s' v : Value} (hr : Rel B w0 m H w) (h : aCopy P t tx d s H = some (v, H')) (hd : VR m d d') (hs : VR m s s') :
    Sim P B w0 m H' w (Builtin.copy_ #[t, tx] ty #[d', s']) v := by
  unfold aCopy at h
  split at h
  · rename_i e he
    have hut := elemOf_spec he
    split at h
    · rename_i size hsz
      split at h
      · rename_i dd dn dc ss sn sc
        obtain ⟨da', dc', rfl⟩ := hd.slice'
        obtain ⟨sa', sc', rfl⟩ := hs.slice'
        split at h
        · rename_i h0
          cases h
          refine Sim.same hr (v' := goInt 0) ?_ (.int _ _)
          have hfc : (Builtin.firstCells size 0 (.slice sa' sn sc')).run P w = .ok #[] w := by
            cases sa' with
            | none => rfl
            | some a => simp [Builtin.firstCells, loadCells, loadCellsFrom]
          have hst : ∀ a : Addr, (storeCells a []).run P w = .ok () w := fun a => rfl
          cases da' <;> simp [Builtin.copy_, run_underlying hut, Builtin.lenOf, h0, run_szOf hsz, hfc, hst]
        · rename_i h0
          split at h
          · rename_i r o
            split at h
            · rename_i cs esz news hg hc
              split at h <;> first | cases h | skip
              rename_i hle
              split at h <;> first | cases h | skip
              rename_i hone
              have hmin : 0 < Nat.min sn dn := by omega
              have hdpos : dn ≠ 0 := by intro e; rw [e] at hmin; simp at hmin
              obtain ⟨hlen, cs', hl, hh⟩ := hr.cells hc hs (fun hp k a c e => by
                cases e
                by_cases hk : 0 < sn
                · exact hk
                · have : sn = 0 := by omega
                  rw [this] at hmin; simp at hmin)
              cases hd with
              | @slice _ _ L _ c hm h1 h2 =>
                obtain ⟨ht, hrel⟩ := hr.store (o := o) hm hg hl (by omega)
                have hone' := all_one hl hone
                have hst := run_storeCells_cells (P := P) L.blk (L.shift + o) cs' 0 w (fun j hj => by simpa using (ht j hj).1) (fun j hj => by simpa using (ht j hj).2) hone'
                simp only [Nat.add_zero] at hst
                refine ⟨goInt (Nat.min sn dn), _, m, ?_, .int _ _, Mp.le_refl m, hrel⟩
                have hlen' : cs'.length = Nat.min sn dn * size := by rw [← hl.1]; exact hlen
                rcases hh with ⟨ad, k, c2, hsv, hcell⟩ | ⟨hsv, rfl⟩
                · cases hsv
                  have hload := run_loadCells_list (P := P) w ad cs' hcell
                  rw [hlen'] at hload
                  simp [Builtin.copy_, run_underlying hut, Builtin.lenOf, run_szOf hsz, Builtin.firstCells, hload, hst]
                · cases hsv
                  simp at hmin
              | slice0 hm h1 ha => omega
            · cases h
          · cases h
      · cases h
    · cases h
  · cases h

theorem zero_zl (z : Array Value) (n : Nat) (h0 : 0 < z.size) : (Builtin.zeroCells z n).toList = zl z.toList n := by
  apply List.ext_getElem?
  intro i
  unfold Builtin.zeroCells zl
  simp only [Array.toList_map, Array.toList_range, List.getElem?_map, Array.length_toList]
  by_cases hi : i < n * z.size
  · rw [List.getElem?_range hi]
    have hlt : i % z.size < z.size := Nat.mod_lt _ h0
    simp [getElem!_def, hlt]
  · rw [List.getElem?_eq_none (by simp; omega)]
    rfl

theorem sim_clear {t ty : TypeId} {x x' v : Value} (hr : Rel B w0 m H w) (h : aClear P t x H = some (v, H')) (hx : VR m x x') :
    Sim P B w0 m H' w (Builtin.clear_ #[t] ty #[x']) v := by
  unfold aClear at h
  split at h
  · rename_i e n c he
    cases h
    cases hx
    refine Sim.same hr (v' := .tuple #[]) ?_ .nores
    simp [Builtin.clear_, run_underlying (elemOf_spec he)]
  · rename_i e r o n c he
    have hut := elemOf_spec he
    split at h
    · rename_i h0
      cases h
      subst h0
      obtain ⟨a', c', rfl⟩ := hx.slice'
      refine Sim.same hr (v' := .tuple #[]) ?_ .nores
      cases a' <;> simp [Builtin.clear_, run_underlying hut]
    · rename_i h0
      split at h
      · rename_i size z cs esz hsz hz hg
        split at h <;> first | cases h | skip
        rename_i hgz
        split at h <;> first | cases h | skip
        rename_i hzs
        split at h <;> first | cases h | skip
        rename_i hone
        split at h <;> first | cases h | skip
        rename_i hpos
        split at h <;> first | cases h | skip
        rename_i hle
        have hzpos : 0 < z.cells.toList.length := by simpa [hzs] using hpos
        have hll : (zl z.cells.toList n).length = n * size := by rw [zl_length]; simp [hzs]
        have hl : LR m (zl z.cells.toList n) (zl z.cells.toList n) := LR.refl_sg (zl_all (ground_cells hgz) (.inr hzpos) n)
        cases hx with
        | @slice _ _ L _ c hm h1 h2 =>
          obtain ⟨ht, hrel⟩ := hr.store (o := o) hm hg hl (by omega)
          have hone' := all_one hl (zl_all hone (.inr hzpos) n)
          have hst := run_storeCells_cells (P := P) L.blk (L.shift + o) (zl z.cells.toList n) 0 w (fun j hj => by simpa using (ht j hj).1) (fun j hj => by simpa using (ht j hj).2) hone'
          simp only [Nat.add_zero] at hst
          refine ⟨.tuple #[], _, m, ?_, .nores, Mp.le_refl m, hrel⟩
          obtain ⟨n', rfl⟩ : ∃ n', n = n' + 1 := ⟨n - 1, by omega⟩
          simp [Builtin.clear_, run_underlying hut, run_zeroOf hz, zero_zl z.cells _ (by omega), hst]
        | slice0 hm h1 ha => omega
      · cases h
  · cases h

theorem sim_len {t ty : TypeId} {x x' v : Value} (hr : Rel B w0 m H w) (h : aLen P t x H = some (v, H')) (hx : VR m x x') :
    Sim P B w0 m H' w (Builtin.len_ #[t] ty #[x']) v := by
  unfold aLen at h
  split at h
  · rename_i s hu
    cases h; cases hx
    exact Sim.same hr (v' := goInt s.size) (by simp [Builtin.len_, run_underlying hu]) (.int _ _)
  · rename_i n e hu
    cases h
    exact Sim.same hr (v' := goInt n) (by simp [Builtin.len_, run_underlying hu]) (.int _ _)
  · rename_i e a n c hu
    cases h
    obtain ⟨a', c', rfl⟩ := hx.slice'
    exact Sim.same hr (v' := goInt n) (by simp [Builtin.len_, run_underlying hu]) (.int _ _)
  · rename_i k e hu
    cases h; cases hx
    exact Sim.same hr (v' := goInt 0) (by simp [Builtin.len_, run_underlying hu]) (.int _ _)
  · rename_i k e r hu
    split at h
    · rename_i es c hg
      cases h
      cases hx with
      | @map _ L hm =>
        obtain ⟨es', h1, h2⟩ := hr.map hm hg
        refine Sim.same hr (v' := goInt es'.size) (by simp [Builtin.len_, run_underlying hu, run_getMap h1]) ?_
        have := h2.1
        simp only [Array.length_toList] at this
        rw [this]
        exact .int _ _
    · cases h
  · cases h

theorem toList2 {α : Type} {x : Array α} {a b : α} (h : x.toList = [a, b]) : x = #[a, b] := by
  apply Array.ext'; rw [h]
theorem toList1 {α : Type} {x : Array α} {a : α} (h : x.toList = [a]) : x = #[a] := by
  apply Array.ext'; rw [h]
theorem LR.two {a b : Value} {l : List Value} (h : LR m [a, b] l) : ∃ a' b', l = [a', b'] ∧ VR m a a' ∧ VR m b b' := by
  have hl := h.1
  match l, hl with
  | [x, y], _ => exact ⟨x, y, rfl, h.head, h.tail.head⟩
theorem LR.one {a : Value} {l : List Value} (h : LR m [a] l) : ∃ a', l = [a'] ∧ VR m a a' := by
  have hl := h.1
  match l, hl with
  | [x], _ => exact ⟨x, rfl, h.head⟩

end
end Go.Abs
