/-
More operations: make, slices, addresses, fields, elements, maps.
-/
import Derived.Test.YtjlhjebmbllkiaaAbs5
set_option linter.unusedVariables false
set_option linter.unusedSimpArgs false
namespace Go.Abs
open Go.RowKit
section
variable {P : Program} {B : Nat} {w0 : World} {m : Mp} {H H' : AHeap} {w : World}

theorem infoOf {t : TypeId} {n : Nat} (h : szOf P t = some n) : ∃ i, P.info? t = some i ∧ i.size = n := by
  unfold szOf at h
  cases hi : P.info? t with
  | none => simp [hi] at h
  | some i => exact ⟨i, rfl, by simpa [hi] using h⟩

theorem zl_all {z : List Value} {p : Value → Bool} (h : z.all p = true) (hd : p default = true ∨ 0 < z.length) (n : Nat) : (zl z n).all p = true := by
  rw [List.all_eq_true]
  intro x hx
  unfold zl at hx
  obtain ⟨i, hi, rfl⟩ := List.mem_map.1 hx
  by_cases h0 : i % z.length < z.length
  · rw [List.getD_eq_getElem?_getD, List.getElem?_eq_getElem h0]
    exact List.all_eq_true.1 h _ (by simp)
  · rcases hd with hd | hd
    · rw [List.getD_eq_getElem?_getD, List.getElem?_eq_none (by omega)]; exact hd
    · exact absurd (Nat.mod_lt _ hd) h0
theorem zl_length (z : List Value) (n : Nat) : (zl z n).length = n * z.length := by simp [zl]
theorem made_zl (z : Array Value) (n k : Nat) (hk : n * z.size ≤ k) (h0 : 0 < z.size) : (madeCells z k).toList.take (n * z.size) = zl z.toList n := by
  apply List.ext_getElem?
  intro i
  unfold madeCells zl
  simp only [Array.toList_map, Array.toList_range, List.getElem?_take, Array.length_toList, List.getElem?_map]
  by_cases hi : i < n * z.size
  · rw [if_pos hi, List.getElem?_range (by omega), List.getElem?_range hi]
    have hlt : i % z.size < z.size := Nat.mod_lt _ h0
    simp [getElem!_def, hlt]
  · rw [if_neg hi, List.getElem?_eq_none (by simp; omega)]
    rfl

theorem sim_makeSlice {t : TypeId} {l c l' c' v : Value} (hr : Rel B w0 m H w) (h : aMakeSlice P t l c H = some (v, H')) (hl : VR m l l') (hc : VR m c c') :
    Sim P B w0 m H' w (Instr.makeSlice t l' c') v := by
  unfold aMakeSlice at h
  split at h
  · rename_i kl li kc ci
    cases hl; cases hc
    split at h
    · rename_i e he
      split at h
      · rename_i size z bytes hsz hz hb
        split at h <;> first | cases h | skip
        rename_i hg
        split at h <;> first | cases h | skip
        rename_i hzs
        split at h <;> first | cases h | skip
        rename_i hpos
        split at h <;> first | cases h | skip
        rename_i h0
        split at h <;> first | cases h | skip
        rename_i hlc
        split at h <;> first | cases h | skip
        rename_i hbig
        split at h <;> first | cases h | skip
        rename_i h63
        obtain ⟨i, hi, hiz⟩ := zeroOf_spec hz
        have his : i.size = size := by simpa [szOf, hi] using hsz
        have hib : i.bytes = bytes := by simpa [bytesOf, hi] using hb
        have hmul : (i.bytes : Int) * ci = ci * bytes := by rw [hib, Int.mul_comm]
        have hrun := run_make (P := P) w t e i z (elemOf_spec he) hi hiz kl kc li ci h0 hlc (by rw [hmul]; omega) h63
        subst hzs
        rw [his] at hrun
        have hle : li.toNat * z.cells.size ≤ ci.toNat * z.cells.size := Nat.mul_le_mul_right _ (by omega)
        have hmade := made_zl z.cells li.toNat (ci.toNat * z.cells.size) hle hpos
        have hg1 : Grows w (w.alloc (.cells (madeCells z.cells (ci.toNat * z.cells.size)) e)) (.cells (zl z.cells.toList li.toNat ++ (madeCells z.cells (ci.toNat * z.cells.size)).toList.drop (li.toNat * z.cells.size)).toArray e (0, 0)) := by
          rw [← hmade, List.take_append_drop]
          simpa using Grows.push w (.cells (madeCells z.cells (ci.toNat * z.cells.size)) e (0, 0)) w.drawn
        obtain ⟨L, l1, l2, l3, l4, hrel⟩ := hr.new (esz := z.cells.size) (LR.refl_sg (zl_all (ground_cells hg) (.inr (by simpa using hpos)) li.toNat)) hg1 (.inl rfl)
        refine ⟨_, _, m.add H.next L, hrun, ?_, Mp.le_add (hr.fresh _ (Nat.le_refl _)), hrel⟩
        have hlim : L.lim = ci.toNat * z.cells.size := by
          rw [l3, zl_length]
          simp [madeCells]
          omega
        have := VR.newSlice (n := li.toNat) (c := ci.toNat) (Mp.add_same m H.next L) l2 (by omega) (by rw [l4, hlim]; exact Nat.le_refl _)
        rw [l1] at this
        exact this
      · cases h
    · cases h
  · cases h

theorem intOr_spec {d : Nat} {o o' : Option Value} {i : Int} (h : intOr d o = some i) (ho : o = none ∧ o' = none ∨ ∃ v v', o = some v ∧ o' = some v' ∧ VR m v v') :
    (o' = none ∧ i = d) ∨ ∃ k, o' = some (.int k i) := by
  rcases ho with ⟨rfl, rfl⟩ | ⟨v, v', rfl, rfl, hv⟩
  · simp only [intOr, Option.some.injEq] at h; exact .inl ⟨rfl, h.symm⟩
  · unfold intOr at h
    split at h
    · rename_i hh; cases hh
    · rename_i k i' hh; cases hh; cases h; cases hv; exact .inr ⟨_, rfl⟩
    · cases h

theorem sim_slice {t : TypeId} {x x' v : Value} {lo hi lo' hi' : Option Value} (hr : Rel B w0 m H w) (h : aSlice P t x lo hi H = some (v, H')) (hx : VR m x x')
    (hlo : lo = none ∧ lo' = none ∨ ∃ v v', lo = some v ∧ lo' = some v' ∧ VR m v v') (hhi : hi = none ∧ hi' = none ∨ ∃ v v', hi = some v ∧ hi' = some v' ∧ VR m v v') :
    Sim P B w0 m H' w (Instr.sliceAt t x' lo' hi' none) v := by
  have notArr : (∃ d, P.underlying t = some d ∧ (∀ n e, d ≠ .array n e)) → ∀ w : World, (Instr.sliceAt t x' lo' hi' none).run P w = (Instr.slice t x' lo' hi' none).run P w := by
    rintro ⟨d, hd, hne⟩ w
    unfold Instr.sliceAt
    rw [Sem.run_bind, run_underlying hd]
    cases d <;> first | rfl | exact absurd rfl (hne _ _)
  unfold aSlice at h
  split at h
  · rename_i s hu
    have hopt : ∀ {o o' : Option Value}, (o = none ∧ o' = none ∨ ∃ v v', o = some v ∧ o' = some v' ∧ VR m v v') → LR m o.toList o'.toList := by
      rintro o o' (⟨rfl, rfl⟩ | ⟨v, v', rfl, rfl, hv⟩)
      · exact .nil
      · exact .cons hv .nil
    have hlr : LR m ((Value.string s :: lo.toList) ++ hi.toList) ((x' :: lo'.toList) ++ hi'.toList) := (LR.cons hx (hopt hlo)).append (hopt hhi)
    obtain ⟨v', w', m', h1, h2⟩ := sim_ground (s' := Instr.slice t x' lo' hi' none) hr h hlr (fun e => by
      rcases hlo with ⟨rfl, rfl⟩ | ⟨a, a', rfl, rfl, ha⟩ <;> rcases hhi with ⟨rfl, rfl⟩ | ⟨b, b', rfl, rfl, hb⟩ <;> simp at e <;> simp [e])
    exact ⟨v', w', m', by rw [notArr ⟨_, hu, fun _ _ => by simp⟩]; exact h1, h2⟩
  · rename_i e a len cap hu
    split at h
    · rename_i size l hh hsz hl hh'
      split at h <;> first | cases h | skip
      rename_i h0
      split at h <;> first | cases h | skip
      rename_i hlh
      split at h <;> first | cases h | skip
      rename_i hhl
      have hl2 := intOr_spec hl hlo
      have hh2 := intOr_spec hh' hhi
      -- the bounds
      have bounds : ∀ (cap' : Nat), len ≤ cap' → ∀ w : World, (Instr.sliceBounds true len cap' lo' hi' none).run P w = .ok (l.toNat, hh.toNat, cap') w := by
        intro cap' hle w
        unfold Instr.sliceBounds
        have b1 : ∀ (k : IntKind) (y : Nat) (code : BoundsCode), hh ≤ y → (Instr.sliceBound (.int k hh) y code).run P w = .ok hh.toNat w := by
          intro k y code hy
          simp only [Instr.sliceBound, asIntOf, pure_bind]
          rw [if_pos ⟨by omega, hy⟩]
          rfl
        have b2 : ∀ (k : IntKind) (y : Nat) (code : BoundsCode), l ≤ y → (Instr.sliceBound (.int k l) y code).run P w = .ok l.toNat w := by
          intro k y code hy
          simp only [Instr.sliceBound, asIntOf, pure_bind]
          rw [if_pos ⟨h0, hy⟩]
          rfl
        have e1 : (len : Int).toNat = len := by omega
        rcases hl2 with ⟨rfl, rfl⟩ | ⟨kl, rfl⟩ <;> rcases hh2 with ⟨rfl, rfl⟩ | ⟨kh, rfl⟩
        · simp
        · simp [b1 kh cap' _ (by omega)]
        · simp [b2 kl len _ (by omega)]
        · simp [b1 kh cap' _ (by omega), b2 kl hh.toNat _ (by omega)]
      have hrun : ∀ (a' : Option Addr) (cap' : Nat), len ≤ cap' → (Instr.sliceAt t (.slice a' len cap') lo' hi' none).run P w =
          .ok (.slice (if cap' = l.toNat then a' else a'.map (·.add (l.toNat * size))) (hh.toNat - l.toNat) (cap' - l.toNat)) w := by
        intro a' cap' hle
        have : (Instr.sliceAt t (.slice a' len cap') lo' hi' none).run P w = (Instr.slice t (.slice a' len cap') lo' hi' none).run P w := by
          unfold Instr.sliceAt
          rw [Sem.run_bind, run_underlying hu]
          rfl
        rw [this]
        simp only [Instr.slice, Sem.run_bind, run_underlying hu, Result.andThen_ok, bounds cap' hle, run_szOf hsz, Sem.run_pure]
      cases hx with
      | sliceNil =>
        simp only at h
        split at h
        · rename_i hn
          cases h
          refine Sim.same hr (hrun none 0 (Nat.le_refl _)) ?_
          have e1 : l.toNat = 0 := by omega
          have e2 : hh.toNat = 0 := by omega
          rw [e1, e2]
          exact .sliceNil
        · cases h
      | @slice r o L _ c hm hn hlm =>
        simp only at h
        split at h
        · rename_i cs own esz hg
          split at h
          · rename_i hes
            cases h
            have hL : L.esz = size := (hr.obj r L _ hm hg).1.trans hes
            have hle : l.toNat * L.esz ≤ c * L.esz := Nat.mul_le_mul_right _ (by omega)
            refine Sim.same hr (hrun _ c hn) ?_
            by_cases hc : c = l.toNat
            · rw [if_pos hc]
              have e1 : hh.toNat - l.toNat = 0 := by omega
              have e2 : c - l.toNat = 0 := by omega
              rw [e1, e2]
              exact .slice0 hm (by rw [← hL]; omega) rfl
            · rw [if_neg hc]
              simp only [Option.map_some, Addr.add_mid]
              have e3 : L.shift + o + l.toNat * size = L.shift + (o + l.toNat * size) := by omega
              rw [e3]
              refine .slice hm (by omega) ?_
              have : (c - l.toNat) * L.esz = c * L.esz - l.toNat * L.esz := Nat.sub_mul _ _ _
              rw [this, ← hL]
              omega
          · cases h
        · cases h
      | sliceE a' c =>
        simp only at h
        split at h
        · cases h
          refine Sim.same hr (hrun _ c (Nat.zero_le _)) ?_
          have e1 : l.toNat = 0 := by omega
          have e2 : hh.toNat = 0 := by omega
          rw [e1, e2]
          have e3 : (if c = 0 then some a' else (some a').map (·.add (0 * size))) = some a' := by
            split
            · rfl
            · simp [Addr.add]
          rw [e3]
          exact .sliceE a' _
        · rename_i hn; exact absurd True.intro hn
      | @slice0 r o L a' hm hlm ha =>
        simp only at h
        split at h
        · split at h
          · cases h
            refine Sim.same hr (hrun _ 0 (Nat.le_refl _)) ?_
            have e1 : l.toNat = 0 := by omega
            have e2 : hh.toNat = 0 := by omega
            rw [e1, e2]
            simp only [Nat.zero_mul, Nat.sub_self, Nat.add_zero, if_true]
            exact .slice0 hm hlm ha
          · cases h
        · cases h
    · cases h
  · cases h

theorem sim_fieldAddr {s : TypeId} {x x' v : Value} {f : Nat} (hr : Rel B w0 m H w) (h : aFieldAddr P s x f H = some (v, H')) (hx : VR m x x') : Sim P B w0 m H' w (Instr.fieldAt s x' f) v := by
  unfold aFieldAddr at h
  split at h
  · rename_i fields r o hu
    split at h
    · rename_i fd hfd
      split at h
      · rename_i n hn
        split at h
        · cases h
        · rename_i hn0
          cases h
          cases hx with
          | @ptr _ _ L hm =>
            refine Sim.same hr (v' := .pointer (some ⟨L.blk, L.shift + (o + fd.offset), none⟩)) ?_ (.ptr hm)
            simp only [Instr.fieldAt, Sem.run_bind, run_underlying hu, Result.andThen_ok, hfd, Instr.sureAddr, Sem.run_pure, fieldPlace, run_szOf hn, Sem.run_ite, hn0, if_false, Addr.add_mid, Nat.add_assoc]
      · cases h
    · cases h
  · cases h

theorem run_part {t : TypeId} {cs cs' : Array Value} {off : Nat} {v : Value} (h : partOf P t cs off = some v) (ha : AR m cs cs') : ∃ v', (∀ w : World, (part t cs' off).run P w = .ok v' w) ∧ VR m v v' := by
  unfold partOf at h
  split at h
  · rename_i hagg
    split at h
    · rename_i n hn
      cases h
      obtain ⟨d, hd, hd2⟩ := isAgg_true hagg
      have hia : ∀ w : World, (isAgg t).run P w = .ok true w := by
        intro w
        unfold isAgg
        rw [Sem.run_bind, run_underlying hd w]
        cases d <;> simp_all [TypeDesc.isRow]
      refine ⟨.agg (cs'.extract off (off + n)), fun w => ?_, ?_⟩
      · simp only [part, Sem.run_bind, hia, Result.andThen_ok, if_true, run_szOf hn, Sem.run_pure]
      · have : AR m ((cs.toList.drop off).take n).toArray (cs'.extract off (off + n)) := by
          rw [AR.iff] at ha ⊢
          have e : (cs'.extract off (off + n)).toList = (cs'.toList.drop off).take n := by
            simp only [Array.toList_extract, List.extract_eq_take_drop]
            congr 1; omega
          rw [e]
          exact (ha.drop _).take _
        exact .agg this.1 this.2
    · cases h
  · rename_i hagg
    obtain ⟨v', hv', hvr⟩ := ha.toList.get (i := off) (v := v) (by simpa using h)
    refine ⟨v', fun w => ?_, hvr⟩
    have : cs'[off]? = some v' := by simpa using hv'
    simp only [part, Sem.run_bind, isAgg_false hagg w, Result.andThen_ok, this]
    rfl
  · cases h

theorem sim_field {t : TypeId} {x x' v : Value} {f : Nat} (hr : Rel B w0 m H w) (h : aField P t x f H = some (v, H')) (hx : VR m x x') : Sim P B w0 m H' w (Instr.field t x' f) v := by
  unfold aField at h
  split at h
  · rename_i fields cs hu
    split at h
    · rename_i fd hfd
      split at h
      · rename_i u hp
        cases h
        cases hx with
        | agg hs hh =>
          obtain ⟨v', hrun, hvr⟩ := run_part hp ⟨hs, hh⟩
          refine Sim.same hr ?_ hvr
          simp only [Instr.field, Sem.run_bind, run_underlying hu, Result.andThen_ok, hfd, asAgg, Sem.run_pure, hrun]
      · cases h
    · cases h
  · cases h

theorem sim_indexAddr {t : TypeId} {x x' ix ix' v : Value} (hr : Rel B w0 m H w) (h : aIndexAddr P t x ix H = some (v, H')) (hx : VR m x x') (hi : VR m ix ix') :
    Sim P B w0 m H' w (Instr.indexAt t x' ix') v := by
  unfold aIndexAddr at h
  split at h
  · rename_i e r o len cap k i hu
    split at h
    · rename_i size hsz
      split at h
      · rename_i hb
        cases h
        cases hi
        cases hx with
        | @slice _ _ L _ c hm hn hl =>
          refine Sim.same hr (v' := .pointer (some ⟨L.blk, L.shift + (o + i.toNat * size), none⟩)) ?_ (.ptr hm)
          simp only [Instr.indexAt, Sem.run_bind, asIntOf, Sem.run_pure, run_underlying hu, Result.andThen_ok, run_szOf hsz]
          rw [if_pos hb]
          simp only [Sem.run_bind, run_szOf hsz, Result.andThen_ok, Sem.run_pure, Addr.add_mid, Nat.add_assoc]
        | slice0 hm hl ha => omega
      · cases h
    · cases h
  · rename_i len e r o k i hu
    split at h
    · rename_i size hsz
      split at h
      · rename_i hb
        cases h
        cases hi
        cases hx with
        | @ptr _ _ L hm =>
          refine Sim.same hr (v' := .pointer (some ⟨L.blk, L.shift + (o + i.toNat * size), none⟩)) ?_ (.ptr hm)
          simp only [Instr.indexAt, Sem.run_bind, asIntOf, Sem.run_pure, run_underlying hu, Result.andThen_ok, run_szOf hsz, Instr.sureAddr]
          rw [if_pos hb]
          simp only [Sem.run_bind, run_szOf hsz, Result.andThen_ok, Sem.run_pure, Addr.add_mid, Nat.add_assoc]
      · cases h
    · cases h
  · cases h

theorem sim_index {t : TypeId} {x x' ix ix' v : Value} (hr : Rel B w0 m H w) (h : aIndex P t x ix H = some (v, H')) (hx : VR m x x') (hi : VR m ix ix') :
    Sim P B w0 m H' w (Instr.index t x' ix') v := by
  unfold aIndex at h
  split at h
  · rename_i len e cs k i hu
    split at h
    · rename_i size hsz
      split at h
      · rename_i hb
        split at h
        · rename_i u hp
          cases h
          cases hi
          cases hx with
          | agg hs hh =>
            obtain ⟨v', hrun, hvr⟩ := run_part hp ⟨hs, hh⟩
            refine Sim.same hr ?_ hvr
            simp only [Instr.index, Sem.run_bind, asIntOf, Sem.run_pure, run_underlying hu, Result.andThen_ok]
            rw [if_pos hb]
            simp only [Sem.run_bind, run_szOf hsz, Result.andThen_ok, hrun]
        · cases h
      · cases h
    · cases h
  · exact sim_ground hr h (.cons hx (.cons hi .nil)) (fun e => by simp only [List.cons.injEq, and_true] at e; rw [e.1, e.2])
  · cases h

theorem sim_extract {x x' v : Value} {i : Nat} (hr : Rel B w0 m H w) (h : aExtract x i H = some (v, H')) (hx : VR m x x') : Sim P B w0 m H' w (Instr.extract x' i) v := by
  unfold aExtract at h
  split at h
  · rename_i vs
    split at h
    · rename_i u hu
      cases h
      cases hx with
      | nores => simp at hu
      | @tuple _ x2 hs hh =>
        obtain ⟨v', hv', hvr⟩ := (AR.toList ⟨hs, hh⟩).get (i := i) (v := v) (by simpa using hu)
        refine Sim.same hr ?_ hvr
        have : x2[i]? = some v' := by simpa using hv'
        simp only [Instr.extract, this]
        rfl
    · cases h
  · cases h

end
end Go.Abs
