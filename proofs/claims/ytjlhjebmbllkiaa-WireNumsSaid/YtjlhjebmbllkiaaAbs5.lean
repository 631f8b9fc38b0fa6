/-
More operations: literals, comparisons, conversions, slices, addresses.
-/
import Derived.Test.YtjlhjebmbllkiaaAbs4
import Derived.Lib.ConvBytes
import Derived.Laws.Strings
set_option linter.unusedVariables false
set_option linter.unusedSimpArgs false
namespace Go.Abs
open Go.RowKit
section
variable {P : Program} {B : Nat} {w0 : World} {m : Mp} {H H' : AHeap} {w : World}

theorem elemOf_spec {t e : TypeId} (h : elemOf? P t = some e) : P.underlying t = some (.slice e) := by
  unfold elemOf? at h
  split at h
  · rename_i x hx; cases h; exact hx
  · cases h
theorem run_elem {t : TypeId} {d : TypeDesc} (h : P.underlying t = some d) (w : World) : (underlying t).run P w = .ok d w := run_underlying h w

theorem VR.newSlice {m : Mp} {r : Nat} {L : Loc} {n c : Nat} (hm : m r = some L) (hs : L.shift = 0) (hn : n ≤ c) (hl : c * L.esz ≤ L.lim) :
    VR m (.slice (some ⟨r, 0, none⟩) n n) (.slice (some ⟨L.blk, 0, none⟩) n c) := by
  have := VR.slice (o := 0) (c := c) hm hn (by rw [hs]; omega)
  rw [hs] at this
  exact this

theorem fill_size (place : Nat → Option (Nat × Nat)) : ∀ (ps : List (Nat × Value)) (cs r : Array Value), Instr.fill place cs ps = some r → r.size = cs.size := by
  intro ps
  induction ps with
  | nil => intro cs r h; simp only [Instr.fill, Option.some.injEq] at h; rw [h]
  | cons p ps ih =>
    intro cs r h
    obtain ⟨i, v⟩ := p
    simp only [Instr.fill] at h
    split at h
    · cases h
    · split at h
      · cases h
      · have := ih _ _ h
        rw [this]
        rw [← Array.foldl_toList]
        generalize (v.cells.zipIdx).toList = l
        induction l generalizing cs with
        | nil => rfl
        | cons q l ih2 =>
          rw [List.foldl_cons]
          rename_i off size _ _
          have : ∀ (l : List (Value × Nat)) (a : Array Value), (List.foldl (fun cs (x : Value × Nat) => cs.setIfInBounds (off + x.2) x.1) a l).size = a.size := by
            intro l
            induction l with
            | nil => intro a; rfl
            | cons q l ih => intro a; rw [List.foldl_cons, ih]; simp
          rw [this]; simp

theorem zl_range (z : Array Value) (n : Nat) : ((Array.range (n * z.size)).map (z[· % z.size]!)).toList = zl z.toList n := by
  apply List.ext_getElem?
  intro i
  unfold zl
  simp only [Array.toList_map, Array.toList_range, List.getElem?_map, Array.length_toList]
  by_cases hi : i < n * z.size
  · rw [List.getElem?_range hi]
    by_cases hlt : i % z.size < z.size
    · simp [getElem!_def, hlt]
    · simp [getElem!_def, hlt]
  · rw [List.getElem?_eq_none (by simp; omega)]
    rfl
theorem sg_default : sg (default : Value) = true := rfl
theorem zl_sg {z : List Value} (h : z.all sg = true) (n : Nat) : (zl z n).all sg = true := by
  rw [List.all_eq_true]
  intro x hx
  unfold zl at hx
  obtain ⟨i, hi, rfl⟩ := List.mem_map.1 hx
  by_cases h0 : i % z.length < z.length
  · rw [List.getD_eq_getElem?_getD, List.getElem?_eq_getElem h0]
    exact List.all_eq_true.1 h _ (by simp)
  · rw [List.getD_eq_getElem?_getD, List.getElem?_eq_none (by omega)]; exact sg_default

theorem sim_buildSlice {t : TypeId} {len : Nat} {ps : List (Nat × Value)} {ps' : Array (Nat × Value)} {v : Value} (hr : Rel B w0 m H w) (h : aBuildSlice P t len ps H = some (v, H')) (hp : PR m ps ps'.toList) :
    Sim P B w0 m H' w (Instr.buildSlice t len ps') v := by
  unfold aBuildSlice at h
  split at h
  · rename_i cells size hc
    cases h
    unfold litCells at hc
    split at hc
    · rename_i e he
      split at hc
      · rename_i size' z hsz hz
        split at hc <;> first | cases hc | skip
        rename_i hbig
        split at hc <;> first | cases hc | skip
        rename_i hzs
        split at hc <;> first | cases hc | skip
        rename_i hsg
        split at hc
        · rename_i cs hfill
          cases hc
          have hut := elemOf_spec he
          have hzs' : z.cells.size = size := by simpa using hzs
          have hbig' : ¬ (len * size > 2 ^ 24) := by omega
          have hall := zl_sg hsg len
          rw [← zl_range, hzs'] at hfill hall
          have har : AR m ((Array.range (len * size)).map (z.cells[· % size]!)) ((Array.range (len * size)).map (z.cells[· % size]!)) := AR.iff.2 (LR.refl_sg hall)
          obtain ⟨r', hr', har'⟩ := fill_rel _ _ _ _ _ _ hp har (fillL_fill _ _ _ _ hfill)
          have hrs : r'.toList.length = len * size := by
            rw [Array.length_toList, fill_size _ _ _ _ hr']; simp
          obtain ⟨L, l1, l2, l3, l4, hrel⟩ := hr.new (esz := size) (tail := []) har'.toList (Grows.push w (.cells _ e (0, 0)) w.drawn) (.inl rfl)
          have hadd := Mp.add_same m H.next L
          refine ⟨.slice (some ⟨w.heap.size, 0, none⟩) len len, _, m.add H.next L, ?_, ?_, Mp.le_add (hr.fresh _ (Nat.le_refl _)), by simpa using hrel⟩
          · by_cases h0 : len * size = 0
            · have e0 : ∀ f : Nat → Value, (Array.map f (Array.range (len * size))) = #[] := fun f => by rw [h0]; simp
              rw [e0] at hr'
              simp only [Instr.buildSlice, Sem.run_bind, run_underlying hut, Result.andThen_ok, run_szOf hsz, hbig', if_false, e0]
              simp only [h0, if_true, Sem.run_pure, hr', newRow, run_newObj]
              simp
            · simp only [Instr.buildSlice, Sem.run_bind, run_underlying hut, Result.andThen_ok, run_szOf hsz, hbig', if_false, h0, run_zeroOf hz, Sem.run_pure, hzs', hr', newRow, run_newObj]
              simp
          · have := VR.newSlice (n := len) (c := len) hadd l2 (Nat.le_refl _) (by rw [l4, l3]; simp [hrs])
            rw [l1] at this
            exact this
        · cases hc
      · cases hc
    · cases hc
  · cases h

theorem nilEq_run {d : TypeDesc} {t : TypeId} {x y x' y' : Value} {b : Bool} (hu : P.underlying t = some d) (h : nilEq d x y = some b) (hx : VR m x x') (hy : VR m y y') (w : World) :
    (Op.equal t x' y').run P w = .ok b w := by
  unfold nilEq at h
  unfold Op.equal Op.maxDepth
  rw [show (10000 : Nat) = 9999 + 1 from rfl]
  generalize 9999 = d
  split at h
  · cases h; cases hx; cases hy <;> simp [Op.equalIn, run_underlying hu]
  · cases h; cases hy; cases hx <;> simp [Op.equalIn, run_underlying hu]
  · cases h; cases hx; cases hy <;> simp [Op.equalIn, run_underlying hu]
  · cases h; cases hy; cases hx <;> simp [Op.equalIn, run_underlying hu]
  · cases h; cases hx; cases hy <;> simp [Op.equalIn, run_underlying hu]
  · cases h; cases hy; cases hx <;> simp [Op.equalIn, run_underlying hu]
  · cases h

theorem nilEq_shape {d : TypeDesc} {x y : Value} {b : Bool} (h : nilEq d x y = some b) : (∃ a c, x = .pointer a ∧ y = .pointer c) ∨ (∃ a n k c n' k', x = .slice a n k ∧ y = .slice c n' k') ∨ (∃ a c, x = .map a ∧ y = .map c) := by
  unfold nilEq at h
  split at h <;> first | cases h | skip
  · exact .inl ⟨_, _, rfl, rfl⟩
  · exact .inl ⟨_, _, rfl, rfl⟩
  · exact .inr (.inl ⟨_, _, _, _, _, _, rfl, rfl⟩)
  · exact .inr (.inl ⟨_, _, _, _, _, _, rfl, rfl⟩)
  · exact .inr (.inr ⟨_, _, rfl, rfl⟩)
  · exact .inr (.inr ⟨_, _, rfl, rfl⟩)
theorem VR.pointer' {a : Option Addr} {c : Value} (h : VR m (.pointer a) c) : ∃ a', c = .pointer a' := by
  cases h <;> exact ⟨_, rfl⟩
theorem VR.slice' {a : Option Addr} {n k : Nat} {c : Value} (h : VR m (.slice a n k) c) : ∃ a' k', c = .slice a' n k' := by
  cases h <;> exact ⟨_, _, rfl⟩
theorem VR.map' {a : Option Nat} {c : Value} (h : VR m (.map a) c) : ∃ a', c = .map a' := by
  cases h <;> exact ⟨_, rfl⟩

def _root_.Go.Value.isNilIface : Value → Bool
  | .nilIface => true
  | _ => false
theorem sim_bin {op : BinOp} {t : TypeId} {x y x' y' v : Value} (ox oy : Operand) (hr : Rel B w0 m H w) (h : aBin P op t x y H = some (v, H')) (hx : VR m x x') (hy : VR m y y') :
    Sim P B w0 m H' w (do eqGuard op t ox oy x' y'; binOp op t x' y') v := by
  unfold aBin at h
  have hlr : LR m [x, y] [x', y'] := .cons hx (.cons hy .nil)
  have guardless : ∀ {a b : Value}, (∀ (c : Array Value), a ≠ .agg c) → a ≠ .nilIface → (eqGuard op t ox oy a b) = pure () := by
    intro a b h1 h2
    unfold eqGuard
    cases op <;> simp only [Bool.not_true, Bool.not_false, Bool.false_eq_true, if_false, if_true] <;> first
      | rfl
      | (split
         · exact absurd rfl h2
         · exact absurd rfl (h1 _)
         · rfl)
  split at h
  · refine sim_ground hr h hlr ?_
    intro e
    simp only [List.cons.injEq, and_true] at e
    rw [e.1, e.2, guardless (fun c hc => by cases hc) (fun hc => by cases hc)]
    simp only [pure_bind]
  · rename_i a b
    cases hx; cases hy
    split at h
    · rename_i u hu
      cases h
      have hlist : ∀ s : ByteArray, s.toList = s.data.toList := fun s => ByteArray.toList_eq s
      have hg0 : eqGuard op t ox oy (.string a) (.string b) = pure () := guardless (fun c hc => by cases hc) (fun hc => by cases hc)
      rw [hg0]
      simp only [pure_bind]
      unfold aStr at hu
      cases op <;> simp only at hu <;> first | (cases hu; done) | skip
      · split at hu
        · rename_i hle
          cases hu
          refine Sim.same hr (v' := .string (a ++ b)) ?_ ?_
          · simp only [binOp, Op.stringOp]
            have : ¬ (((a.size + b.size : Nat) : Int) > IntKind.i64.max) := by
              have e1 : a.data.toList.length = a.size := by rw [Array.length_toList]; rfl
              have e2 : b.data.toList.length = b.size := by rw [Array.length_toList]; rfl
              have e3 : IntKind.i64.max = 9223372036854775807 := rfl
              omega
            rw [if_neg this]; rfl
          · have : a ++ b = ⟨(a.data.toList ++ b.data.toList).toArray⟩ := by
              apply ByteArray.ext
              simp
            rw [this]; exact .string _
        · cases hu
      · cases hu
        refine Sim.same hr ?_ (.bool _)
        simp only [binOp, Op.stringOp, hlist, Sem.run_pure]
        congr 2
        rw [Bool.eq_iff_iff]; simp
      · cases hu
        refine Sim.same hr ?_ (.bool _)
        simp only [binOp, Op.stringOp, hlist, Sem.run_pure]
        congr 3
        rw [Bool.eq_iff_iff]; simp
    · cases h
  · split at h
    · rename_i b hb
      cases h
      refine Sim.same hr (v' := .bool b) ?_ (.bool b)
      unfold nilTest at hb
      split at hb
      · rename_i d hd
        have hne : (eqGuard op t ox oy x' y') = pure () ∨ True := .inr trivial
        have main : ∀ c, nilEq d x y = some c → (eqGuard op t ox oy x' y' = pure ()) ∧ (∀ w : World, (Op.equal t x' y').run P w = .ok c w) ∧ (∃ z1 z2, (x' = .pointer z1 ∧ y' = .pointer z2)) ∨ (eqGuard op t ox oy x' y' = pure ()) ∧ (∀ w : World, (Op.equal t x' y').run P w = .ok c w) ∧ ((∃ a n k c n' k', x' = .slice a n k ∧ y' = .slice c n' k') ∨ (∃ a c, x' = .map a ∧ y' = .map c)) := by
          intro c hc
          have hq := nilEq_run hd hc hx hy
          rcases nilEq_shape hc with ⟨a, c', rfl, rfl⟩ | ⟨a, n, k, c', n', k', rfl, rfl⟩ | ⟨a, c', rfl, rfl⟩
          · obtain ⟨a', rfl⟩ := hx.pointer'
            obtain ⟨c', rfl⟩ := hy.pointer'
            exact .inl ⟨guardless (fun _ hc => by cases hc) (fun hc => by cases hc), hq, _, _, rfl, rfl⟩
          · obtain ⟨a', k', rfl⟩ := hx.slice'
            obtain ⟨c', k'', rfl⟩ := hy.slice'
            exact .inr ⟨guardless (fun _ hc => by cases hc) (fun hc => by cases hc), hq, .inl ⟨_, _, _, _, _, _, rfl, rfl⟩⟩
          · obtain ⟨a', rfl⟩ := hx.map'
            obtain ⟨c', rfl⟩ := hy.map'
            exact .inr ⟨guardless (fun _ hc => by cases hc) (fun hc => by cases hc), hq, .inr ⟨_, _, rfl, rfl⟩⟩
        cases op <;> simp only at hb <;> first | (cases hb; done) | skip
        · rcases main b hb with ⟨hg, hq, z1, z2, rfl, rfl⟩ | ⟨hg, hq, ⟨_, _, _, _, _, _, rfl, rfl⟩ | ⟨_, _, rfl, rfl⟩⟩ <;>
            (rw [hg]; simp [binOp, hq])
        · cases hn : nilEq d x y with
          | none => simp [hn] at hb
          | some c =>
            simp only [hn, Option.map_some, Option.some.injEq] at hb
            subst hb
            rcases main c hn with ⟨hg, hq, z1, z2, rfl, rfl⟩ | ⟨hg, hq, ⟨_, _, _, _, _, _, rfl, rfl⟩ | ⟨_, _, rfl, rfl⟩⟩ <;>
              (rw [hg]; simp [binOp, hq])
      · cases hb
    · -- ground values
      refine sim_ground hr h hlr ?_
      intro e
      simp only [List.cons.injEq, and_true] at e
      rw [e.1, e.2]
      have hgr : x.isNilIface = false := by
        unfold aGround at h
        split at h
        · rename_i hg
          simp only [List.all_cons, Bool.and_eq_true] at hg
          cases x <;> first | rfl | simp [ground, sg] at hg
        · cases h
      congr 1
      unfold eqGuard
      cases op <;> first | rfl | (cases x <;> first | rfl | (cases y <;> rfl) | (exact absurd hgr (by simp [Value.isNilIface])))


theorem sim_un {op : UnOp} {x x' v : Value} (hr : Rel B w0 m H w) (h : aUn P op x H = some (v, H')) (hx : VR m x x') : Sim P B w0 m H' w (Op.unary op x') v :=
  sim_ground hr h (.cons hx .nil) (fun e => by simp only [List.cons.injEq, and_true] at e; rw [e])

theorem sim_nilCheck {p p' v : Value} (h : aNilCheck p H = some (v, H')) (hp : VR m p p') : H' = H ∧ v = p ∧ ∃ a, p' = .pointer (some a) := by
  unfold aNilCheck at h
  split at h
  · cases h
    cases hp
    exact ⟨rfl, rfl, _, rfl⟩
  · cases h

/-- Cells, read out of a slice. -/
theorem Rel.cells {x x' : Value} {n : Nat} {cs : List Value} (hr : Rel B w0 m H w) (h : aCells x n H = some cs) (hx : VR m x x') (hn : 0 < n → ∀ k a c, x = .slice a k c → 0 < k) :
    cs.length = n ∧ ∃ cs', LR m cs cs' ∧ ((∃ (ad : Addr) (k c : Nat), x' = .slice (some ad) k c ∧ ∀ (j : Nat) (u : Value), cs'[j]? = some u → w.cell? (ad.add j) = some u) ∨ (x' = .slice none 0 0 ∧ cs' = [])) := by
  unfold aCells at h
  split at h
  · rename_i r o n' c'
    split at h
    · rename_i ccs own esz hg
      split at h
      · rename_i hle
        cases h
        refine ⟨by simp; omega, ?_⟩
        cases hx with
        | @slice _ _ L _ c hm h1 h2 =>
          obtain ⟨cs', hl, hra⟩ := hr.range hm hg hle
          refine ⟨cs', hl, .inl ⟨_, _, _, rfl, fun j u hj => ?_⟩⟩
          rw [Addr.add_mid]
          exact hra j u hj
        | @slice0 _ _ L a hm h1 ha =>
          have hn0 : n = 0 := by
            by_cases h0 : 0 < n
            · have := hn h0 _ _ _ rfl; omega
            · omega
          subst hn0
          exact ⟨[], by simpa using LR.nil, .inl ⟨_, _, _, rfl, fun j u hj => by simp at hj⟩⟩
      · cases h
    · cases h
  · split at h
    · rename_i h0
      cases h
      subst h0
      cases hx
      exact ⟨rfl, [], LR.nil, .inl ⟨_, _, _, rfl, fun j u hj => by simp at hj⟩⟩
    · cases h
  · split at h
    · rename_i h0
      cases h
      cases hx
      exact ⟨by simp [h0], [], LR.nil, .inr ⟨rfl, rfl⟩⟩
    · cases h
  · cases h

theorem byteOf_spec {v : Value} {b : UInt8} (h : byteOf? v = some b) : ∃ n, v = .int .u8 n ∧ b = UInt8.ofNat n.toNat := by
  unfold byteOf? at h
  split at h
  · cases h; exact ⟨_, rfl, rfl⟩
  · cases h
theorem bytesOf_eq {cs cs' : List Value} {bs : List UInt8} (h : bytesOf? cs = some bs) (hl : LR m cs cs') : cs' = cs := by
  induction cs generalizing cs' bs with
  | nil => have := hl.1; cases cs' with
    | nil => rfl
    | cons => simp at this
  | cons v cs ih =>
    cases cs' with
    | nil => have := hl.1; simp at this
    | cons v' cs' =>
      simp only [bytesOf?] at h
      split at h
      · rename_i b bs' hb hbs
        cases h
        obtain ⟨n, rfl, rfl⟩ := byteOf_spec hb
        have := hl.head
        cases this
        rw [ih hbs hl.tail]
      · cases h
theorem run_bytesLoop {P : Program} : ∀ (cs : List Value) (bs : List UInt8) (s0 : ByteArray) (w : World), bytesOf? cs = some bs →
    (forIn cs.toArray s0 (fun c s => do
      match c with
      | .int .u8 n => pure (ForInStep.yield (s.push (UInt8.ofNat n.toNat)))
      | _ => do
        stuck "bytesToString: byte expected"
        pure (ForInStep.yield s)) : Sem ByteArray).run P w = .ok ⟨s0.data ++ bs.toArray⟩ w := by
  intro cs
  simp only [List.forIn_toArray]
  induction cs with
  | nil =>
    intro bs s0 w h
    simp only [bytesOf?, Option.some.injEq] at h
    subst h
    simp
  | cons v cs ih =>
    intro bs s0 w h
    simp only [bytesOf?] at h
    split at h
    · rename_i b bs' hb hbs
      cases h
      obtain ⟨n, rfl, rfl⟩ := byteOf_spec hb
      simp only [List.forIn_cons, Sem.run_bind, Sem.run_pure, Result.andThen_ok]
      rw [ih bs' _ w hbs]
      simp [ByteArray.push]
    · cases h

/-- A block's mark behind its end. -/
theorem Rel.mark {r : Nat} {L : Loc} {cs : List Value} {esz : Nat} (hr : Rel B w0 m H w) (hm : m r = some L) (hg : H.get r = some (.cells cs true esz)) (a : Addr) (ha : a.block = L.blk) :
    ∃ w', (markStringish a).run P w = .ok () w' ∧ Rel B w0 m H w' := by
  obtain ⟨hesz, cc, e, fr, hb, h1, h2, h3, h4⟩ := hr.obj r L _ hm hg
  have hB : B ≤ L.blk := hr.own r L _ hm hg rfl
  obtain ⟨lo, hi⟩ := fr
  have hsh : w.shape? a.block = some (e, cc.size) := by simp [World.shape?, ha, hb]
  refine ⟨w.freeze ⟨a.block, cc.size, none⟩ 1, by simp [markStringish, hsh], ?_⟩
  have hblk : (w.freeze ⟨a.block, cc.size, none⟩ 1).heap[L.blk]? = some (.cells cc e (if lo == hi then (cc.size, cc.size + 1) else (min lo cc.size, max hi (cc.size + 1)))) := by
    simp [World.freeze, ha, Array.getElem?_modify, hb]
  have hoth : ∀ k, k ≠ L.blk → (w.freeze ⟨a.block, cc.size, none⟩ 1).heap[k]? = w.heap[k]? := by
    intro k hk
    simp [World.freeze, ha, Array.getElem?_modify, Ne.symm hk]
  have hsz : (w.freeze ⟨a.block, cc.size, none⟩ 1).heap.size = w.heap.size := by simp [World.freeze]
  refine ⟨⟨hr.below.os, hr.below.tape, hr.below.output, by rw [hsz]; exact hr.below.size, fun k hk => by rw [hoth k (by omega)]; exact hr.below.block k hk⟩, by rw [hsz]; exact hr.base, ?_, ?_, hr.own, hr.apart, hr.fresh⟩
  · intro r' L' o' hm' hg'
    have hold := hr.obj r' L' o' hm' hg'
    cases o' with
    | dead => exact True.intro
    | map es clock =>
      obtain ⟨a1, a2, es', a3, a4⟩ := hold
      have : L'.blk ≠ L.blk := by rintro e2; rw [e2, hb] at a3; cases a3
      exact ⟨a1, a2, es', by rw [hoth _ this]; exact a3, a4⟩
    | cells cs2 own2 esz2 =>
      obtain ⟨a0, cc2, e2, fr2, a1, a2, a3, a4, a5⟩ := hold
      by_cases hbb : L'.blk = L.blk
      · rw [hbb, hb] at a1
        cases a1
        refine ⟨a0, cc, e, _, by rw [hbb]; exact hblk, a2, a3, a4, fun h => .inr ?_⟩
        have := a5 h
        by_cases hlh : (lo == hi) = true
        · rw [if_pos hlh]; exact Nat.le_refl _
        · rw [if_neg hlh]
          have hne : lo ≠ hi := by simpa using hlh
          dsimp only at this ⊢
          omega
      · exact ⟨a0, cc2, e2, fr2, by rw [hoth _ hbb]; exact a1, a2, a3, a4, a5⟩
  · intro r' L' hm'; rw [hsz]; exact hr.lt r' L' hm'

theorem sim_conv {src dst : TypeId} {x x' v : Value} (hr : Rel B w0 m H w) (h : aConv P src dst x H = some (v, H')) (hx : VR m x x') : Sim P B w0 m H' w (convert src dst x') v := by
  unfold aConv at h
  split at h
  · rename_i a n c
    split at h
    · rename_i e hs hd
      split at h
      · rename_i he
        split at h
        · rename_i cs hcs
          split at h
          · rename_i bs hbs
            cases h
            obtain ⟨hlen, cs', hl, hh⟩ := hr.cells hcs hx (fun h0 k a' c' e => by cases e; exact h0)
            have heq := bytesOf_eq hbs hl
            subst heq
            refine Sim.same hr ?_ (.string _)
            rcases hh with ⟨ad, k, c', rfl, hc⟩ | ⟨rfl, rfl⟩
            · have hk : k = n := by cases hx <;> rfl
              subst hk
              have hload := run_loadCells_list (P := P) w ad cs' hc
              rw [hlen] at hload
              have := run_bytesLoop (P := P) cs' bs .empty w hbs
              simp only [convert, Sem.run_bind, run_underlying hs, run_underlying hd, Result.andThen_ok, run_underlying he, Conv.bytesToString, hload]
              refine (congrArg (fun r => Result.andThen r fun a w' => Sem.run P (pure (Value.string a)) w') this).trans ?_
              simp [ByteArray.empty, ByteArray.emptyWithCapacity]
              rfl
            · simp only [bytesOf?, Option.some.injEq] at hbs
              subst hbs
              simp only [convert, Sem.run_bind, run_underlying hs, run_underlying hd, Result.andThen_ok, run_underlying he, Conv.bytesToString]
              rfl
          · cases h
        · cases h
      · cases h
    · rename_i e0 e hs hd
      split at h
      · rename_i he
        split at h
        · rename_i hsd
          split at h
          · rename_i r o n' c' heq
            split at h
            · rename_i cs esz hg
              cases h
              cases heq
              have fin : ∀ (L : Loc) (a : Addr) (k : Nat), m r = some L → a.block = L.blk → x' = .slice (some a) n k → Sim P B w0 m H w (convert src dst x') (.slice (some ⟨r, o, none⟩) n c) := by
                intro L a k hm ha hx'
                obtain ⟨w', hrun, hrel⟩ := hr.mark (P := P) hm hg a ha
                refine ⟨x', w', m, ?_, hx, Mp.le_refl m, hrel⟩
                subst hx'
                subst hsd
                obtain rfl : e0 = e := by
                  rw [hs] at hd
                  injection hd with hd
                  injection hd
                simp [convert, run_underlying hs, run_underlying he, hrun]
              cases hx with
              | @slice _ _ L _ k hm h1 h2 => exact fin L _ k hm rfl rfl
              | @slice0 _ _ L a hm h1 ha => exact fin L a 0 hm ha rfl
            · cases h
          · cases h
        · cases h
      · cases h
    · cases h
  · rename_i s
    split at h
    · rename_i u e hs hd
      split at h
      · rename_i he
        cases h
        cases hx
        have hrun := Lib.run_convert_string_bytes (P := P) w src dst e s hs hd he
        have hge := grownCap_ge w s.size 0 e
        have hg : Grows w (Lib.bytesWorld w e s) (.cells (byteCells s ++ List.replicate (grownCap w s.size 0 e - s.size) (Value.int .u8 0)).toArray e ((Lib.bytesCells w e s).size, (Lib.bytesCells w e s).size + 1)) := by
          refine ⟨rfl, rfl, rfl, Lib.bytesWorld_size w e s, fun k hk => Lib.bytesWorld_at_old w e s k hk, ?_⟩
          rw [Lib.bytesWorld_at_new]
          congr 2
          apply Array.ext'
          simp [Lib.bytesCells, byteCells]
        have hsz : (Lib.bytesCells w e s).size = s.size + (grownCap w s.size 0 e - s.size) := by
          simp [Lib.bytesCells]
        obtain ⟨L, l1, l2, l3, l4, hrel⟩ := hr.new (esz := 1) (LR.refl_sg (by
          rw [List.all_eq_true]; intro x hx; obtain ⟨_, _, rfl⟩ := List.mem_map.1 hx; rfl)) hg (.inr (by simp [hsz, byteCells_length]))
        refine ⟨_, _, m.add H.next L, hrun, ?_, Mp.le_add (hr.fresh _ (Nat.le_refl _)), hrel⟩
        have := VR.newSlice (n := s.size) (c := grownCap w s.size 0 e) (Mp.add_same m H.next L) l2 hge (by rw [l4, l3, byteCells_length]; simp; omega)
        rw [l1] at this
        exact this
      · cases h
    · exact sim_ground hr h (.cons hx .nil) (fun e => by simp only [List.cons.injEq, and_true] at e; rw [e])
  · exact sim_ground hr h (.cons hx .nil) (fun e => by simp only [List.cons.injEq, and_true] at e; rw [e])

end
end Go.Abs
