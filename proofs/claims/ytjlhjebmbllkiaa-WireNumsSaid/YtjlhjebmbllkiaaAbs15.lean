/-
What comes in: data of plain types, laid into the abstract heap as objects that are only read.
-/
import Derived.Test.YtjlhjebmbllkiaaAbs14
import Derived.ProofKit
import Derived.OpenShut
import Derived.ChangeOld
import Derived.SizedLaws
import Derived.Carry
import Derived.ChangeShapes
set_option linter.unusedVariables false
set_option linter.unusedSimpArgs false
namespace Go.Abs
open Go.RowKit

/-- Codes of types: a struct is a chain of pairs that ends in a unit; an array of n is a chain of n. -/
inductive Ty where
  | int (k : IntKind)
  | bool
  | str
  | slc (bytes : Nat) (e : Ty)
  | pair (a b : Ty)
  | unit

def Ty.Val : Ty → Type
  | .int _ => Int
  | .bool => Bool
  | .str => ByteArray
  | .slc _ e => Option (List e.Val)
  | .pair a b => a.Val × b.Val
  | .unit => Unit
def Ty.sz : Ty → Nat
  | .int _ => 1
  | .bool => 1
  | .str => 1
  | .slc _ _ => 1
  | .pair a b => a.sz + b.sz
  | .unit => 0
/-- A value that can come in. -/
def Ty.Good : (t : Ty) → t.Val → Prop
  | .int k, n => (Lit.int k n).wf = true
  | .bool, _ => True
  | .str, s => s.size ≤ 140737488351232
  | .slc bytes e, l => match l with
    | none => True
    | some l => l.length * bytes ≤ 140737488351232 ∧ l.length ≤ 9223372036854775807 ∧ ∀ x ∈ l, e.Good x
  | .pair a b, (x, y) => a.Good x ∧ b.Good y
  | .unit, _ => True

/-- Elements laid one after another. -/
def placeAll {α : Type} (f : α → AHeap → List Value × AHeap) : List α → AHeap → List Value × AHeap
  | [], H => ([], H)
  | x :: l, H => ((f x H).1 ++ (placeAll f l (f x H).2).1, (placeAll f l (f x H).2).2)
def Ty.place : (t : Ty) → t.Val → AHeap → List Value × AHeap
  | .int k, n, H => ([.int k n], H)
  | .bool, b, H => ([.bool b], H)
  | .str, s, H => ([.string s], H)
  | .slc _ e, l, H => match l with
    | none => ([.slice none 0 0], H)
    | some [] => ([.slice (some ⟨0, 0, some 0⟩) 0 0], H)
    | some (x :: l) => ([.slice (some ⟨(placeAll e.place (x :: l) H).2.next, 0, none⟩) (l.length + 1) (l.length + 1)],
        (placeAll e.place (x :: l) H).2.push (.cells (placeAll e.place (x :: l) H).1 false e.sz))
  | .pair a b, (x, y), H => ((a.place x H).1 ++ (b.place y (a.place x H).2).1, (b.place y (a.place x H).2).2)
  | .unit, _, H => ([], H)

/-- A type of the program and its code. -/
def tyFs (P : Program) (g : TypeId → Option Ty) : List Field → Nat → Option Ty
  | [], _ => some .unit
  | f :: fs, off => match g f.type, tyFs P g fs (off + P.cellsOf f.type) with
    | some c, some r => if f.offset = off ∧ P.cellsOf f.type = c.sz then some (.pair c r) else none
    | _, _ => none
def chain : Nat → Ty → Ty
  | 0, _ => .unit
  | n + 1, c => .pair c (chain n c)
def tyOf (P : Program) : Nat → TypeId → Option Ty
  | 0, _ => none
  | n + 1, t => match P.underlying t with
    | some (.int k) => some (.int k)
    | some .bool => some .bool
    | some .string => some .str
    | some (.slice e) => match tyOf P n e with
      | some c => if P.cellsOf e = c.sz ∧ 0 < c.sz then some (.slc (P.bytesOf e) c) else none
      | none => none
    | some (.struct fs) => match tyFs P (tyOf P n) fs.toList 0 with
      | some c => if P.cellsOf t = c.sz then some c else none
      | none => none
    | some (.array k e) => match tyOf P n e with
      | some c => if P.cellsOf e = c.sz ∧ P.cellsOf t = k * c.sz then some (chain k c) else none
      | none => none
    | _ => none

section
variable {P : Program} {B : Nat} {w0 : World} {m : Mp} {H H' : AHeap} {w : World}

/-- An object that is only read. -/
theorem Rel.pushRo {cs : List Value} {esz : Nat} {L : Loc} (hr : Rel B w0 m H w) (hL : L.esz = esz) (hlt : L.blk < B) (ho : ORel m w L (.cells cs false esz)) :
    Rel B w0 (m.add H.next L) (H.push (.cells cs false esz)) w := by
  have hle : m.le (m.add H.next L) := Mp.le_add (hr.fresh _ (Nat.le_refl _))
  refine ⟨hr.below, hr.base, ?_, ?_, ?_, ?_, ?_⟩
  · intro r L' o' hm hg
    rw [AHeap.get_push] at hg
    by_cases e : r = H.next
    · subst e; rw [Mp.add_same] at hm; rw [if_pos rfl] at hg; cases hm; cases hg; exact ho.mono hle
    · rw [Mp.add_other e] at hm; rw [if_neg e] at hg; exact (hr.obj r L' o' hm hg).mono hle
  · intro r L' hm
    by_cases e : r = H.next
    · subst e; rw [Mp.add_same] at hm; cases hm; have := hr.base; omega
    · rw [Mp.add_other e] at hm; exact hr.lt r L' hm
  · intro r L' o' hm hg hw
    rw [AHeap.get_push] at hg
    by_cases e : r = H.next
    · subst e; rw [if_pos rfl] at hg; cases hg; cases hw
    · rw [Mp.add_other e] at hm; rw [if_neg e] at hg; exact hr.own r L' o' hm hg hw
  · intro r r' L1 L2 o1 o2 hne h1 h2 g1 g2 hw ha hbk
    rw [AHeap.get_push] at g1 g2
    by_cases e1 : r = H.next
    · rw [if_pos e1] at g1; cases g1; cases hw
    · rw [Mp.add_other e1] at h1; rw [if_neg e1] at g1
      by_cases e2 : r' = H.next
      · subst e2; rw [Mp.add_same] at h2; cases h2
        have := hr.own r L1 o1 h1 g1 hw
        omega
      · rw [Mp.add_other e2] at h2; rw [if_neg e2] at g2
        exact hr.apart r r' L1 L2 o1 o2 hne h1 h2 g1 g2 hw ha hbk
  · intro r hr'
    simp only [AHeap.next_push] at hr'
    rw [Mp.add_other (by omega)]
    exact hr.fresh r (by omega)

/-- What cells say, and where they are laid. -/
def Opens (P : Program) (w : World) (c : Ty) (x : c.Val) (cs : List Value) : Prop :=
  ∀ (B : Nat) (w0 : World) (m : Mp) (H : AHeap), w.heap.size ≤ B → Rel B w0 m H w → ∃ m', m.le m' ∧ Rel B w0 m' (c.place x H).2 w ∧ LR m' (c.place x H).1 cs

theorem mapM_some {α β : Type} {f : α → Option β} : ∀ (l : List α) (r : List β), l.mapM f = some r → r.length = l.length ∧ ∀ (i : Nat) (a : α), l[i]? = some a → ∃ b, r[i]? = some b ∧ f a = some b := by
  intro l
  induction l with
  | nil => intro r h; simp at h; subst h; exact ⟨rfl, fun i a h => by simp at h⟩
  | cons x l ih =>
    intro r h
    simp only [List.mapM_cons] at h
    cases hx : f x with
    | none => simp [hx] at h
    | some y =>
      cases hl : l.mapM f with
      | none => simp [hx, hl] at h
      | some r' =>
        simp [hx, hl] at h
        subst h
        obtain ⟨h1, h2⟩ := ih r' hl
        refine ⟨by simp [h1], fun i a hi => ?_⟩
        cases i with
        | zero => simp at hi; subst hi; exact ⟨y, rfl, hx⟩
        | succ i => simpa using h2 i a (by simpa using hi)
theorem mapM_range {β : Type} {f : Nat → Option β} {n : Nat} {r : List β} (h : (List.range n).mapM f = some r) : r.length = n ∧ ∀ i, i < n → ∃ b, r[i]? = some b ∧ f i = some b := by
  obtain ⟨h1, h2⟩ := mapM_some _ _ h
  exact ⟨by simpa using h1, fun i hi => h2 i i (by simp [hi])⟩

theorem cells_spec {a : Addr} {n : Nat} {cs : List Value} (h : w.cells? 0 a n = some cs) : cs.length = n ∧ ∀ (j : Nat) (v : Value), cs[j]? = some v → w.cell? (a.add j) = some v := by
  unfold World.cells? at h
  rw [if_pos (Nat.zero_le _)] at h
  obtain ⟨h1, h2⟩ := mapM_range h
  refine ⟨h1, fun j v hj => ?_⟩
  have hlt : j < n := by rw [← h1]; exact (List.getElem?_eq_some_iff.1 hj).1
  obtain ⟨b, hb, hc⟩ := h2 j hlt
  rw [hj] at hb; cases hb; exact hc

/-- Rows of elements. -/
theorem openAll {c : Ty} : ∀ (css : List (List Value)) , (∀ cs ∈ css, ∃ x : c.Val, c.Good x ∧ Opens P w c x cs) →
    ∃ xs : List c.Val, xs.length = css.length ∧ (∀ x ∈ xs, c.Good x) ∧ ∀ (B : Nat) (w0 : World) (m : Mp) (H : AHeap), w.heap.size ≤ B → Rel B w0 m H w →
      ∃ m', m.le m' ∧ Rel B w0 m' (placeAll c.place xs H).2 w ∧ LR m' (placeAll c.place xs H).1 css.flatten := by
  intro css
  induction css with
  | nil => intro _; exact ⟨[], rfl, (fun _ h => by cases h), fun B w0 m H _ hr => ⟨m, Mp.le_refl m, hr, LR.nil⟩⟩
  | cons cs css ih =>
    intro h
    obtain ⟨x, hg, hx⟩ := h cs (by simp)
    obtain ⟨xs, h1, h2, h3⟩ := ih (fun cs' hcs => h cs' (by simp [hcs]))
    refine ⟨x :: xs, by simp [h1], fun y hy => ?_, fun B w0 m H hB hr => ?_⟩
    · rcases List.mem_cons.1 hy with rfl | hy
      · exact hg
      · exact h2 y hy
    · obtain ⟨m1, hm1, hr1, hl1⟩ := hx B w0 m H hB hr
      obtain ⟨m2, hm2, hr2, hl2⟩ := h3 B w0 m1 _ hB hr1
      exact ⟨m2, Mp.le_trans hm1 hm2, hr2, (hl1.mono hm2).append hl2⟩

theorem flat_get {css : List (List Value)} {n : Nat} (h : ∀ cs ∈ css, cs.length = n) (hn : 0 < n) (j : Nat) : css.flatten[j]? = (css[j / n]?).bind (·[j % n]?) := by
  induction css generalizing j with
  | nil => simp
  | cons cs css ih =>
    have hl := h cs (by simp)
    rw [List.flatten_cons]
    by_cases hj : j < n
    · rw [List.getElem?_append_left (by omega), Nat.div_eq_of_lt hj, Nat.mod_eq_of_lt hj]
      rfl
    · rw [List.getElem?_append_right (by omega), hl, ih (fun cs' hcs => h cs' (by simp [hcs]))]
      have e1 : j / n = (j - n) / n + 1 := by rw [Nat.div_eq_sub_div hn (by omega)]
      have e2 : j % n = (j - n) % n := by rw [Nat.mod_eq_sub_mod (by omega)]
      rw [e1, e2, List.getElem?_cons_succ]
theorem flat_length {css : List (List Value)} {n : Nat} (h : ∀ cs ∈ css, cs.length = n) : css.flatten.length = css.length * n := by
  induction css with
  | nil => simp
  | cons cs css ih =>
    rw [List.flatten_cons, List.length_append, h cs (by simp), ih (fun cs' hcs => h cs' (by simp [hcs])), List.length_cons, Nat.add_mul]; omega

section
variable {X : Type} {enc : TypeId × Value → X}

theorem open_slice {t e : TypeId} {c : Ty} {fuel : Nat} {a : Addr} {len cap : Nat} {d : DataW X} {ps : List MemPlace} (hu : P.underlying t = some (.slice e)) (hs : P.cellsOf e = c.sz) (hp : 0 < c.sz)
    (ih : ∀ (cs : List Value) (d : DataW X) (ps : List MemPlace), DataW.trod enc P w 0 (fun _ => true) true fuel e cs = some (d, ps) → (∀ y ∈ d.weights P e, y ≤ reachBytes) → ∃ x : c.Val, c.Good x ∧ Opens P w c x cs)
    (h : DataW.trod enc P w 0 (fun _ => true) true (fuel + 1) t [.slice (some a) len cap] = some (d, ps)) (hw : ∀ y ∈ d.weights P t, y ≤ reachBytes) :
    ∃ x : (Ty.slc (P.bytesOf e) c).Val, (Ty.slc (P.bytesOf e) c).Good x ∧ Opens P w (Ty.slc (P.bytesOf e) c) x [.slice (some a) len cap] := by
  simp only [DataW.trod, hu] at h
  split at h
  · rename_i hc
    obtain ⟨_, hlc, hcm⟩ := hc
    cases he : (List.range len).mapM (fun i => (w.cells? 0 (a.add (i * P.cellsOf e)) (P.cellsOf e)).bind (DataW.trod enc P w 0 (fun _ => true) true fuel e)) with
    | none => simp [he] at h
    | some elems =>
      simp only [he, Option.bind_some, if_true] at h
      cases hrest : (List.range (cap - len)).mapM (fun j => (w.cells? 0 (a.add ((len + j) * P.cellsOf e)) (P.cellsOf e)).bind (DataW.trod enc P w 0 (fun _ => true) true fuel e)) with
      | none => simp [hrest] at h
      | some rest =>
        simp only [hrest, Option.map_some, Option.some.injEq, Prod.mk.injEq] at h
        obtain ⟨hd, _⟩ := h
        obtain ⟨he1, he2⟩ := mapM_range he
        obtain ⟨hr1, hr2⟩ := mapM_range hrest
        rw [hs] at he2 hr2
        subst hd
        simp only [DataW.weights, hu, List.mem_cons, List.mem_append] at hw
        have hwl := hw _ (.inl rfl)
        simp only [List.length_map] at hwl
        have hbyt : len * P.bytesOf e ≤ 140737488351232 := by
          have e1 : len * P.bytesOf e ≤ (elems.length + rest.length) * P.bytesOf e := Nat.mul_le_mul_right _ (by omega)
          have e2 : reachBytes = 140737488351232 := rfl
          omega
        have hmax : len ≤ 9223372036854775807 := by have := hcm; simp only [maxLen] at this; omega
        -- the elements' cells
        have hcell : ∀ i, i < len → ∃ ci di pi, w.cells? 0 (a.add (i * c.sz)) c.sz = some ci ∧ DataW.trod enc P w 0 (fun _ => true) true fuel e ci = some (di, pi) ∧ di ∈ elems.map (·.1) := by
          intro i hi
          obtain ⟨b, hb, hf⟩ := he2 i hi
          cases hcs : w.cells? 0 (a.add (i * c.sz)) c.sz with
          | none => simp [hcs] at hf
          | some ci =>
            simp only [hcs, Option.bind_some] at hf
            exact ⟨ci, b.1, b.2, rfl, hf, List.mem_map.2 ⟨b, List.mem_of_getElem? hb, rfl⟩⟩
        have hcap : ∀ i, i < cap → ∃ ci, w.cells? 0 (a.add (i * c.sz)) c.sz = some ci := by
          intro i hi
          by_cases hil : i < len
          · obtain ⟨ci, _, _, h1, _⟩ := hcell i hil; exact ⟨ci, h1⟩
          · obtain ⟨b, hb, hf⟩ := hr2 (i - len) (by omega)
            rw [show len + (i - len) = i by omega] at hf
            cases hcs : w.cells? 0 (a.add (i * c.sz)) c.sz with
            | none => simp [hcs] at hf
            | some ci => exact ⟨ci, rfl⟩
        have wAll : ∀ (l : List (DataW X)) (d : DataW X), d ∈ l → ∀ y ∈ d.weights P e, y ∈ DataW.weightsAll P e l := by
          intro l
          induction l with
          | nil => intro d hd; cases hd
          | cons d0 l ihl =>
            intro d hd y hy
            simp only [DataW.weightsAll, List.mem_append]
            rcases List.mem_cons.1 hd with rfl | hd
            · exact .inl hy
            · exact .inr (ihl d hd y hy)
        have hopen : ∀ i, i < len → ∃ ci, w.cells? 0 (a.add (i * c.sz)) c.sz = some ci ∧ ∃ x : c.Val, c.Good x ∧ Opens P w c x ci := by
          intro i hi
          obtain ⟨ci, di, pi, h1, h2, h3⟩ := hcell i hi
          exact ⟨ci, h1, ih ci di pi h2 (fun y hy => hw y (.inr (.inl (wAll _ _ h3 y hy))))⟩
        cases len with
        | zero =>
          refine ⟨some [], ⟨by simp, by simp, (fun _ h => by cases h)⟩, fun B w0 m H hB hr => ⟨m, Mp.le_refl m, hr, LR.cons (.sliceE a cap) LR.nil⟩⟩
        | succ n =>
          -- the list of all cells
          obtain ⟨css, hcl, hcss⟩ : ∃ css : List (List Value), css.length = n + 1 ∧ ∀ (i : Nat) (ci : List Value), css[i]? = some ci → w.cells? 0 (a.add (i * c.sz)) c.sz = some ci ∧ ∃ x : c.Val, c.Good x ∧ Opens P w c x ci := by
            have hb : ∀ k, k ≤ n + 1 → ∃ css : List (List Value), css.length = k ∧ ∀ (i : Nat) (ci : List Value), css[i]? = some ci → w.cells? 0 (a.add (i * c.sz)) c.sz = some ci ∧ ∃ x : c.Val, c.Good x ∧ Opens P w c x ci := by
              intro k
              induction k with
              | zero => intro _; exact ⟨[], rfl, fun i ci h => by simp at h⟩
              | succ k ihk =>
                intro hk
                obtain ⟨css, h1, h2⟩ := ihk (by omega)
                obtain ⟨ci, h3, h4⟩ := hopen k (by omega)
                refine ⟨css ++ [ci], by simp [h1], fun i ci' hi => ?_⟩
                by_cases hik : i < k
                · rw [List.getElem?_append_left (by omega)] at hi; exact h2 i ci' hi
                · rw [List.getElem?_append_right (by omega)] at hi
                  have : i = k := by
                    cases hh : i - css.length with
                    | zero => omega
                    | succ q => rw [hh] at hi; simp at hi
                  subst this
                  rw [h1, Nat.sub_self] at hi
                  simp at hi
                  subst hi
                  exact ⟨h3, h4⟩
            exact hb (n + 1) (Nat.le_refl _)
          obtain ⟨xs, hx1, hx2, hx3⟩ := openAll css (fun cs hcs => by
            obtain ⟨i, hi, rfl⟩ := List.mem_iff_getElem.1 hcs
            exact (hcss i _ (List.getElem?_eq_getElem hi)).2)
          have hlens : ∀ cs ∈ css, cs.length = c.sz := fun cs hcs => by
            obtain ⟨i, hi, rfl⟩ := List.mem_iff_getElem.1 hcs
            exact (cells_spec (hcss i _ (List.getElem?_eq_getElem hi)).1).1
          -- the address is plain
          have hspot : a.spot = none := by
            obtain ⟨ci, h1⟩ := hcap 0 (by omega)
            obtain ⟨h2, h3⟩ := cells_spec h1
            have := h3 0 ci[0] (List.getElem?_eq_getElem (by omega))
            simp only [Nat.zero_mul, Addr.add, if_true] at this
            unfold World.cell? at this
            cases hsp : a.spot with
            | none => rfl
            | some q => rw [hsp] at this; split at this <;> simp at this
          obtain ⟨ab, ao, asp⟩ := a
          simp only at hspot
          subst hspot
          have hcl2 : ∀ k, k < cap * c.sz → ∃ v, w.cell? ⟨ab, ao + k, none⟩ = some v := by
            intro k hk
            have hdm := Nat.div_add_mod k c.sz
            have hkd : k / c.sz < cap := by rw [Nat.div_lt_iff_lt_mul hp]; exact hk
            obtain ⟨ci, h1⟩ := hcap (k / c.sz) hkd
            obtain ⟨h2, h3⟩ := cells_spec h1
            have hmod : k % c.sz < c.sz := Nat.mod_lt _ hp
            have := h3 (k % c.sz) ci[k % c.sz] (List.getElem?_eq_getElem (by omega))
            rw [Addr.add_mid, Addr.add_mid, Nat.add_assoc, Nat.mul_comm (k / c.sz), hdm] at this
            exact ⟨_, this⟩
          have hval : ∀ (k : Nat) (v : Value), css.flatten[k]? = some v → w.cell? ⟨ab, ao + k, none⟩ = some v := by
            intro k v hk
            rw [flat_get hlens hp] at hk
            cases hq : css[k / c.sz]? with
            | none => simp [hq] at hk
            | some ci =>
              simp only [hq, Option.bind_some] at hk
              obtain ⟨h2, h3⟩ := cells_spec (hcss _ _ hq).1
              have := h3 _ _ hk
              rw [Addr.add_mid, Addr.add_mid, Nat.add_assoc, Nat.mul_comm (k / c.sz), Nat.div_add_mod] at this
              exact this
          -- the block
          have hcapos : 0 < cap * c.sz := Nat.mul_pos (by omega) hp
          obtain ⟨cc, et, fr, hblk⟩ : ∃ cc et fr, w.heap[ab]? = some (.cells cc et fr) := by
            obtain ⟨v, hv⟩ := hcl2 0 hcapos
            unfold World.cell? at hv
            split at hv
            · rename_i c1 e1 f1 hh; exact ⟨c1, e1, f1, hh⟩
            · cases hv
          have hsize : ao + cap * c.sz ≤ cc.size := by
            obtain ⟨v, hv⟩ := hcl2 (cap * c.sz - 1) (by omega)
            rw [cell_at hblk] at hv
            have := (Array.getElem?_eq_some_iff.1 hv).1
            omega
          have hab : ab < w.heap.size := (Array.getElem?_eq_some_iff.1 hblk).1
          have hxl : xs.length = n + 1 := by rw [hx1, hcl]
          obtain ⟨x0, xs', rfl⟩ : ∃ x0 xs', xs = x0 :: xs' := by cases xs with
            | nil => simp at hxl
            | cons x0 xs' => exact ⟨x0, xs', rfl⟩
          have hxl' : xs'.length = n := by simpa using hxl
          refine ⟨some (x0 :: xs'), ⟨by rw [hxl]; exact hbyt, by rw [hxl]; exact hmax, hx2⟩, fun B w0 m H hB hr => ?_⟩
          obtain ⟨m1, hm1, hr1, hl1⟩ := hx3 B w0 m H hB hr
          have hplen : (placeAll c.place (x0 :: xs') H).1.length = (n + 1) * c.sz := by rw [hl1.1, flat_length hlens, hcl]
          have hmul : (n + 1) * c.sz ≤ cap * c.sz := Nat.mul_le_mul_right _ hlc
          have hO : ORel m1 w ⟨ab, ao, ao + cap * c.sz, c.sz⟩ (.cells (placeAll c.place (x0 :: xs') H).1 false c.sz) := by
            refine ⟨rfl, cc, et, fr, hblk, ?_, hsize, fun j v hj => ?_, fun h => by cases h⟩
            · dsimp only; rw [hplen]; omega
            · obtain ⟨v', hv', hvr⟩ := hl1.get hj
              refine ⟨v', ?_, hvr⟩
              rw [← cell_at hblk]
              exact hval j v' hv'
          have hr2 := hr1.pushRo rfl (show ab < B by omega) hO
          refine ⟨_, Mp.le_trans hm1 (Mp.le_add (hr1.fresh _ (Nat.le_refl _))), hr2, LR.cons ?_ LR.nil⟩
          have := VR.slice (o := 0) (n := n + 1) (c := cap) (Mp.add_same m1 (placeAll c.place (x0 :: xs') H).2.next ⟨ab, ao, ao + cap * c.sz, c.sz⟩) hlc (by dsimp only; omega)
          rw [hxl']
          exact this
  · cases h

end
end
end Go.Abs
