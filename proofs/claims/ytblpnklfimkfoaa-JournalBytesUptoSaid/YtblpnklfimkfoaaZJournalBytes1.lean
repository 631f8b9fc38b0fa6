/-
The law JournalBytes returns true for every input that holds together at most 1048576 values and letters (each counted as often as it is reached), and leaves it as it was. Condition: that bound, the second form's (UptoSaid); nothing else. Part 1 of 6 of the texts (put together by a program: own names are short, what isn't needed is left out).
-/
import Derived.Calls
import Derived.Orders
import Derived.Deep.LoopGhost
import Derived.Below
import Derived.KernelRfl
import Derived.Laws.Sem
import Derived.Deep.AppendSrc
import Derived.Deep.MidRow
import Derived.Laws.OwnMore
import Derived.Laws.MakeOwn
import Derived.Lib.ConvBytes
import Derived.Laws.Strings
set_option linter.unusedVariables false
set_option linter.unusedSimpArgs false
set_option maxRecDepth 100000
namespace Go.Abs
open Go.RowKit
inductive Own where
 | ro
 | own (anc : List Nat)
 deriving Inhabited, DecidableEq
def Own.owns : Own → Bool
 | .ro => false
 | .own _ => true
inductive yG where
 | cells (cs : List Value) (own : Own) (esz : Nat)
 | map (es : List MapEntry) (clock : Nat)
 | dead
 deriving Inhabited
def yG.owns : yG → Bool
 | .cells _ own _ => own.owns
 | .map _ _ => true
 | .dead => false
def yG.lo (o : yG) (r' : Nat) (o' : yG) : Nat :=
 match o with
 | .cells cs (.own anc) _ => if r' ∈ anc ∧ o'.owns = false then cs.length else 0
 | _ => 0
def yG.hi (shift lim : Nat) : yG → Nat
 | .cells cs .ro _ => shift + cs.length
 | _ => lim
def yG.alive : yG → Bool
 | .dead => false
 | _ => true
inductive Trie where
 | leaf
 | node (v : Option yG) (l r : Trie)
 deriving Inhabited
def Trie.get : Trie → Nat → Option yG
 | .leaf, _ => none
 | .node v l r, n => if n = 0 then v else if n % 2 = 1 then l.get (n / 2) else r.get (n / 2 - 1)
def Trie.val : Trie → Option yG
 | .leaf => none
 | .node v _ _ => v
def Trie.left : Trie → Trie
 | .leaf => .leaf
 | .node _ l _ => l
def Trie.right : Trie → Trie
 | .leaf => .leaf
 | .node _ _ r => r
def Trie.afT : Nat → Trie → Nat → yG → Trie
 | 0, t, _, _ => t
 | f + 1, t, n, o =>
  if n = 0 then .node (some o) t.left t.right
  else if n % 2 = 1 then .node t.val (t.left.afT f (n / 2) o) t.right
  else .node t.val t.left (t.right.afT f (n / 2 - 1) o)
def Trie.set (t : Trie) (n : Nat) (o : yG) : Trie := t.afT (n + 1) n o
theorem Trie.Zz (t : Trie) : t.get 0 = t.val := by cases t <;> simp [Trie.get, Trie.val]
theorem Trie.ZX (t : Trie) (n : Nat) (h : n % 2 = 1) : t.get n = t.left.get (n / 2) := by
  cases t with
  | leaf => simp [Trie.get, Trie.left]
  | node v l r => have : n ≠ 0 := by omega
                  simp [Trie.get, Trie.left, this, h]
theorem Trie.vO (t : Trie) (n : Nat) (h : n % 2 = 0) (h0 : n ≠ 0) : t.get n = t.right.get (n / 2 - 1) := by
  cases t with
  | leaf => simp [Trie.get, Trie.right]
  | node v l r => have h1 : ¬ n % 2 = 1 := by omega
                  simp [Trie.get, Trie.right, h0, h1]
theorem Trie.adt (f : Nat) : ∀ (t : Trie) (n k : Nat) (o : yG), n < f → (t.afT f n o).get k = if k = n then some o else t.get k := by
 induction f with
 | zero => intro t n k o h; omega
 | succ f ih =>
  intro t n k o h
  rw [Trie.afT]
  by_cases hn : n = 0
  ·
   subst hn
   rw [if_pos rfl]
   by_cases hk : k = 0
   ·
    subst hk; rw [Trie.Zz]; simp [Trie.val]
   ·
    rw [if_neg hk]
    by_cases ho : k % 2 = 1
    ·
     rw [Trie.ZX _ _ ho, Trie.ZX _ _ ho]; simp [Trie.left]
    ·
     rw [Trie.vO _ _ (by omega) hk, Trie.vO _ _ (by omega) hk]; simp [Trie.right]
  ·
   rw [if_neg hn]
   by_cases hn2 : n % 2 = 1
   ·
    rw [if_pos hn2]
    by_cases hk : k = 0
    ·
     subst hk; rw [Trie.Zz, Trie.Zz, if_neg (by omega)]; simp [Trie.val]
    ·
     by_cases ho : k % 2 = 1
     ·
      rw [Trie.ZX _ _ ho, Trie.ZX _ _ ho]
      simp only [Trie.left]
      rw [ih _ _ _ _ (by omega)]
      by_cases e : k = n
      ·
       subst e; simp
      ·
       rw [if_neg e, if_neg (by omega)]
     ·
      rw [Trie.vO _ _ (by omega) hk, Trie.vO _ _ (by omega) hk, if_neg (by omega)]; simp [Trie.right]
   ·
    rw [if_neg hn2]
    by_cases hk : k = 0
    ·
     subst hk; rw [Trie.Zz, Trie.Zz, if_neg (by omega)]; simp [Trie.val]
    ·
     by_cases ho : k % 2 = 1
     ·
      rw [Trie.ZX _ _ ho, Trie.ZX _ _ ho, if_neg (by omega)]; simp [Trie.left]
     ·
      rw [Trie.vO _ _ (by omega) hk, Trie.vO _ _ (by omega) hk]
      simp only [Trie.right]
      rw [ih _ _ _ _ (by omega)]
      by_cases e : k = n
      ·
       subst e; simp
      ·
       rw [if_neg e, if_neg (by omega)]
theorem Trie.jF (t : Trie) (n k : Nat) (o : yG) : (t.set n o).get k = if k = n then some o else t.get k :=
 Trie.adt _ t n k o (by omega)
structure zi where
 next : Nat
 tr : Trie
 log : List Nat
 deriving Inhabited
def zi.get (H : zi) (r : Nat) : Option yG := H.tr.get r
def zi.set (H : zi) (r : Nat) (o : yG) : zi := { H with tr := H.tr.set r o, log := r :: H.log }
def zi.push (H : zi) (o : yG) : zi := { H with next := H.next + 1, tr := H.tr.set H.next o }
def zi.kills (H : zi) : List Nat → zi
 | [] => H
 | r :: l => (H.set r .dead).kills l
def zi.empty : zi := { next := 0, tr := .leaf, log := [] }
theorem zi.jF (H : zi) (r k : Nat) (o : yG) : (H.set r o).get k = if k = r then some o else H.get k := Trie.jF ..
theorem zi.jm (H : zi) (k : Nat) (o : yG) : (H.push o).get k = if k = H.next then some o else H.get k := Trie.jF ..
@[simp] theorem zi.qQ (H : zi) (r : Nat) (o : yG) : (H.set r o).next = H.next := rfl
@[simp] theorem zi.ZF (H : zi) (o : yG) : (H.push o).next = H.next + 1 := rfl
theorem zi.YH (H : zi) (r : Nat) (o : yG) : (H.set r o).log = r :: H.log := rfl
theorem zi.acf (l : List Nat) : ∀ (H : zi), (H.kills l).log = l.reverse ++ H.log := by
 induction l with
 | nil => intro H; rfl
 | cons r l ih => intro H; rw [zi.kills, ih, zi.YH, List.reverse_cons, List.append_assoc]; rfl
@[simp] theorem zi.vN (l : List Nat) : ∀ (H : zi), (H.kills l).next = H.next := by
 induction l with
 | nil => intro H; rfl
 | cons r l ih => intro H; rw [zi.kills, ih]; rfl
theorem zi.qE (l : List Nat) : ∀ (H : zi) (k : Nat), (H.kills l).get k = if k ∈ l then some .dead else H.get k := by
 induction l with
 | nil => intro H k; rfl
 | cons r l ih =>
  intro H k
  rw [zi.kills, ih, zi.jF]
  by_cases h1 : k ∈ l
  ·
   rw [if_pos h1, if_pos (List.mem_cons_of_mem _ h1)]
  ·
   by_cases h2 : k = r
   ·
    rw [if_neg h1, if_pos h2, if_pos (by simp [h2])]
   ·
    rw [if_neg h1, if_neg h2, if_neg (by simp [h1, h2])]
structure Loc where
 blk : Nat
 shift : Nat
 lim : Nat
 esz : Nat
abbrev Mp := Nat → Option Loc
inductive VR (m : Mp) : Value → Value → Prop
 | bool (b) : VR m (.bool b) (.bool b)
 | int (k n) : VR m (.int k n) (.int k n)
 | string (s) : VR m (.string s) (.string s)
 | ptrNil : VR m (.pointer none) (.pointer none)
 | ptr {r o L} (h : m r = some L) : VR m (.pointer (some ⟨r, o, none⟩)) (.pointer (some ⟨L.blk, L.shift + o, none⟩))
 | sliceNil : VR m (.slice none 0 0) (.slice none 0 0)
 | slice {r o L n c} (h : m r = some L) (hn : n ≤ c) (hl : L.shift + o + c * L.esz ≤ L.lim) :
   VR m (.slice (some ⟨r, o, none⟩) n n) (.slice (some ⟨L.blk, L.shift + o, none⟩) n c)
 | slice0 {r o L} {a : Addr} (h : m r = some L) (hl : L.shift + o ≤ L.lim) (ha : a.block = L.blk) : VR m (.slice (some ⟨r, o, none⟩) 0 0) (.slice (some a) 0 0)
 | sliceE (a : Addr) (c : Nat) : VR m (.slice (some ⟨0, 0, some 0⟩) 0 0) (.slice (some a) 0 c)
 | mapNil : VR m (.map none) (.map none)
 | map {r L} (h : m r = some L) : VR m (.map (some r)) (.map (some L.blk))
 | nilFunc : VR m .nilFunc .nilFunc
 | func (fn) {x x' c c' : Array Value} (hx : x.size = x'.size) (hc : c.size = c'.size)
   (hx' : ∀ i : Nat, VR m (x.getD i undef) (x'.getD i undef)) (hc' : ∀ i : Nat, VR m (c.getD i undef) (c'.getD i undef)) : VR m (.func fn x c) (.func fn x' c')
 | nilIface : VR m .nilIface .nilIface
 | iface (t) {v v'} (h : VR m v v') : VR m (.iface t v) (.iface t v')
 | agg {x x' : Array Value} (hx : x.size = x'.size) (h : ∀ i : Nat, VR m (x.getD i undef) (x'.getD i undef)) : VR m (.agg x) (.agg x')
 | nores : VR m (.tuple #[]) (.tuple #[])
 | tuple {x x' : Array Value} (hx : x.size = x'.size) (h : ∀ i : Nat, VR m (x.getD i undef) (x'.getD i undef)) : VR m (.tuple x) (.tuple x')
def Mp.le (m m' : Mp) : Prop := ∀ r L, m r = some L → m' r = some L
theorem Mp.le_refl (m : Mp) : m.le m := fun _ _ h => h
theorem Mp.le_trans {a b c : Mp} (h : a.le b) (k : b.le c) : a.le c := fun r L e => k r L (h r L e)
theorem VR.mono {m m' : Mp} (hm : m.le m') {a c : Value} (h : VR m a c) : VR m' a c := by
 induction h with
 | bool b => exact .bool b
 | int k n => exact .int k n
 | string s => exact .string s
 | ptrNil => exact .ptrNil
 | ptr h => exact .ptr (hm _ _ h)
 | sliceNil => exact .sliceNil
 | slice h hn hl => exact .slice (hm _ _ h) hn hl
 | slice0 h hl ha => exact .slice0 (hm _ _ h) hl ha
 | sliceE a c => exact .sliceE a c
 | mapNil => exact .mapNil
 | map h => exact .map (hm _ _ h)
 | nilFunc => exact .nilFunc
 | func fn hx hc _ _ ihx ihc => exact .func fn hx hc ihx ihc
 | nilIface => exact .nilIface
 | iface t _ ih => exact .iface t ih
 | agg hx _ ih => exact .agg hx ih
 | nores => exact .nores
 | tuple hx _ ih => exact .tuple hx ih
theorem VR.undef {m : Mp} : VR m Go.undef Go.undef := .nores
def AR (m : Mp) (x x' : Array Value) : Prop := x.size = x'.size ∧ ∀ i : Nat, VR m (x.getD i undef) (x'.getD i undef)
theorem AR.mono {m m' : Mp} (hm : m.le m') {x x' : Array Value} (h : AR m x x') : AR m' x x' := ⟨h.1, fun i => (h.2 i).mono hm⟩
theorem AR.empty {m : Mp} : AR m #[] #[] := ⟨rfl, fun _ => by simpa using VR.undef⟩
def LR (m : Mp) (l : List Value) (l' : List Value) : Prop := l.length = l'.length ∧ ∀ i : Nat, VR m (l.getD i undef) (l'.getD i undef)
theorem LR.nil {m : Mp} : LR m [] [] := ⟨rfl, fun _ => by simpa using VR.undef⟩
theorem LR.cons {m : Mp} {v v' : Value} {l l' : List Value} (h : VR m v v') (k : LR m l l') : LR m (v :: l) (v' :: l') :=
 ⟨by simp [k.1], fun i => by cases i with
  | zero => simpa using h
  | succ i => simpa using k.2 i⟩
theorem LR.head {m : Mp} {v v' : Value} {l l' : List Value} (k : LR m (v :: l) (v' :: l')) : VR m v v' := by simpa using k.2 0
theorem LR.tail {m : Mp} {v v' : Value} {l l' : List Value} (k : LR m (v :: l) (v' :: l')) : LR m l l' :=
 ⟨by have := k.1; simpa using this, fun i => by simpa using k.2 (i + 1)⟩
theorem LR.mono {m m' : Mp} (hm : m.le m') {x x' : List Value} (h : LR m x x') : LR m' x x' := ⟨h.1, fun i => (h.2 i).mono hm⟩
theorem LR.get {m : Mp} {l l' : List Value} (h : LR m l l') {i : Nat} {v : Value} (hv : l[i]? = some v) : ∃ v', l'[i]? = some v' ∧ VR m v v' := by
 obtain ⟨hi, rfl⟩ := List.getElem?_eq_some_iff.1 hv
 have hi' : i < l'.length := h.1 ▸ hi
 refine ⟨l'[i], by simp [hi'], ?_⟩
 have := h.2 i
 simpa [List.getD_eq_getElem?_getD, hi, hi'] using this
theorem LR.append {m : Mp} {l l' k k' : List Value} (h : LR m l l') (h2 : LR m k k') : LR m (l ++ k) (l' ++ k') := by
 refine ⟨by simp [h.1, h2.1], fun i => ?_⟩
 by_cases hi : i < l.length
 ·
  have hi' : i < l'.length := h.1 ▸ hi
  have := h.2 i
  simpa [List.getD_eq_getElem?_getD, List.getElem?_append, hi, hi'] using this
 ·
  have hi' : ¬ i < l'.length := h.1 ▸ hi
  have := h2.2 (i - l.length)
  have e := h.1
  simpa [List.getD_eq_getElem?_getD, List.getElem?_append, hi, hi', e] using this
theorem LR.drop {m : Mp} {l l' : List Value} (h : LR m l l') (n : Nat) : LR m (l.drop n) (l'.drop n) :=
 ⟨by simp [h.1], fun i => by simpa [List.getD_eq_getElem?_getD, List.getElem?_drop] using h.2 (n + i)⟩
theorem LR.take {m : Mp} {l l' : List Value} (h : LR m l l') (n : Nat) : LR m (l.take n) (l'.take n) := by
 refine ⟨by simp [h.1], fun i => ?_⟩
 by_cases hi : i < n
 ·
  simpa [List.getD_eq_getElem?_getD, List.getElem?_take, hi] using h.2 i
 ·
  simpa [List.getD_eq_getElem?_getD, List.getElem?_take, hi] using VR.undef
theorem LR.set {m : Mp} {l l' : List Value} (h : LR m l l') (n : Nat) {v v' : Value} (hv : VR m v v') : LR m (l.set n v) (l'.set n v') := by
 refine ⟨by simp [h.1], fun i => ?_⟩
 have e := h.1
 have hh := h.2 i
 simp only [List.getD_eq_getElem?_getD, List.getElem?_set] at hh ⊢
 by_cases hi : n = i
 ·
  subst hi
  by_cases hl : n < l.length
  ·
   simpa [hl, ← e] using hv
  ·
   simpa [hl, ← e] using VR.undef
 ·
  simpa [hi] using hh
theorem AR.toList {m : Mp} {x x' : Array Value} (h : AR m x x') : LR m x.toList x'.toList :=
 ⟨by simpa using h.1, fun i => by simpa [List.getD_eq_getElem?_getD, Array.getD_eq_getD_getElem?] using h.2 i⟩
theorem LR.toArray {m : Mp} {x x' : List Value} (h : LR m x x') : AR m x.toArray x'.toArray :=
 ⟨by simpa using h.1, fun i => by simpa [List.getD_eq_getElem?_getD, Array.getD_eq_getD_getElem?] using h.2 i⟩
theorem AR.iff {m : Mp} {x x' : Array Value} : AR m x x' ↔ LR m x.toList x'.toList :=
 ⟨AR.toList, fun h => by simpa using h.toArray⟩
theorem VR.cells {m : Mp} {a c : Value} (h : VR m a c) : AR m a.cells c.cells := by
 have one : ∀ {a c : Value}, VR m a c → AR m #[a] #[c] := fun h => ⟨rfl, fun i => by
  match i with
  | 0 => simpa using h
  | i + 1 => simpa using VR.undef⟩
 cases h with
 | agg hx h => exact ⟨hx, h⟩
 | bool b => exact one (.bool b)
 | int k n => exact one (.int k n)
 | string s => exact one (.string s)
 | ptrNil => exact one .ptrNil
 | ptr h => exact one (.ptr h)
 | sliceNil => exact one .sliceNil
 | slice h hn hl => exact one (.slice h hn hl)
 | slice0 h hl ha => exact one (.slice0 h hl ha)
 | sliceE a c => exact one (.sliceE a c)
 | mapNil => exact one .mapNil
 | map h => exact one (.map h)
 | nilFunc => exact one .nilFunc
 | func fn hx hc h1 h2 => exact one (.func fn hx hc h1 h2)
 | nilIface => exact one .nilIface
 | iface t h => exact one (.iface t h)
 | nores => exact one .nores
 | tuple hx h => exact one (.tuple hx h)
def ER (m : Mp) (e e' : MapEntry) : Prop := e'.key = e.key ∧ e'.born = e.born ∧ VR m e.val e'.val
def aad (m : Mp) (w : World) (L : Loc) : yG → Prop
 | .cells cs own esz => L.esz = esz ∧ ∃ cc e fr, w.heap[L.blk]? = some (.cells cc e fr) ∧ L.shift + cs.length ≤ L.lim ∧ L.lim ≤ cc.size ∧
   (∀ (j : Nat) (v : Value), cs[j]? = some v → ∃ v', cc[L.shift + j]? = some v' ∧ VR m v v') ∧
   (own.owns = true → fr.1 = fr.2 ∨ cc.size ≤ fr.1)
 | .map es clock => L.shift = 0 ∧ L.lim = 1 ∧ ∃ es' : Array MapEntry, w.heap[L.blk]? = some (.map es' clock) ∧ es.length = es'.size ∧
   ∀ (i : Nat) (e : MapEntry), es[i]? = some e → ∃ e', es'[i]? = some e' ∧ ER m e e'
 | .dead => True
structure Rel (B : Nat) (w0 : World) (m : Mp) (H : zi) (w : World) : Prop where
 below : Below B w0 w
 base : B ≤ w.heap.size
 obj : ∀ r L o, m r = some L → H.get r = some o → aad m w L o
 lt : ∀ r L, m r = some L → L.blk < w.heap.size
 own : ∀ r L o, m r = some L → H.get r = some o → o.owns = true → B ≤ L.blk
 apart : ∀ r r' L L' o o', r ≠ r' → m r = some L → m r' = some L' → H.get r = some o → H.get r' = some o' → o.owns = true →
  o'.alive = true → L.blk = L'.blk → L.lim ≤ L'.shift ∨ o'.hi L'.shift L'.lim ≤ L.shift + o.lo r' o'
 fresh : ∀ r, H.next ≤ r → m r = none
theorem aad.mono {m m' : Mp} (hm : m.le m') {w : World} {L : Loc} {o : yG} (h : aad m w L o) : aad m' w L o := by
 cases o with
 | cells cs own esz =>
  obtain ⟨h0, cc, e, fr, h1, h2, h3, h4, h5⟩ := h
  exact ⟨h0, cc, e, fr, h1, h2, h3, fun j v hj => let ⟨v', a, b⟩ := h4 j v hj; ⟨v', a, b.mono hm⟩, h5⟩
 | map es clock =>
  obtain ⟨h0, h1, es', h2, h3, h4⟩ := h
  exact ⟨h0, h1, es', h2, h3, fun i e he => let ⟨e', a, b, c, d⟩ := h4 i e he; ⟨e', a, b, c, d.mono hm⟩⟩
 | dead => exact True.intro
theorem aad.draw {m : Mp} {w : World} {L : Loc} {o : yG} (h : aad m w L o) (n : Nat) : aad m { w with drawn := n } L o := by
 cases o with
 | cells cs own esz => exact h
 | map es clock => exact h
 | dead => exact True.intro
theorem Rel.draw {B : Nat} {w0 : World} {m : Mp} {H : zi} {w : World} (h : Rel B w0 m H w) (n : Nat) : Rel B w0 m H { w with drawn := n } :=
 ⟨⟨h.below.os, h.below.tape, h.below.output, h.below.size, h.below.block⟩, h.base, fun r L o hm hg => (h.obj r L o hm hg).draw n, h.lt, h.own, h.apart, h.fresh⟩
def Mp.add (m : Mp) (r : Nat) (L : Loc) : Mp := fun k => if k = r then some L else m k
theorem Mp.add_same (m : Mp) (r : Nat) (L : Loc) : m.add r L r = some L := by simp [Mp.add]
theorem Mp.jI {m : Mp} {r k : Nat} {L : Loc} (h : k ≠ r) : m.add r L k = m k := by simp [Mp.add, h]
theorem Mp.kD {m : Mp} {r : Nat} {L : Loc} (h : m r = none) : m.le (m.add r L) := fun k L' hk => by
 rw [Mp.jI]
 ·
  exact hk
 ·
  rintro rfl; rw [h] at hk; cases hk
structure kX (w w1 : World) (b : Obj) : Prop where
 os : w1.os = w.os
 tape : w1.tape = w.tape
 output : w1.output = w.output
 size : w1.heap.size = w.heap.size + 1
 old : ∀ k, k < w.heap.size → w1.heap[k]? = w.heap[k]?
 new : w1.heap[w.heap.size]? = some b
theorem kX.push (w : World) (b : Obj) (n : Nat) : kX w { w with heap := w.heap.push b, drawn := n } b :=
 ⟨rfl, rfl, rfl, by simp, fun k hk => by show (w.heap.push b)[k]? = _; rw [Array.getElem?_push, if_neg (by omega)], by simp⟩
theorem kX.da (w : World) (b : Obj) : kX w (w.drew.alloc b) b := kX.push w b (w.drawn + 1)
theorem aad.grows {m : Mp} {w w1 : World} {L : Loc} {o : yG} {b : Obj} (h : aad m w L o) (hl : L.blk < w.heap.size) (hg : kX w w1 b) : aad m w1 L o := by
 cases o with
 | cells cs own esz =>
  obtain ⟨h0, cc, e, fr, h1, h2⟩ := h
  exact ⟨h0, cc, e, fr, by rw [hg.old _ hl]; exact h1, h2⟩
 | map es clock =>
  obtain ⟨h0, h1, es', h2, h3⟩ := h
  exact ⟨h0, h1, es', by rw [hg.old _ hl]; exact h2, h3⟩
 | dead => exact True.intro
theorem Rel.push {B : Nat} {w0 : World} {m : Mp} {H : zi} {w w1 : World} (h : Rel B w0 m H w) (b : Obj) (o : yG) (L : Loc) (hb : L.blk = w.heap.size) (hw1 : kX w w1 b)
  (ho : aad (m.add H.next L) w1 L o) :
  Rel B w0 (m.add H.next L) (H.push o) w1 := by
 have hle : m.le (m.add H.next L) := Mp.kD (h.fresh _ (Nat.le_refl _))
 have hsz := hw1.size
 refine ⟨?_, ?_, ?_, ?_, ?_, ?_, ?_⟩
 ·
  refine ⟨hw1.os.trans h.below.os, hw1.tape.trans h.below.tape, hw1.output.trans h.below.output, ?_, fun k hk => ?_⟩
  ·
   have := h.below.size; omega
  ·
   rw [hw1.old _ (by have := h.base; omega)]; exact h.below.block k hk
 ·
  have := h.base; omega
 ·
  intro r L' o' hr hg
  rw [zi.jm] at hg
  by_cases e : r = H.next
  ·
   subst e
   rw [Mp.add_same] at hr
   rw [if_pos rfl] at hg
   cases hr; cases hg
   exact ho
  ·
   rw [Mp.jI e] at hr
   rw [if_neg e] at hg
   exact ((h.obj r L' o' hr hg).mono hle).grows (h.lt r L' hr) hw1
 ·
  intro r L' hr
  by_cases e : r = H.next
  ·
   subst e; rw [Mp.add_same] at hr; cases hr; omega
  ·
   rw [Mp.jI e] at hr; have := h.lt r L' hr; omega
 ·
  intro r L' o' hr hg hw
  rw [zi.jm] at hg
  by_cases e : r = H.next
  ·
   subst e; rw [Mp.add_same] at hr; cases hr; have := h.base; omega
  ·
   rw [Mp.jI e] at hr; rw [if_neg e] at hg; exact h.own r L' o' hr hg hw
 ·
  intro r r' L1 L2 o1 o2 hne h1 h2 g1 g2 hw ha hbk
  rw [zi.jm] at g1 g2
  by_cases e1 : r = H.next
  ·
   subst e1
   have e2 : r' ≠ H.next := fun e => hne e.symm
   rw [Mp.add_same] at h1; cases h1
   rw [Mp.jI e2] at h2
   have := h.lt r' L2 h2; omega
  ·
   by_cases e2 : r' = H.next
   ·
    subst e2
    rw [Mp.add_same] at h2; cases h2
    rw [Mp.jI e1] at h1
    have := h.lt r L1 h1; omega
   ·
    rw [Mp.jI e1] at h1; rw [Mp.jI e2] at h2; rw [if_neg e1] at g1; rw [if_neg e2] at g2
    exact h.apart r r' L1 L2 o1 o2 hne h1 h2 g1 g2 hw ha hbk
 ·
  intro r hr
  simp only [zi.ZF] at hr
  rw [Mp.jI (by omega)]
  exact h.fresh r (by omega)
end Go.Abs
namespace Go.Abs
open Go.RowKit
abbrev M (α : Type) := zi → Option (α × zi)
def ret {α : Type} (a : α) : M α := fun H => some (a, H)
def fail {α : Type} : M α := fun _ => none
def yc {α : Type} (P : Program) : Sem α → Option α
 | .pure a => some a
 | .program k => yc P (k P)
 | .mark _ k => yc P k
 | _ => none
theorem Xg {α : Type} {P : Program} (s : Sem α) : ∀ {a : α}, yc P s = some a → ∀ w : World, s.run P w = .ok a w := by
 induction s with
 | pure b => intro a h w; simp only [yc, Option.some.injEq] at h; subst h; rfl
 | program k ih => intro a h w; exact ih P h w
 | mark mk k ih => intro a h w; exact ih h w
 | _ => intro a h; simp [yc] at h
theorem YI {α β : Type} {P : Program} (x : Sem α) (f : α → Sem β) : yc P (x.bind f) = (yc P x).bind fun a => yc P (f a) := by
 induction x with
 | pure a => rfl
 | program k ih => simp only [Sem.bind, yc]; exact ih P
 | mark mk k ih => simp only [Sem.bind, yc]; exact ih
 | _ => rfl
theorem xO {α β : Type} {P : Program} (x : Sem α) (f : α → Sem β) : yc P (x >>= f) = (yc P x).bind fun a => yc P (f a) := YI x f
theorem jD {α : Type} {P : Program} (a : α) : yc P (Pure.pure a : Sem α) = some a := rfl
def sg : Value → Bool
 | .bool _ | .int _ _ | .string _ | .pointer none | .slice none 0 0 | .map none | .nilFunc => true
 | _ => false
def ground : Value → Bool
 | .agg cs => cs.toList.all sg
 | v => sg v
theorem YV {m : Mp} {v : Value} (h : sg v = true) : VR m v v := by
 cases v with
 | bool b => exact .bool b
 | int k n => exact .int k n
 | string s => exact .string s
 | pointer a => cases a with
  | none => exact .ptrNil
  | some a => simp [sg] at h
 | slice a n c => cases a with
  | none =>
   have : n = 0 ∧ c = 0 := by
    simp only [sg] at h
    split at h <;> simp_all
   rw [this.1, this.2]; exact .sliceNil
  | some a => simp [sg] at h
 | map r => cases r with
  | none => exact .mapNil
  | some r => simp [sg] at h
 | nilFunc => exact .nilFunc
 | _ => simp [sg] at h
theorem agq {m : Mp} {v v' : Value} (h : sg v = true) (hv : VR m v v') : v' = v := by
 cases hv <;> first | rfl | (simp [sg] at h)
theorem ZB {l : List Value} (h : l.all sg = true) (i : Nat) {m : Mp} : VR m (l.getD i undef) (l.getD i undef) := by
 by_cases hi : i < l.length
 ·
  rw [List.getD_eq_getElem?_getD, List.getElem?_eq_getElem hi]
  exact YV (List.all_eq_true.1 h _ (List.getElem_mem hi))
 ·
  rw [List.getD_eq_getElem?_getD, List.getElem?_eq_none (Nat.le_of_not_lt hi)]
  exact VR.undef
theorem agb {m : Mp} {x x' : Array Value} (h : x.toList.all sg = true) (hs : x.size = x'.size) (hv : ∀ i : Nat, VR m (x.getD i undef) (x'.getD i undef)) : x' = x := by
 apply Array.ext hs.symm
 intro i h1 h2
 have := hv i
 simp only [Array.getD_eq_getD_getElem?, Array.getElem?_eq_getElem h1, Array.getElem?_eq_getElem h2, Option.getD_some] at this
 exact agq (List.all_eq_true.1 h _ (by simp)) this
theorem qG {m : Mp} {v v' : Value} (h : ground v = true) (hv : VR m v v') : v' = v := by
 cases hv with
 | agg hx hh => rw [agb h hx hh]
 | tuple hx hh => simp [ground, sg] at h
 | nores => rfl
 | bool b => rfl
 | int k n => rfl
 | string s => rfl
 | ptrNil => rfl
 | ptr h' => simp [ground, sg] at h
 | sliceNil => rfl
 | slice h' => simp [ground, sg] at h
 | slice0 h' => simp [ground, sg] at h
 | sliceE => simp [ground, sg] at h
 | mapNil => rfl
 | map h' => simp [ground, sg] at h
 | nilFunc => rfl
 | func => simp [ground, sg] at h
 | nilIface => rfl
 | iface => simp [ground, sg] at h
theorem wo {m : Mp} {v : Value} (h : ground v = true) : VR m v v := by
 cases v with
 | agg cs => exact .agg rfl (fun i => by simpa [List.getD_eq_getElem?_getD, Array.getD_eq_getD_getElem?] using ZB (m := m) h i)
 | bool b => exact .bool b
 | int k n => exact .int k n
 | string s => exact .string s
 | pointer a => exact YV h
 | slice a n c => exact YV h
 | map r => exact YV h
 | nilFunc => exact .nilFunc
 | _ => simp [ground, sg] at h
def jS (P : Program) (args : List Value) (s : Sem Value) : M Value := fun H =>
 if args.all ground then
  match yc P s with
  | some v => if ground v then some (v, H) else none
  | none => none
 else none
def qg (P : Program) (t : TypeId) : Option Bool :=
 match P.underlying t with
 | some (.struct _) | some (.array _ _) => some true
 | some _ => some false
 | none => none
def qR (P : Program) (t : TypeId) : Option Nat := (P.info? t).map (·.size)
def zeroOf (P : Program) (t : TypeId) : Option Value := (P.info? t).bind (·.zero)
def bytesOf (P : Program) (t : TypeId) : Option Nat := (P.info? t).map (·.bytes)
def wE (P : Program) (t : TypeId) : Option TypeId :=
 match P.underlying t with
 | some (.slice e) => some e
 | _ => none
def splice (cs : List Value) (o : Nat) (xs : List Value) : List Value := cs.take o ++ xs ++ cs.drop (o + xs.length)
def qc (P : Program) (e : TypeId) : M Value := fun H =>
 match zeroOf P e with
 | some z => if ground z then some (.pointer (some ⟨H.next, 0, none⟩), H.push (.cells z.cells.toList (.own []) 0)) else none
 | none => none
def Xd (x : Value) : M Value := fun H => some (.pointer (some ⟨H.next, 0, none⟩), H.push (.cells x.cells.toList (.own []) 0))
def vW (place : Nat → Option (Nat × Nat)) : List Value → List (Nat × Value) → Option (List Value)
 | cells, [] => some cells
 | cells, (i, v) :: rest =>
  match place i with
  | none => none
  | some (off, size) => if v.cells.toList.length = size ∧ off + size ≤ cells.length then vW place (splice cells off v.cells.toList) rest else none
def placesOf (P : Program) : List Field → Option (List (Nat × Nat))
 | [] => some []
 | f :: fs => match qR P f.type, placesOf P fs with
  | some n, some l => some ((f.offset, n) :: l)
  | _, _ => none
def yh (P : Program) (t : TypeId) (parts : List (Nat × Value)) : M Value := fun H =>
 match zeroOf P t with
 | some z => if ground z then
   match P.underlying t with
   | some (.struct fields) => match placesOf P fields.toList with
    | some pl => match vW (pl[·]?) z.cells.toList parts with
     | some l => some (.agg l.toArray, H)
     | none => none
    | none => none
   | some (.array _ e) => match qR P e with
    | some size => match vW (fun i => some (i * size, size)) z.cells.toList parts with
     | some l => some (.agg l.toArray, H)
     | none => none
    | none => none
   | _ => none
  else none
 | none => none
def zl (z : List Value) (n : Nat) : List Value := (List.range (n * z.length)).map fun i => z.getD (i % z.length) default
def kZ (P : Program) (t : TypeId) (len : Nat) (parts : List (Nat × Value)) : Option (List Value × Nat) :=
 match wE P t with
 | some e => match qR P e, zeroOf P e with
  | some size, some z =>
   if len * size ≤ 16777216 then if z.cells.toList.length = size then if z.cells.toList.all sg then
    match vW (fun i => some (i * size, size)) (zl z.cells.toList len) parts with
    | some cells => some (cells, size)
    | none => none
   else none else none else none
  | _, _ => none
 | none => none
def jZ (P : Program) (t : TypeId) (len : Nat) (parts : List (Nat × Value)) : M Value := fun H =>
 match kZ P t len parts with
 | some (cells, size) => some (.slice (some ⟨H.next, 0, none⟩) len len, H.push (.cells cells (.own []) size))
 | none => none
def wY (P : Program) (t : TypeId) (p : Value) : M Value := fun H =>
 match p with
 | .pointer (some ⟨r, o, none⟩) =>
  match H.get r with
  | some (.cells cs _ _) =>
   match qg P t with
   | some true => match qR P t with
    | some n => if o + n ≤ cs.length then some (.agg ((cs.drop o).take n).toArray, H) else none
    | none => none
   | some false => match cs[o]? with
    | some v => some (v, H)
    | none => none
   | none => none
  | _ => none
 | _ => none
def vX (P : Program) (t : TypeId) (p x : Value) : M Value := fun H =>
 match p with
 | .pointer (some ⟨r, o, none⟩) =>
  match H.get r with
  | some (.cells cs (.own anc) esz) =>
   match qR P t with
   | some n => if x.cells.size = n then if x.cells.toList.all (·.oneCell') then if o + n ≤ cs.length then
     some (undef, (H.kills anc).set r (.cells (splice cs o x.cells.toList) (.own []) esz)) else none else none else none
   | none => none
  | _ => none
 | _ => none
def qA (p : Value) : M Value := fun H =>
 match p with
 | .pointer (some _) => some (p, H)
 | _ => none
def xH (d : TypeDesc) (x y : Value) : Option Bool :=
 match d, x, y with
 | .pointer _, .pointer none, .pointer b => some b.isNone
 | .pointer _, .pointer (some _), .pointer none => some false
 | .slice _, .slice none _ _, .slice b _ _ => some b.isNone
 | .slice _, .slice (some _) _ _, .slice none _ _ => some false
 | .map _ _, .map none, .map b => some b.isNone
 | .map _ _, .map (some _), .map none => some false
 | _, _, _ => none
def yV (P : Program) (op : BinOp) (t : TypeId) (x y : Value) : Option Bool :=
 match P.underlying t with
 | some d => match op with
  | .eql => xH d x y
  | .neq => (xH d x y).map not
  | _ => none
 | none => none
def aft (op : BinOp) (a b : ByteArray) : Option Value :=
 match op with
 | .eql => some (.bool (decide (a.data.toList = b.data.toList)))
 | .neq => some (.bool (!decide (a.data.toList = b.data.toList)))
 | .add => if a.data.toList.length + b.data.toList.length ≤ 9223372036854775807 then some (.string ⟨(a.data.toList ++ b.data.toList).toArray⟩) else none
 | _ => none
def xI (P : Program) (op : BinOp) (t : TypeId) (x y : Value) : M Value := fun H =>
 match x, y with
 | .int _ _, .int _ _ => jS P [x, y] (binOp op t x y) H
 | .string a, .string b => match aft op a b with
  | some v => some (v, H)
  | none => none
 | _, _ =>
  match yV P op t x y with
  | some b => some (.bool b, H)
  | none => jS P [x, y] (do eqGuard op t (.tmp 0) (.tmp 0) x y; binOp op t x y) H
def aUn (P : Program) (op : UnOp) (x : Value) : M Value := jS P [x] (Op.unary op x)
def JC : Value → Option UInt8
 | .int .u8 n => some (UInt8.ofNat n.toNat)
 | _ => none
def wG : List Value → Option (List UInt8)
 | [] => some []
 | v :: l => match JC v, wG l with
  | some b, some bs => some (b :: bs)
  | _, _ => none
def wS (x : Value) (n : Nat) : zi → Option (List Value) := fun H =>
 match x with
 | .slice (some ⟨r, o, none⟩) _ _ =>
  match H.get r with
  | some (.cells cs _ _) => if o + n ≤ cs.length then some ((cs.drop o).take n) else none
  | _ => none
 | .slice (some ⟨_, _, some _⟩) _ _ => if n = 0 then some [] else none
 | .slice none 0 0 => if n = 0 then some [] else none
 | _ => none
def wB (P : Program) (src dst : TypeId) (x : Value) : M Value := fun H =>
 match x with
 | .slice _ n _ =>
  match P.underlying src, P.underlying dst with
  | some (.slice e), some .string =>
   match P.underlying e with
   | some (.int .u8) => match wS x n H with
    | some cs => match wG cs with
     | some bs => some (.string ⟨bs.toArray⟩, H)
     | none => none
    | none => none
   | _ => none
  | some (.slice e0), some (.slice e) =>
   match P.underlying e with
   | some (.int .u8) => if src = dst then match x with
     | .slice (some ⟨r, _, none⟩) _ _ => match H.get r with
      | some (.cells _ (.own _) _) => some (x, H)
      | _ => none
     | _ => none
    else none
   | _ => none
  | _, _ => none
 | .string s =>
  match P.underlying src, P.underlying dst with
  | some _, some (.slice e) => match P.underlying e with
   | some (.int .u8) => some (.slice (some ⟨H.next, 0, none⟩) s.size s.size, H.push (.cells (byteCells s) (.own []) 1))
   | _ => none
  | _, _ => jS P [x] (convert src dst x) H
 | _ => jS P [x] (convert src dst x) H
def jO (P : Program) (t : TypeId) (l c : Value) : M Value := fun H =>
 match l, c with
 | .int _ l, .int _ c =>
  match wE P t with
  | some e => match qR P e, zeroOf P e, bytesOf P e with
   | some size, some z, some bytes =>
    if ground z then if z.cells.size = size then if 0 < size then if 0 ≤ l then if l ≤ c then if c * bytes ≤ 140737488355328 then if c ≤ 9223372036854775807 then
     some (.slice (some ⟨H.next, 0, none⟩) l.toNat l.toNat, H.push (.cells (zl z.cells.toList l.toNat) (.own []) size)) else none else none else none else none else none else none else none
   | _, _, _ => none
  | none => none
 | _, _ => none
def y5 (d : Nat) : Option Value → Option Int
 | none => some d
 | some (.int _ i) => some i
 | some _ => none
def y9 (P : Program) (t : TypeId) (x : Value) (lo hi : Option Value) : M Value := fun H =>
 match P.underlying t, x with
 | some .string, .string _ => jS P ((x :: lo.toList) ++ hi.toList) (Instr.slice t x lo hi none) H
 | some (.slice e), .slice a len _ =>
  match qR P e, y5 0 lo, y5 len hi with
  | some size, some l, some h =>
   if 0 ≤ l then if l ≤ h then if h ≤ len then
    match a with
    | none => if len = 0 then some (.slice none 0 0, H) else none
    | some ⟨r, o, none⟩ => match H.get r with
     | some (.cells _ _ esz) => if esz = size then some (.slice (some ⟨r, o + l.toNat * size, none⟩) (h.toNat - l.toNat) (h.toNat - l.toNat), H) else none
     | _ => none
    | some ⟨0, 0, some 0⟩ => if len = 0 then some (.slice (some ⟨0, 0, some 0⟩) 0 0, H) else none
    | _ => none
   else none else none else none
  | _, _, _ => none
 | _, _ => none
def wF (P : Program) (s : TypeId) (x : Value) (f : Nat) : M Value := fun H =>
 match P.underlying s, x with
 | some (.struct fields), .pointer (some ⟨r, o, none⟩) =>
  match fields[f]? with
  | some fd => match qR P fd.type with
   | some n => if n = 0 then none else some (.pointer (some ⟨r, o + fd.offset, none⟩), H)
   | none => none
  | none => none
 | _, _ => none
def partOf (P : Program) (t : TypeId) (cs : Array Value) (off : Nat) : Option Value :=
 match qg P t with
 | some true => match qR P t with
  | some n => some (.agg ((cs.toList.drop off).take n).toArray)
  | none => none
 | some false => cs[off]?
 | none => none
def xE (P : Program) (t : TypeId) (x : Value) (f : Nat) : M Value := fun H =>
 match P.underlying t, x with
 | some (.struct fields), .agg cs =>
  match fields[f]? with
  | some fd => match partOf P fd.type cs fd.offset with
   | some v => some (v, H)
   | none => none
  | none => none
 | _, _ => none
def jM (P : Program) (t : TypeId) (x ix : Value) : M Value := fun H =>
 match P.underlying t, x, ix with
 | some (.slice e), .slice (some ⟨r, o, none⟩) len _, .int _ i =>
  match qR P e with
  | some size => if 0 ≤ i ∧ i < len then some (.pointer (some ⟨r, o + i.toNat * size, none⟩), H) else none
  | none => none
 | some (.array len e), .pointer (some ⟨r, o, none⟩), .int _ i =>
  match qR P e with
  | some size => if 0 ≤ i ∧ i < len then some (.pointer (some ⟨r, o + i.toNat * size, none⟩), H) else none
  | none => none
 | _, _, _ => none
def kH (P : Program) (t : TypeId) (x ix : Value) : M Value := fun H =>
 match P.underlying t, x, ix with
 | some (.array len e), .agg cs, .int _ i =>
  match qR P e with
  | some size => if 0 ≤ i ∧ i < len then match partOf P e cs (i.toNat * size) with
    | some v => some (v, H)
    | none => none
   else none
  | none => none
 | some .string, .string _, .int _ _ => jS P [x, ix] (Instr.index t x ix) H
 | _, _, _ => none
def zL (t : Value) (i : Nat) : M Value := fun H =>
 match t with
 | .tuple vs => match vs[i]? with
  | some v => some (v, H)
  | none => none
 | _ => none
def ZY : TypeDesc → Value → Bool
 | .int _, .int _ _ | .string, .string _ | .bool, .bool _ => true
 | _, _ => false
def xu (P : Program) (t : TypeId) (r : Option Value) : M Value := fun H =>
 match r with
 | none => some (.map (some H.next), H.push (.map [] 0))
 | some _ => none
def jT (P : Program) (t : TypeId) (x k : Value) (ok : Bool) : M Value := fun H =>
 match P.underlying t with
 | some (.map kt et) => match P.underlying kt with
  | some kd =>
   if ZY kd k then
    match (match x with
     | .map none => some []
     | .map (some r) => match H.get r with
      | some (.map es _) => some es
      | _ => none
     | _ => none : Option (List MapEntry)) with
    | some es => match Instr.findNow kd k es 0 with
     | some (some (_, v)) => some (if ok then .tuple #[v, .bool true] else v, H)
     | some none => match zeroOf P et with
      | some z => if ground z then some (if ok then .tuple #[z, .bool false] else z, H) else none
      | none => none
     | none => none
    | none => none
   else none
  | none => none
 | _ => none
def wM (P : Program) (t : TypeId) (x k v : Value) : M Value := fun H =>
 match P.underlying t with
 | some (.map kt _) => match P.underlying kt with
  | some kd =>
   if ZY kd k then
    match x with
    | .map (some r) => match H.get r with
     | some (.map es clock) => match Instr.findNow kd k es 0 with
      | some (some (i, _)) => some (undef, H.set r (.map (es.modify i fun e => { e with key := k, val := v }) clock))
      | some none => some (undef, H.set r (.map (es ++ [{ key := k, val := v, born := clock }]) (clock + 1)))
      | none => none
     | _ => none
    | _ => none
   else none
  | none => none
 | _ => none
def yP (P : Program) (tx : TypeId) (size : Nat) (x : Value) (H : zi) : Option (Nat × List Value) :=
 match P.underlying tx, x with
 | some (.slice _), .slice _ n _ => match wS x (n * size) H with
  | some cs => if cs.all (·.oneCell') then some (n, cs) else none
  | none => none
 | some .string, .string s => if size = 1 then some (s.size, byteCells s) else none
 | _, _ => none
def yQ (H : zi) (r : Nat) (own : Own) (cs : List Value) (fin n esz : Nat) : Option (zi × List Nat) :=
 match own with
 | .ro => none
 | .own anc => if fin = cs.length then some (H.set r (.cells cs .ro esz), if n = 0 then [] else r :: anc) else some ((H.kills anc).set r .dead, [])
def yX (P : Program) (t tx : TypeId) (s x : Value) : M Value := fun H =>
 match wE P t with
 | some e => match qR P e, zeroOf P e, bytesOf P e with
  | some size, some z, some bytes =>
   if 0 < size then if z.cells.size = size then
   match yP P tx size x H with
   | some (k, news) =>
    match s with
    | .slice none 0 0 =>
     if k = 0 then some (.slice none 0 0, H)
     else if k * bytes ≤ 140737488355328 then if k ≤ 4611686018427387903 then
      some (.slice (some ⟨H.next, 0, none⟩) k k, H.push (.cells news (.own []) size)) else none else none
    | .slice (some ⟨r, o, none⟩) n _ =>
     match H.get r with
     | some (.cells cs own esz) =>
      if esz = size then if o + n * size ≤ cs.length then if (n + k) * bytes ≤ 140737488355328 then if n + k ≤ 4611686018427387903 then
       if ((cs.drop o).take (n * size)).all (·.oneCell') then
       match yQ H r own cs (o + n * size) (n * size) size with
       | some (G, anc) => some (.slice (some ⟨H.next, 0, none⟩) (n + k) (n + k), G.push (.cells ((cs.drop o).take (n * size) ++ news) (.own anc) size))
       | none => none
       else none else none else none else none else none
     | _ => none
    | _ => none
   | none => none
   else none else none
  | _, _, _ => none
 | none => none
def WC (P : Program) (t tx : TypeId) (d s : Value) : M Value := fun H =>
 match wE P t with
 | some e => match qR P e with
  | some size =>
   match d, s with
   | .slice d' dn dc, .slice s' sn sc =>
    if Nat.min sn dn = 0 then some (goInt 0, H) else
    match d' with
    | some ⟨r, o, none⟩ =>
     match H.get r, wS (.slice s' sn sc) (Nat.min sn dn * size) H with
     | some (.cells cs (.own anc) esz), some news =>
      if o + Nat.min sn dn * size ≤ cs.length then if news.all (·.oneCell') then
       some (goInt (Nat.min sn dn), (H.kills anc).set r (.cells (splice cs o news) (.own []) esz)) else none else none
     | _, _ => none
    | _ => none
   | _, _ => none
  | none => none
 | none => none
def xC (P : Program) (t : TypeId) (x : Value) : M Value := fun H =>
 match wE P t, x with
 | some _, .slice none _ _ => some (undef, H)
 | some e, .slice (some ⟨r, o, none⟩) n _ =>
  if n = 0 then some (undef, H) else
  match qR P e, zeroOf P e, H.get r with
  | some size, some z, some (.cells cs (.own anc) esz) =>
   if ground z then if z.cells.size = size then if z.cells.toList.all (·.oneCell') then if 0 < size then if o + n * size ≤ cs.length then
    some (undef, (H.kills anc).set r (.cells (splice cs o (zl z.cells.toList n)) (.own []) esz)) else none else none else none else none else none
  | _, _, _ => none
 | _, _ => none
def QI (P : Program) (t : TypeId) (x : Value) : M Value := fun H =>
 match P.underlying t, x with
 | some .string, .string s => some (goInt s.size, H)
 | some (.array n _), _ => some (goInt n, H)
 | some (.slice _), .slice _ n _ => some (goInt n, H)
 | some (.map _ _), .map none => some (goInt 0, H)
 | some (.map _ _), .map (some r) => match H.get r with
  | some (.map es _) => some (goInt es.length, H)
  | _ => none
 | _, _ => none
def qo (P : Program) (b : Builtin) (ts : Array TypeId) (ty : TypeId) (args : List Value) : M Value := fun H =>
 match b with
 | .len => match ts.toList, args with
  | [t], [x] => QI P t x H
  | _, _ => none
 | .append => match ts.toList, args with
  | [t, tx], [s, x] => yX P t tx s x H
  | _, _ => none
 | .copy => match ts.toList, args with
  | [t, tx], [d, s] => WC P t tx d s H
  | _, _ => none
 | .clear => match ts.toList, args with
  | [t], [x] => xC P t x H
  | _, _ => none
 | .min => jS P args (Builtin.min_ ts ty args.toArray) H
 | .max => jS P args (Builtin.max_ ts ty args.toArray) H
 | _ => none
def Q9 (c a b : Value) : M Value := fun H =>
 match c with
 | .bool t => some (if t then a else b, H)
 | _ => none
def aOp (P : Program) (ρ : Operand → Value) (o : Oper) : M Value :=
 match o.op with
 | .move x | .assign x => ret (ρ x)
 | .pick c a b => Q9 (ρ c) (ρ a) (ρ b)
 | .alloc e => qc P e
 | .box _ x => Xd (ρ x)
 | .build t parts => yh P t (parts.toList.map fun p => (p.1, ρ p.2))
 | .buildSlice t len parts => jZ P t len (parts.toList.map fun p => (p.1, ρ p.2))
 | .load t a => wY P t (ρ a)
 | .store t a x => vX P t (ρ a) (ρ x)
 | .nilCheck x => qA (ρ x)
 | .binOp op t x y _ => xI P op t (ρ x) (ρ y)
 | .unOp op _ x => aUn P op (ρ x)
 | .convert src dst x => wB P src dst (ρ x)
 | .makeFunc fn first captured => ret (.func fn (first.toList.map ρ).toArray (captured.toList.map ρ).toArray)
 | .makeMap t r => xu P t (r.map ρ)
 | .makeSlice t l c => jO P t (ρ l) (ρ c)
 | .slice t x lo hi none => y9 P t (ρ x) (lo.map ρ) (hi.map ρ)
 | .fieldAddr s x f => wF P s (ρ x) f
 | .field t x f => xE P t (ρ x) f
 | .indexAddr t x i => jM P t (ρ x) (ρ i)
 | .index t x i => kH P t (ρ x) (ρ i)
 | .lookup t x i ok => jT P t (ρ x) (ρ i) ok
 | .mapUpdate t x k v => wM P t (ρ x) (ρ k) (ρ v)
 | .extract t i => zL (ρ t) i
 | .call c => match c.callee with
  | .builtin b => qo P b c.argTypes o.type (c.args.toList.map ρ)
  | _ => fail
 | _ => fail
end Go.Abs
namespace Go.Abs
open Go.RowKit
def Sim (P : Program) (B : Nat) (w0 : World) (m : Mp) (H' : zi) (w : World) (s : Sem Value) (v : Value) : Prop :=
 ∃ v' w' m', s.run P w = .ok v' w' ∧ VR m' v v' ∧ m.le m' ∧ Rel B w0 m' H' w'
section
variable {P : Program} {B : Nat} {w0 : World} {m : Mp} {H H' : zi} {w : World}
theorem Sim.same {s : Sem Value} {v v' : Value} (hr : Rel B w0 m H w) (hs : s.run P w = .ok v' w) (hv : VR m v v') : Sim P B w0 m H w s v :=
 ⟨v', w, m, hs, hv, Mp.le_refl m, hr⟩
theorem LR.ground {l l' : List Value} (h : LR m l l') (hg : l.all ground = true) : l' = l := by
 induction l generalizing l' with
 | nil => have := h.1; cases l' with
  | nil => rfl
  | cons => simp at this
 | cons v l ih =>
  cases l' with
  | nil => have := h.1; simp at this
  | cons v' l' =>
   simp only [List.all_cons, Bool.and_eq_true] at hg
   rw [qG hg.1 h.head, ih h.tail hg.2]
theorem yF {args args' : List Value} {s s' : Sem Value} {v : Value} (hr : Rel B w0 m H w) (h : jS P args s H = some (v, H')) (ha : LR m args args')
  (hs : args' = args → s' = s) : Sim P B w0 m H' w s' v := by
 unfold jS at h
 split at h
 ·
  rename_i hg
  split at h
  ·
   rename_i u hu
   split at h
   ·
    rename_i hu2
    cases h
    refine Sim.same hr ?_ (wo hu2)
    rw [hs (ha.ground hg)]
    exact Xg _ hu w
   ·
    cases h
  ·
   cases h
 ·
  cases h
theorem ZT {w : World} {b o : Nat} {cc : Array Value} {e : TypeId} {fr : Nat × Nat} (h : w.heap[b]? = some (.cells cc e fr)) : w.cell? ⟨b, o, none⟩ = cc[o]? := by
 simp [World.cell?, h]
theorem QV {w : World} {b o : Nat} {cc : Array Value} {e : TypeId} {fr : Nat × Nat} (h : w.heap[b]? = some (.cells cc e fr)) (hf : ¬(fr.1 ≤ o ∧ o < fr.2)) : w.frozen? ⟨b, o, none⟩ = false := by
 simp only [World.frozen?, h]
 obtain ⟨lo, hi⟩ := fr
 simp only [not_and, Nat.not_lt] at hf
 simp only [Bool.and_eq_false_iff, decide_eq_false_iff_not, Nat.not_le, Nat.not_lt]
 by_cases h1 : lo ≤ o
 ·
  exact .inr (hf h1)
 ·
  exact .inl (by omega)
theorem Rel.range {r : Nat} {L : Loc} {cs : List Value} {own : Own} {esz o n : Nat} (hr : Rel B w0 m H w) (hm : m r = some L) (hg : H.get r = some (.cells cs own esz))
  (hn : o + n ≤ cs.length) : ∃ cs' : List Value, LR m ((cs.drop o).take n) cs' ∧ w.rangeAt L.blk (L.shift + o) cs' := by
 obtain ⟨_, cc, e, fr, hb, h1, h2, h3, _⟩ := hr.obj r L _ hm hg
 refine ⟨(cc.toList.drop (L.shift + o)).take n, ⟨?_, ?_⟩, ?_⟩
 ·
  simp only [List.length_take, List.length_drop, Array.length_toList]; omega
 ·
  intro i
  by_cases hi : i < n
  ·
   have hlt : o + i < cs.length := by omega
   obtain ⟨v', hv', hvr⟩ := h3 (o + i) cs[o + i] (by simp [hlt])
   have e1 : ((cs.drop o).take n).getD i undef = cs[o + i] := by
    simp [List.getD_eq_getElem?_getD, List.getElem?_take, hi, List.getElem?_drop, hlt]
   have e2 : ((cc.toList.drop (L.shift + o)).take n).getD i undef = v' := by
    have : cc.toList[L.shift + o + i]? = some v' := by rw [← hv', Array.getElem?_toList, Nat.add_assoc]
    simp only [List.getD_eq_getElem?_getD, List.getElem?_take, hi, if_true, List.getElem?_drop, this, Option.getD_some]
   rw [e1, e2]
   exact hvr
  ·
   have e1 : ((cs.drop o).take n).getD i undef = undef := by simp [List.getD_eq_getElem?_getD, List.getElem?_take, hi]
   have e2 : ((cc.toList.drop (L.shift + o)).take n).getD i undef = undef := by simp [List.getD_eq_getElem?_getD, List.getElem?_take, hi]
   rw [e1, e2]
   exact VR.undef
 ·
  intro j v hj
  rw [ZT hb]
  rw [List.getElem?_take] at hj
  split at hj
  ·
   rw [List.getElem?_drop, Array.getElem?_toList] at hj
   exact hj
  ·
   cases hj
theorem Rel.cell {r : Nat} {L : Loc} {cs : List Value} {own : Own} {esz o : Nat} {v : Value} (hr : Rel B w0 m H w) (hm : m r = some L) (hg : H.get r = some (.cells cs own esz))
  (hv : cs[o]? = some v) : ∃ v', w.cell? ⟨L.blk, L.shift + o, none⟩ = some v' ∧ VR m v v' := by
 obtain ⟨_, cc, e, fr, hb, h1, h2, h3, _⟩ := hr.obj r L _ hm hg
 obtain ⟨v', h, k⟩ := h3 o v hv
 exact ⟨v', by rw [ZT hb]; exact h, k⟩
theorem ZO {t : TypeId} (h : qg P t = some true) : ∃ d, P.underlying t = some d ∧ d.isRow = true := by
 unfold qg at h
 split at h
 ·
  rename_i x hx; exact ⟨_, hx, rfl⟩
 ·
  rename_i x y hx; exact ⟨_, hx, rfl⟩
 ·
  cases h
 ·
  cases h
theorem Zl {t : TypeId} (h : qg P t = some false) (w : World) : (isAgg t).run P w = .ok false w := by
 unfold qg at h
 split at h
 ·
  cases h
 ·
  cases h
 ·
  rename_i d h1 h2 hx
  unfold isAgg
  rw [Sem.run_bind, run_underlying hx w]
  cases d <;> first | rfl | (exact absurd rfl (h1 _)) | (exact absurd rfl (h2 _ _))
 ·
  cases h
theorem X7 {t : TypeId} {p p' v : Value} (hr : Rel B w0 m H w) (h : wY P t p H = some (v, H')) (hp : VR m p p') : Sim P B w0 m H' w (Instr.loadAt t p') v := by
 unfold wY at h
 split at h
 ·
  rename_i r o
  cases hp with
  | @ptr _ _ L hm =>
   split at h
   ·
    rename_i cs own esz hg
    split at h
    ·
     rename_i ha
     split at h
     ·
      rename_i n hsz
      split at h
      ·
       rename_i hn
       cases h
       obtain ⟨cs', hl, hra⟩ := hr.range hm hg hn
       obtain ⟨d, hd, hd2⟩ := ZO ha
       have hlen : cs'.length = n := by rw [← hl.1]; simp; omega
       refine Sim.same hr (run_loadAt_mid w L.blk (L.shift + o) t cs' d hra hd hd2 (by rw [hlen]; exact hsz)) ?_
       have := hl.toArray
       exact .agg this.1 this.2
      ·
       cases h
     ·
      cases h
    ·
     rename_i ha
     split at h
     ·
      rename_i u hu
      cases h
      obtain ⟨v', hc, hv⟩ := hr.cell hm hg hu
      refine Sim.same hr ?_ hv
      simp only [Instr.loadAt, Instr.sureAddr, Sem.run_bind, Sem.run_pure, Result.andThen_ok, loadVar, Zl ha w, Bool.false_eq_true, if_false, Sem.run_ite, run_load, hc]
     ·
      cases h
    ·
     cases h
   ·
    cases h
 ·
  cases h
def adN (cc : Array Value) : Nat → List Value → Array Value
 | _, [] => cc
 | o, v :: r => adN (cc.setIfInBounds o v) (o + 1) r
theorem qF (vs : List Value) : ∀ (cc : Array Value) (o : Nat), (adN cc o vs).size = cc.size := by
 induction vs with
 | nil => intro cc o; rfl
 | cons v r ih => intro cc o; rw [adN, ih]; simp
theorem Jl (vs : List Value) : ∀ (cc : Array Value) (o k : Nat), (adN cc o vs)[k]? = if o ≤ k ∧ k < o + vs.length ∧ k < cc.size then vs[k - o]? else cc[k]? := by
 induction vs with
 | nil => intro cc o k; rw [adN, if_neg (by simp; omega)]
 | cons v r ih =>
  intro cc o k
  rw [adN, ih]
  simp only [Array.size_setIfInBounds, List.length_cons]
  by_cases h1 : o + 1 ≤ k ∧ k < o + 1 + r.length ∧ k < cc.size
  ·
   rw [if_pos h1, if_pos (by omega)]
   obtain ⟨j, hj⟩ : ∃ j, k - o = j + 1 := ⟨k - o - 1, by omega⟩
   rw [hj, List.getElem?_cons_succ]
   congr 1; omega
  ·
   rw [if_neg h1]
   by_cases h2 : k = o
   ·
    subst h2
    by_cases h3 : k < cc.size
    ·
     rw [if_pos (by omega)]; simp [h3]
    ·
     rw [if_neg (by omega)]; simp [h3]
   ·
    rw [Array.getElem?_setIfInBounds_ne (by omega), if_neg (by omega)]
theorem qX (b : Nat) (vs : List Value) : ∀ (o : Nat) (w : World) (cc : Array Value) (e : TypeId) (fr : Nat × Nat), w.heap[b]? = some (.cells cc e fr) →
  (w.setCells b o vs).heap[b]? = some (.cells (adN cc o vs) e fr) := by
 induction vs with
 | nil => intro o w cc e fr h; exact h
 | cons v r ih =>
  intro o w cc e fr h
  rw [World.setCells, adN]
  refine ih _ _ _ _ _ ?_
  simp [World.setCell, Array.getElem?_modify, h]
theorem wX (b : Nat) (vs : List Value) : ∀ (o : Nat) (w : World) (k : Nat), k ≠ b → (w.setCells b o vs).heap[k]? = w.heap[k]? := by
 induction vs with
 | nil => intro o w k h; rfl
 | cons v r ih =>
  intro o w k h
  rw [World.setCells, ih _ _ _ h, Below.heap_setCell _ _ _ _ h]
theorem Zr (b : Nat) (vs : List Value) : ∀ (o : Nat) (w : World), (w.setCells b o vs).os = w.os ∧ (w.setCells b o vs).tape = w.tape ∧ (w.setCells b o vs).output = w.output ∧ (w.setCells b o vs).heap.size = w.heap.size := by
 induction vs with
 | nil => intro o w; exact ⟨rfl, rfl, rfl, rfl⟩
 | cons v r ih =>
  intro o w
  rw [World.setCells]
  obtain ⟨a, b, c, d⟩ := ih (o + 1) (w.setCell ⟨b, o, none⟩ v)
  exact ⟨a, b, c, by rw [d]; simp [World.setCell]⟩
theorem Zp {cs xs : List Value} {o : Nat} (h : o + xs.length ≤ cs.length) : (splice cs o xs).length = cs.length := by
 simp [splice]; omega
theorem ZR {cs xs : List Value} {o : Nat} (h : o + xs.length ≤ cs.length) (k : Nat) : (splice cs o xs)[k]? = if o ≤ k ∧ k < o + xs.length then xs[k - o]? else cs[k]? := by
 unfold splice
 have ht : (cs.take o).length = o := by simp; omega
 by_cases h1 : k < o
 ·
  rw [if_neg (by omega), List.append_assoc, List.getElem?_append_left (by omega), List.getElem?_take, if_pos h1]
 ·
  by_cases h2 : k < o + xs.length
  ·
   rw [if_pos (by omega), List.append_assoc, List.getElem?_append_right (by omega), ht, List.getElem?_append_left (by omega)]
  ·
   rw [if_neg (by omega), List.getElem?_append_right (by simp; omega), List.getElem?_drop]
   congr 1
   simp
   omega
theorem yG.XF {cs : List Value} {own : Own} {esz shift lim : Nat} (h : shift + cs.length ≤ lim) : shift + cs.length ≤ yG.hi shift lim (.cells cs own esz) := by
 cases own <;> simp only [yG.hi] <;> omega
theorem Rel.store {r : Nat} {L : Loc} {cs xs xs' : List Value} {esz o : Nat} {anc : List Nat} (hr : Rel B w0 m H w) (hm : m r = some L) (hg : H.get r = some (.cells cs (.own anc) esz))
  (hx : LR m xs xs') (ho : o + xs.length ≤ cs.length) :
  w.there L.blk (L.shift + o) xs'.length ∧ Rel B w0 m ((H.kills anc).set r (.cells (splice cs o xs) (.own []) esz)) (w.setCells L.blk (L.shift + o) xs') := by
 obtain ⟨hesz, cc, e, fr, hb, h1, h2, h3, h4⟩ := hr.obj r L _ hm hg
 have hlen := hx.1
 have hB : B ≤ L.blk := hr.own r L _ hm hg rfl
 obtain ⟨r1, r2, r3, r4⟩ := Zr L.blk xs' (L.shift + o) w
 have other : ∀ k o', k ≠ r → ((H.kills anc).set r (.cells (splice cs o xs) (.own []) esz)).get k = some o' → o' = .dead ∨ (k ∉ anc ∧ H.get k = some o') := by
  intro k o' hk hg'
  rw [zi.jF, if_neg hk, zi.qE] at hg'
  by_cases ha : k ∈ anc
  ·
   rw [if_pos ha] at hg'; cases hg'; exact .inl rfl
  ·
   rw [if_neg ha] at hg'; exact .inr ⟨ha, hg'⟩
 have same : ((H.kills anc).set r (.cells (splice cs o xs) (.own []) esz)).get r = some (.cells (splice cs o xs) (.own []) esz) := by rw [zi.jF, if_pos rfl]
 have strong : ∀ r' L' o', r' ≠ r → r' ∉ anc → m r' = some L' → H.get r' = some o' → o'.alive = true → L.blk = L'.blk → L.lim ≤ L'.shift ∨ o'.hi L'.shift L'.lim ≤ L.shift := by
  intro r' L' o' hne hna hm' hg' hal hbk
  have := hr.apart r r' L L' _ o' (fun e => hne e.symm) hm hm' hg hg' rfl hal hbk
  simp only [yG.lo] at this
  rw [if_neg (fun h => hna h.1)] at this
  exact this
 refine ⟨fun j hj => ⟨?_, ?_⟩, ?_⟩
 ·
  rw [ZT hb]; simp; omega
 ·
  exact QV hb (by have := h4 rfl; omega)
 ·
  refine ⟨?_, ?_, ?_, ?_, ?_, ?_, ?_⟩
  ·
   refine ⟨r1.trans hr.below.os, r2.trans hr.below.tape, r3.trans hr.below.output, by rw [r4]; exact hr.below.size, fun k hk => ?_⟩
   rw [wX _ _ _ _ _ (by omega)]; exact hr.below.block k hk
  ·
   rw [r4]; exact hr.base
  ·
   intro r' L' o' hm' hg'
   by_cases hrr : r' = r
   ·
    subst hrr
    rw [same] at hg'
    cases hg'
    rw [hm] at hm'; cases hm'
    refine ⟨hesz, _, e, fr, qX _ _ _ _ _ _ _ hb, by rw [Zp ho]; exact h1, by rw [qF]; exact h2, ?_, fun h => by rw [qF]; exact h4 rfl⟩
    intro j v hj
    rw [ZR ho] at hj
    rw [Jl]
    by_cases hin : o ≤ j ∧ j < o + xs.length
    ·
     rw [if_pos hin] at hj
     rw [if_pos (by omega)]
     obtain ⟨v', hv', hvr⟩ := hx.get hj
     exact ⟨v', by rw [← hv']; congr 1; omega, hvr⟩
    ·
     rw [if_neg hin] at hj
     rw [if_neg (by omega)]
     exact h3 j v hj
   ·
    rcases other r' o' hrr hg' with rfl | ⟨hna, hg'⟩
    ·
     exact True.intro
    have hold := hr.obj r' L' o' hm' hg'
    have hap := strong r' L' o' hrr hna hm' hg'
    cases o' with
    | dead => exact True.intro
    | map es clock =>
     obtain ⟨a1, a2, es', a3, a4⟩ := hold
     have : L'.blk ≠ L.blk := by rintro e2; rw [e2, hb] at a3; cases a3
     exact ⟨a1, a2, es', by rw [wX _ _ _ _ _ this]; exact a3, a4⟩
    | cells cs2 own2 esz2 =>
     obtain ⟨a0, cc2, e2, fr2, a1, a2, a3, a4, a5⟩ := hold
     by_cases hbb : L'.blk = L.blk
     ·
      have hdis := hap rfl hbb.symm
      have hhi := yG.XF (own := own2) (esz := esz2) a2
      rw [hbb, hb] at a1
      cases a1
      refine ⟨a0, _, e, fr, by rw [hbb]; exact qX _ _ _ _ _ _ _ hb, a2, by rw [qF]; exact a3, ?_, fun h => by rw [qF]; exact a5 h⟩
      intro j v hj
      have hjl : j < cs2.length := (List.getElem?_eq_some_iff.1 hj).1
      rw [Jl, if_neg (by omega)]
      exact a4 j v hj
     ·
      exact ⟨a0, cc2, e2, fr2, by rw [wX _ _ _ _ _ hbb]; exact a1, a2, a3, a4, a5⟩
  ·
   intro r' L' hm'; rw [r4]; exact hr.lt r' L' hm'
  ·
   intro r' L' o' hm' hg' hw
   by_cases hrr : r' = r
   ·
    subst hrr; rw [hm] at hm'; cases hm'; exact hB
   ·
    rcases other r' o' hrr hg' with rfl | ⟨hna, hg'⟩
    ·
     cases hw
    ·
     exact hr.own r' L' o' hm' hg' hw
  ·
   intro ra rb La Lb oa ob hne ma mb ga gb hw hal hbk
   by_cases ea : ra = r
   ·
    subst ea
    rw [same] at ga; cases ga
    have eb : rb ≠ ra := fun e => hne e.symm
    rw [hm] at ma; cases ma
    rcases other rb ob eb gb with rfl | ⟨hnb, gb⟩
    ·
     cases hal
    ·
     have := strong rb Lb ob eb hnb mb gb hal hbk
     simp only [yG.lo]
     omega
   ·
    rcases other ra oa ea ga with rfl | ⟨hna, ga2⟩
    ·
     cases hw
    ·
     by_cases eb : rb = r
     ·
      subst eb
      rw [same] at gb; cases gb
      rw [hm] at mb; cases mb
      have := hr.apart ra rb La L oa _ hne ma hm ga2 hg hw rfl hbk
      have e1 : yG.lo oa rb (.cells cs (.own anc) esz) = yG.lo oa rb (.cells (splice cs o xs) (.own []) esz) := by cases oa <;> rfl
      rw [← e1]
      exact this
     ·
      rcases other rb ob eb gb with rfl | ⟨hnb, gb2⟩
      ·
       cases hal
      ·
       exact hr.apart ra rb La Lb oa ob hne ma mb ga2 gb2 hw hal hbk
  ·
   exact fun r' h => hr.fresh r' (by simpa using h)
theorem ZV {xs xs' : List Value} (h : LR m xs xs') (hx : xs.all (·.oneCell') = true) : ∀ v ∈ xs', v.oneCell' = true := by
 intro v hv
 obtain ⟨i, hi, rfl⟩ := List.mem_iff_getElem.1 hv
 have hi' : i < xs.length := h.1 ▸ hi
 have hvr : VR m xs[i] xs'[i] := by
  have := h.2 i
  simpa [List.getD_eq_getElem?_getD, hi, hi'] using this
 have h1 := List.all_eq_true.1 hx _ (List.getElem_mem hi')
 cases hh : xs'[i] <;> first | rfl | skip
 all_goals (rw [hh] at hvr; generalize xs[i] = u at *; cases hvr <;> simp [Value.oneCell'] at h1)
theorem abD {t : TypeId} {p p' x x' v : Value} (hr : Rel B w0 m H w) (h : vX P t p x H = some (v, H')) (hp : VR m p p') (hx : VR m x x') :
  v = undef ∧ ∃ w', (Instr.storeAt t p' x').run P w = .ok () w' ∧ Rel B w0 m H' w' := by
 unfold vX at h
 split at h
 ·
  rename_i r o
  cases hp with
  | @ptr _ _ L hm =>
   split at h
   ·
    rename_i cs anc esz hg
    split at h
    ·
     rename_i n hsz
     split at h
     ·
      rename_i hn
      split at h
      ·
       rename_i h1
       split at h
       ·
        rename_i ho
        cases h
        refine ⟨rfl, ?_⟩
        have hl := hx.cells.toList
        have hlen : x.cells.toList.length = n := by simpa using hn
        obtain ⟨ht, hrel⟩ := hr.store hm hg hl (by rw [hlen]; exact ho)
        have hone := ZV hl h1
        have hsz' : x'.cells.size = n := by have := hl.1; simp at this; omega
        refine ⟨_, ?_, hrel⟩
        have hst := run_storeCells_cells (P := P) L.blk (L.shift + o) x'.cells.toList 0 w (fun j hj => by simpa using (ht j hj).1) (fun j hj => by simpa using (ht j hj).2) hone
        simp only [Nat.add_zero] at hst
        cases hq : P.info? t with
        | none => simp [qR, hq] at hsz
        | some i =>
         have hs : i.size = n := by simpa [qR, hq] using hsz
         simp [Instr.storeAt, Instr.sureAddr, storeVar, sizeOf, typeInfo, hq, hs, hsz', hst]
       ·
        cases h
      ·
       cases h
     ·
      cases h
    ·
     cases h
   ·
    cases h
 ·
  cases h
end
end Go.Abs
namespace Go.Abs
open Go.RowKit
section
variable {P : Program} {B : Nat} {w0 : World} {m : Mp} {H H' : zi} {w : World}
theorem Rel.new {cs cs' tail : List Value} {own : Own} {esz : Nat} {e : TypeId} {fr : Nat × Nat} {w1 : World} (hr : Rel B w0 m H w) (h : LR m cs cs')
  (hw1 : kX w w1 (.cells (cs' ++ tail).toArray e fr)) (hfr : fr = (0, 0) ∨ fr.1 = cs'.length + tail.length) :
  ∃ L, L.blk = w.heap.size ∧ L.shift = 0 ∧ L.lim = cs'.length + tail.length ∧ L.esz = esz ∧ Rel B w0 (m.add H.next L) (H.push (.cells cs own esz)) w1 := by
 refine ⟨⟨w.heap.size, 0, cs'.length + tail.length, esz⟩, rfl, rfl, rfl, rfl, hr.push _ _ _ rfl hw1 ?_⟩
 refine ⟨rfl, (cs' ++ tail).toArray, e, fr, hw1.new, ?_, ?_, ?_, ?_⟩
 ·
  have := h.1; simp; omega
 ·
  simp
 ·
  intro j v hj
  obtain ⟨v', hv', hvr⟩ := (h.mono (Mp.kD (L := ⟨w.heap.size, 0, cs'.length + tail.length, esz⟩) (hr.fresh _ (Nat.le_refl _)))).get hj
  refine ⟨v', ?_, hvr⟩
  have : j < cs'.length := (List.getElem?_eq_some_iff.1 hv').1
  simp only [Nat.zero_add, List.getElem?_toArray, List.getElem?_append_left this]
  exact hv'
 ·
  intro _
  rcases hfr with rfl | hfr
  ·
   exact .inl rfl
  ·
   right; simp; omega
theorem LR.kQ {l : List Value} (h : l.all sg = true) : LR m l l := ⟨rfl, fun i => ZB h i⟩
theorem wP {z : Value} (h : ground z = true) : z.cells.toList.all sg = true := by
 cases z <;> first | exact h | simpa [Value.cells, ground] using h
theorem Zf {t : TypeId} {z : Value} (h : zeroOf P t = some z) : ∃ i, P.info? t = some i ∧ i.zero = some z := by
 unfold zeroOf at h
 cases hi : P.info? t with
 | none => simp [hi] at h
 | some i => exact ⟨i, rfl, by simpa [hi] using h⟩
theorem ku {t : TypeId} {z : Value} (h : zeroOf P t = some z) (w : World) : (zeroValue t).run P w = .ok z w := by
 obtain ⟨i, hi, hz⟩ := Zf h
 simp [zeroValue, typeInfo, hi, hz]
theorem yg {t : TypeId} {n : Nat} (h : qR P t = some n) (w : World) : (sizeOf t).run P w = .ok n w := by
 unfold qR at h
 cases hi : P.info? t with
 | none => simp [hi] at h
 | some i => simp [sizeOf, typeInfo, hi]; simpa [hi] using h
theorem aaD {e : TypeId} {v : Value} (hr : Rel B w0 m H w) (h : qc P e H = some (v, H')) : Sim P B w0 m H' w (Instr.alloc e true (.tuple #[])) v := by
 unfold qc at h
 split at h
 ·
  rename_i z hz
  split at h
  ·
   rename_i hg
   cases h
   obtain ⟨L, l1, l2, l3, l4, hrel⟩ := hr.new (esz := 0) (tail := []) (LR.kQ (wP hg)) (kX.push w (.cells _ e (0, 0)) w.drawn) (.inl rfl)
   refine ⟨.pointer (some ⟨w.heap.size, 0, none⟩), _, m.add H.next L, ?_, ?_, Mp.kD (hr.fresh _ (Nat.le_refl _)), hrel⟩
   ·
    simp [Instr.alloc, ku hz, newVar, newRow]
   ·
    have := VR.ptr (o := 0) (Mp.add_same m H.next L)
    rw [l1, l2] at this
    exact this
  ·
   cases h
 ·
  cases h
theorem aeB {x x' v : Value} (e : TypeId) (hr : Rel B w0 m H w) (h : Xd x H = some (v, H')) (hx : VR m x x') : Sim P B w0 m H' w (Instr.box e x') v := by
 unfold Xd at h
 cases h
 obtain ⟨L, l1, l2, l3, l4, hrel⟩ := hr.new (esz := 0) (tail := []) hx.cells.toList (kX.push w (.cells _ e (0, 0)) w.drawn) (.inl rfl)
 refine ⟨.pointer (some ⟨w.heap.size, 0, none⟩), _, m.add H.next L, ?_, ?_, Mp.kD (hr.fresh _ (Nat.le_refl _)), hrel⟩
 ·
  simp [Instr.box, newVar, newRow]
 ·
  have := VR.ptr (o := 0) (Mp.add_same m H.next L)
  rw [l1, l2] at this
  exact this
theorem AR.set {x x' : Array Value} (h : AR m x x') (i : Nat) {v v' : Value} (hv : VR m v v') : AR m (x.setIfInBounds i v) (x'.setIfInBounds i v') := by
 rw [AR.iff] at h ⊢
 simp only [Array.toList_setIfInBounds]
 exact h.set i hv
theorem acY (off : Nat) : ∀ (l l' : List Value) (k : Nat) (cs cs' : Array Value), LR m l l' → AR m cs cs' →
  AR m ((l.zipIdx k).foldl (fun cs (c, j) => cs.setIfInBounds (off + j) c) cs) ((l'.zipIdx k).foldl (fun cs (c, j) => cs.setIfInBounds (off + j) c) cs') := by
 intro l
 induction l with
 | nil => intro l' k cs cs' h hc; have := h.1; cases l' with
  | nil => exact hc
  | cons => simp at this
 | cons v l ih =>
  intro l' k cs cs' h hc
  cases l' with
  | nil => have := h.1; simp at this
  | cons v' l' =>
   simp only [List.zipIdx_cons, List.foldl_cons]
   exact ih l' (k + 1) _ _ h.tail (hc.set _ h.head)
def PR (m : Mp) (ps ps' : List (Nat × Value)) : Prop := ps.map (·.1) = ps'.map (·.1) ∧ LR m (ps.map (·.2)) (ps'.map (·.2))
theorem YK (place : Nat → Option (Nat × Nat)) : ∀ (ps ps' : List (Nat × Value)) (cs cs' : Array Value) (r : Array Value), PR m ps ps' → AR m cs cs' → Instr.fill place cs ps = some r →
  ∃ r', Instr.fill place cs' ps' = some r' ∧ AR m r r' := by
 intro ps
 induction ps with
 | nil =>
  intro ps' cs cs' r h hc hf
  cases ps' with
  | nil => simp only [Instr.fill, Option.some.injEq] at hf; subst hf; exact ⟨cs', rfl, hc⟩
  | cons p l => have := h.1; simp at this
 | cons p ps ih =>
  intro ps' cs cs' r h hc hf
  cases ps' with
  | nil => have := h.1; simp at this
  | cons p' ps' =>
   obtain ⟨i, v⟩ := p
   obtain ⟨i', v'⟩ := p'
   have hi : i = i' := by have := h.1; simp at this; exact this.1
   subst hi
   have hv : VR m v v' := h.2.head
   have htl : PR m ps ps' := ⟨by have := h.1; simp at this; exact this, h.2.tail⟩
   simp only [Instr.fill] at hf ⊢
   cases hp : place i with
   | none => simp [hp] at hf
   | some q =>
    obtain ⟨off, size⟩ := q
    simp only [hp] at hf ⊢
    have hcs : v'.cells.size = v.cells.size := hv.cells.1.symm
    rw [hcs, show cs'.size = cs.size from hc.1.symm]
    split at hf
    ·
     cases hf
    ·
     rename_i hcond
     rw [if_neg hcond]
     refine ih ps' _ _ r htl ?_ hf
     have := acY off v.cells.toList v'.cells.toList 0 cs cs' hv.cells.toList hc
     rw [← Array.foldl_toList, ← Array.foldl_toList]
     simpa using this
theorem KU {cs : List Value} {o : Nat} {v : Value} {xs : List Value} (h : o + (xs.length + 1) ≤ cs.length) : splice (cs.set o v) (o + 1) xs = splice cs o (v :: xs) := by
 apply List.ext_getElem?
 intro k
 rw [ZR (by simp; omega), ZR (by simpa using h)]
 simp only [List.getElem?_set, List.length_cons]
 by_cases h1 : o + 1 ≤ k ∧ k < o + 1 + xs.length
 ·
  rw [if_pos h1, if_pos (by omega)]
  obtain ⟨j, hj⟩ : ∃ j, k - o = j + 1 := ⟨k - o - 1, by omega⟩
  rw [hj, List.getElem?_cons_succ]
  congr 1; omega
 ·
  rw [if_neg h1]
  by_cases h2 : o = k
  ·
   subst h2
   rw [if_pos rfl, if_pos (by omega), if_pos (by omega)]
   simp
  ·
   rw [if_neg h2, if_neg (by omega)]
theorem Xe (off : Nat) : ∀ (l : List Value) (k : Nat) (cs : Array Value), off + k + l.length ≤ cs.size →
  ((l.zipIdx k).foldl (fun cs (c, j) => cs.setIfInBounds (off + j) c) cs).toList = splice cs.toList (off + k) l := by
 intro l
 induction l with
 | nil => intro k cs h; simp [splice]
 | cons v l ih =>
  intro k cs h
  simp only [List.zipIdx_cons, List.foldl_cons, List.length_cons] at h ⊢
  rw [ih (k + 1) _ (by simp; omega), Array.toList_setIfInBounds, show off + (k + 1) = off + k + 1 by omega]
  exact KU (by simp; omega)
theorem ZM (place : Nat → Option (Nat × Nat)) : ∀ (ps : List (Nat × Value)) (cs : Array Value) (l : List Value), vW place cs.toList ps = some l → Instr.fill place cs ps = some l.toArray := by
 intro ps
 induction ps with
 | nil => intro cs l h; simp only [vW, Option.some.injEq] at h; subst h; simp [Instr.fill]
 | cons p ps ih =>
  intro cs l h
  obtain ⟨i, v⟩ := p
  simp only [vW] at h
  simp only [Instr.fill]
  split at h
  ·
   cases h
  ·
   rename_i off size hp
   split at h
   ·
    rename_i hc
    simp only [hp]
    have h1 : v.cells.size = size := by simpa using hc.1
    have h2 : off + size ≤ cs.size := by simpa using hc.2
    rw [if_neg (by simp; omega)]
    apply ih
    rw [← h]
    congr 1
    rw [← Array.foldl_toList]
    have := Xe off v.cells.toList 0 cs (by simp; omega)
    simpa using this
   ·
    cases h
theorem run_places {fs : List Field} {pl : List (Nat × Nat)} (h : placesOf P fs = some pl) (w : World) :
  (fs.mapM fun f => do pure (f.offset, ← sizeOf f.type) : Sem (List (Nat × Nat))).run P w = .ok pl w := by
 induction fs generalizing pl with
 | nil => simp only [placesOf, Option.some.injEq] at h; subst h; rfl
 | cons f fs ih =>
  simp only [placesOf] at h
  split at h
  ·
   rename_i n l hn hl
   cases h
   simp only [List.mapM_cons, Sem.run_bind, yg hn, Result.andThen_ok, Sem.run_pure, ih hl]
  ·
   cases h
theorem aau {t : TypeId} {ps : List (Nat × Value)} {ps' : Array (Nat × Value)} {v : Value} (hr : Rel B w0 m H w) (h : yh P t ps H = some (v, H')) (hp : PR m ps ps'.toList) :
  Sim P B w0 m H' w (Instr.build t ps') v := by
 unfold yh at h
 split at h
 ·
  rename_i z hz
  split at h
  ·
   rename_i hg
   have har : AR m z.cells z.cells := AR.iff.2 (LR.kQ (wP hg))
   split at h
   ·
    rename_i fields hu
    split at h
    ·
     rename_i pl hpl
     split at h
     ·
      rename_i l hl
      cases h
      obtain ⟨r', hr', har'⟩ := YK _ _ _ _ _ _ hp har (ZM _ _ _ _ hl)
      refine Sim.same hr (v' := .agg r') ?_ (.agg har'.1 har'.2)
      have hm : (fields.mapM fun f => do pure (f.offset, ← sizeOf f.type) : Sem (Array (Nat × Nat))).run P w = .ok pl.toArray w := by
       rw [← Array.toArray_toList (xs := fields)]
       rw [List.mapM_toArray, Sem.run_map, run_places hpl]
       rfl
      have hpl2 : (fun x : Nat => pl.toArray[x]?) = (fun x => pl[x]?) := by funext x; simp
      simp only [Instr.build, Sem.run_bind, ku hz, Result.andThen_ok, run_underlying hu, hm, hpl2, hr', Sem.run_pure]
     ·
      cases h
    ·
     cases h
   ·
    rename_i n e hu
    split at h
    ·
     rename_i size hsz
     split at h
     ·
      rename_i l hl
      cases h
      obtain ⟨r', hr', har'⟩ := YK _ _ _ _ _ _ hp har (ZM _ _ _ _ hl)
      refine Sim.same hr (v' := .agg r') ?_ (.agg har'.1 har'.2)
      simp only [Instr.build, Sem.run_bind, ku hz, Result.andThen_ok, run_underlying hu, yg hsz, hr', Sem.run_pure]
     ·
      cases h
    ·
     cases h
   ·
    cases h
  ·
   cases h
 ·
  cases h
end
end Go.Abs
namespace Go.Abs
open Go.RowKit
section
variable {P : Program} {B : Nat} {w0 : World} {m : Mp} {H H' : zi} {w : World}
theorem qj {t e : TypeId} (h : wE P t = some e) : P.underlying t = some (.slice e) := by
 unfold wE at h
 split at h
 ·
  rename_i x hx; cases h; exact hx
 ·
  cases h
theorem VR.Zu {m : Mp} {r : Nat} {L : Loc} {n c : Nat} (hm : m r = some L) (hs : L.shift = 0) (hn : n ≤ c) (hl : c * L.esz ≤ L.lim) :
  VR m (.slice (some ⟨r, 0, none⟩) n n) (.slice (some ⟨L.blk, 0, none⟩) n c) := by
 have := VR.slice (o := 0) (c := c) hm hn (by rw [hs]; omega)
 rw [hs] at this
 exact this
theorem aaq (place : Nat → Option (Nat × Nat)) : ∀ (ps : List (Nat × Value)) (cs r : Array Value), Instr.fill place cs ps = some r → r.size = cs.size := by
 intro ps
 induction ps with
 | nil => intro cs r h; simp only [Instr.fill, Option.some.injEq] at h; rw [h]
 | cons p ps ih =>
  intro cs r h
  obtain ⟨i, v⟩ := p
  simp only [Instr.fill] at h
  split at h
  ·
   cases h
  ·
   split at h
   ·
    cases h
   ·
    have := ih _ _ h
    rw [this]
    rw [← Array.foldl_toList]
    generalize (v.cells.zipIdx).toList = l
    induction l generalizing cs with
    | nil => rfl
    | cons q l ih2 =>
     rw [List.foldl_cons]
     rename_i off size _ _
     have : ∀ (l : List (Value × Nat)) (a : Array Value), (List.foldl (fun cs (x : Value × Nat) => cs.setIfInBounds (off + x.2) x.1) a l).size = a.size := by
      intro l
      induction l with
      | nil => intro a; rfl
      | cons q l ih => intro a; rw [List.foldl_cons, ih]; simp
     rw [this]; simp
theorem acP (z : Array Value) (n : Nat) : ((Array.range (n * z.size)).map (z[· % z.size]!)).toList = zl z.toList n := by
 apply List.ext_getElem?
 intro i
 unfold zl
 simp only [Array.toList_map, Array.toList_range, List.getElem?_map, Array.length_toList]
 by_cases hi : i < n * z.size
 ·
  rw [List.getElem?_range hi]
  by_cases hlt : i % z.size < z.size
  ·
   simp [getElem!_def, hlt]
  ·
   simp [getElem!_def, hlt]
 ·
  rw [List.getElem?_eq_none (by simp; omega)]
  rfl
theorem VN : sg (default : Value) = true := rfl
theorem agt {z : List Value} (h : z.all sg = true) (n : Nat) : (zl z n).all sg = true := by
 rw [List.all_eq_true]
 intro x hx
 unfold zl at hx
 obtain ⟨i, hi, rfl⟩ := List.mem_map.1 hx
 by_cases h0 : i % z.length < z.length
 ·
  rw [List.getD_eq_getElem?_getD, List.getElem?_eq_getElem h0]
  exact List.all_eq_true.1 h _ (by simp)
 ·
  rw [List.getD_eq_getElem?_getD, List.getElem?_eq_none (by omega)]; exact VN
theorem Wy {t : TypeId} {len : Nat} {ps : List (Nat × Value)} {ps' : Array (Nat × Value)} {v : Value} (hr : Rel B w0 m H w) (h : jZ P t len ps H = some (v, H')) (hp : PR m ps ps'.toList) :
  Sim P B w0 m H' w (Instr.buildSlice t len ps') v := by
 unfold jZ at h
 split at h
 ·
  rename_i cells size hc
  cases h
  unfold kZ at hc
  split at hc
  ·
   rename_i e he
   split at hc
   ·
    rename_i size' z hsz hz
    split at hc <;> first | cases hc | skip
    rename_i hbig
    split at hc <;> first | cases hc | skip
    rename_i hzs
    split at hc <;> first | cases hc | skip
    rename_i hsg
    split at hc
    ·
     rename_i cs hfill
     cases hc
     have hut := qj he
     have hzs' : z.cells.size = size := by simpa using hzs
     have hbig' : ¬ (len * size > 2 ^ 24) := by omega
     have hall := agt hsg len
     rw [← acP, hzs'] at hfill hall
     have har : AR m ((Array.range (len * size)).map (z.cells[· % size]!)) ((Array.range (len * size)).map (z.cells[· % size]!)) := AR.iff.2 (LR.kQ hall)
     obtain ⟨r', hr', har'⟩ := YK _ _ _ _ _ _ hp har (ZM _ _ _ _ hfill)
     have hrs : r'.toList.length = len * size := by
      rw [Array.length_toList, aaq _ _ _ _ hr']; simp
     obtain ⟨L, l1, l2, l3, l4, hrel⟩ := hr.new (esz := size) (tail := []) har'.toList (kX.push w (.cells _ e (0, 0)) w.drawn) (.inl rfl)
     have hadd := Mp.add_same m H.next L
     refine ⟨.slice (some ⟨w.heap.size, 0, none⟩) len len, _, m.add H.next L, ?_, ?_, Mp.kD (hr.fresh _ (Nat.le_refl _)), by simpa using hrel⟩
     ·
      by_cases h0 : len * size = 0
      ·
       have e0 : ∀ f : Nat → Value, (Array.map f (Array.range (len * size))) = #[] := fun f => by rw [h0]; simp
       rw [e0] at hr'
       simp only [Instr.buildSlice, Sem.run_bind, run_underlying hut, Result.andThen_ok, yg hsz, hbig', if_false, e0]
       simp only [h0, if_true, Sem.run_pure, hr', newRow, run_newObj]
       simp
      ·
       simp only [Instr.buildSlice, Sem.run_bind, run_underlying hut, Result.andThen_ok, yg hsz, hbig', if_false, h0, ku hz, Sem.run_pure, hzs', hr', newRow, run_newObj]
       simp
     ·
      have := VR.Zu (n := len) (c := len) hadd l2 (Nat.le_refl _) (by rw [l4, l3]; simp [hrs])
      rw [l1] at this
      exact this
    ·
     cases hc
   ·
    cases hc
  ·
   cases hc
 ·
  cases h
theorem abG {d : TypeDesc} {t : TypeId} {x y x' y' : Value} {b : Bool} (hu : P.underlying t = some d) (h : xH d x y = some b) (hx : VR m x x') (hy : VR m y y') (w : World) :
  (Op.equal t x' y').run P w = .ok b w := by
 unfold xH at h
 unfold Op.equal Op.maxDepth
 rw [show (10000 : Nat) = 9999 + 1 from rfl]
 generalize 9999 = d
 split at h
 ·
  cases h; cases hx; cases hy <;> simp [Op.equalIn, run_underlying hu]
 ·
  cases h; cases hy; cases hx <;> simp [Op.equalIn, run_underlying hu]
 ·
  cases h; cases hx; cases hy <;> simp [Op.equalIn, run_underlying hu]
 ·
  cases h; cases hy; cases hx <;> simp [Op.equalIn, run_underlying hu]
 ·
  cases h; cases hx; cases hy <;> simp [Op.equalIn, run_underlying hu]
 ·
  cases h; cases hy; cases hx <;> simp [Op.equalIn, run_underlying hu]
 ·
  cases h
theorem Xh {d : TypeDesc} {x y : Value} {b : Bool} (h : xH d x y = some b) : (∃ a c, x = .pointer a ∧ y = .pointer c) ∨ (∃ a n k c n' k', x = .slice a n k ∧ y = .slice c n' k') ∨ (∃ a c, x = .map a ∧ y = .map c) := by
 unfold xH at h
 split at h <;> first | cases h | skip
 ·
  exact .inl ⟨_, _, rfl, rfl⟩
 ·
  exact .inl ⟨_, _, rfl, rfl⟩
 ·
  exact .inr (.inl ⟨_, _, _, _, _, _, rfl, rfl⟩)
 ·
  exact .inr (.inl ⟨_, _, _, _, _, _, rfl, rfl⟩)
 ·
  exact .inr (.inr ⟨_, _, rfl, rfl⟩)
 ·
  exact .inr (.inr ⟨_, _, rfl, rfl⟩)
theorem VR.pointer' {a : Option Addr} {c : Value} (h : VR m (.pointer a) c) : ∃ a', c = .pointer a' := by
 cases h <;> exact ⟨_, rfl⟩
theorem VR.slice' {a : Option Addr} {n k : Nat} {c : Value} (h : VR m (.slice a n k) c) : ∃ a' k', c = .slice a' n k' := by
 cases h <;> exact ⟨_, _, rfl⟩
theorem VR.map' {a : Option Nat} {c : Value} (h : VR m (.map a) c) : ∃ a', c = .map a' := by
 cases h <;> exact ⟨_, rfl⟩
def _root_.Go.Value.isNilIface : Value → Bool
 | .nilIface => true
 | _ => false
theorem aeF {op : BinOp} {t : TypeId} {x y x' y' v : Value} (ox oy : Operand) (hr : Rel B w0 m H w) (h : xI P op t x y H = some (v, H')) (hx : VR m x x') (hy : VR m y y') :
    Sim P B w0 m H' w (do eqGuard op t ox oy x' y'; binOp op t x' y') v := by
  unfold xI at h
  have hlr : LR m [x, y] [x', y'] := .cons hx (.cons hy .nil)
  have guardless : ∀ {a b : Value}, (∀ (c : Array Value), a ≠ .agg c) → a ≠ .nilIface → (eqGuard op t ox oy a b) = pure () := by
    intro a b h1 h2
    unfold eqGuard
    cases op <;> simp only [Bool.not_true, Bool.not_false, Bool.false_eq_true, if_false, if_true] <;> first
      | rfl
      | (split
         · exact absurd rfl h2
         · exact absurd rfl (h1 _)
         · rfl)
  split at h
  · refine yF hr h hlr ?_
    intro e
    simp only [List.cons.injEq, and_true] at e
    rw [e.1, e.2, guardless (fun c hc => by cases hc) (fun hc => by cases hc)]
    simp only [pure_bind]
  · rename_i a b
    cases hx; cases hy
    split at h
    · rename_i u hu
      cases h
      have hlist : ∀ s : ByteArray, s.toList = s.data.toList := fun s => ByteArray.toList_eq s
      have hg0 : eqGuard op t ox oy (.string a) (.string b) = pure () := guardless (fun c hc => by cases hc) (fun hc => by cases hc)
      rw [hg0]
      simp only [pure_bind]
      unfold aft at hu
      cases op <;> simp only at hu <;> first | (cases hu; done) | skip
      · split at hu
        · rename_i hle
          cases hu
          refine Sim.same hr (v' := .string (a ++ b)) ?_ ?_
          · simp only [binOp, Op.stringOp]
            have : ¬ (((a.size + b.size : Nat) : Int) > IntKind.i64.max) := by
              have e1 : a.data.toList.length = a.size := by rw [Array.length_toList]; rfl
              have e2 : b.data.toList.length = b.size := by rw [Array.length_toList]; rfl
              have e3 : IntKind.i64.max = 9223372036854775807 := rfl
              omega
            rw [if_neg this]; rfl
          · have : a ++ b = ⟨(a.data.toList ++ b.data.toList).toArray⟩ := by
              apply ByteArray.ext
              simp
            rw [this]; exact .string _
        · cases hu
      · cases hu
        refine Sim.same hr ?_ (.bool _)
        simp only [binOp, Op.stringOp, hlist, Sem.run_pure]
        congr 2
        rw [Bool.eq_iff_iff]; simp
      · cases hu
        refine Sim.same hr ?_ (.bool _)
        simp only [binOp, Op.stringOp, hlist, Sem.run_pure]
        congr 3
        rw [Bool.eq_iff_iff]; simp
    · cases h
  · split at h
    · rename_i b hb
      cases h
      refine Sim.same hr (v' := .bool b) ?_ (.bool b)
      unfold yV at hb
      split at hb
      · rename_i d hd
        have hne : (eqGuard op t ox oy x' y') = pure () ∨ True := .inr trivial
        have main : ∀ c, xH d x y = some c → (eqGuard op t ox oy x' y' = pure ()) ∧ (∀ w : World, (Op.equal t x' y').run P w = .ok c w) ∧ (∃ z1 z2, (x' = .pointer z1 ∧ y' = .pointer z2)) ∨ (eqGuard op t ox oy x' y' = pure ()) ∧ (∀ w : World, (Op.equal t x' y').run P w = .ok c w) ∧ ((∃ a n k c n' k', x' = .slice a n k ∧ y' = .slice c n' k') ∨ (∃ a c, x' = .map a ∧ y' = .map c)) := by
          intro c hc
          have hq := abG hd hc hx hy
          rcases Xh hc with ⟨a, c', rfl, rfl⟩ | ⟨a, n, k, c', n', k', rfl, rfl⟩ | ⟨a, c', rfl, rfl⟩
          · obtain ⟨a', rfl⟩ := hx.pointer'
            obtain ⟨c', rfl⟩ := hy.pointer'
            exact .inl ⟨guardless (fun _ hc => by cases hc) (fun hc => by cases hc), hq, _, _, rfl, rfl⟩
          · obtain ⟨a', k', rfl⟩ := hx.slice'
            obtain ⟨c', k'', rfl⟩ := hy.slice'
            exact .inr ⟨guardless (fun _ hc => by cases hc) (fun hc => by cases hc), hq, .inl ⟨_, _, _, _, _, _, rfl, rfl⟩⟩
          · obtain ⟨a', rfl⟩ := hx.map'
            obtain ⟨c', rfl⟩ := hy.map'
            exact .inr ⟨guardless (fun _ hc => by cases hc) (fun hc => by cases hc), hq, .inr ⟨_, _, rfl, rfl⟩⟩
        cases op <;> simp only at hb <;> first | (cases hb; done) | skip
        · rcases main b hb with ⟨hg, hq, z1, z2, rfl, rfl⟩ | ⟨hg, hq, ⟨_, _, _, _, _, _, rfl, rfl⟩ | ⟨_, _, rfl, rfl⟩⟩ <;>
            (rw [hg]; simp [binOp, hq])
        · cases hn : xH d x y with
          | none => simp [hn] at hb
          | some c =>
            simp only [hn, Option.map_some, Option.some.injEq] at hb
            subst hb
            rcases main c hn with ⟨hg, hq, z1, z2, rfl, rfl⟩ | ⟨hg, hq, ⟨_, _, _, _, _, _, rfl, rfl⟩ | ⟨_, _, rfl, rfl⟩⟩ <;>
              (rw [hg]; simp [binOp, hq])
      · cases hb
    ·
      refine yF hr h hlr ?_
      intro e
      simp only [List.cons.injEq, and_true] at e
      rw [e.1, e.2]
      have hgr : x.isNilIface = false := by
        unfold jS at h
        split at h
        · rename_i hg
          simp only [List.all_cons, Bool.and_eq_true] at hg
          cases x <;> first | rfl | simp [ground, sg] at hg
        · cases h
      congr 1
      unfold eqGuard
      cases op <;> first | rfl | (cases x <;> first | rfl | (cases y <;> rfl) | (exact absurd hgr (by simp [Value.isNilIface])))
theorem afS {op : UnOp} {x x' v : Value} (hr : Rel B w0 m H w) (h : aUn P op x H = some (v, H')) (hx : VR m x x') : Sim P B w0 m H' w (Op.unary op x') v :=
 yF hr h (.cons hx .nil) (fun e => by simp only [List.cons.injEq, and_true] at e; rw [e])
theorem Q5 {p p' v : Value} (h : qA p H = some (v, H')) (hp : VR m p p') : H' = H ∧ v = p ∧ ∃ a, p' = .pointer (some a) := by
 unfold qA at h
 split at h
 ·
  cases h
  cases hp
  exact ⟨rfl, rfl, _, rfl⟩
 ·
  cases h
theorem Rel.cells {x x' : Value} {n : Nat} {cs : List Value} (hr : Rel B w0 m H w) (h : wS x n H = some cs) (hx : VR m x x') (hn : 0 < n → ∀ k a c, x = .slice a k c → 0 < k) :
  cs.length = n ∧ ∃ cs', LR m cs cs' ∧ ((∃ (ad : Addr) (k c : Nat), x' = .slice (some ad) k c ∧ ∀ (j : Nat) (u : Value), cs'[j]? = some u → w.cell? (ad.add j) = some u) ∨ (x' = .slice none 0 0 ∧ cs' = [])) := by
 unfold wS at h
 split at h
 ·
  rename_i r o n' c'
  split at h
  ·
   rename_i ccs own esz hg
   split at h
   ·
    rename_i hle
    cases h
    refine ⟨by simp; omega, ?_⟩
    cases hx with
    | @slice _ _ L _ c hm h1 h2 =>
     obtain ⟨cs', hl, hra⟩ := hr.range hm hg hle
     refine ⟨cs', hl, .inl ⟨_, _, _, rfl, fun j u hj => ?_⟩⟩
     rw [Addr.add_mid]
     exact hra j u hj
    | @slice0 _ _ L a hm h1 ha =>
     have hn0 : n = 0 := by
      by_cases h0 : 0 < n
      ·
       have := hn h0 _ _ _ rfl; omega
      ·
       omega
     subst hn0
     exact ⟨[], by simpa using LR.nil, .inl ⟨_, _, _, rfl, fun j u hj => by simp at hj⟩⟩
   ·
    cases h
  ·
   cases h
 ·
  split at h
  ·
   rename_i h0
   cases h
   subst h0
   cases hx
   exact ⟨rfl, [], LR.nil, .inl ⟨_, _, _, rfl, fun j u hj => by simp at hj⟩⟩
  ·
   cases h
 ·
  split at h
  ·
   rename_i h0
   cases h
   cases hx
   exact ⟨by simp [h0], [], LR.nil, .inr ⟨rfl, rfl⟩⟩
  ·
   cases h
 ·
  cases h
theorem JI {v : Value} {b : UInt8} (h : JC v = some b) : ∃ n, v = .int .u8 n ∧ b = UInt8.ofNat n.toNat := by
 unfold JC at h
 split at h
 ·
  cases h; exact ⟨_, rfl, rfl⟩
 ·
  cases h
theorem Vk {cs cs' : List Value} {bs : List UInt8} (h : wG cs = some bs) (hl : LR m cs cs') : cs' = cs := by
 induction cs generalizing cs' bs with
 | nil => have := hl.1; cases cs' with
  | nil => rfl
  | cons => simp at this
 | cons v cs ih =>
  cases cs' with
  | nil => have := hl.1; simp at this
  | cons v' cs' =>
   simp only [wG] at h
   split at h
   ·
    rename_i b bs' hb hbs
    cases h
    obtain ⟨n, rfl, rfl⟩ := JI hb
    have := hl.head
    cases this
    rw [ih hbs hl.tail]
   ·
    cases h
theorem YE {P : Program} : ∀ (cs : List Value) (bs : List UInt8) (s0 : ByteArray) (w : World), wG cs = some bs →
  (forIn cs.toArray s0 (fun c s => do
   match c with
   | .int .u8 n => pure (ForInStep.yield (s.push (UInt8.ofNat n.toNat)))
   | _ => do
    stuck "bytesToString: byte expected"
    pure (ForInStep.yield s)) : Sem ByteArray).run P w = .ok ⟨s0.data ++ bs.toArray⟩ w := by
 intro cs
 simp only [List.forIn_toArray]
 induction cs with
 | nil =>
  intro bs s0 w h
  simp only [wG, Option.some.injEq] at h
  subst h
  simp
 | cons v cs ih =>
  intro bs s0 w h
  simp only [wG] at h
  split at h
  ·
   rename_i b bs' hb hbs
   cases h
   obtain ⟨n, rfl, rfl⟩ := JI hb
   simp only [List.forIn_cons, Sem.run_bind, Sem.run_pure, Result.andThen_ok]
   rw [ih bs' _ w hbs]
   simp [ByteArray.push]
  ·
   cases h
theorem Rel.mark {r : Nat} {L : Loc} {cs : List Value} {esz : Nat} {anc : List Nat} (hr : Rel B w0 m H w) (hm : m r = some L) (hg : H.get r = some (.cells cs (.own anc) esz)) (a : Addr) (ha : a.block = L.blk) :
  ∃ w', (markStringish a).run P w = .ok () w' ∧ Rel B w0 m H w' := by
 obtain ⟨hesz, cc, e, fr, hb, h1, h2, h3, h4⟩ := hr.obj r L _ hm hg
 have hB : B ≤ L.blk := hr.own r L _ hm hg rfl
 obtain ⟨lo, hi⟩ := fr
 have hsh : w.shape? a.block = some (e, cc.size) := by simp [World.shape?, ha, hb]
 refine ⟨w.freeze ⟨a.block, cc.size, none⟩ 1, by simp [markStringish, hsh], ?_⟩
 have hblk : (w.freeze ⟨a.block, cc.size, none⟩ 1).heap[L.blk]? = some (.cells cc e (if lo == hi then (cc.size, cc.size + 1) else (min lo cc.size, max hi (cc.size + 1)))) := by
  simp [World.freeze, ha, Array.getElem?_modify, hb]
 have hoth : ∀ k, k ≠ L.blk → (w.freeze ⟨a.block, cc.size, none⟩ 1).heap[k]? = w.heap[k]? := by
  intro k hk
  simp [World.freeze, ha, Array.getElem?_modify, Ne.symm hk]
 have hsz : (w.freeze ⟨a.block, cc.size, none⟩ 1).heap.size = w.heap.size := by simp [World.freeze]
 refine ⟨⟨hr.below.os, hr.below.tape, hr.below.output, by rw [hsz]; exact hr.below.size, fun k hk => by rw [hoth k (by omega)]; exact hr.below.block k hk⟩, by rw [hsz]; exact hr.base, ?_, ?_, hr.own, hr.apart, hr.fresh⟩
 ·
  intro r' L' o' hm' hg'
  have hold := hr.obj r' L' o' hm' hg'
  cases o' with
  | dead => exact True.intro
  | map es clock =>
   obtain ⟨a1, a2, es', a3, a4⟩ := hold
   have : L'.blk ≠ L.blk := by rintro e2; rw [e2, hb] at a3; cases a3
   exact ⟨a1, a2, es', by rw [hoth _ this]; exact a3, a4⟩
  | cells cs2 own2 esz2 =>
   obtain ⟨a0, cc2, e2, fr2, a1, a2, a3, a4, a5⟩ := hold
   by_cases hbb : L'.blk = L.blk
   ·
    rw [hbb, hb] at a1
    cases a1
    refine ⟨a0, cc, e, _, by rw [hbb]; exact hblk, a2, a3, a4, fun h => .inr ?_⟩
    have := a5 h
    by_cases hlh : (lo == hi) = true
    ·
     rw [if_pos hlh]; exact Nat.le_refl _
    ·
     rw [if_neg hlh]
     have hne : lo ≠ hi := by simpa using hlh
     dsimp only at this ⊢
     omega
   ·
    exact ⟨a0, cc2, e2, fr2, by rw [hoth _ hbb]; exact a1, a2, a3, a4, a5⟩
 ·
  intro r' L' hm'; rw [hsz]; exact hr.lt r' L' hm'
theorem adf {src dst : TypeId} {x x' v : Value} (hr : Rel B w0 m H w) (h : wB P src dst x H = some (v, H')) (hx : VR m x x') : Sim P B w0 m H' w (convert src dst x') v := by
 unfold wB at h
 split at h
 ·
  rename_i a n c
  split at h
  ·
   rename_i e hs hd
   split at h
   ·
    rename_i he
    split at h
    ·
     rename_i cs hcs
     split at h
     ·
      rename_i bs hbs
      cases h
      obtain ⟨hlen, cs', hl, hh⟩ := hr.cells hcs hx (fun h0 k a' c' e => by cases e; exact h0)
      have heq := Vk hbs hl
      subst heq
      refine Sim.same hr ?_ (.string _)
      rcases hh with ⟨ad, k, c', rfl, hc⟩ | ⟨rfl, rfl⟩
      ·
       have hk : k = n := by cases hx <;> rfl
       subst hk
       have hload := run_loadCells_list (P := P) w ad cs' hc
       rw [hlen] at hload
       have := YE (P := P) cs' bs .empty w hbs
       simp only [convert, Sem.run_bind, run_underlying hs, run_underlying hd, Result.andThen_ok, run_underlying he, Conv.bytesToString, hload]
       refine (congrArg (fun r => Result.andThen r fun a w' => Sem.run P (pure (Value.string a)) w') this).trans ?_
       simp [ByteArray.empty, ByteArray.emptyWithCapacity]
       rfl
      ·
       simp only [wG, Option.some.injEq] at hbs
       subst hbs
       simp only [convert, Sem.run_bind, run_underlying hs, run_underlying hd, Result.andThen_ok, run_underlying he, Conv.bytesToString]
       rfl
     ·
      cases h
    ·
     cases h
   ·
    cases h
  ·
   rename_i e0 e hs hd
   split at h
   ·
    rename_i he
    split at h
    ·
     rename_i hsd
     split at h
     ·
      rename_i r o n' c' heq
      split at h
      ·
       rename_i cs esz hg
       cases h
       cases heq
       have fin : ∀ (L : Loc) (a : Addr) (k : Nat), m r = some L → a.block = L.blk → x' = .slice (some a) n k → Sim P B w0 m H w (convert src dst x') (.slice (some ⟨r, o, none⟩) n c) := by
        intro L a k hm ha hx'
        obtain ⟨w', hrun, hrel⟩ := hr.mark (P := P) hm hg a ha
        refine ⟨x', w', m, ?_, hx, Mp.le_refl m, hrel⟩
        subst hx'
        subst hsd
        obtain rfl : e0 = e := by
         rw [hs] at hd
         injection hd with hd
         injection hd
        simp [convert, run_underlying hs, run_underlying he, hrun]
       cases hx with
       | @slice _ _ L _ k hm h1 h2 => exact fin L _ k hm rfl rfl
       | @slice0 _ _ L a hm h1 ha => exact fin L a 0 hm ha rfl
      ·
       cases h
     ·
      cases h
    ·
     cases h
   ·
    cases h
  ·
   cases h
 ·
  rename_i s
  split at h
  ·
   rename_i u e hs hd
   split at h
   ·
    rename_i he
    cases h
    cases hx
    have hrun := Lib.run_convert_string_bytes (P := P) w src dst e s hs hd he
    have hge := grownCap_ge w s.size 0 e
    have hg : kX w (Lib.bytesWorld w e s) (.cells (byteCells s ++ List.replicate (grownCap w s.size 0 e - s.size) (Value.int .u8 0)).toArray e ((Lib.bytesCells w e s).size, (Lib.bytesCells w e s).size + 1)) := by
     refine ⟨rfl, rfl, rfl, Lib.bytesWorld_size w e s, fun k hk => Lib.bytesWorld_at_old w e s k hk, ?_⟩
     rw [Lib.bytesWorld_at_new]
     congr 2
     apply Array.ext'
     simp [Lib.bytesCells, byteCells]
    have hsz : (Lib.bytesCells w e s).size = s.size + (grownCap w s.size 0 e - s.size) := by
     simp [Lib.bytesCells]
    obtain ⟨L, l1, l2, l3, l4, hrel⟩ := hr.new (esz := 1) (LR.kQ (by
     rw [List.all_eq_true]; intro x hx; obtain ⟨_, _, rfl⟩ := List.mem_map.1 hx; rfl)) hg (.inr (by simp [hsz, byteCells_length]))
    refine ⟨_, _, m.add H.next L, hrun, ?_, Mp.kD (hr.fresh _ (Nat.le_refl _)), hrel⟩
    have := VR.Zu (n := s.size) (c := grownCap w s.size 0 e) (Mp.add_same m H.next L) l2 hge (by rw [l4, l3, byteCells_length]; simp; omega)
    rw [l1] at this
    exact this
   ·
    cases h
  ·
   exact yF hr h (.cons hx .nil) (fun e => by simp only [List.cons.injEq, and_true] at e; rw [e])
 ·
  exact yF hr h (.cons hx .nil) (fun e => by simp only [List.cons.injEq, and_true] at e; rw [e])
end
end Go.Abs
namespace Go.Abs
open Go.RowKit
section
variable {P : Program} {B : Nat} {w0 : World} {m : Mp} {H H' : zi} {w : World}
theorem aay {z : List Value} {p : Value → Bool} (h : z.all p = true) (hd : p default = true ∨ 0 < z.length) (n : Nat) : (zl z n).all p = true := by
 rw [List.all_eq_true]
 intro x hx
 unfold zl at hx
 obtain ⟨i, hi, rfl⟩ := List.mem_map.1 hx
 by_cases h0 : i % z.length < z.length
 ·
  rw [List.getD_eq_getElem?_getD, List.getElem?_eq_getElem h0]
  exact List.all_eq_true.1 h _ (by simp)
 ·
  rcases hd with hd | hd
  ·
   rw [List.getD_eq_getElem?_getD, List.getElem?_eq_none (by omega)]; exact hd
  ·
   exact absurd (Nat.mod_lt _ hd) h0
theorem QD (z : List Value) (n : Nat) : (zl z n).length = n * z.length := by simp [zl]
theorem ae0 (z : Array Value) (n k : Nat) (hk : n * z.size ≤ k) (h0 : 0 < z.size) : (madeCells z k).toList.take (n * z.size) = zl z.toList n := by
 apply List.ext_getElem?
 intro i
 unfold madeCells zl
 simp only [Array.toList_map, Array.toList_range, List.getElem?_take, Array.length_toList, List.getElem?_map]
 by_cases hi : i < n * z.size
 ·
  rw [if_pos hi, List.getElem?_range (by omega), List.getElem?_range hi]
  have hlt : i % z.size < z.size := Nat.mod_lt _ h0
  simp [getElem!_def, hlt]
 ·
  rw [if_neg hi, List.getElem?_eq_none (by simp; omega)]
  rfl
theorem Qa {t : TypeId} {l c l' c' v : Value} (hr : Rel B w0 m H w) (h : jO P t l c H = some (v, H')) (hl : VR m l l') (hc : VR m c c') :
  Sim P B w0 m H' w (Instr.makeSlice t l' c') v := by
 unfold jO at h
 split at h
 ·
  rename_i kl li kc ci
  cases hl; cases hc
  split at h
  ·
   rename_i e he
   split at h
   ·
    rename_i size z bytes hsz hz hb
    split at h <;> first | cases h | skip
    rename_i hg
    split at h <;> first | cases h | skip
    rename_i hzs
    split at h <;> first | cases h | skip
    rename_i hpos
    split at h <;> first | cases h | skip
    rename_i h0
    split at h <;> first | cases h | skip
    rename_i hlc
    split at h <;> first | cases h | skip
    rename_i hbig
    split at h <;> first | cases h | skip
    rename_i h63
    obtain ⟨i, hi, hiz⟩ := Zf hz
    have his : i.size = size := by simpa [qR, hi] using hsz
    have hib : i.bytes = bytes := by simpa [bytesOf, hi] using hb
    have hmul : (i.bytes : Int) * ci = ci * bytes := by rw [hib, Int.mul_comm]
    have hrun := run_make (P := P) w t e i z (qj he) hi hiz kl kc li ci h0 hlc (by rw [hmul]; omega) h63
    subst hzs
    rw [his] at hrun
    have hle : li.toNat * z.cells.size ≤ ci.toNat * z.cells.size := Nat.mul_le_mul_right _ (by omega)
    have hmade := ae0 z.cells li.toNat (ci.toNat * z.cells.size) hle hpos
    have hg1 : kX w (w.alloc (.cells (madeCells z.cells (ci.toNat * z.cells.size)) e)) (.cells (zl z.cells.toList li.toNat ++ (madeCells z.cells (ci.toNat * z.cells.size)).toList.drop (li.toNat * z.cells.size)).toArray e (0, 0)) := by
     rw [← hmade, List.take_append_drop]
     simpa using kX.push w (.cells (madeCells z.cells (ci.toNat * z.cells.size)) e (0, 0)) w.drawn
    obtain ⟨L, l1, l2, l3, l4, hrel⟩ := hr.new (esz := z.cells.size) (LR.kQ (aay (wP hg) (.inr (by simpa using hpos)) li.toNat)) hg1 (.inl rfl)
    refine ⟨_, _, m.add H.next L, hrun, ?_, Mp.kD (hr.fresh _ (Nat.le_refl _)), hrel⟩
    have hlim : L.lim = ci.toNat * z.cells.size := by
     rw [l3, QD]
     simp [madeCells]
     omega
    have := VR.Zu (n := li.toNat) (c := ci.toNat) (Mp.add_same m H.next L) l2 (by omega) (by rw [l4, hlim]; exact Nat.le_refl _)
    rw [l1] at this
    exact this
   ·
    cases h
  ·
   cases h
 ·
  cases h
theorem WU {d : Nat} {o o' : Option Value} {i : Int} (h : y5 d o = some i) (ho : o = none ∧ o' = none ∨ ∃ v v', o = some v ∧ o' = some v' ∧ VR m v v') :
  (o' = none ∧ i = d) ∨ ∃ k, o' = some (.int k i) := by
 rcases ho with ⟨rfl, rfl⟩ | ⟨v, v', rfl, rfl, hv⟩
 ·
  simp only [y5, Option.some.injEq] at h; exact .inl ⟨rfl, h.symm⟩
 ·
  unfold y5 at h
  split at h
  ·
   rename_i hh; cases hh
  ·
   rename_i k i' hh; cases hh; cases h; cases hv; exact .inr ⟨_, rfl⟩
  ·
   cases h
theorem abb {t : TypeId} {x x' v : Value} {lo hi lo' hi' : Option Value} (hr : Rel B w0 m H w) (h : y9 P t x lo hi H = some (v, H')) (hx : VR m x x')
  (hlo : lo = none ∧ lo' = none ∨ ∃ v v', lo = some v ∧ lo' = some v' ∧ VR m v v') (hhi : hi = none ∧ hi' = none ∨ ∃ v v', hi = some v ∧ hi' = some v' ∧ VR m v v') :
  Sim P B w0 m H' w (Instr.sliceAt t x' lo' hi' none) v := by
 have notArr : (∃ d, P.underlying t = some d ∧ (∀ n e, d ≠ .array n e)) → ∀ w : World, (Instr.sliceAt t x' lo' hi' none).run P w = (Instr.slice t x' lo' hi' none).run P w := by
  rintro ⟨d, hd, hne⟩ w
  unfold Instr.sliceAt
  rw [Sem.run_bind, run_underlying hd]
  cases d <;> first | rfl | exact absurd rfl (hne _ _)
 unfold y9 at h
 split at h
 ·
  rename_i s hu
  have hopt : ∀ {o o' : Option Value}, (o = none ∧ o' = none ∨ ∃ v v', o = some v ∧ o' = some v' ∧ VR m v v') → LR m o.toList o'.toList := by
   rintro o o' (⟨rfl, rfl⟩ | ⟨v, v', rfl, rfl, hv⟩)
   ·
    exact .nil
   ·
    exact .cons hv .nil
  have hlr : LR m ((Value.string s :: lo.toList) ++ hi.toList) ((x' :: lo'.toList) ++ hi'.toList) := (LR.cons hx (hopt hlo)).append (hopt hhi)
  obtain ⟨v', w', m', h1, h2⟩ := yF (s' := Instr.slice t x' lo' hi' none) hr h hlr (fun e => by
   rcases hlo with ⟨rfl, rfl⟩ | ⟨a, a', rfl, rfl, ha⟩ <;> rcases hhi with ⟨rfl, rfl⟩ | ⟨b, b', rfl, rfl, hb⟩ <;> simp at e <;> simp [e])
  exact ⟨v', w', m', by rw [notArr ⟨_, hu, fun _ _ => by simp⟩]; exact h1, h2⟩
 ·
  rename_i e a len cap hu
  split at h
  ·
   rename_i size l hh hsz hl hh'
   split at h <;> first | cases h | skip
   rename_i h0
   split at h <;> first | cases h | skip
   rename_i hlh
   split at h <;> first | cases h | skip
   rename_i hhl
   have hl2 := WU hl hlo
   have hh2 := WU hh' hhi
   have bounds : ∀ (cap' : Nat), len ≤ cap' → ∀ w : World, (Instr.sliceBounds true len cap' lo' hi' none).run P w = .ok (l.toNat, hh.toNat, cap') w := by
    intro cap' hle w
    unfold Instr.sliceBounds
    have b1 : ∀ (k : IntKind) (y : Nat) (code : BoundsCode), hh ≤ y → (Instr.sliceBound (.int k hh) y code).run P w = .ok hh.toNat w := by
     intro k y code hy
     simp only [Instr.sliceBound, asIntOf, pure_bind]
     rw [if_pos ⟨by omega, hy⟩]
     rfl
    have b2 : ∀ (k : IntKind) (y : Nat) (code : BoundsCode), l ≤ y → (Instr.sliceBound (.int k l) y code).run P w = .ok l.toNat w := by
     intro k y code hy
     simp only [Instr.sliceBound, asIntOf, pure_bind]
     rw [if_pos ⟨h0, hy⟩]
     rfl
    have e1 : (len : Int).toNat = len := by omega
    rcases hl2 with ⟨rfl, rfl⟩ | ⟨kl, rfl⟩ <;> rcases hh2 with ⟨rfl, rfl⟩ | ⟨kh, rfl⟩
    ·
     simp
    ·
     simp [b1 kh cap' _ (by omega)]
    ·
     simp [b2 kl len _ (by omega)]
    ·
     simp [b1 kh cap' _ (by omega), b2 kl hh.toNat _ (by omega)]
   have hrun : ∀ (a' : Option Addr) (cap' : Nat), len ≤ cap' → (Instr.sliceAt t (.slice a' len cap') lo' hi' none).run P w =
     .ok (.slice (if cap' = l.toNat then a' else a'.map (·.add (l.toNat * size))) (hh.toNat - l.toNat) (cap' - l.toNat)) w := by
    intro a' cap' hle
    have : (Instr.sliceAt t (.slice a' len cap') lo' hi' none).run P w = (Instr.slice t (.slice a' len cap') lo' hi' none).run P w := by
     unfold Instr.sliceAt
     rw [Sem.run_bind, run_underlying hu]
     rfl
    rw [this]
    simp only [Instr.slice, Sem.run_bind, run_underlying hu, Result.andThen_ok, bounds cap' hle, yg hsz, Sem.run_pure]
   cases hx with
   | sliceNil =>
    simp only at h
    split at h
    ·
     rename_i hn
     cases h
     refine Sim.same hr (hrun none 0 (Nat.le_refl _)) ?_
     have e1 : l.toNat = 0 := by omega
     have e2 : hh.toNat = 0 := by omega
     rw [e1, e2]
     exact .sliceNil
    ·
     cases h
   | @slice r o L _ c hm hn hlm =>
    simp only at h
    split at h
    ·
     rename_i cs own esz hg
     split at h
     ·
      rename_i hes
      cases h
      have hL : L.esz = size := (hr.obj r L _ hm hg).1.trans hes
      have hle : l.toNat * L.esz ≤ c * L.esz := Nat.mul_le_mul_right _ (by omega)
      refine Sim.same hr (hrun _ c hn) ?_
      by_cases hc : c = l.toNat
      ·
       rw [if_pos hc]
       have e1 : hh.toNat - l.toNat = 0 := by omega
       have e2 : c - l.toNat = 0 := by omega
       rw [e1, e2]
       exact .slice0 hm (by rw [← hL]; omega) rfl
      ·
       rw [if_neg hc]
       simp only [Option.map_some, Addr.add_mid]
       have e3 : L.shift + o + l.toNat * size = L.shift + (o + l.toNat * size) := by omega
       rw [e3]
       refine .slice hm (by omega) ?_
       have : (c - l.toNat) * L.esz = c * L.esz - l.toNat * L.esz := Nat.sub_mul _ _ _
       rw [this, ← hL]
       omega
     ·
      cases h
    ·
     cases h
   | sliceE a' c =>
    simp only at h
    split at h
    ·
     cases h
     refine Sim.same hr (hrun _ c (Nat.zero_le _)) ?_
     have e1 : l.toNat = 0 := by omega
     have e2 : hh.toNat = 0 := by omega
     rw [e1, e2]
     have e3 : (if c = 0 then some a' else (some a').map (·.add (0 * size))) = some a' := by
      split
      ·
       rfl
      ·
       simp [Addr.add]
     rw [e3]
     exact .sliceE a' _
    ·
     rename_i hn; exact absurd True.intro hn
   | @slice0 r o L a' hm hlm ha =>
    simp only at h
    split at h
    ·
     split at h
     ·
      cases h
      refine Sim.same hr (hrun _ 0 (Nat.le_refl _)) ?_
      have e1 : l.toNat = 0 := by omega
      have e2 : hh.toNat = 0 := by omega
      rw [e1, e2]
      simp only [Nat.zero_mul, Nat.sub_self, Nat.add_zero, if_true]
      exact .slice0 hm hlm ha
     ·
      cases h
    ·
     cases h
  ·
   cases h
 ·
  cases h
theorem Y7 {s : TypeId} {x x' v : Value} {f : Nat} (hr : Rel B w0 m H w) (h : wF P s x f H = some (v, H')) (hx : VR m x x') : Sim P B w0 m H' w (Instr.fieldAt s x' f) v := by
 unfold wF at h
 split at h
 ·
  rename_i fields r o hu
  split at h
  ·
   rename_i fd hfd
   split at h
   ·
    rename_i n hn
    split at h
    ·
     cases h
    ·
     rename_i hn0
     cases h
     cases hx with
     | @ptr _ _ L hm =>
      refine Sim.same hr (v' := .pointer (some ⟨L.blk, L.shift + (o + fd.offset), none⟩)) ?_ (.ptr hm)
      simp only [Instr.fieldAt, Sem.run_bind, run_underlying hu, Result.andThen_ok, hfd, Instr.sureAddr, Sem.run_pure, fieldPlace, yg hn, Sem.run_ite, hn0, if_false, Addr.add_mid, Nat.add_assoc]
   ·
    cases h
  ·
   cases h
 ·
  cases h
theorem XB {t : TypeId} {cs cs' : Array Value} {off : Nat} {v : Value} (h : partOf P t cs off = some v) (ha : AR m cs cs') : ∃ v', (∀ w : World, (part t cs' off).run P w = .ok v' w) ∧ VR m v v' := by
 unfold partOf at h
 split at h
 ·
  rename_i hagg
  split at h
  ·
   rename_i n hn
   cases h
   obtain ⟨d, hd, hd2⟩ := ZO hagg
   have hia : ∀ w : World, (isAgg t).run P w = .ok true w := by
    intro w
    unfold isAgg
    rw [Sem.run_bind, run_underlying hd w]
    cases d <;> simp_all [TypeDesc.isRow]
   refine ⟨.agg (cs'.extract off (off + n)), fun w => ?_, ?_⟩
   ·
    simp only [part, Sem.run_bind, hia, Result.andThen_ok, if_true, yg hn, Sem.run_pure]
   ·
    have : AR m ((cs.toList.drop off).take n).toArray (cs'.extract off (off + n)) := by
     rw [AR.iff] at ha ⊢
     have e : (cs'.extract off (off + n)).toList = (cs'.toList.drop off).take n := by
      simp only [Array.toList_extract, List.extract_eq_take_drop]
      congr 1; omega
     rw [e]
     exact (ha.drop _).take _
    exact .agg this.1 this.2
  ·
   cases h
 ·
  rename_i hagg
  obtain ⟨v', hv', hvr⟩ := ha.toList.get (i := off) (v := v) (by simpa using h)
  refine ⟨v', fun w => ?_, hvr⟩
  have : cs'[off]? = some v' := by simpa using hv'
  simp only [part, Sem.run_bind, Zl hagg w, Result.andThen_ok, this]
  rfl
 ·
  cases h
theorem aaV {t : TypeId} {x x' v : Value} {f : Nat} (hr : Rel B w0 m H w) (h : xE P t x f H = some (v, H')) (hx : VR m x x') : Sim P B w0 m H' w (Instr.field t x' f) v := by
 unfold xE at h
 split at h
 ·
  rename_i fields cs hu
  split at h
  ·
   rename_i fd hfd
   split at h
   ·
    rename_i u hp
    cases h
    cases hx with
    | agg hs hh =>
     obtain ⟨v', hrun, hvr⟩ := XB hp ⟨hs, hh⟩
     refine Sim.same hr ?_ hvr
     simp only [Instr.field, Sem.run_bind, run_underlying hu, Result.andThen_ok, hfd, asAgg, Sem.run_pure, hrun]
   ·
    cases h
  ·
   cases h
 ·
  cases h
theorem YG {t : TypeId} {x x' ix ix' v : Value} (hr : Rel B w0 m H w) (h : jM P t x ix H = some (v, H')) (hx : VR m x x') (hi : VR m ix ix') :
  Sim P B w0 m H' w (Instr.indexAt t x' ix') v := by
 unfold jM at h
 split at h
 ·
  rename_i e r o len cap k i hu
  split at h
  ·
   rename_i size hsz
   split at h
   ·
    rename_i hb
    cases h
    cases hi
    cases hx with
    | @slice _ _ L _ c hm hn hl =>
     refine Sim.same hr (v' := .pointer (some ⟨L.blk, L.shift + (o + i.toNat * size), none⟩)) ?_ (.ptr hm)
     simp only [Instr.indexAt, Sem.run_bind, asIntOf, Sem.run_pure, run_underlying hu, Result.andThen_ok, yg hsz]
     rw [if_pos hb]
     simp only [Sem.run_bind, yg hsz, Result.andThen_ok, Sem.run_pure, Addr.add_mid, Nat.add_assoc]
    | slice0 hm hl ha => omega
   ·
    cases h
  ·
   cases h
 ·
  rename_i len e r o k i hu
  split at h
  ·
   rename_i size hsz
   split at h
   ·
    rename_i hb
    cases h
    cases hi
    cases hx with
    | @ptr _ _ L hm =>
     refine Sim.same hr (v' := .pointer (some ⟨L.blk, L.shift + (o + i.toNat * size), none⟩)) ?_ (.ptr hm)
     simp only [Instr.indexAt, Sem.run_bind, asIntOf, Sem.run_pure, run_underlying hu, Result.andThen_ok, yg hsz, Instr.sureAddr]
     rw [if_pos hb]
     simp only [Sem.run_bind, yg hsz, Result.andThen_ok, Sem.run_pure, Addr.add_mid, Nat.add_assoc]
   ·
    cases h
  ·
   cases h
 ·
  cases h
theorem aaM {t : TypeId} {x x' ix ix' v : Value} (hr : Rel B w0 m H w) (h : kH P t x ix H = some (v, H')) (hx : VR m x x') (hi : VR m ix ix') :
  Sim P B w0 m H' w (Instr.index t x' ix') v := by
 unfold kH at h
 split at h
 ·
  rename_i len e cs k i hu
  split at h
  ·
   rename_i size hsz
   split at h
   ·
    rename_i hb
    split at h
    ·
     rename_i u hp
     cases h
     cases hi
     cases hx with
     | agg hs hh =>
      obtain ⟨v', hrun, hvr⟩ := XB hp ⟨hs, hh⟩
      refine Sim.same hr ?_ hvr
      simp only [Instr.index, Sem.run_bind, asIntOf, Sem.run_pure, run_underlying hu, Result.andThen_ok]
      rw [if_pos hb]
      simp only [Sem.run_bind, yg hsz, Result.andThen_ok, hrun]
    ·
     cases h
   ·
    cases h
  ·
   cases h
 ·
  exact yF hr h (.cons hx (.cons hi .nil)) (fun e => by simp only [List.cons.injEq, and_true] at e; rw [e.1, e.2])
 ·
  cases h
theorem KE {x x' v : Value} {i : Nat} (hr : Rel B w0 m H w) (h : zL x i H = some (v, H')) (hx : VR m x x') : Sim P B w0 m H' w (Instr.extract x' i) v := by
 unfold zL at h
 split at h
 ·
  rename_i vs
  split at h
  ·
   rename_i u hu
   cases h
   cases hx with
   | nores => simp at hu
   | @tuple _ x2 hs hh =>
    obtain ⟨v', hv', hvr⟩ := (AR.toList ⟨hs, hh⟩).get (i := i) (v := v) (by simpa using hu)
    refine Sim.same hr ?_ hvr
    have : x2[i]? = some v' := by simpa using hv'
    simp only [Instr.extract, this]
    rfl
  ·
   cases h
 ·
  cases h
end
end Go.Abs
namespace Go.Abs
open Go.RowKit
section
variable {P : Program} {B : Nat} {w0 : World} {m : Mp} {H H' : zi} {w : World}
theorem KY {t : TypeId} {r r' : Option Value} {v : Value} (hr : Rel B w0 m H w) (h : xu P t r H = some (v, H')) (hx : r = none → r' = none) : Sim P B w0 m H' w (Instr.makeMap t r') v := by
 unfold xu at h
 split at h
 ·
  cases h
  rw [hx rfl]
  have hrel := hr.push (.map #[] 0) (.map [] 0) ⟨w.heap.size, 0, 1, 0⟩ rfl (kX.push w _ w.drawn) ⟨rfl, rfl, #[], (kX.push w (.map #[] 0) w.drawn).new, rfl, fun i e h => by simp at h⟩
  refine ⟨.map (some w.heap.size), _, _, ?_, ?_, Mp.kD (hr.fresh _ (Nat.le_refl _)), hrel⟩
  ·
   simp [Instr.makeMap, newObj, Sem.run]
  ·
   exact .map (Mp.add_same m H.next ⟨w.heap.size, 0, 1, 0⟩)
 ·
  cases h
def ESR (m : Mp) (es : List MapEntry) (es' : List MapEntry) : Prop := es.length = es'.length ∧ ∀ (i : Nat) (e : MapEntry), es[i]? = some e → ∃ e', es'[i]? = some e' ∧ ER m e e'
theorem ESR.tail {e e' : MapEntry} {es es' : List MapEntry} (h : ESR m (e :: es) (e' :: es')) : ESR m es es' :=
 ⟨by have := h.1; simpa using this, fun i x hx => by simpa using h.2 (i + 1) x (by simpa using hx)⟩
theorem ESR.head {e e' : MapEntry} {es es' : List MapEntry} (h : ESR m (e :: es) (e' :: es')) : ER m e e' := by
 obtain ⟨x, hx, h1⟩ := h.2 0 e rfl
 simp at hx
 rw [hx]; exact h1
theorem xw {kd : TypeDesc} {k : Value} : ∀ (es es' : List MapEntry) (i : Nat) (r : Option (Nat × Value)), ESR m es es' → Instr.findNow kd k es i = some r →
  ∃ r', Instr.findNow kd k es' i = some r' ∧ ((r = none ∧ r' = none) ∨ ∃ j v v', r = some (j, v) ∧ r' = some (j, v') ∧ VR m v v') := by
 intro es
 induction es with
 | nil =>
  intro es' i r h hf
  have : es' = [] := by have := h.1; cases es' <;> simp_all
  subst this
  simp only [Instr.findNow, Option.some.injEq] at hf
  subst hf
  exact ⟨none, rfl, .inl ⟨rfl, rfl⟩⟩
 | cons e es ih =>
  intro es' i r h hf
  cases es' with
  | nil => have := h.1; simp at this
  | cons e' es' =>
   obtain ⟨h1, h2, h3⟩ := h.head
   simp only [Instr.findNow, h1] at hf ⊢
   split at hf
   ·
    cases hf
    exact ⟨_, rfl, .inr ⟨i, e.val, e'.val, rfl, rfl, h3⟩⟩
   ·
    exact ih es' (i + 1) r h.tail hf
   ·
    cases hf
theorem VP {kd : TypeDesc} {k : Value} : ∀ (es : List MapEntry) (i j : Nat) (v : Value), Instr.findNow kd k es i = some (some (j, v)) → i ≤ j ∧ ∃ e, es[j - i]? = some e ∧ Instr.sameNow kd k e.key = some true := by
 intro es
 induction es with
 | nil => intro i j v h; simp [Instr.findNow] at h
 | cons e es ih =>
  intro i j v h
  simp only [Instr.findNow] at h
  split at h
  ·
   rename_i hs
   simp only [Option.some.injEq, Prod.mk.injEq] at h
   obtain ⟨rfl, rfl⟩ := h
   exact ⟨Nat.le_refl _, e, by simp, hs⟩
  ·
   obtain ⟨h1, e2, h2, h3⟩ := ih (i + 1) j v h
   refine ⟨by omega, e2, ?_, h3⟩
   obtain ⟨n, hn⟩ : ∃ n, j - i = n + 1 := ⟨j - i - 1, by omega⟩
   rw [hn, List.getElem?_cons_succ, ← h2]
   congr 1; omega
  ·
   cases h
theorem run_checkKey {kd : TypeDesc} {kt : TypeId} {k : Value} (hu : P.underlying kt = some kd) (hk : ZY kd k = true) (em : Bool) (w : World) : (Instr.checkKey em 10000 kt k).run P w = .ok () w := by
 rw [show (10000 : Nat) = 9999 + 1 from rfl]
 generalize 9999 = d
 simp only [Instr.checkKey, Sem.run_bind, run_underlying hu, Result.andThen_ok]
 unfold ZY at hk
 split at hk <;> first | rfl | cases hk
theorem qm {kd : TypeDesc} {k : Value} (hk : ZY kd k = true) : ground k = true := by
 unfold ZY at hk
 split at hk <;> first | rfl | cases hk
theorem run_findKey {kd : TypeDesc} {kt : TypeId} {k : Value} {es : List MapEntry} {r : Option (Nat × Value)} (hu : P.underlying kt = some kd) (h : Instr.findNow kd k es 0 = some r) (w : World) :
  (Instr.findKey kt k es).run P w = .ok r w := by
 simp only [Instr.findKey, Sem.run_bind, run_underlying hu, Result.andThen_ok, h]
 rfl
theorem vF {b : Nat} {es : Array MapEntry} {clock : Nat} (h : w.heap[b]? = some (.map es clock)) : (getObj b).run P w = .ok (.map es clock) w := by
 simp [getObj, Sem.run, h]
theorem Rel.map {r : Nat} {L : Loc} {es : List MapEntry} {clock : Nat} (hr : Rel B w0 m H w) (hm : m r = some L) (hg : H.get r = some (.map es clock)) :
  ∃ es' : Array MapEntry, w.heap[L.blk]? = some (.map es' clock) ∧ ESR m es es'.toList := by
 obtain ⟨_, _, es', h1, h2, h3⟩ := hr.obj r L _ hm hg
 exact ⟨es', h1, by simpa using h2, fun i e he => by simpa using h3 i e he⟩
theorem V7 {t : TypeId} {x x' k k' v : Value} {ok : Bool} (hr : Rel B w0 m H w) (h : jT P t x k ok H = some (v, H')) (hx : VR m x x') (hk : VR m k k') :
    Sim P B w0 m H' w (Instr.lookup t x' k' ok) v := by
  unfold jT at h
  split at h
  · rename_i kt et hu
    split at h
    · rename_i kd hkd
      split at h
      · rename_i hkk
        obtain rfl := qG (qm hkk) hk
        split at h
        · rename_i es hes
          have ent : ∃ es' : Array MapEntry, ESR m es es'.toList ∧ ((x' = .map none ∧ es' = #[]) ∨ ∃ b clock, x' = .map (some b) ∧ w.heap[b]? = some (.map es' clock)) := by
            split at hes
            · cases hes
              cases hx
              exact ⟨#[], ⟨rfl, fun i e h => by simp at h⟩, .inl ⟨rfl, rfl⟩⟩
            · split at hes
              · rename_i r es2 clock hg
                cases hes
                cases hx with
                | map hm =>
                  obtain ⟨es', h1, h2⟩ := hr.map hm hg
                  exact ⟨es', h2, .inr ⟨_, _, rfl, h1⟩⟩
              · cases hes
            · cases hes
          obtain ⟨es', hes', hrun⟩ := ent
          have lk : ∀ (r' : Option (Nat × Value)), Instr.findNow kd k' es'.toList 0 = some r' → (Instr.lookup t x' k' ok).run P w =
              (match r' with
               | some (_, v) => .ok (if ok then .tuple #[v, .bool true] else v) w
               | none => ((zeroValue et).run P w).andThen fun z w' => .ok (if ok then .tuple #[z, .bool false] else z) w' : Result Value) := by
            intro r' hf
            rcases hrun with ⟨rfl, rfl⟩ | ⟨b, clock, rfl, hb⟩
            · simp only [Instr.lookup, Sem.run_bind, run_underlying hu, Result.andThen_ok, Sem.run_pure, run_checkKey hkd hkk, run_findKey hkd hf]
              cases r' with
              | none =>
                simp only [Sem.run_bind]
                cases (zeroValue et).run P w <;> rfl
              | some q => obtain ⟨j, u⟩ := q; rfl
            · simp only [Instr.lookup, Sem.run_bind, run_underlying hu, Result.andThen_ok, vF hb, Sem.run_pure, run_checkKey hkd hkk, run_findKey hkd hf]
              cases r' with
              | none =>
                simp only [Sem.run_bind]
                cases (zeroValue et).run P w <;> rfl
              | some q => obtain ⟨j, u⟩ := q; rfl
          split at h
          · rename_i j u hf
            cases h
            obtain ⟨r', hf', hh⟩ := xw es es'.toList 0 _ hes' hf
            rcases hh with ⟨h1, _⟩ | ⟨j', u1, u', h1, rfl, hvr⟩
            · cases h1
            · cases h1
              refine Sim.same hr (lk _ hf') ?_
              cases ok
              · exact hvr
              · have := (LR.cons hvr (LR.cons (VR.bool (m := m) true) LR.nil)).toArray
                exact .tuple this.1 this.2
          · rename_i hf
            split at h
            · rename_i z hz
              split at h
              · rename_i hgz
                cases h
                obtain ⟨r', hf', hh⟩ := xw es es'.toList 0 _ hes' hf
                rcases hh with ⟨_, rfl⟩ | ⟨_, _, _, h1, _⟩
                · refine Sim.same hr (v' := if ok then .tuple #[z, .bool false] else z) ?_ ?_
                  · rw [lk _ hf']
                    simp only [ku hz, Result.andThen_ok]
                  · cases ok
                    · exact wo hgz
                    · have := (LR.cons (wo (m := m) hgz) (LR.cons (VR.bool (m := m) false) LR.nil)).toArray
                      exact .tuple this.1 this.2
                · cases h1
              · cases h
            · cases h
          · cases h
        · cases h
      · cases h
    · cases h
  · cases h
theorem ER.mono {m' : Mp} (hm : m.le m') {e e' : MapEntry} (h : ER m e e') : ER m' e e' := ⟨h.1, h.2.1, h.2.2.mono hm⟩
theorem Rel.adW {r : Nat} {L : Loc} {es es2 : List MapEntry} {clock clock2 : Nat} {es2' : Array MapEntry} (hr : Rel B w0 m H w) (hm : m r = some L) (hg : H.get r = some (.map es clock))
  (h2 : ESR m es2 es2'.toList) : Rel B w0 m (H.set r (.map es2 clock2)) { w with heap := w.heap.setIfInBounds L.blk (.map es2' clock2) } := by
 obtain ⟨hs, hl, es', hb, _, _⟩ := hr.obj r L _ hm hg
 have hB := hr.own r L _ hm hg rfl
 have hlt := hr.lt r L hm
 refine ⟨?_, ?_, ?_, ?_, ?_, ?_, ?_⟩
 ·
  refine ⟨hr.below.os, hr.below.tape, hr.below.output, by simpa using hr.below.size, fun k hk => ?_⟩
  show (w.heap.setIfInBounds L.blk _)[k]? = _
  rw [Array.getElem?_setIfInBounds_ne (by omega)]; exact hr.below.block k hk
 ·
  simpa using hr.base
 ·
  intro r' L' o' hm' hg'
  rw [zi.jF] at hg'
  by_cases hrr : r' = r
  ·
   subst hrr
   rw [if_pos rfl] at hg'
   cases hg'
   rw [hm] at hm'; cases hm'
   exact ⟨hs, hl, es2', by simp [hlt], by simpa using h2.1, fun i e he => by simpa using h2.2 i e he⟩
  ·
   rw [if_neg hrr] at hg'
   have hold := hr.obj r' L' o' hm' hg'
   have hne : o'.alive = true → L'.blk ≠ L.blk := by
    intro hal hbk
    have hap := hr.apart r r' L L' _ o' (fun e => hrr e.symm) hm hm' hg hg' rfl hal hbk.symm
    cases o' with
    | dead => cases hal
    | cells cs own esz =>
     obtain ⟨_, cc, e, fr, a1, _⟩ := hold
     rw [hbk, hb] at a1; cases a1
    | map es3 c3 =>
     obtain ⟨a1, a2, _⟩ := hold
     simp only [yG.hi, yG.lo] at hap
     omega
   cases o' with
   | dead => exact True.intro
   | cells cs own esz =>
    obtain ⟨a0, cc, e, fr, a1, a2⟩ := hold
    refine ⟨a0, cc, e, fr, ?_, a2⟩
    show (w.heap.setIfInBounds L.blk _)[L'.blk]? = _
    rw [Array.getElem?_setIfInBounds_ne (fun e => hne rfl e.symm)]; exact a1
   | map es3 c3 =>
    obtain ⟨a0, a1, e3, a2, a3⟩ := hold
    refine ⟨a0, a1, e3, ?_, a3⟩
    show (w.heap.setIfInBounds L.blk _)[L'.blk]? = _
    rw [Array.getElem?_setIfInBounds_ne (fun e => hne rfl e.symm)]; exact a2
 ·
  intro r' L' hm'; have := hr.lt r' L' hm'; simpa using this
 ·
  intro r' L' o' hm' hg' hw
  rw [zi.jF] at hg'
  by_cases hrr : r' = r
  ·
   subst hrr; rw [hm] at hm'; cases hm'; exact hB
  ·
   rw [if_neg hrr] at hg'; exact hr.own r' L' o' hm' hg' hw
 ·
  intro ra rb La Lb oa ob hne ma mb ga gb hw hal hbk
  rw [zi.jF] at ga gb
  have fa : ∃ oa', H.get ra = some oa' ∧ oa'.owns = true ∧ ∀ k q, oa'.lo k q = oa.lo k q := by
   by_cases e1 : ra = r
   ·
    subst e1; rw [if_pos rfl] at ga; cases ga; exact ⟨_, hg, rfl, fun _ _ => rfl⟩
   ·
    rw [if_neg e1] at ga; exact ⟨_, ga, hw, fun _ _ => rfl⟩
  have fb : ∃ ob', H.get rb = some ob' ∧ ob'.alive = true ∧ ob'.hi Lb.shift Lb.lim = ob.hi Lb.shift Lb.lim ∧ ∀ oo : yG, oo.lo rb ob' = oo.lo rb ob := by
   by_cases e1 : rb = r
   ·
    subst e1; rw [if_pos rfl] at gb; cases gb; exact ⟨_, hg, rfl, rfl, fun oo => by cases oo <;> rfl⟩
   ·
    rw [if_neg e1] at gb; exact ⟨_, gb, hal, rfl, fun _ => rfl⟩
  obtain ⟨oa', ga', wa, la⟩ := fa
  obtain ⟨ob', gb', wb, hb', lb'⟩ := fb
  rw [← la, ← hb', ← lb']
  exact hr.apart ra rb La Lb oa' ob' hne ma mb ga' gb' wa wb hbk
 ·
  exact fun r' h => hr.fresh r' h
theorem Ql {kd : TypeDesc} {k k2 : Value} (h : Instr.sameNow kd k k2 = some true) : Instr.sameBits 10000 k2 k = true := by
 unfold Instr.sameNow at h
 split at h
 ·
  split at h
  ·
   rename_i hk
   simp only [Option.some.injEq, beq_iff_eq] at h
   subst h; subst hk
   simp [Instr.sameBits]
  ·
   cases h
 ·
  simp only [Option.some.injEq] at h
  obtain rfl := (MapKept.bytes_beq _ _).mp h
  simpa [Instr.sameBits] using h
 ·
  simp only [Option.some.injEq, beq_iff_eq] at h
  subst h
  simp [Instr.sameBits]
 ·
  cases h
theorem W9 {b : Nat} {es es2 : Array MapEntry} {c c2 : Nat} (h : w.heap[b]? = some (.map es c)) : (setObj b (.map es2 c2)).run P w = .ok () { w with heap := w.heap.setIfInBounds b (.map es2 c2) } := by
 simp [setObj, Sem.run, h]
theorem Y0 {t : TypeId} {x x' k k' u u' v : Value} (hr : Rel B w0 m H w) (h : wM P t x k u H = some (v, H')) (hx : VR m x x') (hk : VR m k k') (hu' : VR m u u') :
  v = undef ∧ ∃ w', (Instr.mapUpdate t x' k' u').run P w = .ok () w' ∧ Rel B w0 m H' w' := by
 unfold wM at h
 split at h
 ·
  rename_i kt et hu
  split at h
  ·
   rename_i kd hkd
   split at h
   ·
    rename_i hkk
    obtain rfl := qG (qm hkk) hk
    split at h
    ·
     rename_i r
     cases hx with
     | @map _ L hm =>
      split at h
      ·
       rename_i es clock hg
       obtain ⟨es', hb, hes⟩ := hr.map hm hg
       split at h
       ·
        rename_i i w2 hf
        cases h
        refine ⟨rfl, ?_⟩
        obtain ⟨r', hf', hh⟩ := xw es es'.toList 0 _ hes hf
        rcases hh with ⟨h1, _⟩ | ⟨j', u1, u2, h1, rfl, hvr⟩
        ·
         cases h1
        ·
         cases h1
         obtain ⟨_, e2, he2, hsame⟩ := VP _ _ _ _ hf'
         have he2' : es'[i]? = some e2 := by simpa using he2
         refine ⟨_, ?_, hr.adW (es2 := es.modify i fun e => { e with key := k', val := u }) (es2' := es'.modify i fun e => { e with key := k', val := u' }) (clock2 := clock) hm hg ?_⟩
         ·
          simp only [Instr.mapUpdate, Sem.run_bind, run_underlying hu, Result.andThen_ok, vF hb, run_checkKey hkd hkk, run_findKey hkd hf', Instr.keyThatStays, he2', Option.map_some, Option.getD_some,
           Ql hsame, if_true, Sem.run_pure, W9 hb]
         ·
          refine ⟨by simpa using hes.1, fun j e he => ?_⟩
          rw [List.getElem?_modify] at he
          rw [Array.getElem?_toList, Array.getElem?_modify]
          by_cases hij : i = j
          ·
           subst hij
           simp only [if_true] at he ⊢
           cases hei : es[i]? with
           | none => simp [hei] at he
           | some e0 =>
            simp only [hei, Option.map_eq_map, Option.map_some, Option.some.injEq] at he
            subst he
            obtain ⟨e0', he0', hER⟩ := hes.2 i e0 hei
            have : es'[i]? = some e0' := by simpa using he0'
            exact ⟨{ e0' with key := k', val := u' }, by simp [this], rfl, hER.2.1, hu'⟩
          ·
           simp only [if_neg hij] at he ⊢
           cases hei : es[j]? with
           | none => simp [hei] at he
           | some e0 =>
            simp [hei] at he
            subst he
            obtain ⟨e0', he0', hER⟩ := hes.2 j e0 hei
            exact ⟨e0', by simpa using he0', hER⟩
       ·
        rename_i hf
        cases h
        refine ⟨rfl, ?_⟩
        obtain ⟨r', hf', hh⟩ := xw es es'.toList 0 _ hes hf
        rcases hh with ⟨_, rfl⟩ | ⟨_, _, _, h1, _⟩
        ·
         refine ⟨_, ?_, hr.adW (es2 := es ++ [{ key := k', val := u, born := clock }]) (es2' := es'.push { key := k', val := u', born := clock }) (clock2 := clock + 1) hm hg ?_⟩
         ·
          simp only [Instr.mapUpdate, Sem.run_bind, run_underlying hu, Result.andThen_ok, vF hb, run_checkKey hkd hkk, run_findKey hkd hf', W9 hb]
         ·
          refine ⟨by simp [hes.1], fun j e he => ?_⟩
          rw [Array.toList_push]
          by_cases hj : j < es.length
          ·
           rw [List.getElem?_append_left hj] at he
           rw [List.getElem?_append_left (by rw [← hes.1]; exact hj)]
           exact hes.2 j e he
          ·
           rw [List.getElem?_append_right (by omega)] at he
           rw [List.getElem?_append_right (by rw [← hes.1]; omega), ← hes.1]
           cases hjj : j - es.length with
           | zero =>
            rw [hjj] at he
            simp at he
            subst he
            exact ⟨_, rfl, rfl, rfl, hu'⟩
           | succ n => rw [hjj] at he; simp at he
        ·
         cases h1
       ·
        cases h
      ·
       cases h
    ·
     cases h
   ·
    cases h
  ·
   cases h
 ·
  cases h
end
end Go.Abs
namespace Go.Abs
open Go.RowKit
section
variable {P : Program} {B : Nat} {w0 : World} {m : Mp} {H H' : zi} {w : World}
theorem Rel.drew (hr : Rel B w0 m H w) : Rel B w0 m H w.drew := hr.draw _
theorem Rel.src {tx : TypeId} {size n : Nat} {x x' : Value} {cs : List Value} (hr : Rel B w0 m H w) (h : yP P tx size x H = some (n, cs)) (hx : VR m x x') :
  ∃ cs', LR m cs cs' ∧ Src P size tx x' n cs' w := by
 unfold yP at h
 split at h
 ·
  rename_i e a n' c hu
  split at h
  ·
   rename_i cs2 hc
   split at h
   ·
    rename_i h1
    cases h
    have hn : ∀ k a' c', Value.slice a n c = .slice a' k c' → k = n := fun k a' c' e => by cases e; rfl
    obtain ⟨hlen, cs', hl, hh⟩ := hr.cells hc hx (fun h0 k a' c' e => by
     have := hn _ _ _ e; subst this
     exact Nat.pos_of_ne_zero (fun e => by rw [e] at h0; simp at h0))
    refine ⟨cs', hl, ?_⟩
    have hone := ZV hl h1
    rcases hh with ⟨ad, k, c', rfl, hcell⟩ | ⟨rfl, rfl⟩
    ·
     have hk : k = n := by cases hx <;> rfl
     subst hk
     exact Src.ofSlice w hu ad k c' cs' (by rw [← hl.1]; exact hlen) hcell hone
    ·
     have hn0 : n = 0 := by cases hx; rfl
     subst hn0
     exact Src.ofNil w hu 0
   ·
    cases h
  ·
   cases h
 ·
  rename_i s hu
  split at h
  ·
   rename_i h1
   cases h
   cases hx
   subst h1
   refine ⟨byteCells s, LR.kQ ?_, Src.ofString w hu s⟩
   rw [List.all_eq_true]; intro x hx; obtain ⟨_, _, rfl⟩ := List.mem_map.1 hx; rfl
  ·
   cases h
 ·
  cases h
def Left (H : zi) (r : Nat) (anc0 : List Nat) (cs : List Value) (fin n size : Nat) (G : zi) (anc : List Nat) : Prop :=
 (fin = cs.length ∧ G = H.set r (.cells cs .ro size) ∧ anc = if n = 0 then [] else r :: anc0) ∨ (G = (H.kills anc0).set r .dead ∧ anc = [])
theorem YX {r : Nat} {own : Own} {cs : List Value} {fin n esz : Nat} {G : zi} {anc : List Nat} (h : yQ H r own cs fin n esz = some (G, anc)) : ∃ anc0, own = .own anc0 ∧ Left H r anc0 cs fin n esz G anc := by
 unfold yQ at h
 split at h
 ·
  cases h
 ·
  rename_i anc0
  split at h
  ·
   rename_i h1; cases h; exact ⟨_, rfl, .inl ⟨h1, rfl, rfl⟩⟩
  ·
   cases h; exact ⟨_, rfl, .inr ⟨rfl, rfl⟩⟩
theorem Left.next {r : Nat} {anc0 anc : List Nat} {cs : List Value} {fin n size : Nat} {G : zi} (h : Left H r anc0 cs fin n size G anc) : G.next = H.next := by
 rcases h with ⟨_, rfl, _⟩ | ⟨rfl, _⟩ <;> simp
theorem Left.other {r : Nat} {anc0 anc : List Nat} {cs : List Value} {fin n size : Nat} {G : zi} (h : Left H r anc0 cs fin n size G anc) {k : Nat} {o' : yG} (hk : k ≠ r) (hg : G.get k = some o') : o' = .dead ∨ (H.get k = some o' ∧ (k ∈ anc0 → k ∈ anc ∨ n = 0 ∧ fin = cs.length)) := by
 rcases h with ⟨hf, rfl, rfl⟩ | ⟨rfl, rfl⟩
 ·
  rw [zi.jF, if_neg hk] at hg
  refine .inr ⟨hg, fun hm => ?_⟩
  by_cases hn : n = 0
  ·
   exact .inr ⟨hn, hf⟩
  ·
   rw [if_neg hn]; exact .inl (List.mem_cons_of_mem _ hm)
 ·
  rw [zi.jF, if_neg hk, zi.qE] at hg
  by_cases ha : k ∈ anc0
  ·
   rw [if_pos ha] at hg; cases hg; exact .inl rfl
  ·
   rw [if_neg ha] at hg; exact .inr ⟨hg, fun h => absurd h ha⟩
theorem Left.self {r : Nat} {anc0 anc : List Nat} {cs : List Value} {fin n size : Nat} {G : zi} (h : Left H r anc0 cs fin n size G anc) {o' : yG} (hg : G.get r = some o') : o' = .dead ∨ (o' = .cells cs .ro size ∧ fin = cs.length ∧ (n = 0 ∨ r ∈ anc)) := by
 rcases h with ⟨hf, rfl, rfl⟩ | ⟨rfl, rfl⟩
 ·
  rw [zi.jF, if_pos rfl] at hg; cases hg
  refine .inr ⟨rfl, hf, ?_⟩
  by_cases hn : n = 0
  ·
   exact .inl hn
  ·
   rw [if_neg hn]; exact .inr (by simp)
 ·
  rw [zi.jF, if_pos rfl] at hg; cases hg; exact .inl rfl
theorem Rel.leave {r : Nat} {cs : List Value} {size fin n : Nat} {anc0 anc : List Nat} {G : zi} (hr : Rel B w0 m H w) (hg : H.get r = some (.cells cs (.own anc0) size)) (hX : Left H r anc0 cs fin n size G anc) : Rel B w0 m G w := by
 refine ⟨hr.below, hr.base, ?_, hr.lt, ?_, ?_, fun k hk => hr.fresh k (by rw [← hX.next]; exact hk)⟩
 ·
  intro r' L' o' hm' hg'
  by_cases e : r' = r
  ·
   subst e
   rcases hX.self hg' with rfl | ⟨rfl, _⟩
   ·
    exact True.intro
   ·
    obtain ⟨a0, cc, e, fr, a1, a2, a3, a4, a5⟩ := hr.obj _ _ _ hm' hg
    exact ⟨a0, cc, e, fr, a1, a2, a3, a4, fun h => by cases h⟩
  ·
   rcases hX.other e hg' with rfl | ⟨h2, _⟩
   ·
    exact True.intro
   ·
    exact hr.obj r' L' o' hm' h2
 ·
  intro r' L' o' hm' hg' hw
  by_cases e : r' = r
  ·
   subst e
   rcases hX.self hg' with rfl | ⟨rfl, _⟩ <;> cases hw
  ·
   rcases hX.other e hg' with rfl | ⟨h2, _⟩
   ·
    cases hw
   ·
    exact hr.own r' L' o' hm' h2 hw
 ·
  intro ra rb La Lb oa ob hne ma mb ga gb hw hal hbk
  by_cases ea : ra = r
  ·
   subst ea
   rcases hX.self ga with rfl | ⟨rfl, _⟩ <;> cases hw
  ·
   rcases hX.other ea ga with rfl | ⟨ga2, _⟩
   ·
    cases hw
   by_cases eb : rb = r
   ·
    subst eb
    rcases hX.self gb with rfl | ⟨rfl, _⟩
    ·
     cases hal
    have := hr.apart ra rb La Lb oa _ ea ma mb ga2 hg hw rfl hbk
    obtain ⟨a0, cc, e, fr, a1, a2, _⟩ := hr.obj _ _ _ mb hg
    have e1 : yG.hi Lb.shift Lb.lim (.cells cs (.own anc0) size) = Lb.lim := rfl
    have e2 : yG.lo oa rb (.cells cs (.own anc0) size) = 0 := by cases oa <;> simp [yG.lo]; rename_i own _; cases own <;> simp [yG.owns, Own.owns]
    rw [e1, e2] at this
    show _ ∨ Lb.shift + cs.length ≤ _
    omega
   ·
    rcases hX.other eb gb with rfl | ⟨gb2, _⟩
    ·
     cases hal
    ·
     exact hr.apart ra rb La Lb oa ob hne ma mb ga2 gb2 hw hal hbk
theorem Rel.moved {r : Nat} {L : Loc} {cs news news' : List Value} {size o n : Nat} {anc0 anc : List Nat} {G : zi} (hr : Rel B w0 m H w) (hm : m r = some L) (hg : H.get r = some (.cells cs (.own anc0) size)) (hX : Left H r anc0 cs (o + n) n size G anc)
  (ho : o + n ≤ cs.length) (hx : LR m news news') (hl : L.shift + o + n + news.length ≤ L.lim) :
  w.there L.blk (L.shift + o + n) news'.length ∧
  Rel B w0 (m.add H.next ⟨L.blk, L.shift + o, L.lim, size⟩) (G.push (.cells ((cs.drop o).take n ++ news) (.own anc) size)) (w.setCells L.blk (L.shift + o + n) news') := by
 obtain ⟨hesz, cc, e, fr, hb, h1, h2, h3, h4⟩ := hr.obj r L _ hm hg
 have hG := hr.leave hg hX
 have hlen := hx.1
 have hB : B ≤ L.blk := hr.own r L _ hm hg rfl
 obtain ⟨r1, r2, r3, r4⟩ := Zr L.blk news' (L.shift + o + n) w
 have hle : m.le (m.add H.next ⟨L.blk, L.shift + o, L.lim, size⟩) := Mp.kD (hr.fresh _ (Nat.le_refl _))
 have hrn : r ≠ H.next := by
  intro e1; rw [e1, hr.fresh _ (Nat.le_refl _)] at hm; cases hm
 have hnl : ((cs.drop o).take n ++ news).length = n + news.length := by simp; omega
 have getE : ∀ k, (G.push (.cells ((cs.drop o).take n ++ news) (.own anc) size)).get k = if k = H.next then some (.cells ((cs.drop o).take n ++ news) (.own anc) size) else G.get k := by
  intro k; rw [zi.jm, hX.next]
 have zone : ∀ k L' o', m k = some L' → G.get k = some o' → o'.alive = true → L.blk = L'.blk → (L.lim ≤ L'.shift ∨ o'.hi L'.shift L'.lim ≤ L.shift + o + n) ∧ (L.lim ≤ L'.shift ∨ o'.hi L'.shift L'.lim ≤ L.shift + o + (yG.cells ((cs.drop o).take n ++ news) (.own anc) size).lo k o') := by
  intro k L' o' hk hgk hal hbk
  by_cases ek : k = r
  ·
   subst ek
   rw [hm] at hk; cases hk
   rcases hX.self hgk with rfl | ⟨rfl, hf, hor⟩
   ·
    cases hal
   ·
    have e1 : yG.hi L.shift L.lim (.cells cs .ro size) = L.shift + cs.length := rfl
    rw [e1]
    refine ⟨.inr (by omega), .inr ?_⟩
    simp only [yG.lo]
    rcases hor with h0 | hmem
    ·
     omega
    ·
     rw [if_pos ⟨hmem, rfl⟩, hnl]; omega
  ·
   rcases hX.other ek hgk with rfl | ⟨h2, h3⟩
   ·
    cases hal
   ·
    have hap := hr.apart r k L L' _ o' (fun e => ek e.symm) hm hk hg h2 rfl hal hbk
    simp only [yG.lo] at hap ⊢
    by_cases hc : k ∈ anc0 ∧ o'.owns = false
    ·
     rw [if_pos hc] at hap
     rcases hX with ⟨hf, hG2, ha⟩ | ⟨hG2, ha⟩
     ·
      refine ⟨by omega, ?_⟩
      rcases h3 hc.1 with hmem | ⟨h0, _⟩
      ·
       rw [if_pos ⟨hmem, hc.2⟩, hnl]; omega
      ·
       omega
     ·
      exfalso
      subst hG2
      rw [zi.jF, if_neg ek, zi.qE, if_pos hc.1] at hgk
      cases hgk; cases hal
    ·
     rw [if_neg hc] at hap
     omega
 have zoneOwn : ∀ ra La oa, m ra = some La → G.get ra = some oa → oa.owns = true → La.blk = L.blk → La.lim ≤ L.shift ∨ L.lim ≤ La.shift := by
  intro ra La oa ma ga hw hbk
  by_cases ea : ra = r
  ·
   subst ea
   rcases hX.self ga with rfl | ⟨rfl, _⟩ <;> cases hw
  ·
   rcases hX.other ea ga with rfl | ⟨ga2, _⟩
   ·
    cases hw
   ·
    have := hr.apart ra r La L oa _ ea ma hm ga2 hg hw rfl hbk
    have e1 : yG.hi L.shift L.lim (.cells cs (.own anc0) size) = L.lim := rfl
    have e2 : yG.lo oa r (.cells cs (.own anc0) size) = 0 := by cases oa <;> simp [yG.lo]; rename_i own _; cases own <;> simp [yG.owns, Own.owns]
    rw [e1, e2] at this
    omega
 refine ⟨fun j hj => ⟨?_, ?_⟩, ?_⟩
 ·
  rw [ZT hb]; simp; omega
 ·
  exact QV hb (by have := h4 rfl; omega)
 ·
  refine ⟨?_, ?_, ?_, ?_, ?_, ?_, ?_⟩
  ·
   refine ⟨r1.trans hr.below.os, r2.trans hr.below.tape, r3.trans hr.below.output, by rw [r4]; exact hr.below.size, fun k hk => ?_⟩
   rw [wX _ _ _ _ _ (by omega)]; exact hr.below.block k hk
  ·
   rw [r4]; exact hr.base
  ·
   intro r' L' o' hm' hg'
   rw [getE] at hg'
   by_cases hrr : r' = H.next
   ·
    subst hrr
    rw [if_pos rfl] at hg'
    cases hg'
    rw [Mp.add_same] at hm'; cases hm'
    refine ⟨rfl, _, e, fr, qX _ _ _ _ _ _ _ hb, ?_, by rw [qF]; exact h2, ?_, fun h => by rw [qF]; exact h4 rfl⟩
    ·
     simp only [List.length_append, List.length_take, List.length_drop]
     omega
    ·
     intro j v hj
     dsimp only
     rw [Jl]
     by_cases hjn : j < n
     ·
      rw [List.getElem?_append_left (by simp; omega), List.getElem?_take, if_pos hjn, List.getElem?_drop] at hj
      rw [if_neg (by omega)]
      obtain ⟨v', hv', hvr⟩ := h3 (o + j) v hj
      exact ⟨v', by rw [← hv']; congr 1; omega, hvr.mono hle⟩
     ·
      have hl2 : ((cs.drop o).take n).length = n := by simp; omega
      rw [List.getElem?_append_right (by omega), hl2] at hj
      have hjl : j - n < news.length := (List.getElem?_eq_some_iff.1 hj).1
      rw [if_pos (by omega)]
      obtain ⟨v', hv', hvr⟩ := hx.get hj
      exact ⟨v', by rw [← hv']; congr 1; omega, hvr.mono hle⟩
   ·
    rw [if_neg hrr] at hg'
    rw [Mp.jI hrr] at hm'
    have hold := (hG.obj r' L' o' hm' hg').mono hle
    have hzone := zone r' L' o' hm' hg'
    cases o' with
    | dead => exact True.intro
    | map es clock =>
     obtain ⟨a1, a2, es', a3, a4⟩ := hold
     have : L'.blk ≠ L.blk := by rintro e2; rw [e2, hb] at a3; cases a3
     exact ⟨a1, a2, es', by rw [wX _ _ _ _ _ this]; exact a3, a4⟩
    | cells cs2 own2 esz2 =>
     obtain ⟨a0, cc2, e2, fr2, a1, a2, a3, a4, a5⟩ := hold
     by_cases hbb : L'.blk = L.blk
     ·
      have hdis := (hzone rfl hbb.symm).1
      have hhi := yG.XF (own := own2) (esz := esz2) a2
      rw [hbb, hb] at a1
      cases a1
      refine ⟨a0, _, e, fr, by rw [hbb]; exact qX _ _ _ _ _ _ _ hb, a2, by rw [qF]; exact a3, ?_, fun h => by rw [qF]; exact a5 h⟩
      intro j v hj
      have hjl : j < cs2.length := (List.getElem?_eq_some_iff.1 hj).1
      rw [Jl, if_neg (by omega)]
      exact a4 j v hj
     ·
      exact ⟨a0, cc2, e2, fr2, by rw [wX _ _ _ _ _ hbb]; exact a1, a2, a3, a4, a5⟩
  ·
   intro r' L' hm'
   rw [r4]
   by_cases hrr : r' = H.next
   ·
    subst hrr; rw [Mp.add_same] at hm'; cases hm'; exact hr.lt r L hm
   ·
    rw [Mp.jI hrr] at hm'; exact hr.lt r' L' hm'
  ·
   intro r' L' o' hm' hg' hw
   rw [getE] at hg'
   by_cases hrr : r' = H.next
   ·
    subst hrr; rw [Mp.add_same] at hm'; cases hm'; exact hB
   ·
    rw [if_neg hrr] at hg'; rw [Mp.jI hrr] at hm'
    exact hG.own r' L' o' hm' hg' hw
  ·
   intro ra rb La Lb oa ob hne ma mb ga gb hw hal hbk
   rw [getE] at ga gb
   by_cases ea : ra = H.next
   ·
    subst ea
    have eb : rb ≠ H.next := fun e => hne e.symm
    rw [if_pos rfl] at ga; cases ga
    rw [if_neg eb] at gb
    rw [Mp.add_same] at ma; cases ma
    rw [Mp.jI eb] at mb
    exact (zone rb Lb ob mb gb hal hbk).2
   ·
    rw [if_neg ea] at ga
    rw [Mp.jI ea] at ma
    by_cases eb : rb = H.next
    ·
     subst eb
     rw [if_pos rfl] at gb; cases gb
     rw [Mp.add_same] at mb; cases mb
     have := zoneOwn ra La oa ma ga hw hbk
     have e1 : yG.hi (L.shift + o) L.lim (.cells ((cs.drop o).take n ++ news) (.own anc) size) = L.lim := rfl
     dsimp only at *
     rw [e1]
     omega
    ·
     rw [if_neg eb] at gb
     rw [Mp.jI eb] at mb
     exact hG.apart ra rb La Lb oa ob hne ma mb ga gb hw hal hbk
  ·
   intro r' hr'
   simp only [zi.ZF, hX.next] at hr'
   rw [Mp.jI (by omega)]
   exact hr.fresh r' (by omega)
theorem Y9 {b o n size c : Nat} {l : List Value} (hl : l.length = n * size) (h : w.rangeAt b o l) : (Builtin.firstCells size n (.slice (some ⟨b, o, none⟩) n c)).run P w.drew = .ok l.toArray w.drew :=
 run_firstCells_some w.drew size n ⟨b, o, none⟩ n c l hl (fun j u hj => by rw [Addr.add_mid]; exact h j u hj)
theorem VU {t tx ty : TypeId} {s s' x x' v : Value} (hr : Rel B w0 m H w) (h : yX P t tx s x H = some (v, H')) (hs : VR m s s') (hx : VR m x x') :
  Sim P B w0 m H' w (Builtin.append_ #[t, tx] ty #[s', x']) v := by
 unfold yX at h
 split at h
 ·
  rename_i e he
  split at h
  ·
   rename_i size z bytes hsz hz hb
   split at h <;> first | cases h | skip
   rename_i hpos
   split at h <;> first | cases h | skip
   rename_i hzs
   split at h
   ·
    rename_i k news hsrc
    obtain ⟨news', hln, hS⟩ := hr.src hsrc hx
    obtain ⟨i, hi, hiz⟩ := Zf hz
    have his : i.size = size := by simpa [qR, hi] using hsz
    have hib : i.bytes = bytes := by simpa [bytesOf, hi] using hb
    have hut := qj he
    have hnl : news'.length = k * size := hS.newsLen
    split at h
    ·
     cases hs
     split at h
     ·
      rename_i hk
      cases h
      subst hk
      refine Sim.same hr ?_ .sliceNil
      rcases hS.kind with ⟨e', hk⟩ | hk <;>
       simp [Builtin.append_, run_underlying hut, run_underlying hk, sizeOf, typeInfo, hi, hS.len, his, hS.cells]
     ·
      rename_i hk0
      split at h <;> first | cases h | skip
      rename_i hbig
      split at h <;> first | cases h | skip
      rename_i hbig2
      subst his; subst hib
      have hold : (Builtin.firstCells i.size 0 (.slice none 0 0)).run P w.drew = .ok (([] : List Value)).toArray w.drew := run_firstCells_none w.drew i.size 0 0 0
      have hrun := run_append_grow_src (P := P) w t tx ty e i z hut hi hiz none 0 0 [] hold x' k news' hS (by omega) (by omega) (growslice_fits (by omega) (by rw [Nat.zero_add]; exact hbig))
      have hge := grownCap_ge w (0 + k) 0 e
      have hg : kX w (w.drew.alloc (.cells (([] ++ news').toArray ++ Builtin.zeroCells z.cells (grownCap w (0 + k) 0 e - (0 + k))) e)) (.cells (news' ++ (Builtin.zeroCells z.cells (grownCap w (0 + k) 0 e - (0 + k))).toList).toArray e (0, 0)) := by
       have hc : (([] ++ news').toArray ++ Builtin.zeroCells z.cells (grownCap w (0 + k) 0 e - (0 + k))) = (news' ++ (Builtin.zeroCells z.cells (grownCap w (0 + k) 0 e - (0 + k))).toList).toArray := by
        apply Array.ext'; simp
       rw [hc]
       exact kX.da w _
      obtain ⟨L, l1, l2, l3, l4, hrel⟩ := hr.new (esz := i.size) hln hg (.inl rfl)
      refine ⟨_, _, m.add H.next L, hrun, ?_, Mp.kD (hr.fresh _ (Nat.le_refl _)), hrel⟩
      have hlim : L.lim = grownCap w (0 + k) 0 e * i.size := by
       have hzl : (Builtin.zeroCells z.cells (grownCap w (0 + k) 0 e - (0 + k))).toList.length = (grownCap w (0 + k) 0 e - (0 + k)) * z.cells.size := by rw [Array.length_toList, size_zeroCells]
       rw [l3, hzl, hzs, hnl, ← Nat.add_mul]
       congr 1; omega
      have := VR.Zu (n := k) (c := grownCap w (0 + k) 0 e) (Mp.add_same m H.next L) l2 (by omega) (by rw [l4, hlim]; exact Nat.le_refl _)
      rw [l1] at this
      rw [show 0 + k = k by omega] at this ⊢
      exact this
    ·
     rename_i r o n c
     split at h
     ·
      rename_i cs own esz hg
      split at h <;> first | cases h | skip
      rename_i hes
      split at h <;> first | cases h | skip
      rename_i hle
      split at h <;> first | cases h | skip
      rename_i hbig
      split at h <;> first | cases h | skip
      rename_i hbig2
      split at h <;> first | cases h | skip
      rename_i hone
      split at h <;> first | cases h | skip
      rename_i G anc hap
      subst esz
      obtain ⟨anc0, rfl, hX⟩ := YX hap
      have hsv : ∃ L, m r = some L ∧ ((∃ c', s' = .slice (some ⟨L.blk, L.shift + o, none⟩) n c' ∧ n ≤ c' ∧ L.shift + o + c' * L.esz ≤ L.lim) ∨ (n = 0 ∧ ∃ a, s' = .slice (some a) 0 0 ∧ L.shift + o ≤ L.lim ∧ a.block = L.blk)) := by
       cases hs with
       | slice hm h1 h2 => exact ⟨_, hm, .inl ⟨_, rfl, h1, h2⟩⟩
       | slice0 hm h1 ha => exact ⟨_, hm, .inr ⟨rfl, _, rfl, h1, ha⟩⟩
      obtain ⟨L, hm, hsv⟩ := hsv
      have hL : L.esz = size := (hr.obj r L _ hm hg).1
      obtain ⟨olds', hlo, hra⟩ := hr.range hm hg hle
      have hol : olds'.length = n * size := by rw [← hlo.1]; simp; omega
      subst his; subst hib
      have grow : ∀ (base : Option Addr) (cap : Nat), (Builtin.firstCells i.size n (.slice base n cap)).run P w.drew = .ok olds'.toArray w.drew → cap < n + k →
        (Builtin.append_ #[t, tx] ty #[.slice base n cap, x']).run P w = .ok (.slice (some ⟨w.heap.size, 0, none⟩) (n + k) (grownCap w (n + k) cap e)) (w.drew.alloc (.cells ((olds' ++ news').toArray ++ Builtin.zeroCells z.cells (grownCap w (n + k) cap e - (n + k))) e)) :=
       fun base cap hold hcap => run_append_grow_src (P := P) w t tx ty e i z hut hi hiz base n cap olds' hold x' k news' hS hcap (by omega) (growslice_fits hcap hbig)
      have growSim : ∀ (base : Option Addr) (cap : Nat), (Builtin.firstCells i.size n (.slice base n cap)).run P w.drew = .ok olds'.toArray w.drew → cap < n + k → s' = .slice base n cap →
        Sim P B w0 m (G.push (.cells ((cs.drop o).take (n * i.size) ++ news) (.own anc) i.size)) w (Builtin.append_ #[t, tx] ty #[s', x']) (.slice (some ⟨H.next, 0, none⟩) (n + k) (n + k)) := by
       intro base cap hold hcap hs'
       subst hs'
       have hge := grownCap_ge w (n + k) cap e
       have hg1 : kX w (w.drew.alloc (.cells ((olds' ++ news').toArray ++ Builtin.zeroCells z.cells (grownCap w (n + k) cap e - (n + k))) e)) (.cells ((olds' ++ news') ++ (Builtin.zeroCells z.cells (grownCap w (n + k) cap e - (n + k))).toList).toArray e (0, 0)) := by
        have hc : ((olds' ++ news').toArray ++ Builtin.zeroCells z.cells (grownCap w (n + k) cap e - (n + k))) = ((olds' ++ news') ++ (Builtin.zeroCells z.cells (grownCap w (n + k) cap e - (n + k))).toList).toArray := by
         apply Array.ext'; simp
        rw [hc]
        exact kX.da w _
       obtain ⟨L2, l1, l2, l3, l4, hrel⟩ := (hr.leave hg hX).new (own := .own anc) (esz := i.size) (hlo.append hln) hg1 (.inl rfl)
       rw [hX.next] at hrel
       refine ⟨_, _, m.add H.next L2, grow base cap hold hcap, ?_, Mp.kD (hr.fresh _ (Nat.le_refl _)), hrel⟩
       have hlim : L2.lim = grownCap w (n + k) cap e * i.size := by
        have hzl : (Builtin.zeroCells z.cells (grownCap w (n + k) cap e - (n + k))).toList.length = (grownCap w (n + k) cap e - (n + k)) * z.cells.size := by rw [Array.length_toList, size_zeroCells]
        rw [l3, hzl, hzs, List.length_append, hol, hnl, ← Nat.add_mul, ← Nat.add_mul]
        congr 1; omega
       have := VR.Zu (n := n + k) (c := grownCap w (n + k) cap e) (Mp.add_same m H.next L2) l2 (by omega) (by rw [l4, hlim]; exact Nat.le_refl _)
       rw [l1] at this
       exact this
      rcases hsv with ⟨c', hs', h1, h2⟩ | ⟨hn0, a, hs', h1, hab⟩
      ·
       by_cases hroom : n + k ≤ c'
       ·
        have hmul : (n + k) * i.size ≤ c' * i.size := Nat.mul_le_mul_right _ hroom
        rw [Nat.add_mul] at hmul
        rw [hL] at h2
        obtain ⟨ht, hrel⟩ := hr.moved (o := o) (n := n * i.size) hm hg hX hle hln (by have := hln.1; omega)
        have hrun := run_append_room_src (P := P) w t tx ty e i hut hi L.blk (L.shift + o) n c' x' k news' hS hroom (fun j hj => (ht j hj).1) (fun j hj => (ht j hj).2)
        subst hs'
        refine ⟨_, _, _, hrun, ?_, Mp.kD (hr.fresh _ (Nat.le_refl _)), hrel⟩
        have := VR.slice (o := 0) (n := n + k) (c := c') (Mp.add_same m H.next ⟨L.blk, L.shift + o, L.lim, i.size⟩) hroom (by dsimp only; omega)
        exact this
       ·
        exact growSim _ c' (by rw [← hs'] ; subst hs'; exact Y9 hol hra) (by omega) hs'
      ·
       subst hn0
       by_cases hk0 : k = 0
       ·
        subst hk0
        have hnil : news' = [] := by
         have := hS.newsLen; simp at this; exact this
        have hnil2 : news = [] := by
         have := hln.1; rw [hnil] at this; simpa using this
        subst hnil; subst hnil2
        rw [Nat.zero_mul] at hX
        obtain ⟨ht, hrel⟩ := hr.moved (o := o) (n := 0) (news := []) (news' := []) hm hg hX (by omega) LR.nil (by simpa using h1)
        subst hs'
        refine ⟨.slice (some a) 0 0, w, _, ?_, ?_, Mp.kD (hr.fresh _ (Nat.le_refl _)), by simpa [World.setCells] using hrel⟩
        ·
         have hst : (storeCells (a.add 0) []).run P w = .ok () w := rfl
         rcases hS.kind with ⟨e', hk⟩ | hk <;>
          simp [Builtin.append_, run_underlying hut, run_underlying hk, sizeOf, typeInfo, hi, hS.len, hS.cells, hst]
        ·
         exact .slice0 (Mp.add_same m H.next ⟨L.blk, L.shift + o, L.lim, i.size⟩) (by dsimp only; omega) hab
       ·
        have hnil : olds' = [] := by simpa using hol
        refine growSim (some a) 0 ?_ (by omega) hs'
        rw [hnil]
        have := run_firstCells_some (P := P) w.drew i.size 0 a 0 0 [] (by simp) (fun j u hj => by simp at hj)
        exact this
     ·
      cases h
    ·
     cases h
   ·
    cases h
  ·
   cases h
 ·
  cases h
theorem ade {t tx ty : TypeId} {d d' s s' v : Value} (hr : Rel B w0 m H w) (h : WC P t tx d s H = some (v, H')) (hd : VR m d d') (hs : VR m s s') :
  Sim P B w0 m H' w (Builtin.copy_ #[t, tx] ty #[d', s']) v := by
 unfold WC at h
 split at h
 ·
  rename_i e he
  have hut := qj he
  split at h
  ·
   rename_i size hsz
   split at h
   ·
    rename_i dd dn dc ss sn sc
    obtain ⟨da', dc', rfl⟩ := hd.slice'
    obtain ⟨sa', sc', rfl⟩ := hs.slice'
    split at h
    ·
     rename_i h0
     cases h
     refine Sim.same hr (v' := goInt 0) ?_ (.int _ _)
     have hfc : (Builtin.firstCells size 0 (.slice sa' sn sc')).run P w = .ok #[] w := by
      cases sa' with
      | none => rfl
      | some a => simp [Builtin.firstCells, loadCells, loadCellsFrom]
     have hst : ∀ a : Addr, (storeCells a []).run P w = .ok () w := fun a => rfl
     cases da' <;> simp [Builtin.copy_, run_underlying hut, Builtin.lenOf, h0, yg hsz, hfc, hst]
    ·
     rename_i h0
     split at h
     ·
      rename_i r o
      split at h
      ·
       rename_i cs anc esz news hg hc
       split at h <;> first | cases h | skip
       rename_i hle
       split at h <;> first | cases h | skip
       rename_i hone
       have hmin : 0 < Nat.min sn dn := by omega
       have hdpos : dn ≠ 0 := by intro e; rw [e] at hmin; simp at hmin
       obtain ⟨hlen, cs', hl, hh⟩ := hr.cells hc hs (fun hp k a c e => by
        cases e
        by_cases hk : 0 < sn
        ·
         exact hk
        ·
         have : sn = 0 := by omega
         rw [this] at hmin; simp at hmin)
       cases hd with
       | @slice _ _ L _ c hm h1 h2 =>
        obtain ⟨ht, hrel⟩ := hr.store (o := o) hm hg hl (by omega)
        have hone' := ZV hl hone
        have hst := run_storeCells_cells (P := P) L.blk (L.shift + o) cs' 0 w (fun j hj => by simpa using (ht j hj).1) (fun j hj => by simpa using (ht j hj).2) hone'
        simp only [Nat.add_zero] at hst
        refine ⟨goInt (Nat.min sn dn), _, m, ?_, .int _ _, Mp.le_refl m, hrel⟩
        have hlen' : cs'.length = Nat.min sn dn * size := by rw [← hl.1]; exact hlen
        rcases hh with ⟨ad, k, c2, hsv, hcell⟩ | ⟨hsv, rfl⟩
        ·
         cases hsv
         have hload := run_loadCells_list (P := P) w ad cs' hcell
         rw [hlen'] at hload
         simp [Builtin.copy_, run_underlying hut, Builtin.lenOf, yg hsz, Builtin.firstCells, hload, hst]
        ·
         cases hsv
         simp at hmin
       | slice0 hm h1 ha => omega
      ·
       cases h
     ·
      cases h
   ·
    cases h
  ·
   cases h
 ·
  cases h
theorem afa (z : Array Value) (n : Nat) (h0 : 0 < z.size) : (Builtin.zeroCells z n).toList = zl z.toList n := by
 apply List.ext_getElem?
 intro i
 unfold Builtin.zeroCells zl
 simp only [Array.toList_map, Array.toList_range, List.getElem?_map, Array.length_toList]
 by_cases hi : i < n * z.size
 ·
  rw [List.getElem?_range hi]
  have hlt : i % z.size < z.size := Nat.mod_lt _ h0
  simp [getElem!_def, hlt]
 ·
  rw [List.getElem?_eq_none (by simp; omega)]
  rfl
theorem abW {t ty : TypeId} {x x' v : Value} (hr : Rel B w0 m H w) (h : xC P t x H = some (v, H')) (hx : VR m x x') :
  Sim P B w0 m H' w (Builtin.clear_ #[t] ty #[x']) v := by
 unfold xC at h
 split at h
 ·
  rename_i e n c he
  cases h
  cases hx
  refine Sim.same hr (v' := .tuple #[]) ?_ .nores
  simp [Builtin.clear_, run_underlying (qj he)]
 ·
  rename_i e r o n c he
  have hut := qj he
  split at h
  ·
   rename_i h0
   cases h
   subst h0
   obtain ⟨a', c', rfl⟩ := hx.slice'
   refine Sim.same hr (v' := .tuple #[]) ?_ .nores
   cases a' <;> simp [Builtin.clear_, run_underlying hut]
  ·
   rename_i h0
   split at h
   ·
    rename_i size z cs anc esz hsz hz hg
    split at h <;> first | cases h | skip
    rename_i hgz
    split at h <;> first | cases h | skip
    rename_i hzs
    split at h <;> first | cases h | skip
    rename_i hone
    split at h <;> first | cases h | skip
    rename_i hpos
    split at h <;> first | cases h | skip
    rename_i hle
    have hzpos : 0 < z.cells.toList.length := by simpa [hzs] using hpos
    have hll : (zl z.cells.toList n).length = n * size := by rw [QD]; simp [hzs]
    have hl : LR m (zl z.cells.toList n) (zl z.cells.toList n) := LR.kQ (aay (wP hgz) (.inr hzpos) n)
    cases hx with
    | @slice _ _ L _ c hm h1 h2 =>
     obtain ⟨ht, hrel⟩ := hr.store (o := o) hm hg hl (by omega)
     have hone' := ZV hl (aay hone (.inr hzpos) n)
     have hst := run_storeCells_cells (P := P) L.blk (L.shift + o) (zl z.cells.toList n) 0 w (fun j hj => by simpa using (ht j hj).1) (fun j hj => by simpa using (ht j hj).2) hone'
     simp only [Nat.add_zero] at hst
     refine ⟨.tuple #[], _, m, ?_, .nores, Mp.le_refl m, hrel⟩
     obtain ⟨n', rfl⟩ : ∃ n', n = n' + 1 := ⟨n - 1, by omega⟩
     simp [Builtin.clear_, run_underlying hut, ku hz, afa z.cells _ (by omega), hst]
    | slice0 hm h1 ha => omega
   ·
    cases h
 ·
  cases h
theorem aeU {t ty : TypeId} {x x' v : Value} (hr : Rel B w0 m H w) (h : QI P t x H = some (v, H')) (hx : VR m x x') :
  Sim P B w0 m H' w (Builtin.len_ #[t] ty #[x']) v := by
 unfold QI at h
 split at h
 ·
  rename_i s hu
  cases h; cases hx
  exact Sim.same hr (v' := goInt s.size) (by simp [Builtin.len_, run_underlying hu]) (.int _ _)
 ·
  rename_i n e hu
  cases h
  exact Sim.same hr (v' := goInt n) (by simp [Builtin.len_, run_underlying hu]) (.int _ _)
 ·
  rename_i e a n c hu
  cases h
  obtain ⟨a', c', rfl⟩ := hx.slice'
  exact Sim.same hr (v' := goInt n) (by simp [Builtin.len_, run_underlying hu]) (.int _ _)
 ·
  rename_i k e hu
  cases h; cases hx
  exact Sim.same hr (v' := goInt 0) (by simp [Builtin.len_, run_underlying hu]) (.int _ _)
 ·
  rename_i k e r hu
  split at h
  ·
   rename_i es c hg
   cases h
   cases hx with
   | @map _ L hm =>
    obtain ⟨es', h1, h2⟩ := hr.map hm hg
    refine Sim.same hr (v' := goInt es'.size) (by simp [Builtin.len_, run_underlying hu, vF h1]) ?_
    have := h2.1
    simp only [Array.length_toList] at this
    rw [this]
    exact .int _ _
  ·
   cases h
 ·
  cases h
theorem YJ {α : Type} {x : Array α} {a b : α} (h : x.toList = [a, b]) : x = #[a, b] := by
 apply Array.ext'; rw [h]
theorem YA {α : Type} {x : Array α} {a : α} (h : x.toList = [a]) : x = #[a] := by
 apply Array.ext'; rw [h]
theorem LR.two {a b : Value} {l : List Value} (h : LR m [a, b] l) : ∃ a' b', l = [a', b'] ∧ VR m a a' ∧ VR m b b' := by
 have hl := h.1
 match l, hl with
 | [x, y], _ => exact ⟨x, y, rfl, h.head, h.tail.head⟩
theorem LR.one {a : Value} {l : List Value} (h : LR m [a] l) : ∃ a', l = [a'] ∧ VR m a a' := by
 have hl := h.1
 match l, hl with
 | [x], _ => exact ⟨x, rfl, h.head⟩
end
end Go.Abs
