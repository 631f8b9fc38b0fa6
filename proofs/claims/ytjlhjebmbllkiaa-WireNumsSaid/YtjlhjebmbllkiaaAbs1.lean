/-
The abstract heap of the interpreter, values' relation to the model's own values, and the relation of an abstract heap to a world.
-/
import Derived.Calls
import Derived.Orders
import Derived.Deep.LoopGhost
import Derived.Below
import Derived.KernelRfl
set_option linter.unusedVariables false
set_option linter.unusedSimpArgs false
namespace Go.Abs
open Go.RowKit

/-- An object of the abstract heap: cells (its own, or read only; the cells of an element), a map, or one that is no more. -/
inductive AObj where
  | cells (cs : List Value) (own : Bool) (esz : Nat)
  | map (es : List MapEntry) (clock : Nat)
  | dead
  deriving Inhabited

def AObj.owns : AObj → Bool
  | .cells _ own _ => own
  | .map _ _ => true
  | .dead => false
def AObj.alive : AObj → Bool
  | .dead => false
  | _ => true

inductive Trie where
  | leaf
  | node (v : Option AObj) (l r : Trie)
  deriving Inhabited

def Trie.get : Trie → Nat → Option AObj
  | .leaf, _ => none
  | .node v l r, n => if n = 0 then v else if n % 2 = 1 then l.get (n / 2) else r.get (n / 2 - 1)

def Trie.val : Trie → Option AObj
  | .leaf => none
  | .node v _ _ => v
def Trie.left : Trie → Trie
  | .leaf => .leaf
  | .node _ l _ => l
def Trie.right : Trie → Trie
  | .leaf => .leaf
  | .node _ _ r => r

def Trie.setF : Nat → Trie → Nat → AObj → Trie
  | 0, t, _, _ => t
  | f + 1, t, n, o =>
    if n = 0 then .node (some o) t.left t.right
    else if n % 2 = 1 then .node t.val (t.left.setF f (n / 2) o) t.right
    else .node t.val t.left (t.right.setF f (n / 2 - 1) o)
def Trie.set (t : Trie) (n : Nat) (o : AObj) : Trie := t.setF (n + 1) n o

theorem Trie.get_zero (t : Trie) : t.get 0 = t.val := by cases t <;> simp [Trie.get, Trie.val]
theorem Trie.get_odd (t : Trie) (n : Nat) (h : n % 2 = 1) : t.get n = t.left.get (n / 2) := by
  cases t with
  | leaf => simp [Trie.get, Trie.left]
  | node v l r => have : n ≠ 0 := by omega
                  simp [Trie.get, Trie.left, this, h]
theorem Trie.get_even (t : Trie) (n : Nat) (h : n % 2 = 0) (h0 : n ≠ 0) : t.get n = t.right.get (n / 2 - 1) := by
  cases t with
  | leaf => simp [Trie.get, Trie.right]
  | node v l r => have h1 : ¬ n % 2 = 1 := by omega
                  simp [Trie.get, Trie.right, h0, h1]

theorem Trie.get_setF (f : Nat) : ∀ (t : Trie) (n k : Nat) (o : AObj), n < f → (t.setF f n o).get k = if k = n then some o else t.get k := by
  induction f with
  | zero => intro t n k o h; omega
  | succ f ih =>
    intro t n k o h
    rw [Trie.setF]
    by_cases hn : n = 0
    · subst hn
      rw [if_pos rfl]
      by_cases hk : k = 0
      · subst hk; rw [Trie.get_zero]; simp [Trie.val]
      · rw [if_neg hk]
        by_cases ho : k % 2 = 1
        · rw [Trie.get_odd _ _ ho, Trie.get_odd _ _ ho]; simp [Trie.left]
        · rw [Trie.get_even _ _ (by omega) hk, Trie.get_even _ _ (by omega) hk]; simp [Trie.right]
    · rw [if_neg hn]
      by_cases hn2 : n % 2 = 1
      · rw [if_pos hn2]
        by_cases hk : k = 0
        · subst hk; rw [Trie.get_zero, Trie.get_zero, if_neg (by omega)]; simp [Trie.val]
        · by_cases ho : k % 2 = 1
          · rw [Trie.get_odd _ _ ho, Trie.get_odd _ _ ho]
            simp only [Trie.left]
            rw [ih _ _ _ _ (by omega)]
            by_cases e : k = n
            · subst e; simp
            · rw [if_neg e, if_neg (by omega)]
          · rw [Trie.get_even _ _ (by omega) hk, Trie.get_even _ _ (by omega) hk, if_neg (by omega)]; simp [Trie.right]
      · rw [if_neg hn2]
        by_cases hk : k = 0
        · subst hk; rw [Trie.get_zero, Trie.get_zero, if_neg (by omega)]; simp [Trie.val]
        · by_cases ho : k % 2 = 1
          · rw [Trie.get_odd _ _ ho, Trie.get_odd _ _ ho, if_neg (by omega)]; simp [Trie.left]
          · rw [Trie.get_even _ _ (by omega) hk, Trie.get_even _ _ (by omega) hk]
            simp only [Trie.right]
            rw [ih _ _ _ _ (by omega)]
            by_cases e : k = n
            · subst e; simp
            · rw [if_neg e, if_neg (by omega)]
theorem Trie.get_set (t : Trie) (n k : Nat) (o : AObj) : (t.set n o).get k = if k = n then some o else t.get k :=
  Trie.get_setF _ t n k o (by omega)

/-- The abstract heap: objects by number; the next number. -/
structure AHeap where
  next : Nat
  tr : Trie
  deriving Inhabited
def AHeap.get (H : AHeap) (r : Nat) : Option AObj := H.tr.get r
def AHeap.set (H : AHeap) (r : Nat) (o : AObj) : AHeap := { H with tr := H.tr.set r o }
def AHeap.push (H : AHeap) (o : AObj) : AHeap := { next := H.next + 1, tr := H.tr.set H.next o }
def AHeap.empty : AHeap := { next := 0, tr := .leaf }
theorem AHeap.get_set (H : AHeap) (r k : Nat) (o : AObj) : (H.set r o).get k = if k = r then some o else H.get k := Trie.get_set ..
theorem AHeap.get_push (H : AHeap) (k : Nat) (o : AObj) : (H.push o).get k = if k = H.next then some o else H.get k := Trie.get_set ..
@[simp] theorem AHeap.next_set (H : AHeap) (r : Nat) (o : AObj) : (H.set r o).next = H.next := rfl
@[simp] theorem AHeap.next_push (H : AHeap) (o : AObj) : (H.push o).next = H.next + 1 := rfl

/-- Where an abstract object lies: the block, its first cell there, the end of what is its own, the cells of an element. -/
structure Loc where
  blk : Nat
  shift : Nat
  lim : Nat
  esz : Nat

abbrev Mp := Nat → Option Loc

/-- An abstract value (block numbers are numbers of abstract objects) and the model's value. -/
inductive VR (m : Mp) : Value → Value → Prop
  | bool (b) : VR m (.bool b) (.bool b)
  | int (k n) : VR m (.int k n) (.int k n)
  | string (s) : VR m (.string s) (.string s)
  | ptrNil : VR m (.pointer none) (.pointer none)
  | ptr {r o L} (h : m r = some L) : VR m (.pointer (some ⟨r, o, none⟩)) (.pointer (some ⟨L.blk, L.shift + o, none⟩))
  | sliceNil : VR m (.slice none 0 0) (.slice none 0 0)
  | slice {r o L n c} (h : m r = some L) (hn : n ≤ c) (hl : L.shift + o + c * L.esz ≤ L.lim) :
      VR m (.slice (some ⟨r, o, none⟩) n n) (.slice (some ⟨L.blk, L.shift + o, none⟩) n c)
  | slice0 {r o L} {a : Addr} (h : m r = some L) (hl : L.shift + o ≤ L.lim) (ha : a.block = L.blk) : VR m (.slice (some ⟨r, o, none⟩) 0 0) (.slice (some a) 0 0)
  | sliceE (a : Addr) (c : Nat) : VR m (.slice (some ⟨0, 0, some 0⟩) 0 0) (.slice (some a) 0 c)
  | mapNil : VR m (.map none) (.map none)
  | map {r L} (h : m r = some L) : VR m (.map (some r)) (.map (some L.blk))
  | nilFunc : VR m .nilFunc .nilFunc
  | func (fn) {x x' c c' : Array Value} (hx : x.size = x'.size) (hc : c.size = c'.size)
      (hx' : ∀ i : Nat, VR m (x.getD i undef) (x'.getD i undef)) (hc' : ∀ i : Nat, VR m (c.getD i undef) (c'.getD i undef)) : VR m (.func fn x c) (.func fn x' c')
  | nilIface : VR m .nilIface .nilIface
  | iface (t) {v v'} (h : VR m v v') : VR m (.iface t v) (.iface t v')
  | agg {x x' : Array Value} (hx : x.size = x'.size) (h : ∀ i : Nat, VR m (x.getD i undef) (x'.getD i undef)) : VR m (.agg x) (.agg x')
  | nores : VR m (.tuple #[]) (.tuple #[])
  | tuple {x x' : Array Value} (hx : x.size = x'.size) (h : ∀ i : Nat, VR m (x.getD i undef) (x'.getD i undef)) : VR m (.tuple x) (.tuple x')

/-- One mapping goes on with another. -/
def Mp.le (m m' : Mp) : Prop := ∀ r L, m r = some L → m' r = some L
theorem Mp.le_refl (m : Mp) : m.le m := fun _ _ h => h
theorem Mp.le_trans {a b c : Mp} (h : a.le b) (k : b.le c) : a.le c := fun r L e => k r L (h r L e)

theorem VR.mono {m m' : Mp} (hm : m.le m') {a c : Value} (h : VR m a c) : VR m' a c := by
  induction h with
  | bool b => exact .bool b
  | int k n => exact .int k n
  | string s => exact .string s
  | ptrNil => exact .ptrNil
  | ptr h => exact .ptr (hm _ _ h)
  | sliceNil => exact .sliceNil
  | slice h hn hl => exact .slice (hm _ _ h) hn hl
  | slice0 h hl ha => exact .slice0 (hm _ _ h) hl ha
  | sliceE a c => exact .sliceE a c
  | mapNil => exact .mapNil
  | map h => exact .map (hm _ _ h)
  | nilFunc => exact .nilFunc
  | func fn hx hc _ _ ihx ihc => exact .func fn hx hc ihx ihc
  | nilIface => exact .nilIface
  | iface t _ ih => exact .iface t ih
  | agg hx _ ih => exact .agg hx ih
  | nores => exact .nores
  | tuple hx _ ih => exact .tuple hx ih

theorem VR.undef {m : Mp} : VR m Go.undef Go.undef := .nores

/-- Rows of values. -/
def AR (m : Mp) (x x' : Array Value) : Prop := x.size = x'.size ∧ ∀ i : Nat, VR m (x.getD i undef) (x'.getD i undef)
theorem AR.mono {m m' : Mp} (hm : m.le m') {x x' : Array Value} (h : AR m x x') : AR m' x x' := ⟨h.1, fun i => (h.2 i).mono hm⟩
theorem AR.empty {m : Mp} : AR m #[] #[] := ⟨rfl, fun _ => by simpa using VR.undef⟩

def LR (m : Mp) (l : List Value) (l' : List Value) : Prop := l.length = l'.length ∧ ∀ i : Nat, VR m (l.getD i undef) (l'.getD i undef)
theorem LR.nil {m : Mp} : LR m [] [] := ⟨rfl, fun _ => by simpa using VR.undef⟩
theorem LR.cons {m : Mp} {v v' : Value} {l l' : List Value} (h : VR m v v') (k : LR m l l') : LR m (v :: l) (v' :: l') :=
  ⟨by simp [k.1], fun i => by cases i with
    | zero => simpa using h
    | succ i => simpa using k.2 i⟩
theorem LR.head {m : Mp} {v v' : Value} {l l' : List Value} (k : LR m (v :: l) (v' :: l')) : VR m v v' := by simpa using k.2 0
theorem LR.tail {m : Mp} {v v' : Value} {l l' : List Value} (k : LR m (v :: l) (v' :: l')) : LR m l l' :=
  ⟨by have := k.1; simpa using this, fun i => by simpa using k.2 (i + 1)⟩
theorem LR.mono {m m' : Mp} (hm : m.le m') {x x' : List Value} (h : LR m x x') : LR m' x x' := ⟨h.1, fun i => (h.2 i).mono hm⟩
theorem LR.get {m : Mp} {l l' : List Value} (h : LR m l l') {i : Nat} {v : Value} (hv : l[i]? = some v) : ∃ v', l'[i]? = some v' ∧ VR m v v' := by
  obtain ⟨hi, rfl⟩ := List.getElem?_eq_some_iff.1 hv
  have hi' : i < l'.length := h.1 ▸ hi
  refine ⟨l'[i], by simp [hi'], ?_⟩
  have := h.2 i
  simpa [List.getD_eq_getElem?_getD, hi, hi'] using this
theorem LR.append {m : Mp} {l l' k k' : List Value} (h : LR m l l') (h2 : LR m k k') : LR m (l ++ k) (l' ++ k') := by
  refine ⟨by simp [h.1, h2.1], fun i => ?_⟩
  by_cases hi : i < l.length
  · have hi' : i < l'.length := h.1 ▸ hi
    have := h.2 i
    simpa [List.getD_eq_getElem?_getD, List.getElem?_append, hi, hi'] using this
  · have hi' : ¬ i < l'.length := h.1 ▸ hi
    have := h2.2 (i - l.length)
    have e := h.1
    simpa [List.getD_eq_getElem?_getD, List.getElem?_append, hi, hi', e] using this
theorem LR.drop {m : Mp} {l l' : List Value} (h : LR m l l') (n : Nat) : LR m (l.drop n) (l'.drop n) :=
  ⟨by simp [h.1], fun i => by simpa [List.getD_eq_getElem?_getD, List.getElem?_drop] using h.2 (n + i)⟩
theorem LR.take {m : Mp} {l l' : List Value} (h : LR m l l') (n : Nat) : LR m (l.take n) (l'.take n) := by
  refine ⟨by simp [h.1], fun i => ?_⟩
  by_cases hi : i < n
  · simpa [List.getD_eq_getElem?_getD, List.getElem?_take, hi] using h.2 i
  · simpa [List.getD_eq_getElem?_getD, List.getElem?_take, hi] using VR.undef
theorem LR.set {m : Mp} {l l' : List Value} (h : LR m l l') (n : Nat) {v v' : Value} (hv : VR m v v') : LR m (l.set n v) (l'.set n v') := by
  refine ⟨by simp [h.1], fun i => ?_⟩
  have e := h.1
  have hh := h.2 i
  simp only [List.getD_eq_getElem?_getD, List.getElem?_set] at hh ⊢
  by_cases hi : n = i
  · subst hi
    by_cases hl : n < l.length
    · simpa [hl, ← e] using hv
    · simpa [hl, ← e] using VR.undef
  · simpa [hi] using hh
theorem AR.toList {m : Mp} {x x' : Array Value} (h : AR m x x') : LR m x.toList x'.toList :=
  ⟨by simpa using h.1, fun i => by simpa [List.getD_eq_getElem?_getD, Array.getD_eq_getD_getElem?] using h.2 i⟩
theorem LR.toArray {m : Mp} {x x' : List Value} (h : LR m x x') : AR m x.toArray x'.toArray :=
  ⟨by simpa using h.1, fun i => by simpa [List.getD_eq_getElem?_getD, Array.getD_eq_getD_getElem?] using h.2 i⟩
theorem AR.iff {m : Mp} {x x' : Array Value} : AR m x x' ↔ LR m x.toList x'.toList :=
  ⟨AR.toList, fun h => by simpa using h.toArray⟩

/-- The cells of a value. -/
theorem VR.cells {m : Mp} {a c : Value} (h : VR m a c) : AR m a.cells c.cells := by
  have one : ∀ {a c : Value}, VR m a c → AR m #[a] #[c] := fun h => ⟨rfl, fun i => by
    match i with
    | 0 => simpa using h
    | i + 1 => simpa using VR.undef⟩
  cases h with
  | agg hx h => exact ⟨hx, h⟩
  | bool b => exact one (.bool b)
  | int k n => exact one (.int k n)
  | string s => exact one (.string s)
  | ptrNil => exact one .ptrNil
  | ptr h => exact one (.ptr h)
  | sliceNil => exact one .sliceNil
  | slice h hn hl => exact one (.slice h hn hl)
  | slice0 h hl ha => exact one (.slice0 h hl ha)
  | sliceE a c => exact one (.sliceE a c)
  | mapNil => exact one .mapNil
  | map h => exact one (.map h)
  | nilFunc => exact one .nilFunc
  | func fn hx hc h1 h2 => exact one (.func fn hx hc h1 h2)
  | nilIface => exact one .nilIface
  | iface t h => exact one (.iface t h)
  | nores => exact one .nores
  | tuple hx h => exact one (.tuple hx h)

/-- Entries of a map. -/
def ER (m : Mp) (e e' : MapEntry) : Prop := e'.key = e.key ∧ e'.born = e.born ∧ VR m e.val e'.val

/-- An abstract object and what lies in the world at its place. -/
def ORel (m : Mp) (w : World) (L : Loc) : AObj → Prop
  | .cells cs own esz => L.esz = esz ∧ ∃ cc e fr, w.heap[L.blk]? = some (.cells cc e fr) ∧ L.shift + cs.length ≤ L.lim ∧ L.lim ≤ cc.size ∧
      (∀ (j : Nat) (v : Value), cs[j]? = some v → ∃ v', cc[L.shift + j]? = some v' ∧ VR m v v') ∧
      (own = true → fr.1 = fr.2 ∨ cc.size ≤ fr.1)
  | .map es clock => L.shift = 0 ∧ L.lim = 1 ∧ ∃ es' : Array MapEntry, w.heap[L.blk]? = some (.map es' clock) ∧ es.length = es'.size ∧
      ∀ (i : Nat) (e : MapEntry), es[i]? = some e → ∃ e', es'[i]? = some e' ∧ ER m e e'
  | .dead => True

structure Rel (B : Nat) (w0 : World) (m : Mp) (H : AHeap) (w : World) : Prop where
  below : Below B w0 w
  base : B ≤ w.heap.size
  obj : ∀ r L o, m r = some L → H.get r = some o → ORel m w L o
  lt : ∀ r L, m r = some L → L.blk < w.heap.size
  own : ∀ r L o, m r = some L → H.get r = some o → o.owns = true → B ≤ L.blk
  apart : ∀ r r' L L' o o', r ≠ r' → m r = some L → m r' = some L' → H.get r = some o → H.get r' = some o' → o.owns = true →
    o'.alive = true → L.blk = L'.blk → L.lim ≤ L'.shift ∨ L'.lim ≤ L.shift
  fresh : ∀ r, H.next ≤ r → m r = none

theorem ORel.mono {m m' : Mp} (hm : m.le m') {w : World} {L : Loc} {o : AObj} (h : ORel m w L o) : ORel m' w L o := by
  cases o with
  | cells cs own esz =>
    obtain ⟨h0, cc, e, fr, h1, h2, h3, h4, h5⟩ := h
    exact ⟨h0, cc, e, fr, h1, h2, h3, fun j v hj => let ⟨v', a, b⟩ := h4 j v hj; ⟨v', a, b.mono hm⟩, h5⟩
  | map es clock =>
    obtain ⟨h0, h1, es', h2, h3, h4⟩ := h
    exact ⟨h0, h1, es', h2, h3, fun i e he => let ⟨e', a, b, c, d⟩ := h4 i e he; ⟨e', a, b, c, d.mono hm⟩⟩
  | dead => exact True.intro

theorem ORel.draw {m : Mp} {w : World} {L : Loc} {o : AObj} (h : ORel m w L o) (n : Nat) : ORel m { w with drawn := n } L o := by
  cases o with
  | cells cs own esz => exact h
  | map es clock => exact h
  | dead => exact True.intro
/-- A draw turns nothing. -/
theorem Rel.draw {B : Nat} {w0 : World} {m : Mp} {H : AHeap} {w : World} (h : Rel B w0 m H w) (n : Nat) : Rel B w0 m H { w with drawn := n } :=
  ⟨⟨h.below.os, h.below.tape, h.below.output, h.below.size, h.below.block⟩, h.base, fun r L o hm hg => (h.obj r L o hm hg).draw n, h.lt, h.own, h.apart, h.fresh⟩

/-- A new object in a new block. -/
def Mp.add (m : Mp) (r : Nat) (L : Loc) : Mp := fun k => if k = r then some L else m k
theorem Mp.add_same (m : Mp) (r : Nat) (L : Loc) : m.add r L r = some L := by simp [Mp.add]
theorem Mp.add_other {m : Mp} {r k : Nat} {L : Loc} (h : k ≠ r) : m.add r L k = m k := by simp [Mp.add, h]
theorem Mp.le_add {m : Mp} {r : Nat} {L : Loc} (h : m r = none) : m.le (m.add r L) := fun k L' hk => by
  rw [Mp.add_other]
  · exact hk
  · rintro rfl; rw [h] at hk; cases hk

/-- w1 is w with one block more. -/
structure Grows (w w1 : World) (b : Obj) : Prop where
  os : w1.os = w.os
  tape : w1.tape = w.tape
  output : w1.output = w.output
  size : w1.heap.size = w.heap.size + 1
  old : ∀ k, k < w.heap.size → w1.heap[k]? = w.heap[k]?
  new : w1.heap[w.heap.size]? = some b
theorem Grows.push (w : World) (b : Obj) (n : Nat) : Grows w { w with heap := w.heap.push b, drawn := n } b :=
  ⟨rfl, rfl, rfl, by simp, fun k hk => by show (w.heap.push b)[k]? = _; rw [Array.getElem?_push, if_neg (by omega)], by simp⟩

theorem Grows.da (w : World) (b : Obj) : Grows w (w.drew.alloc b) b := Grows.push w b (w.drawn + 1)

theorem ORel.grows {m : Mp} {w w1 : World} {L : Loc} {o : AObj} {b : Obj} (h : ORel m w L o) (hl : L.blk < w.heap.size) (hg : Grows w w1 b) : ORel m w1 L o := by
  cases o with
  | cells cs own esz =>
    obtain ⟨h0, cc, e, fr, h1, h2⟩ := h
    exact ⟨h0, cc, e, fr, by rw [hg.old _ hl]; exact h1, h2⟩
  | map es clock =>
    obtain ⟨h0, h1, es', h2, h3⟩ := h
    exact ⟨h0, h1, es', by rw [hg.old _ hl]; exact h2, h3⟩
  | dead => exact True.intro

theorem Rel.push {B : Nat} {w0 : World} {m : Mp} {H : AHeap} {w w1 : World} (h : Rel B w0 m H w) (b : Obj) (o : AObj) (L : Loc) (hb : L.blk = w.heap.size) (hw1 : Grows w w1 b)
    (ho : ORel (m.add H.next L) w1 L o) :
    Rel B w0 (m.add H.next L) (H.push o) w1 := by
  have hle : m.le (m.add H.next L) := Mp.le_add (h.fresh _ (Nat.le_refl _))
  have hsz := hw1.size
  refine ⟨?_, ?_, ?_, ?_, ?_, ?_, ?_⟩
  · refine ⟨hw1.os.trans h.below.os, hw1.tape.trans h.below.tape, hw1.output.trans h.below.output, ?_, fun k hk => ?_⟩
    · have := h.below.size; omega
    · rw [hw1.old _ (by have := h.base; omega)]; exact h.below.block k hk
  · have := h.base; omega
  · intro r L' o' hr hg
    rw [AHeap.get_push] at hg
    by_cases e : r = H.next
    · subst e
      rw [Mp.add_same] at hr
      rw [if_pos rfl] at hg
      cases hr; cases hg
      exact ho
    · rw [Mp.add_other e] at hr
      rw [if_neg e] at hg
      exact ((h.obj r L' o' hr hg).mono hle).grows (h.lt r L' hr) hw1
  · intro r L' hr
    by_cases e : r = H.next
    · subst e; rw [Mp.add_same] at hr; cases hr; omega
    · rw [Mp.add_other e] at hr; have := h.lt r L' hr; omega
  · intro r L' o' hr hg hw
    rw [AHeap.get_push] at hg
    by_cases e : r = H.next
    · subst e; rw [Mp.add_same] at hr; cases hr; have := h.base; omega
    · rw [Mp.add_other e] at hr; rw [if_neg e] at hg; exact h.own r L' o' hr hg hw
  · intro r r' L1 L2 o1 o2 hne h1 h2 g1 g2 hw ha hbk
    rw [AHeap.get_push] at g1 g2
    by_cases e1 : r = H.next
    · subst e1
      have e2 : r' ≠ H.next := fun e => hne e.symm
      rw [Mp.add_same] at h1; cases h1
      rw [Mp.add_other e2] at h2
      have := h.lt r' L2 h2; omega
    · by_cases e2 : r' = H.next
      · subst e2
        rw [Mp.add_same] at h2; cases h2
        rw [Mp.add_other e1] at h1
        have := h.lt r L1 h1; omega
      · rw [Mp.add_other e1] at h1; rw [Mp.add_other e2] at h2; rw [if_neg e1] at g1; rw [if_neg e2] at g2
        exact h.apart r r' L1 L2 o1 o2 hne h1 h2 g1 g2 hw ha hbk
  · intro r hr
    simp only [AHeap.next_push] at hr
    rw [Mp.add_other (by omega)]
    exact h.fresh r (by omega)

end Go.Abs
