/-
Bytes: slices of bytes, strings; whole numbers' wrapping.
-/
import Derived.Test.YtjlhjebmbllkiaaAbs20
set_option linter.unusedVariables false
set_option linter.unusedSimpArgs false
namespace Go.Abs
open Go.RowKit

/-- Bytes as cells. -/
def bc (l : List UInt8) : List Value := l.map fun b => .int .u8 b.toNat
@[simp] theorem bc_length (l : List UInt8) : (bc l).length = l.length := by simp [bc]
@[simp] theorem bc_nil : bc [] = [] := rfl
@[simp] theorem bc_append (a b : List UInt8) : bc (a ++ b) = bc a ++ bc b := by simp [bc]
theorem bc_one (l : List UInt8) : (bc l).all (·.oneCell') = true := by
  simp [bc, List.all_eq_true, Value.oneCell']
/-- A slice of bytes. -/
def Sb (H : AHeap) (l : List UInt8) (v : Value) : Prop := Sl H 1 l.length (bc l) v
def Sob (b : Nat) (H : AHeap) (l : List UInt8) (v : Value) : Prop := So b H 1 l.length (bc l) v
theorem Sob.sb {b : Nat} {H : AHeap} {l : List UInt8} {v : Value} (h : Sob b H l v) : Sb H l v := So.sl h
theorem Sb.keeps {H H' : AHeap} {l : List UInt8} {v : Value} (h : Sb H l v) (hk : Keeps H.next H H') : Sb H' l v := Sl.keeps h hk
theorem Sob.keeps {b : Nat} {H H' : AHeap} {l : List UInt8} {v : Value} (h : Sob b H l v) (hk : Keeps H.next H H') : Sob b H' l v := So.keeps h hk
theorem Sob.lower {b c : Nat} {H : AHeap} {l : List UInt8} {v : Value} (h : Sob b H l v) (hc : c ≤ b) : Sob c H l v := So.lower h hc
theorem Sob.nil (b : Nat) (H : AHeap) : Sob b H [] (.slice none 0 0) := So.nil b H 1
theorem bytesOf_bc (l : List UInt8) : bytesOf? (bc l) = some l := by
  induction l with
  | nil => rfl
  | cons b l ih =>
    have : bc (b :: l) = .int .u8 b.toNat :: bc l := rfl
    rw [this]
    simp only [bytesOf?, byteOf?, ih]
    simp

section
variable {P : Program} {t : TypeId} {H : AHeap}
theorem aConv_bytes {src dst e : TypeId} (hs : P.underlying src = some (.slice e)) (he : P.underlying e = some (.int .u8)) (hd : P.underlying dst = some .string) {l : List UInt8} {v : Value} (h : Sb H l v) : aConv P src dst v H = some (.string ⟨l.toArray⟩, H) := by
  have hc := aCells_sl h
  rw [Nat.mul_one] at hc
  obtain ⟨a, rfl⟩ := sl_len h
  simp only [aConv, hs, hd, he, hc, bytesOf_bc]
theorem aConv_text {src dst e : TypeId} {d : TypeDesc} (hs : P.underlying src = some d) (he : P.underlying e = some (.int .u8)) (hd : P.underlying dst = some (.slice e)) (s : ByteArray) : ∃ v H', aConv P src dst (.string s) H = some (v, H') ∧ Keeps H.next H H' ∧ Sob H.next H' s.data.toList v := by
  refine ⟨.slice (some ⟨H.next, 0, none⟩) s.size s.size, H.push (.cells (byteCells s) true 1), ?_, Keeps.push _ (Nat.le_refl _), ?_⟩
  · simp only [aConv, hs, hd, he]
  · have e : s.size = s.data.toList.length := Array.length_toList.symm
    rw [e]
    exact ⟨by simp, .inr ⟨H.next, rfl, Nat.le_refl _, by simp, by rw [AHeap.get_push, if_pos rfl]; rfl⟩⟩
theorem Sob.push (l : List UInt8) {n : Nat} (hn : l.length = n) : Sob H.next (H.push (.cells (bc l) true 1)) l (.slice (some ⟨H.next, 0, none⟩) n n) := by
  subst hn
  exact ⟨by simp, .inr ⟨H.next, rfl, Nat.le_refl _, by simp, by rw [AHeap.get_push, if_pos rfl]⟩⟩
theorem aAppend_bytes {b : Nat} {tx e ex : TypeId} {z : Value} (ht : P.underlying t = some (.slice e)) (he : szOf P e = some 1) (hz : zeroOf P e = some z) (hzs : z.cells.size = 1) (hb : bytesOf P e = some 1)
    (htx : P.underlying tx = some (.slice ex)) {l l2 : List UInt8} {s x : Value} (hs : Sob b H l s) (hx : Sb H l2 x) (hbn : b ≤ H.next) (hlim : l.length + l2.length ≤ 140737488355328) :
    ∃ v H', aAppend P t tx s x H = some (v, H') ∧ Keeps b H H' ∧ Sob b H' (l ++ l2) v := by
  obtain ⟨v, H', h1, h2, h3⟩ := aAppend_so ht he hz hzs hb (by omega) htx hs hx (bc_one l) (bc_one l2) hbn (by omega) (by omega)
  refine ⟨v, H', h1, h2, ?_⟩
  rw [← bc_append] at h3
  unfold Sob
  rw [List.length_append]
  exact h3
/-- The byte at a place. -/
theorem aByte {e : TypeId} (ht : P.underlying t = some (.slice e)) (he : szOf P e = some 1) (ha : isAgg? P e = some false) {l : List UInt8} {v : Value} (h : Sb H l v) {k : IntKind} {i : Int} (h0 : 0 ≤ i) (hi : i < l.length) :
    ∃ p, aIndexAddr P t v (.int k i) H = some (p, H) ∧ aLoad P e p H = some (.int .u8 (l.getD i.toNat 0).toNat, H) := by
  obtain ⟨r, o, cs, own, h1, h2, h3, h4⟩ := aIndexAddr_sl ht he h h0 (k := k) hi
  refine ⟨_, h1, aLoad_cell ha h2 ?_⟩
  rw [Nat.mul_one] at h4
  have e1 : ((cs.drop o).take 1)[0]? = cs[o]? := by simp
  have e2 : (((bc l).drop i.toNat).take 1)[0]? = (bc l)[i.toNat]? := by simp
  have hlt : i.toNat < l.length := by omega
  rw [← e1, h4, e2]
  simp [bc, List.getElem?_eq_getElem hlt]
theorem aSlice_bytes {e : TypeId} (ht : P.underlying t = some (.slice e)) (he : szOf P e = some 1) {l : List UInt8} {v : Value} (h : Sb H l v) {lo hi : Option Value} {i j : Int} (hlo : intOr 0 lo = some i) (hhi : intOr l.length hi = some j)
    (h0 : 0 ≤ i) (hij : i ≤ j) (hj : j ≤ l.length) : ∃ v', aSlice P t v lo hi H = some (v', H) ∧ Sb H ((l.drop i.toNat).take (j.toNat - i.toNat)) v' := by
  obtain ⟨v', h1, h2⟩ := aSlice_sl ht he h hlo hhi h0 hij hj
  refine ⟨v', h1, ?_⟩
  have e1 : ((l.drop i.toNat).take (j.toNat - i.toNat)).length = j.toNat - i.toNat := by simp; omega
  unfold Sb
  rw [e1, show bc ((l.drop i.toNat).take (j.toNat - i.toNat)) = ((bc l).drop (i.toNat * 1)).take ((j.toNat - i.toNat) * 1) by simp [bc, List.map_take, List.map_drop]]
  exact h2
end
end Go.Abs
