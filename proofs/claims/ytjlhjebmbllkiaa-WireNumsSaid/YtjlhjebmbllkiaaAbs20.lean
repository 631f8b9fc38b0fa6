/-
Laws of the single operations, on values that are known in part.
-/
import Derived.Test.YtjlhjebmbllkiaaAbs19
set_option linter.unusedVariables false
set_option linter.unusedSimpArgs false
namespace Go.Abs
open Go.RowKit

section
variable {P : Program} {t : TypeId} {H : AHeap}

theorem ground_int (k : IntKind) (a : Int) : ground (.int k a) = true := rfl
theorem ground_bool (b : Bool) : ground (.bool b) = true := rfl
theorem aGround_pure {args : List Value} {s : Sem Value} {v : Value} (ha : args.all ground = true) (hs : pureRun P s = some v) (hv : ground v = true) : aGround P args s H = some (v, H) := by
  unfold aGround
  rw [if_pos ha, hs]
  simp only [hv, if_true]

@[simp] theorem aBin_add (k : IntKind) (a b : Int) : aBin P .add t (.int k a) (.int k b) H = some (.int k (k.wrap (a + b)), H) :=
  aGround_pure rfl (by simp [binOp, Op.intArith, pureRun_pure]) rfl
@[simp] theorem aBin_sub (k : IntKind) (a b : Int) : aBin P .sub t (.int k a) (.int k b) H = some (.int k (k.wrap (a - b)), H) :=
  aGround_pure rfl (by simp [binOp, Op.intArith, pureRun_pure]) rfl
@[simp] theorem aBin_mul (k : IntKind) (a b : Int) : aBin P .mul t (.int k a) (.int k b) H = some (.int k (k.wrap (a * b)), H) :=
  aGround_pure rfl (by simp [binOp, Op.intArith, pureRun_pure]) rfl
theorem aBin_quo (k : IntKind) (a b : Int) (h : b ≠ 0) : aBin P .quo t (.int k a) (.int k b) H = some (.int k (k.wrap (a.tdiv b)), H) :=
  aGround_pure rfl (by simp [binOp, Op.intDiv, h, pureRun_pure]) rfl
theorem aBin_rem (k : IntKind) (a b : Int) (h : b ≠ 0) : aBin P .rem t (.int k a) (.int k b) H = some (.int k (a.tmod b), H) :=
  aGround_pure rfl (by simp [binOp, Op.intDiv, h, pureRun_pure]) rfl
def andI (k : IntKind) (a b : Int) : Int := k.wrap (BitVec.ofInt k.bits a &&& BitVec.ofInt k.bits b).toNat
def orI (k : IntKind) (a b : Int) : Int := k.wrap (BitVec.ofInt k.bits a ||| BitVec.ofInt k.bits b).toNat
def xorI (k : IntKind) (a b : Int) : Int := k.wrap (BitVec.ofInt k.bits a ^^^ BitVec.ofInt k.bits b).toNat
@[simp] theorem aBin_and (k : IntKind) (a b : Int) : aBin P .and t (.int k a) (.int k b) H = some (.int k (andI k a b), H) :=
  aGround_pure rfl (by simp [binOp, Op.intBits, pureRun_pure, andI]) rfl
@[simp] theorem aBin_or (k : IntKind) (a b : Int) : aBin P .or t (.int k a) (.int k b) H = some (.int k (orI k a b), H) :=
  aGround_pure rfl (by simp [binOp, Op.intBits, pureRun_pure, orI]) rfl
@[simp] theorem aBin_xor (k : IntKind) (a b : Int) : aBin P .xor t (.int k a) (.int k b) H = some (.int k (xorI k a b), H) :=
  aGround_pure rfl (by simp [binOp, Op.intBits, pureRun_pure, xorI]) rfl
@[simp] theorem aBin_eql (k : IntKind) (a b : Int) : aBin P .eql t (.int k a) (.int k b) H = some (.bool (decide (a = b)), H) :=
  aGround_pure rfl (by simp [binOp, Op.intCmp, pureRun_pure]; exact Bool.eq_iff_iff.2 (by simp)) rfl
@[simp] theorem aBin_neq (k : IntKind) (a b : Int) : aBin P .neq t (.int k a) (.int k b) H = some (.bool (!decide (a = b)), H) :=
  aGround_pure rfl (by simp [binOp, Op.intCmp, pureRun_pure, bne]; exact Bool.eq_iff_iff.2 (by simp)) rfl
@[simp] theorem aBin_lss (k : IntKind) (a b : Int) : aBin P .lss t (.int k a) (.int k b) H = some (.bool (decide (a < b)), H) :=
  aGround_pure rfl (by simp [binOp, Op.intCmp, pureRun_pure]) rfl
@[simp] theorem aBin_leq (k : IntKind) (a b : Int) : aBin P .leq t (.int k a) (.int k b) H = some (.bool (decide (a ≤ b)), H) :=
  aGround_pure rfl (by simp [binOp, Op.intCmp, pureRun_pure]) rfl
@[simp] theorem aBin_gtr (k : IntKind) (a b : Int) : aBin P .gtr t (.int k a) (.int k b) H = some (.bool (decide (b < a)), H) :=
  aGround_pure rfl (by simp [binOp, Op.intCmp, pureRun_pure]) rfl
@[simp] theorem aBin_geq (k : IntKind) (a b : Int) : aBin P .geq t (.int k a) (.int k b) H = some (.bool (decide (b ≤ a)), H) :=
  aGround_pure rfl (by simp [binOp, Op.intCmp, pureRun_pure]) rfl
theorem aBin_shl (k k' : IntKind) (a b : Int) (h : 0 ≤ b) : aBin P .shl t (.int k a) (.int k' b) H = some (.int k (k.wrap (a * 2 ^ (min b.toNat k.bits))), H) :=
  aGround_pure rfl (by simp [binOp, Op.shift, Int.not_lt.2 h, pureRun_pure]) rfl
theorem aBin_shr (k k' : IntKind) (a b : Int) (h : 0 ≤ b) : aBin P .shr t (.int k a) (.int k' b) H = some (.int k (a.fdiv (2 ^ (min b.toNat k.bits))), H) :=
  aGround_pure rfl (by simp [binOp, Op.shift, Int.not_lt.2 h, pureRun_pure]) rfl
@[simp] theorem aBin_streq (a b : ByteArray) : aBin P .eql t (.string a) (.string b) H = some (.bool (decide (a.data.toList = b.data.toList)), H) := Eq.trans rfl rfl
@[simp] theorem aBin_strne (a b : ByteArray) : aBin P .neq t (.string a) (.string b) H = some (.bool (!decide (a.data.toList = b.data.toList)), H) := Eq.trans rfl rfl
theorem aBin_stradd (a b : ByteArray) (h : a.data.toList.length + b.data.toList.length ≤ 9223372036854775807) : aBin P .add t (.string a) (.string b) H = some (.string ⟨(a.data.toList ++ b.data.toList).toArray⟩, H) := by
  simp only [aBin, aStr, if_pos h]
@[simp] theorem aPick_bool (b : Bool) (x y : Value) : aPick (.bool b) x y H = some (if b then x else y, H) := Eq.trans rfl rfl
@[simp] theorem aUn_not (b : Bool) : aUn P .not (.bool b) H = some (.bool (!b), H) :=
  aGround_pure rfl (by simp [Op.unary, pureRun_pure]) rfl
theorem pureRun_underlying {t : TypeId} {d : TypeDesc} (h : P.underlying t = some d) : pureRun P (underlying t) = some d := by
  unfold underlying
  rw [pureRun_bind, show pureRun P program = some P from rfl, Option.bind_some, h]
  rfl
theorem aConv_int {src dst : TypeId} {d : TypeDesc} {k : IntKind} (hs : P.underlying src = some d) (hd : P.underlying dst = some (.int k)) (k' : IntKind) (n : Int) : aConv P src dst (.int k' n) H = some (.int k (k.wrap n), H) := by
  refine aGround_pure rfl ?_ rfl
  rw [convert, pureRun_bind, pureRun_underlying hs, Option.bind_some, pureRun_bind, pureRun_underlying hd, Option.bind_some]
  rfl

/-! The heap. -/
/-- What lies below b stays; nothing is taken back. -/
def Keeps (b : Nat) (H H' : AHeap) : Prop := H.next ≤ H'.next ∧ ∀ r, r < b → H'.get r = H.get r
theorem Keeps.refl (b : Nat) (H : AHeap) : Keeps b H H := ⟨Nat.le_refl _, fun _ _ => rfl⟩
theorem Keeps.trans {b : Nat} {H1 H2 H3 : AHeap} (h : Keeps b H1 H2) (k : Keeps b H2 H3) : Keeps b H1 H3 := ⟨Nat.le_trans h.1 k.1, fun r hr => (k.2 r hr).trans (h.2 r hr)⟩
theorem Keeps.mono {b c : Nat} {H H' : AHeap} (h : Keeps b H H') (hc : c ≤ b) : Keeps c H H' := ⟨h.1, fun r hr => h.2 r (Nat.lt_of_lt_of_le hr hc)⟩
theorem Keeps.push {b : Nat} {H : AHeap} (o : AObj) (hb : b ≤ H.next) : Keeps b H (H.push o) :=
  ⟨by simp, fun r hr => by rw [AHeap.get_push, if_neg (by omega)]⟩
theorem Keeps.set {b : Nat} {H : AHeap} {r : Nat} (o : AObj) (hr : b ≤ r) : Keeps b H (H.set r o) :=
  ⟨by simp, fun k hk => by rw [AHeap.get_set, if_neg (by omega)]⟩

/-- A slice that reads so: n elements of esz cells each. -/
def Sl (H : AHeap) (esz n : Nat) (l : List Value) (v : Value) : Prop :=
  l.length = n * esz ∧ ((v = .slice none 0 0 ∧ n = 0) ∨ (v = .slice (some ⟨0, 0, some 0⟩) 0 0 ∧ n = 0) ∨
    ∃ r o cs own, v = .slice (some ⟨r, o, none⟩) n n ∧ r < H.next ∧ H.get r = some (.cells cs own esz) ∧ o + n * esz ≤ cs.length ∧ (cs.drop o).take (n * esz) = l)
/-- A slice of one's own, laid at b or behind it. -/
def So (b : Nat) (H : AHeap) (esz n : Nat) (l : List Value) (v : Value) : Prop :=
  l.length = n * esz ∧ ((v = .slice none 0 0 ∧ n = 0) ∨
    ∃ r, v = .slice (some ⟨r, 0, none⟩) n n ∧ b ≤ r ∧ r < H.next ∧ H.get r = some (.cells l true esz))
theorem So.sl {b : Nat} {H : AHeap} {esz n : Nat} {l : List Value} {v : Value} (h : So b H esz n l v) : Sl H esz n l v := by
  obtain ⟨hl, h⟩ := h
  refine ⟨hl, ?_⟩
  rcases h with h | ⟨r, hv, _, hr, hg⟩
  · exact .inl h
  · exact .inr (.inr ⟨r, 0, l, true, hv, hr, hg, by omega, by rw [List.drop_zero, ← hl, List.take_length]⟩)
theorem Sl.keeps {H H' : AHeap} {esz n : Nat} {l : List Value} {v : Value} (h : Sl H esz n l v) (hk : Keeps H.next H H') : Sl H' esz n l v := by
  obtain ⟨hl, h⟩ := h
  refine ⟨hl, ?_⟩
  rcases h with h | h | ⟨r, o, cs, own, hv, hr, hg, h1, h2⟩
  · exact .inl h
  · exact .inr (.inl h)
  · exact .inr (.inr ⟨r, o, cs, own, hv, Nat.lt_of_lt_of_le hr hk.1, by rw [hk.2 r hr, hg], h1, h2⟩)
theorem So.keeps {b : Nat} {H H' : AHeap} {esz n : Nat} {l : List Value} {v : Value} (h : So b H esz n l v) (hk : Keeps H.next H H') : So b H' esz n l v := by
  obtain ⟨hl, h⟩ := h
  refine ⟨hl, ?_⟩
  rcases h with h | ⟨r, hv, hb, hr, hg⟩
  · exact .inl h
  · exact .inr ⟨r, hv, hb, Nat.lt_of_lt_of_le hr hk.1, by rw [hk.2 r hr, hg]⟩
theorem So.lower {b c : Nat} {H : AHeap} {esz n : Nat} {l : List Value} {v : Value} (h : So b H esz n l v) (hc : c ≤ b) : So c H esz n l v := by
  obtain ⟨hl, h⟩ := h
  refine ⟨hl, ?_⟩
  rcases h with h | ⟨r, hv, hb, hr, hg⟩
  · exact .inl h
  · exact .inr ⟨r, hv, Nat.le_trans hc hb, hr, hg⟩
theorem So.nil (b : Nat) (H : AHeap) (esz : Nat) : So b H esz 0 [] (.slice none 0 0) := ⟨by simp, .inl ⟨rfl, rfl⟩⟩

theorem aLen_sl {e : TypeId} {esz n : Nat} {l : List Value} {v : Value} (ht : P.underlying t = some (.slice e)) (h : Sl H esz n l v) : aLen P t v H = some (goInt n, H) := by
  obtain ⟨_, h⟩ := h
  rcases h with ⟨rfl, rfl⟩ | ⟨rfl, rfl⟩ | ⟨r, o, cs, own, rfl, _⟩ <;> simp only [aLen, ht] <;> rfl

/-- The address of an element, and what is read there. -/
theorem aIndexAddr_sl {e : TypeId} {esz n : Nat} {l : List Value} {v : Value} (ht : P.underlying t = some (.slice e)) (he : szOf P e = some esz) (h : Sl H esz n l v) {k : IntKind} {i : Int} (h0 : 0 ≤ i) (hi : i < n) :
    ∃ r o cs own, aIndexAddr P t v (.int k i) H = some (.pointer (some ⟨r, o, none⟩), H) ∧ H.get r = some (.cells cs own esz) ∧ o + esz ≤ cs.length ∧ (cs.drop o).take esz = (l.drop (i.toNat * esz)).take esz := by
  obtain ⟨hl, h⟩ := h
  rcases h with ⟨rfl, rfl⟩ | ⟨rfl, rfl⟩ | ⟨r, o, cs, own, rfl, hr, hg, h1, h2⟩
  · omega
  · omega
  · have hin : i.toNat < n := by omega
    have hmul : i.toNat * esz + esz ≤ n * esz := by rw [← Nat.succ_mul]; exact Nat.mul_le_mul_right _ hin
    refine ⟨r, o + i.toNat * esz, cs, own, ?_, hg, by omega, ?_⟩
    · simp only [aIndexAddr, ht, he]
      rw [if_pos ⟨h0, hi⟩]
    · rw [← h2, List.drop_take, List.take_take, List.drop_drop, Nat.min_eq_left (by omega)]
theorem aLoad_cell {te : TypeId} {r o esz : Nat} {cs : List Value} {own : Bool} {v : Value} (ha : isAgg? P te = some false) (hg : H.get r = some (.cells cs own esz)) (hv : cs[o]? = some v) : aLoad P te (.pointer (some ⟨r, o, none⟩)) H = some (v, H) := by
  simp only [aLoad, hg, ha, hv]
theorem aLoad_agg {te : TypeId} {r o esz n : Nat} {cs : List Value} {own : Bool} (ha : isAgg? P te = some true) (hs : szOf P te = some n) (hg : H.get r = some (.cells cs own esz)) (hn : o + n ≤ cs.length) :
    aLoad P te (.pointer (some ⟨r, o, none⟩)) H = some (.agg ((cs.drop o).take n).toArray, H) := by
  simp only [aLoad, hg, ha, hs, if_pos hn]

/-- A piece of a slice. -/
theorem aSlice_sl {e : TypeId} {esz n : Nat} {l : List Value} {v : Value} (ht : P.underlying t = some (.slice e)) (he : szOf P e = some esz) (h : Sl H esz n l v) {lo hi : Option Value} {i j : Int} (hlo : intOr 0 lo = some i) (hhi : intOr n hi = some j)
    (h0 : 0 ≤ i) (hij : i ≤ j) (hj : j ≤ n) : ∃ v', aSlice P t v lo hi H = some (v', H) ∧ Sl H esz (j.toNat - i.toNat) ((l.drop (i.toNat * esz)).take ((j.toNat - i.toNat) * esz)) v' := by
  obtain ⟨hl, h⟩ := h
  have e1 : j.toNat ≤ n := by omega
  have e2 : (i.toNat + (j.toNat - i.toNat)) * esz ≤ n * esz := Nat.mul_le_mul_right _ (by omega)
  rw [Nat.add_mul] at e2
  have hlen : ((l.drop (i.toNat * esz)).take ((j.toNat - i.toNat) * esz)).length = (j.toNat - i.toNat) * esz := by simp; omega
  rcases h with ⟨rfl, rfl⟩ | ⟨rfl, rfl⟩ | ⟨r, o, cs, own, rfl, hr, hg, h1, h2⟩
  · refine ⟨.slice none 0 0, ?_, hlen, .inl ⟨rfl, by omega⟩⟩
    simp only [aSlice, ht, he, hlo, hhi, if_pos h0, if_pos hij]
    rw [if_pos (by simpa using hj)]
    rfl
  · refine ⟨.slice (some ⟨0, 0, some 0⟩) 0 0, ?_, hlen, .inr (.inl ⟨rfl, by omega⟩)⟩
    simp only [aSlice, ht, he, hlo, hhi, if_pos h0, if_pos hij]
    rw [if_pos (by simpa using hj)]
    rfl
  · refine ⟨.slice (some ⟨r, o + i.toNat * esz, none⟩) (j.toNat - i.toNat) (j.toNat - i.toNat), ?_, hlen, .inr (.inr ⟨r, o + i.toNat * esz, cs, own, rfl, hr, hg, by omega, ?_⟩)⟩
    · simp only [aSlice, ht, he, hlo, hhi, if_pos h0, if_pos hij, if_pos hj, hg, if_true]
    · rw [← h2, List.drop_take, List.take_take, List.drop_drop, Nat.min_eq_left (by omega)]

theorem aCells_sl {esz n : Nat} {l : List Value} {v : Value} (h : Sl H esz n l v) : aCells v (n * esz) H = some l := by
  obtain ⟨hl, h⟩ := h
  rcases h with ⟨rfl, rfl⟩ | ⟨rfl, rfl⟩ | ⟨r, o, cs, own, rfl, hr, hg, h1, h2⟩
  · rw [Nat.zero_mul] at hl
    simp only [aCells, Nat.zero_mul, if_true, List.length_eq_zero_iff.1 hl]
  · rw [Nat.zero_mul] at hl
    simp only [aCells, Nat.zero_mul, if_true, List.length_eq_zero_iff.1 hl]
  · simp only [aCells, hg, if_pos h1, h2]
theorem sl_len {esz n : Nat} {l : List Value} {v : Value} (h : Sl H esz n l v) : ∃ a, v = .slice a n n := by
  obtain ⟨hl, h⟩ := h
  rcases h with ⟨rfl, rfl⟩ | ⟨rfl, rfl⟩ | ⟨r, o, cs, own, rfl, _⟩ <;> exact ⟨_, rfl⟩

/-- Appending to one's own. -/
theorem aAppend_so {b : Nat} {tx e ex : TypeId} {esz n k bytes : Nat} {l l2 : List Value} {s x z : Value} (ht : P.underlying t = some (.slice e)) (he : szOf P e = some esz) (hz : zeroOf P e = some z) (hzs : z.cells.size = esz) (hb : bytesOf P e = some bytes) (hp : 0 < esz)
    (htx : P.underlying tx = some (.slice ex)) (hs : So b H esz n l s) (hx : Sl H esz k l2 x) (h1 : l.all (·.oneCell') = true) (h2 : l2.all (·.oneCell') = true) (hbn : b ≤ H.next)
    (hlim : (n + k) * bytes ≤ 140737488355328) (hmax : n + k ≤ 4611686018427387903) :
    ∃ v H', aAppend P t tx s x H = some (v, H') ∧ Keeps b H H' ∧ So b H' esz (n + k) (l ++ l2) v := by
  have hsrc : srcCells P tx esz x H = some (k, l2) := by
    have := aCells_sl hx
    obtain ⟨a, rfl⟩ := sl_len hx
    simp only [srcCells, htx, this, h2, if_true]
  obtain ⟨hl, hs⟩ := hs
  have hl2 := hx.1
  have hlen : (l ++ l2).length = (n + k) * esz := by rw [List.length_append, hl, hl2, Nat.add_mul]
  have hel : elemOf? P t = some e := by simp only [elemOf?, ht]
  rcases hs with ⟨rfl, rfl⟩ | ⟨r, rfl, hbr, hr, hg⟩
  · have hl0 : l = [] := by rw [Nat.zero_mul] at hl; exact List.length_eq_zero_iff.1 hl
    subst hl0
    by_cases hk : k = 0
    · subst hk
      have : l2 = [] := by rw [Nat.zero_mul] at hl2; exact List.length_eq_zero_iff.1 hl2
      subst this
      refine ⟨.slice none 0 0, H, ?_, Keeps.refl _ _, hlen, .inl ⟨rfl, rfl⟩⟩
      simp only [aAppend, hel, he, hz, hb, if_pos hp, if_pos hzs, hsrc, if_true]
    · refine ⟨.slice (some ⟨H.next, 0, none⟩) k k, H.push (.cells l2 true esz), ?_, Keeps.push _ hbn, hlen, .inr ⟨H.next, by rw [Nat.zero_add], hbn, by simp, by rw [AHeap.get_push, if_pos rfl]; rfl⟩⟩
      rw [Nat.zero_add] at hlim hmax
      simp only [aAppend, hel, he, hz, hb, if_pos hp, if_pos hzs, hsrc, if_neg hk, if_pos hlim, if_pos hmax]
  · refine ⟨.slice (some ⟨H.next, 0, none⟩) (n + k) (n + k), (H.set r .dead).push (.cells (l ++ l2) true esz), ?_, (Keeps.set _ hbr).trans (Keeps.push _ (by simpa using hbn)), hlen,
      .inr ⟨H.next, rfl, hbn, by simp, by rw [AHeap.get_push, if_pos (by simp)]⟩⟩
    have htk : (l.drop 0).take (n * esz) = l := by rw [List.drop_zero, ← hl, List.take_length]
    simp only [aAppend, hel, he, hz, hb, if_pos hp, if_pos hzs, hsrc, hg, if_true, htk, h1, if_pos hlim, if_pos hmax]
    rw [if_pos (by omega)]

end
end Go.Abs
