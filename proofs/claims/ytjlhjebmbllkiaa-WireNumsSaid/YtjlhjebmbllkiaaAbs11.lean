/-
Regions that draw their order.
-/
import Derived.Test.YtjlhjebmbllkiaaAbs10
set_option linter.unusedVariables false
set_option linter.unusedSimpArgs false
namespace Go.Abs
open Go.RowKit

/-- May the operation change the abstract heap? -/
def isCh (P : Program) (o : Oper) : Bool :=
  match o.op with
  | .move _ | .assign _ | .pick .. | .build .. | .load .. | .nilCheck _ | .binOp .. | .unOp .. | .makeFunc .. | .slice .. | .fieldAddr .. | .field .. | .indexAddr .. | .index .. | .lookup .. | .extract .. => false
  | .convert _ d _ => match P.underlying d with
    | some (.slice _) => true
    | _ => false
  | .call c => match c.callee with
    | .builtin .len | .builtin .min | .builtin .max => false
    | _ => true
  | _ => true

def maskOf (acc : List Nat) (l : List Edge) : Nat := l.foldl (fun s e => if Region.binds .any e then s ||| 2 ^ e.on ||| acc.getD e.on 0 else s) 0
def masks : List Oper → List Nat → List Nat
  | [], acc => acc
  | o :: os, acc => masks os (acc ++ [maskOf acc o.after.toList])
def pre (M : List Nat) (i j : Nat) : Bool := (M.getD i 0).testBit j

def edgesOk (l : List Oper) : Bool := (List.range l.length).all fun i => match l[i]? with
  | some o => o.after.toList.all fun e => !Region.binds .any e || decide (e.on < i)
  | none => true
def pairsOk (P : Program) (ops : Array Oper) (M : List Nat) (l : List Oper) : Bool := (List.range l.length).all fun i => (List.range i).all fun j =>
  pre M i j || (match l[i]?, l[j]? with
    | some oi, some oj => Oper.apart ops oj oi && !(isCh P oj && isCh P oi)
    | _, _ => true)
def drawOk (P : Program) (ops : Array Oper) : Bool := edgesOk ops.toList && pairsOk P ops (masks ops.toList []) ops.toList

def veqN : Nat → Value → Value → Bool
  | _, .bool a, .bool b => a == b
  | _, .int j a, .int k b => decide (j = k) && decide (a = b)
  | _, .string a, .string b => decide (a.data.toList = b.data.toList)
  | _, .pointer a, .pointer b => decide (a = b)
  | _, .slice a n c, .slice b k d => decide (a = b) && decide (n = k) && decide (c = d)
  | _, .map a, .map b => decide (a = b)
  | _, .nilFunc, .nilFunc => true
  | d + 1, .agg a, .agg b => decide (a.toList.length = b.toList.length) && (a.toList.zip b.toList).all fun p => veqN d p.1 p.2
  | _, _, _ => false
theorem veqN_eq : ∀ (d : Nat) (a b : Value), veqN d a b = true → a = b := by
  intro d
  induction d with
  | zero =>
    intro a b h
    cases a <;> cases b <;> simp only [veqN, Bool.and_eq_true, decide_eq_true_eq, beq_iff_eq, Bool.false_eq_true] at h <;> first | (rw [h]; done) | (rw [h.1, h.2]; done) | (rw [h.1.1, h.1.2, h.2]; done) | rfl | skip
    rw [ByteArray.ext (Array.toList_inj.mp h)]
  | succ d ih =>
    intro a b h
    cases a <;> cases b <;> simp only [veqN, Bool.and_eq_true, decide_eq_true_eq, beq_iff_eq, Bool.false_eq_true] at h <;> first | (rw [h]; done) | (rw [h.1, h.2]; done) | (rw [h.1.1, h.1.2, h.2]; done) | rfl | skip
    · rw [ByteArray.ext (Array.toList_inj.mp h)]
    · rename_i a b
      obtain ⟨h1, h2⟩ := h
      have : a.toList = b.toList := by
        apply List.ext_getElem h1
        intro i hi hi'
        refine ih _ _ (List.all_eq_true.1 h2 (a.toList[i], b.toList[i]) ?_)
        exact List.mem_iff_getElem.2 ⟨i, by simp only [List.length_zip]; omega, by simp⟩
      rw [Array.toList_inj.mp this]

def aTrace (P : Program) (call : FuncId → List Value → M Value) (ops : Array Oper) : List Oper → List Value → AHeap → Option (List (List Value × AHeap × Value) × List Value × AHeap)
  | [], T, H => some ([], T, H)
  | o :: rest, T, H =>
    if Region.wanted o (ynd ops T) then
      match aStep P call T o H with
      | some (v, H') => match aTrace P call ops rest (putT T o.dst v) H' with
        | some (tr, T2, H2) => some ((T, H, v) :: tr, T2, H2)
        | none => none
      | none => none
    else match aTrace P call ops rest (putT T o.dst undef) H with
      | some (tr, T2, H2) => some ((T, H, undef) :: tr, T2, H2)
      | none => none

def recheck (P : Program) (T : List Value) (o : Oper) (v : Value) (G : AHeap) : Bool :=
  match aOp P (evalT T) o G with
  | some (v', _) => veqN 3 v' v
  | none => false
def chkOne (P : Program) (ops : Array Oper) (M : List Nat) (l : List Oper) (tr : List (List Value × AHeap × Value)) (Hs : List AHeap) (i : Nat) : Bool :=
  match l[i]?, tr[i]? with
  | some o, some (T, _, v) =>
    if isCh P o || !Region.wanted o (ynd ops T) then true
    else (List.range l.length).all fun j => match l[j]? with
      | some oj => if isCh P oj && !(pre M i j || pre M j i) then (match Hs[if j < i then j else j + 1]? with
          | some G => recheck P T o v G
          | none => false) else true
      | none => true
  | _, _ => false
def aDrawn (P : Program) (call : FuncId → List Value → M Value) (ops : Array Oper) (T : List Value) (H : AHeap) : Option (List Value × AHeap) :=
  if drawOk P ops then
    match aTrace P call ops ops.toList T H with
    | some (tr, T', H') =>
      if (List.range ops.toList.length).all (chkOne P ops (masks ops.toList []) ops.toList tr (tr.map (·.2.1) ++ [H'])) then some (T', H') else none
    | none => none
  else none

section
variable {P : Program} {B : Nat} {w0 : World} {m : Mp} {H H' : AHeap} {w : World}

theorem ground_same {args : List Value} {s : Sem Value} {v : Value} (h : aGround P args s H = some (v, H')) : H' = H := by
  unfold aGround at h
  (repeat' split at h) <;> first | (cases h; done) | (cases h; rfl)

theorem slice_same {t : TypeId} {x v : Value} {lo hi : Option Value} (h : aSlice P t x lo hi H = some (v, H')) : H' = H := by
  unfold aSlice at h
  split at h
  · exact ground_same h
  · (repeat' split at h) <;> first | (cases h; done) | (cases h; rfl)
  · cases h
theorem noCh_same {o : Oper} {ρ : Operand → Value} {v : Value} (hn : isCh P o = false) (h : aOp P ρ o H = some (v, H')) : H' = H := by
  obtain ⟨dst, op, type, pos, after, guard⟩ := o
  unfold aOp at h
  unfold isCh at hn
  cases op <;> simp only at hn h <;> first | (cases hn; done) | (cases h; done) | skip
  case move => cases h; rfl
  case assign => cases h; rfl
  case pick => unfold aPick at h; split at h <;> first | (cases h; done) | (cases h; rfl)
  case build => unfold aBuild at h; (repeat' split at h) <;> first | (cases h; done) | (cases h; rfl)
  case load => unfold aLoad at h; (repeat' split at h) <;> first | (cases h; done) | (cases h; rfl)
  case nilCheck => unfold aNilCheck at h; (repeat' split at h) <;> first | (cases h; done) | (cases h; rfl)
  case binOp => unfold aBin at h; (repeat' split at h) <;> first | exact ground_same h | (cases h; done) | (cases h; rfl)
  case unOp => exact ground_same h
  case convert s d x =>
    unfold aConv at h
    split at h
    · (repeat' split at h) <;> first | (cases h; done) | (cases h; rfl)
    · split at h
      · rename_i e hs hd; simp [hd] at hn
      · exact ground_same h
    · exact ground_same h
  case makeFunc => cases h; rfl
  case slice t x lo hi mx =>
    cases mx with
    | some y => cases h
    | none =>
      exact slice_same h
  case fieldAddr => unfold aFieldAddr at h; (repeat' split at h) <;> first | (cases h; done) | (cases h; rfl)
  case field => unfold aField at h; (repeat' split at h) <;> first | (cases h; done) | (cases h; rfl)
  case indexAddr => unfold aIndexAddr at h; (repeat' split at h) <;> first | (cases h; done) | (cases h; rfl)
  case index =>
    unfold aIndex at h
    split at h
    · (repeat' split at h) <;> first | (cases h; done) | (cases h; rfl)
    · exact ground_same h
    · cases h
  case lookup t x k ok =>
    unfold aLookup at h
    (repeat' split at h) <;> first | (cases h; done) | (cases h; rfl)
  case extract => unfold aExtract at h; (repeat' split at h) <;> first | (cases h; done) | (cases h; rfl)
  case call c =>
    cases hb : c.callee with
    | builtin b =>
      simp only [hb] at h hn
      unfold aBuiltin at h
      split at h <;> first | (cases h; done) | (cases hn; done) | skip
      · split at h
        · unfold aLen at h; (repeat' split at h) <;> first | (cases h; done) | (cases h; rfl)
        · cases h
      · exact ground_same h
      · exact ground_same h
    | value f => simp only [hb] at h; cases h
    | invoke r n => simp only [hb] at h; cases h

theorem step_noCh {call : FuncId → List Value → M Value} {o : Oper} {T : List Value} (hn : isCh P o = false) (G : AHeap) : aStep P call T o G = if opOk o then aOp P (evalT T) o G else none := by
  unfold aStep
  split
  · cases hop : o.op <;> simp only
    rename_i c
    unfold isCh at hn
    rw [hop] at hn
    simp only at hn
    cases hb : c.callee with
    | builtin b => simp only [aOp, hop, hb]
    | value f => simp only [hb] at hn; cases hn
    | invoke r n => simp only [hb] at hn; cases hn
  · rfl

/-! ### The order -/
theorem maskOf_bit (acc : List Nat) (l : List Edge) (s j : Nat) :
    (l.foldl (fun s e => if Region.binds .any e then s ||| 2 ^ e.on ||| acc.getD e.on 0 else s) s).testBit j = true ↔
      s.testBit j = true ∨ ∃ e ∈ l, Region.binds .any e = true ∧ (e.on = j ∨ (acc.getD e.on 0).testBit j = true) := by
  induction l generalizing s with
  | nil => simp
  | cons e l ih =>
    rw [List.foldl_cons, ih]
    by_cases hb : Region.binds .any e = true
    · rw [if_pos hb]
      simp only [Nat.testBit_or, Nat.testBit_two_pow, Bool.or_eq_true, decide_eq_true_eq, List.mem_cons]
      constructor
      · rintro (((h | h) | h) | ⟨e', he', h⟩)
        · exact .inl h
        · exact .inr ⟨e, .inl rfl, hb, .inl h⟩
        · exact .inr ⟨e, .inl rfl, hb, .inr h⟩
        · exact .inr ⟨e', .inr he', h⟩
      · rintro (h | ⟨e', rfl | he', h1, h2⟩)
        · exact .inl (.inl (.inl h))
        · rcases h2 with h2 | h2
          · exact .inl (.inl (.inr h2))
          · exact .inl (.inr h2)
        · exact .inr ⟨e', he', h1, h2⟩
    · rw [if_neg hb]
      simp only [List.mem_cons]
      constructor
      · rintro (h | ⟨e', he', h⟩)
        · exact .inl h
        · exact .inr ⟨e', .inr he', h⟩
      · rintro (h | ⟨e', rfl | he', h1, h2⟩)
        · exact .inl h
        · exact absurd h1 hb
        · exact .inr ⟨e', he', h1, h2⟩

theorem masks_spec : ∀ (l : List Oper) (acc : List Nat), (masks l acc).length = acc.length + l.length ∧ (∀ i, i < acc.length → (masks l acc).getD i 0 = acc.getD i 0) ∧
    ∀ i o, l[i]? = some o → (masks l acc).getD (acc.length + i) 0 = maskOf ((masks l acc).take (acc.length + i)) o.after.toList := by
  intro l
  induction l with
  | nil => intro acc; exact ⟨rfl, fun _ _ => rfl, fun i o h => by simp at h⟩
  | cons o os ih =>
    intro acc
    obtain ⟨h1, h2, h3⟩ := ih (acc ++ [maskOf acc o.after.toList])
    simp only [masks]
    refine ⟨by rw [h1]; simp; omega, fun i hi => ?_, fun i o' ho => ?_⟩
    · rw [h2 i (by simp; omega)]
      simp [List.getD_eq_getElem?_getD, List.getElem?_append_left hi]
    · cases i with
      | zero =>
        simp at ho
        subst ho
        rw [Nat.add_zero, h2 acc.length (by simp)]
        have htake : (masks os (acc ++ [maskOf acc o.after.toList])).take acc.length = acc := by
          apply List.ext_getElem?
          intro k
          rw [List.getElem?_take]
          split
          · rename_i hk
            have := h2 k (by simp; omega)
            have hk2 : k < (masks os (acc ++ [maskOf acc o.after.toList])).length := by rw [h1]; simp; omega
            simp only [List.getD_eq_getElem?_getD, List.getElem?_eq_getElem hk2, Option.getD_some, List.getElem?_append_left hk, List.getElem?_eq_getElem hk] at this
            rw [List.getElem?_eq_getElem hk2, List.getElem?_eq_getElem hk, this]
          · rename_i hk
            rw [List.getElem?_eq_none (by omega)]
        rw [htake]
        simp [List.getD_eq_getElem?_getD]
      | succ i =>
        have := h3 i o' (by simpa using ho)
        simp only [List.length_append, List.length_singleton] at this
        rw [show acc.length + (i + 1) = acc.length + 1 + i by omega]
        exact this

theorem pre_iff {l : List Oper} (he : edgesOk l = true) {i j : Nat} {o : Oper} (ho : l[i]? = some o) :
    pre (masks l []) i j = true ↔ ∃ e ∈ o.after, Region.binds .any e = true ∧ (e.on = j ∨ pre (masks l []) e.on j = true) := by
  obtain ⟨h1, h2, h3⟩ := masks_spec l []
  have hi : i < l.length := (List.getElem?_eq_some_iff.1 ho).1
  have := h3 i o ho
  simp only [List.length_nil, Nat.zero_add] at this
  unfold pre
  rw [this]
  unfold maskOf
  rw [maskOf_bit]
  simp only [Nat.zero_testBit, Bool.false_eq_true, false_or]
  have hlt : ∀ e ∈ o.after, Region.binds .any e = true → e.on < i := by
    intro e hm hb
    have hh := List.all_eq_true.1 he i (List.mem_range.2 hi)
    rw [ho] at hh
    have := List.all_eq_true.1 hh e (by simpa using hm)
    simpa [hb] using this
  have htk : ∀ k, k < i → ((masks l []).take i).getD k 0 = (masks l []).getD k 0 := by
    intro k hk
    simp [List.getD_eq_getElem?_getD, List.getElem?_take, hk]
  constructor
  · rintro ⟨e, hm, hb, h⟩
    have hm' : e ∈ o.after := by simpa using hm
    refine ⟨e, hm', hb, ?_⟩
    rw [htk _ (hlt e hm' hb)] at h
    exact h
  · rintro ⟨e, hm, hb, h⟩
    refine ⟨e, by simpa using hm, hb, ?_⟩
    rw [htk _ (hlt e hm hb)]
    exact h
theorem pre_lt {l : List Oper} (he : edgesOk l = true) : ∀ (i j : Nat), pre (masks l []) i j = true → j < i := by
  intro i
  induction i using Nat.strongRecOn with
  | _ i ih =>
    intro j h
    cases ho : l[i]? with
    | none =>
      obtain ⟨h1, _, _⟩ := masks_spec l []
      have : (masks l []).getD i 0 = 0 := by
        rw [List.getD_eq_getElem?_getD, List.getElem?_eq_none]
        · rfl
        · rw [h1]; simp; exact List.getElem?_eq_none_iff.1 ho
      unfold pre at h
      rw [this] at h
      simp at h
    | some o =>
      obtain ⟨e, hm, hb, h⟩ := (pre_iff he ho).1 h
      have hi : i < l.length := (List.getElem?_eq_some_iff.1 ho).1
      have hlt : e.on < i := by
        have hh := List.all_eq_true.1 he i (List.mem_range.2 hi)
        rw [ho] at hh
        have := List.all_eq_true.1 hh e (by simpa using hm)
        simpa [hb] using this
      rcases h with rfl | h
      · exact hlt
      · have := ih e.on hlt j h; omega

end
end Go.Abs
