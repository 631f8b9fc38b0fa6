/-
Regions that draw their order: every order comes to what the text's order comes to.
-/
import Derived.Test.YtjlhjebmbllkiaaAbs11
set_option linter.unusedVariables false
set_option linter.unusedSimpArgs false
namespace Go.Abs
open Go.RowKit

def cur (L : Nat → Bool) (dst : Nat → Option Tmp) (vs : Nat → Value) (T : List Value) : Nat → Nat → Value
  | 0, t => T.getD t undef
  | k + 1, t => if L k = true ∧ dst k = some t ∧ t < T.length then vs k else cur L dst vs T k t
def hcur (L ch : Nat → Bool) (Hs : Nat → AHeap) : Nat → AHeap
  | 0 => Hs 0
  | k + 1 => if L k = true ∧ ch k = true then Hs (k + 1) else hcur L ch Hs k

def dstAt (l : List Oper) (k : Nat) : Option Tmp := (l[k]?).bind (·.dst)
def chAt (P : Program) (l : List Oper) (k : Nat) : Bool := match l[k]? with
  | some o => isCh P o
  | none => false

structure Tr (P : Program) (call : FuncId → List Value → M Value) (ops : Array Oper) (l : List Oper) (T : List Value) (H : AHeap) (Ts : Nat → List Value) (Hs : Nat → AHeap) (vs : Nat → Value) : Prop where
  t0 : Ts 0 = T
  h0 : Hs 0 = H
  stepT : ∀ i o, l[i]? = some o → Ts (i + 1) = putT (Ts i) o.dst (vs i)
  stepH : ∀ i o, l[i]? = some o → if Region.wanted o (ynd ops (Ts i)) = true then aStep P call (Ts i) o (Hs i) = some (vs i, Hs (i + 1)) else vs i = undef ∧ Hs (i + 1) = Hs i

section
variable {P : Program} {B : Nat} {w0 : World} {m : Mp} {H H' : AHeap} {w : World}

def tsOf (tr : List (List Value × AHeap × Value)) (T' : List Value) (i : Nat) : List Value := match tr[i]? with
  | some e => e.1
  | none => T'
def hsOf (tr : List (List Value × AHeap × Value)) (H' : AHeap) (i : Nat) : AHeap := match tr[i]? with
  | some e => e.2.1
  | none => H'
def vsOf (tr : List (List Value × AHeap × Value)) (i : Nat) : Value := match tr[i]? with
  | some e => e.2.2
  | none => undef

theorem trace_tr {call : FuncId → List Value → M Value} {ops : Array Oper} : ∀ (l : List Oper) (T : List Value) (H : AHeap) (tr) (T' : List Value) (H' : AHeap), aTrace P call ops l T H = some (tr, T', H') →
    tr.length = l.length ∧ Tr P call ops l T H (tsOf tr T') (hsOf tr H') (vsOf tr) := by
  intro l
  induction l with
  | nil =>
    intro T H tr T' H' h
    simp only [aTrace, Option.some.injEq, Prod.mk.injEq] at h
    obtain ⟨rfl, rfl, rfl⟩ := h
    exact ⟨rfl, rfl, rfl, fun i o h => by simp at h, fun i o h => by simp at h⟩
  | cons o rest ih =>
    intro T H tr T' H' h
    simp only [aTrace] at h
    have fin : ∀ (v : Value) (H1 : AHeap) (tr' : List (List Value × AHeap × Value)), aTrace P call ops rest (putT T o.dst v) H1 = some (tr', T', H') →
        (if Region.wanted o (ynd ops T) = true then aStep P call T o H = some (v, H1) else v = undef ∧ H1 = H) → tr = (T, H, v) :: tr' →
        tr.length = (o :: rest).length ∧ Tr P call ops (o :: rest) T H (tsOf tr T') (hsOf tr H') (vsOf tr) := by
      intro v H1 tr' htr hst he
      obtain ⟨h1, h2⟩ := ih _ _ _ _ _ htr
      subst he
      have e1 : tsOf tr' T' 0 = putT T o.dst v := h2.t0
      have e2 : hsOf tr' H' 0 = H1 := h2.h0
      have s1 : ∀ i, tsOf ((T, H, v) :: tr') T' (i + 1) = tsOf tr' T' i := fun i => by simp [tsOf]
      have s2 : ∀ i, hsOf ((T, H, v) :: tr') H' (i + 1) = hsOf tr' H' i := fun i => by simp [hsOf]
      have s3 : ∀ i, vsOf ((T, H, v) :: tr') (i + 1) = vsOf tr' i := fun i => by simp [vsOf]
      refine ⟨by simp [h1], rfl, rfl, ?_, ?_⟩
      · intro i o' ho
        cases i with
        | zero => simp at ho; subst ho; rw [s1, e1]; rfl
        | succ i => rw [s1, s1, s3]; exact h2.stepT i o' (by simpa using ho)
      · intro i o' ho
        cases i with
        | zero => simp at ho; subst ho; rw [s2, e2]; exact hst
        | succ i => rw [s1, s2, s2, s3]; exact h2.stepH i o' (by simpa using ho)
    split at h
    · rename_i hw
      split at h
      · rename_i v H1 hs
        split at h
        · rename_i tr' T2 H2 htr
          simp only [Option.some.injEq, Prod.mk.injEq] at h
          obtain ⟨h1, rfl, rfl⟩ := h
          exact fin v H1 tr' htr (by rw [if_pos hw]; exact hs) h1.symm
        · cases h
      · cases h
    · rename_i hw
      split at h
      · rename_i tr' T2 H2 htr
        simp only [Option.some.injEq, Prod.mk.injEq] at h
        obtain ⟨h1, rfl, rfl⟩ := h
        exact fin undef H tr' htr (by rw [if_neg hw]; exact ⟨rfl, rfl⟩) h1.symm
      · cases h

theorem putT_length (T : List Value) (d : Option Tmp) (v : Value) : (putT T d v).length = T.length := by cases d <;> simp [putT]

section tr
variable {call : FuncId → List Value → M Value} {ops : Array Oper} {l : List Oper} {T : List Value} {Ts : Nat → List Value} {Hs : Nat → AHeap} {vs : Nat → Value}

theorem Tr.len (h : Tr P call ops l T H Ts Hs vs) : ∀ k, k ≤ l.length → (Ts k).length = T.length := by
  intro k
  induction k with
  | zero => intro _; rw [h.t0]
  | succ k ih =>
    intro hk
    have ho : l[k]? = some l[k] := List.getElem?_eq_getElem (by omega)
    rw [h.stepT k _ ho, putT_length, ih (by omega)]
theorem Tr.fullT (h : Tr P call ops l T H Ts Hs vs) : ∀ k, k ≤ l.length → ∀ t, cur (fun _ => true) (dstAt l) vs T k t = (Ts k).getD t undef := by
  intro k
  induction k with
  | zero => intro _ t; rw [h.t0]; rfl
  | succ k ih =>
    intro hk t
    have ho : l[k]? = some l[k] := List.getElem?_eq_getElem (by omega)
    have hd : dstAt l k = l[k].dst := by simp [dstAt, ho]
    have hl := h.len k (by omega)
    rw [cur, h.stepT k _ ho, ih (by omega), hd]
    cases hdd : l[k].dst with
    | none => simp [putT]
    | some d =>
      simp only [putT, Option.some.injEq, true_and]
      by_cases hdt : d = t ∧ t < T.length
      · rw [if_pos hdt]
        obtain ⟨rfl, hlt⟩ := hdt
        have hlt2 : d < (Ts k).length := by rw [hl]; exact hlt
        rw [List.getD_eq_getElem?_getD, List.getElem?_set]
        simp only [if_true]
        rw [if_pos hlt2]; rfl
      · rw [if_neg hdt]
        rw [List.getD_eq_getElem?_getD, List.getD_eq_getElem?_getD, List.getElem?_set]
        by_cases e : d = t
        · subst e
          have hge : ¬ d < T.length := fun hh => hdt ⟨rfl, hh⟩
          have hge2 : ¬ d < (Ts k).length := by rw [hl]; exact hge
          rw [if_pos rfl, if_neg hge2, List.getElem?_eq_none (Nat.le_of_not_lt hge2)]
        · rw [if_neg e]
theorem Tr.same (h : Tr P call ops l T H Ts Hs vs) {k : Nat} (hk : k < l.length) (hc : chAt P l k = false) : Hs (k + 1) = Hs k := by
  have ho : l[k]? = some l[k] := List.getElem?_eq_getElem hk
  have hn : isCh P l[k] = false := by simpa [chAt, ho] using hc
  have := h.stepH k _ ho
  split at this
  · rw [step_noCh hn] at this
    split at this
    · exact noCh_same hn this
    · cases this
  · exact this.2
theorem Tr.fullH (h : Tr P call ops l T H Ts Hs vs) : ∀ k, k ≤ l.length → hcur (fun _ => true) (chAt P l) Hs k = Hs k := by
  intro k
  induction k with
  | zero => intro _; rfl
  | succ k ih =>
    intro hk
    rw [hcur, ih (by omega)]
    by_cases hc : chAt P l k = true
    · rw [if_pos ⟨rfl, hc⟩]
    · rw [if_neg (fun hh => hc hh.2), h.same (by omega) (by simpa using hc)]
end tr

theorem cur_agree {L : Nat → Bool} {dst : Nat → Option Tmp} {vs : Nat → Value} {T : List Value} {n j t : Nat} (hj : j ≤ n) (h1 : ∀ k, k < j → dst k = some t → L k = true)
    (h2 : ∀ k, j ≤ k → k < n → dst k = some t → L k = false) : cur L dst vs T n t = cur (fun _ => true) dst vs T j t := by
  have a1 : ∀ k, k ≤ j → cur L dst vs T k t = cur (fun _ => true) dst vs T k t := by
    intro k
    induction k with
    | zero => intro _; rfl
    | succ k ih =>
      intro hk
      rw [cur, cur, ih (by omega)]
      by_cases hc : dst k = some t ∧ t < T.length
      · rw [if_pos ⟨h1 k (by omega) hc.1, hc⟩, if_pos ⟨rfl, hc⟩]
      · rw [if_neg (fun hh => hc hh.2), if_neg (fun hh => hc hh.2)]
  have a2 : ∀ d, j + d ≤ n → cur L dst vs T (j + d) t = cur L dst vs T j t := by
    intro d
    induction d with
    | zero => intro _; rfl
    | succ d ih =>
      intro hd
      rw [← Nat.add_assoc, cur, ih (by omega), if_neg]
      rintro ⟨hL, hdst, _⟩
      rw [h2 (j + d) (by omega) (by omega) hdst] at hL
      cases hL
  have := a2 (n - j) (by omega)
  rw [show j + (n - j) = n by omega] at this
  rw [this, a1 j (Nat.le_refl _)]
theorem hcur_agree {L ch : Nat → Bool} {Hs : Nat → AHeap} {n j : Nat} (hj : j ≤ n) (h1 : ∀ k, k < j → ch k = true → L k = true)
    (h2 : ∀ k, j ≤ k → k < n → ch k = true → L k = false) : hcur L ch Hs n = hcur (fun _ => true) ch Hs j := by
  have a1 : ∀ k, k ≤ j → hcur L ch Hs k = hcur (fun _ => true) ch Hs k := by
    intro k
    induction k with
    | zero => intro _; rfl
    | succ k ih =>
      intro hk
      rw [hcur, hcur, ih (by omega)]
      by_cases hc : ch k = true
      · rw [if_pos ⟨h1 k (by omega) hc, hc⟩, if_pos ⟨rfl, hc⟩]
      · rw [if_neg (fun hh => hc hh.2), if_neg (fun hh => hc hh.2)]
  have a2 : ∀ d, j + d ≤ n → hcur L ch Hs (j + d) = hcur L ch Hs j := by
    intro d
    induction d with
    | zero => intro _; rfl
    | succ d ih =>
      intro hd
      rw [← Nat.add_assoc, hcur, ih (by omega), if_neg]
      rintro ⟨hL, hc⟩
      rw [h2 (j + d) (by omega) (by omega) hc] at hL
      cases hL
  have := a2 (n - j) (by omega)
  rw [show j + (n - j) = n by omega] at this
  rw [this, a1 j (Nat.le_refl _)]

theorem cur_other {L L' : Nat → Bool} {dst : Nat → Option Tmp} {vs : Nat → Value} {T : List Value} {j t : Nat} (hL : ∀ k, k ≠ j → L' k = L k) (hd : dst j ≠ some t) : ∀ n, cur L' dst vs T n t = cur L dst vs T n t := by
  intro n
  induction n with
  | zero => rfl
  | succ k ih =>
    rw [cur, cur, ih]
    by_cases hk : k = j
    · subst hk; rw [if_neg (fun hh => hd hh.2.1), if_neg (fun hh => hd hh.2.1)]
    · rw [hL k hk]
theorem hcur_other {L L' ch : Nat → Bool} {Hs : Nat → AHeap} {j : Nat} (hL : ∀ k, k ≠ j → L' k = L k) (hd : ch j = false) : ∀ n, hcur L' ch Hs n = hcur L ch Hs n := by
  intro n
  induction n with
  | zero => rfl
  | succ k ih =>
    rw [hcur, hcur, ih]
    by_cases hk : k = j
    · subst hk; rw [hd]; simp
    · rw [hL k hk]

theorem exists_first {p : Nat → Prop} (n : Nat) (h : ∃ k, k < n ∧ p k) : ∃ k, k < n ∧ p k ∧ ∀ k', k' < k → ¬ p k' := by
  obtain ⟨k, hk, hp⟩ := h
  induction k using Nat.strongRecOn with
  | _ k ih =>
    by_cases hx : ∃ k', k' < k ∧ p k'
    · obtain ⟨k', h1, h2⟩ := hx
      exact ih k' h1 (by omega) h2
    · exact ⟨k, hk, hp, fun k' h1 h2 => hx ⟨k', h1, h2⟩⟩
theorem exists_last {p : Nat → Prop} (n : Nat) (h : ∃ k, k < n ∧ p k) : ∃ k, k < n ∧ p k ∧ ∀ k', k < k' → k' < n → ¬ p k' := by
  induction n with
  | zero => obtain ⟨k, hk, _⟩ := h; omega
  | succ n ih =>
    by_cases hp : p n
    · exact ⟨n, by omega, hp, fun k' h1 h2 => by omega⟩
    · obtain ⟨k, hk, hpk⟩ := h
      have hkn : k ≠ n := fun e => hp (e ▸ hpk)
      obtain ⟨k2, h1, h2, h3⟩ := ih ⟨k, by omega, hpk⟩
      exact ⟨k2, by omega, h2, fun k' a b => by
        by_cases e : k' = n
        · subst e; exact hp
        · exact h3 k' a (by omega)⟩

/-- The interpreter's step looks at an operation's operands alone. -/
theorem step_congr {call : FuncId → List Value → M Value} {o : Oper} {T T2 : List Value} (h : ∀ x ∈ o.op.operands.toList, evalT T x = evalT T2 x) : aStep P call T o = aStep P call T2 o := by
  have hmap : ∀ l : List Operand, (∀ x ∈ l, x ∈ o.op.operands.toList) → l.map (evalT T) = l.map (evalT T2) := fun l hl => List.map_congr_left fun x hx => h x (hl x hx)
  have hop : aOp P (evalT T) o = aOp P (evalT T2) o := by
    obtain ⟨dst, op, type, pos, after, guard⟩ := o
    unfold aOp
    cases op <;> simp only [Op.operands] at h hmap ⊢
    case move x => rw [h x (by simp)]
    case assign x => rw [h x (by simp)]
    case pick c a b => rw [h c (by simp), h a (by simp), h b (by simp)]
    case box e x => rw [h x (by simp)]
    case build t parts =>
      have : parts.toList.map (fun p => (p.1, evalT T p.2)) = parts.toList.map (fun p => (p.1, evalT T2 p.2)) := List.map_congr_left fun p hp => by
        rw [h p.2 (by simp; exact ⟨p.1, by simpa using hp⟩)]
      rw [this]
    case buildSlice t len parts =>
      have : parts.toList.map (fun p => (p.1, evalT T p.2)) = parts.toList.map (fun p => (p.1, evalT T2 p.2)) := List.map_congr_left fun p hp => by
        rw [h p.2 (by simp; exact ⟨p.1, by simpa using hp⟩)]
      rw [this]
    case load t x => rw [h x (by simp)]
    case store t p x => rw [h p (by simp), h x (by simp)]
    case nilCheck x => rw [h x (by simp)]
    case binOp op t x y yt => rw [h x (by simp), h y (by simp)]
    case unOp op t x => rw [h x (by simp)]
    case convert s d x => rw [h x (by simp)]
    case makeFunc fn first captured =>
      rw [hmap first.toList (fun x hx => by simp at hx ⊢; exact .inl hx), hmap captured.toList (fun x hx => by simp at hx ⊢; exact .inr hx)]
    case makeMap t r =>
      cases r with
      | none => rfl
      | some x => simp only [Option.map_some]; rw [h x (by simp)]
    case makeSlice t l c => rw [h l (by simp), h c (by simp)]
    case slice t x lo hi mx =>
      cases mx with
      | some y => rfl
      | none =>
        simp only
        have e1 : lo.map (evalT T) = lo.map (evalT T2) := by
          cases lo with
          | none => rfl
          | some y => simp only [Option.map_some]; rw [h y (by simp)]
        have e2 : hi.map (evalT T) = hi.map (evalT T2) := by
          cases hi with
          | none => rfl
          | some y => simp only [Option.map_some]; rw [h y (by simp)]
        rw [h x (by simp), e1, e2]
    case fieldAddr s x f => rw [h x (by simp)]
    case field t x f => rw [h x (by simp)]
    case indexAddr t x i => rw [h x (by simp), h i (by simp)]
    case index t x i => rw [h x (by simp), h i (by simp)]
    case lookup t x i ok => rw [h x (by simp), h i (by simp)]
    case mapUpdate t x k v => rw [h x (by simp), h k (by simp), h v (by simp)]
    case extract t i => rw [h t (by simp)]
    case call c =>
      cases hb : c.callee with
      | builtin b => simp only; rw [hmap c.args.toList (fun x hx => by simp [Call.operands] at hx ⊢; exact .inr hx)]
      | value f => rfl
      | invoke r n => rfl
  funext G
  unfold aStep
  rw [hop]
  split
  · cases hopp : o.op <;> simp only
    rename_i c
    rw [hopp] at h hmap
    simp only [Op.operands] at h hmap
    have hargs := hmap c.args.toList (fun x hx => by simp [Call.operands] at hx ⊢; exact .inr hx)
    cases hb : c.callee with
    | builtin b => simp only [hargs]
    | value f =>
      simp only [hargs]
      rw [h f (by simp [Call.operands, hb])]
    | invoke r n => rfl
  · rfl

end
end Go.Abs
