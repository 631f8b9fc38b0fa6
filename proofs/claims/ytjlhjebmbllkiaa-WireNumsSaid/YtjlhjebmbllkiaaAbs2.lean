/-
The interpreter's operations on the abstract heap.
-/
import Derived.Test.YtjlhjebmbllkiaaAbs1
import Derived.Laws.Sem
import Derived.Deep.AppendSrc
import Derived.Deep.MidRow
import Derived.Laws.OwnMore
import Derived.Laws.MakeOwn
set_option linter.unusedVariables false
set_option linter.unusedSimpArgs false
namespace Go.Abs
open Go.RowKit

abbrev M (α : Type) := AHeap → Option (α × AHeap)
def ret {α : Type} (a : α) : M α := fun H => some (a, H)
def bnd {α β : Type} (x : M α) (f : α → M β) : M β := fun H => match x H with
  | some (a, H') => f a H'
  | none => none
def fail {α : Type} : M α := fun _ => none
def lift {α : Type} (o : Option α) : M α := fun H => match o with
  | some a => some (a, H)
  | none => none

/-- What a computation without memory, tape or streams comes to. -/
def pureRun {α : Type} (P : Program) : Sem α → Option α
  | .pure a => some a
  | .program k => pureRun P (k P)
  | .mark _ k => pureRun P k
  | _ => none
theorem pureRun_run {α : Type} {P : Program} (s : Sem α) : ∀ {a : α}, pureRun P s = some a → ∀ w : World, s.run P w = .ok a w := by
  induction s with
  | pure b => intro a h w; simp only [pureRun, Option.some.injEq] at h; subst h; rfl
  | program k ih => intro a h w; exact ih P h w
  | mark mk k ih => intro a h w; exact ih h w
  | _ => intro a h; simp [pureRun] at h

theorem pureRun_bind' {α β : Type} {P : Program} (x : Sem α) (f : α → Sem β) : pureRun P (x.bind f) = (pureRun P x).bind fun a => pureRun P (f a) := by
  induction x with
  | pure a => rfl
  | program k ih => simp only [Sem.bind, pureRun]; exact ih P
  | mark mk k ih => simp only [Sem.bind, pureRun]; exact ih
  | _ => rfl
theorem pureRun_bind {α β : Type} {P : Program} (x : Sem α) (f : α → Sem β) : pureRun P (x >>= f) = (pureRun P x).bind fun a => pureRun P (f a) := pureRun_bind' x f
theorem pureRun_pure {α : Type} {P : Program} (a : α) : pureRun P (Pure.pure a : Sem α) = some a := rfl

/-- A value of one cell without an address. -/
def sg : Value → Bool
  | .bool _ | .int _ _ | .string _ | .pointer none | .slice none 0 0 | .map none | .nilFunc => true
  | _ => false
def ground : Value → Bool
  | .agg cs => cs.toList.all sg
  | v => sg v

theorem sg_refl {m : Mp} {v : Value} (h : sg v = true) : VR m v v := by
  cases v with
  | bool b => exact .bool b
  | int k n => exact .int k n
  | string s => exact .string s
  | pointer a => cases a with
    | none => exact .ptrNil
    | some a => simp [sg] at h
  | slice a n c => cases a with
    | none =>
      have : n = 0 ∧ c = 0 := by
        simp only [sg] at h
        split at h <;> simp_all
      rw [this.1, this.2]; exact .sliceNil
    | some a => simp [sg] at h
  | map r => cases r with
    | none => exact .mapNil
    | some r => simp [sg] at h
  | nilFunc => exact .nilFunc
  | _ => simp [sg] at h
theorem sg_eq {m : Mp} {v v' : Value} (h : sg v = true) (hv : VR m v v') : v' = v := by
  cases hv <;> first | rfl | (simp [sg] at h)
theorem sg_undef_getD {l : List Value} (h : l.all sg = true) (i : Nat) {m : Mp} : VR m (l.getD i undef) (l.getD i undef) := by
  by_cases hi : i < l.length
  · rw [List.getD_eq_getElem?_getD, List.getElem?_eq_getElem hi]
    exact sg_refl (List.all_eq_true.1 h _ (List.getElem_mem hi))
  · rw [List.getD_eq_getElem?_getD, List.getElem?_eq_none (Nat.le_of_not_lt hi)]
    exact VR.undef
theorem arr_eq {m : Mp} {x x' : Array Value} (h : x.toList.all sg = true) (hs : x.size = x'.size) (hv : ∀ i : Nat, VR m (x.getD i undef) (x'.getD i undef)) : x' = x := by
  apply Array.ext hs.symm
  intro i h1 h2
  have := hv i
  simp only [Array.getD_eq_getD_getElem?, Array.getElem?_eq_getElem h1, Array.getElem?_eq_getElem h2, Option.getD_some] at this
  exact sg_eq (List.all_eq_true.1 h _ (by simp)) this
theorem ground_eq {m : Mp} {v v' : Value} (h : ground v = true) (hv : VR m v v') : v' = v := by
  cases hv with
  | agg hx hh => rw [arr_eq h hx hh]
  | tuple hx hh => simp [ground, sg] at h
  | nores => rfl
  | bool b => rfl
  | int k n => rfl
  | string s => rfl
  | ptrNil => rfl
  | ptr h' => simp [ground, sg] at h
  | sliceNil => rfl
  | slice h' => simp [ground, sg] at h
  | slice0 h' => simp [ground, sg] at h
  | sliceE => simp [ground, sg] at h
  | mapNil => rfl
  | map h' => simp [ground, sg] at h
  | nilFunc => rfl
  | func => simp [ground, sg] at h
  | nilIface => rfl
  | iface => simp [ground, sg] at h
theorem ground_refl {m : Mp} {v : Value} (h : ground v = true) : VR m v v := by
  cases v with
  | agg cs => exact .agg rfl (fun i => by simpa [List.getD_eq_getElem?_getD, Array.getD_eq_getD_getElem?] using sg_undef_getD (m := m) h i)
  | bool b => exact .bool b
  | int k n => exact .int k n
  | string s => exact .string s
  | pointer a => exact sg_refl h
  | slice a n c => exact sg_refl h
  | map r => exact sg_refl h
  | nilFunc => exact .nilFunc
  | _ => simp [ground, sg] at h

/-- A computation on values without addresses. -/
def aGround (P : Program) (args : List Value) (s : Sem Value) : M Value := fun H =>
  if args.all ground then
    match pureRun P s with
    | some v => if ground v then some (v, H) else none
    | none => none
  else none

def isAgg? (P : Program) (t : TypeId) : Option Bool :=
  match P.underlying t with
  | some (.struct _) | some (.array _ _) => some true
  | some _ => some false
  | none => none
def szOf (P : Program) (t : TypeId) : Option Nat := (P.info? t).map (·.size)
def zeroOf (P : Program) (t : TypeId) : Option Value := (P.info? t).bind (·.zero)
def bytesOf (P : Program) (t : TypeId) : Option Nat := (P.info? t).map (·.bytes)
def elemOf? (P : Program) (t : TypeId) : Option TypeId :=
  match P.underlying t with
  | some (.slice e) => some e
  | _ => none

def splice (cs : List Value) (o : Nat) (xs : List Value) : List Value := cs.take o ++ xs ++ cs.drop (o + xs.length)

def aNew (cs : List Value) (esz : Nat) : M Nat := fun H => some (H.next, H.push (.cells cs true esz))

def aAlloc (P : Program) (e : TypeId) : M Value := fun H =>
  match zeroOf P e with
  | some z => if ground z then some (.pointer (some ⟨H.next, 0, none⟩), H.push (.cells z.cells.toList true 0)) else none
  | none => none
def aBox (x : Value) : M Value := fun H => some (.pointer (some ⟨H.next, 0, none⟩), H.push (.cells x.cells.toList true 0))

/-- 'Instr.fill', over lists. -/
def fillL (place : Nat → Option (Nat × Nat)) : List Value → List (Nat × Value) → Option (List Value)
  | cells, [] => some cells
  | cells, (i, v) :: rest =>
    match place i with
    | none => none
    | some (off, size) => if v.cells.toList.length = size ∧ off + size ≤ cells.length then fillL place (splice cells off v.cells.toList) rest else none
def placesOf (P : Program) : List Field → Option (List (Nat × Nat))
  | [] => some []
  | f :: fs => match szOf P f.type, placesOf P fs with
    | some n, some l => some ((f.offset, n) :: l)
    | _, _ => none
def aBuild (P : Program) (t : TypeId) (parts : List (Nat × Value)) : M Value := fun H =>
  match zeroOf P t with
  | some z => if ground z then
      match P.underlying t with
      | some (.struct fields) => match placesOf P fields.toList with
        | some pl => match fillL (pl[·]?) z.cells.toList parts with
          | some l => some (.agg l.toArray, H)
          | none => none
        | none => none
      | some (.array _ e) => match szOf P e with
        | some size => match fillL (fun i => some (i * size, size)) z.cells.toList parts with
          | some l => some (.agg l.toArray, H)
          | none => none
        | none => none
      | _ => none
    else none
  | none => none
/-- So many zeros. -/
def zl (z : List Value) (n : Nat) : List Value := (List.range (n * z.length)).map fun i => z.getD (i % z.length) default

def litCells (P : Program) (t : TypeId) (len : Nat) (parts : List (Nat × Value)) : Option (List Value × Nat) :=
  match elemOf? P t with
  | some e => match szOf P e, zeroOf P e with
    | some size, some z =>
      if len * size ≤ 16777216 then if z.cells.toList.length = size then if z.cells.toList.all sg then
        match fillL (fun i => some (i * size, size)) (zl z.cells.toList len) parts with
        | some cells => some (cells, size)
        | none => none
      else none else none else none
    | _, _ => none
  | none => none
def aBuildSlice (P : Program) (t : TypeId) (len : Nat) (parts : List (Nat × Value)) : M Value := fun H =>
  match litCells P t len parts with
  | some (cells, size) => some (.slice (some ⟨H.next, 0, none⟩) len len, H.push (.cells cells true size))
  | none => none

def aLoad (P : Program) (t : TypeId) (p : Value) : M Value := fun H =>
  match p with
  | .pointer (some ⟨r, o, none⟩) =>
    match H.get r with
    | some (.cells cs _ _) =>
      match isAgg? P t with
      | some true => match szOf P t with
        | some n => if o + n ≤ cs.length then some (.agg ((cs.drop o).take n).toArray, H) else none
        | none => none
      | some false => match cs[o]? with
        | some v => some (v, H)
        | none => none
      | none => none
    | _ => none
  | _ => none

def aStore (P : Program) (t : TypeId) (p x : Value) : M Value := fun H =>
  match p with
  | .pointer (some ⟨r, o, none⟩) =>
    match H.get r with
    | some (.cells cs true esz) =>
      match szOf P t with
      | some n => if x.cells.size = n then if x.cells.toList.all (·.oneCell') then if o + n ≤ cs.length then
          some (undef, H.set r (.cells (splice cs o x.cells.toList) true esz)) else none else none else none
      | none => none
    | _ => none
  | _ => none

def aNilCheck (p : Value) : M Value := fun H =>
  match p with
  | .pointer (some _) => some (p, H)
  | _ => none

/-- '==' where one side is nil. -/
def nilEq (d : TypeDesc) (x y : Value) : Option Bool :=
  match d, x, y with
  | .pointer _, .pointer none, .pointer b => some b.isNone
  | .pointer _, .pointer (some _), .pointer none => some false
  | .slice _, .slice none _ _, .slice b _ _ => some b.isNone
  | .slice _, .slice (some _) _ _, .slice none _ _ => some false
  | .map _ _, .map none, .map b => some b.isNone
  | .map _ _, .map (some _), .map none => some false
  | _, _, _ => none
def nilTest (P : Program) (op : BinOp) (t : TypeId) (x y : Value) : Option Bool :=
  match P.underlying t with
  | some d => match op with
    | .eql => nilEq d x y
    | .neq => (nilEq d x y).map not
    | _ => none
  | none => none
def aStr (op : BinOp) (a b : ByteArray) : Option Value :=
  match op with
  | .eql => some (.bool (decide (a.data.toList = b.data.toList)))
  | .neq => some (.bool (!decide (a.data.toList = b.data.toList)))
  | .add => if a.data.toList.length + b.data.toList.length ≤ 9223372036854775807 then some (.string ⟨(a.data.toList ++ b.data.toList).toArray⟩) else none
  | _ => none
def aBin (P : Program) (op : BinOp) (t : TypeId) (x y : Value) : M Value := fun H =>
  match x, y with
  | .int _ _, .int _ _ => aGround P [x, y] (binOp op t x y) H
  | .string a, .string b => match aStr op a b with
    | some v => some (v, H)
    | none => none
  | _, _ =>
    match nilTest P op t x y with
    | some b => some (.bool b, H)
    | none => aGround P [x, y] (do eqGuard op t (.tmp 0) (.tmp 0) x y; binOp op t x y) H
def aUn (P : Program) (op : UnOp) (x : Value) : M Value := aGround P [x] (Op.unary op x)

def byteOf? : Value → Option UInt8
  | .int .u8 n => some (UInt8.ofNat n.toNat)
  | _ => none
def bytesOf? : List Value → Option (List UInt8)
  | [] => some []
  | v :: l => match byteOf? v, bytesOf? l with
    | some b, some bs => some (b :: bs)
    | _, _ => none
def aCells (x : Value) (n : Nat) : AHeap → Option (List Value) := fun H =>
  match x with
  | .slice (some ⟨r, o, none⟩) _ _ =>
    match H.get r with
    | some (.cells cs _ _) => if o + n ≤ cs.length then some ((cs.drop o).take n) else none
    | _ => none
  | .slice (some ⟨_, _, some _⟩) _ _ => if n = 0 then some [] else none
  | .slice none 0 0 => if n = 0 then some [] else none
  | _ => none
def aConv (P : Program) (src dst : TypeId) (x : Value) : M Value := fun H =>
  match x with
  | .slice _ n _ =>
    match P.underlying src, P.underlying dst with
    | some (.slice e), some .string =>
      match P.underlying e with
      | some (.int .u8) => match aCells x n H with
        | some cs => match bytesOf? cs with
          | some bs => some (.string ⟨bs.toArray⟩, H)
          | none => none
        | none => none
      | _ => none
    | some (.slice e0), some (.slice e) =>
      match P.underlying e with
      | some (.int .u8) => if src = dst then match x with
          | .slice (some ⟨r, _, none⟩) _ _ => match H.get r with
            | some (.cells _ true _) => some (x, H)
            | _ => none
          | _ => none
        else none
      | _ => none
    | _, _ => none
  | .string s =>
    match P.underlying src, P.underlying dst with
    | some _, some (.slice e) => match P.underlying e with
      | some (.int .u8) => some (.slice (some ⟨H.next, 0, none⟩) s.size s.size, H.push (.cells (byteCells s) true 1))
      | _ => none
    | _, _ => aGround P [x] (convert src dst x) H
  | _ => aGround P [x] (convert src dst x) H

def aMakeSlice (P : Program) (t : TypeId) (l c : Value) : M Value := fun H =>
  match l, c with
  | .int _ l, .int _ c =>
    match elemOf? P t with
    | some e => match szOf P e, zeroOf P e, bytesOf P e with
      | some size, some z, some bytes =>
        if ground z then if z.cells.size = size then if 0 < size then if 0 ≤ l then if l ≤ c then if c * bytes ≤ 140737488355328 then if c ≤ 9223372036854775807 then
          some (.slice (some ⟨H.next, 0, none⟩) l.toNat l.toNat, H.push (.cells (zl z.cells.toList l.toNat) true size)) else none else none else none else none else none else none else none
      | _, _, _ => none
    | none => none
  | _, _ => none

def intOr (d : Nat) : Option Value → Option Int
  | none => some d
  | some (.int _ i) => some i
  | some _ => none
def aSlice (P : Program) (t : TypeId) (x : Value) (lo hi : Option Value) : M Value := fun H =>
  match P.underlying t, x with
  | some .string, .string _ => aGround P ((x :: lo.toList) ++ hi.toList) (Instr.slice t x lo hi none) H
  | some (.slice e), .slice a len _ =>
    match szOf P e, intOr 0 lo, intOr len hi with
    | some size, some l, some h =>
      if 0 ≤ l then if l ≤ h then if h ≤ len then
        match a with
        | none => if len = 0 then some (.slice none 0 0, H) else none
        | some ⟨r, o, none⟩ => match H.get r with
          | some (.cells _ _ esz) => if esz = size then some (.slice (some ⟨r, o + l.toNat * size, none⟩) (h.toNat - l.toNat) (h.toNat - l.toNat), H) else none
          | _ => none
        | some ⟨0, 0, some 0⟩ => if len = 0 then some (.slice (some ⟨0, 0, some 0⟩) 0 0, H) else none
        | _ => none
      else none else none else none
    | _, _, _ => none
  | _, _ => none

def aFieldAddr (P : Program) (s : TypeId) (x : Value) (f : Nat) : M Value := fun H =>
  match P.underlying s, x with
  | some (.struct fields), .pointer (some ⟨r, o, none⟩) =>
    match fields[f]? with
    | some fd => match szOf P fd.type with
      | some n => if n = 0 then none else some (.pointer (some ⟨r, o + fd.offset, none⟩), H)
      | none => none
    | none => none
  | _, _ => none

def partOf (P : Program) (t : TypeId) (cs : Array Value) (off : Nat) : Option Value :=
  match isAgg? P t with
  | some true => match szOf P t with
    | some n => some (.agg ((cs.toList.drop off).take n).toArray)
    | none => none
  | some false => cs[off]?
  | none => none
def aField (P : Program) (t : TypeId) (x : Value) (f : Nat) : M Value := fun H =>
  match P.underlying t, x with
  | some (.struct fields), .agg cs =>
    match fields[f]? with
    | some fd => match partOf P fd.type cs fd.offset with
      | some v => some (v, H)
      | none => none
    | none => none
  | _, _ => none

def aIndexAddr (P : Program) (t : TypeId) (x ix : Value) : M Value := fun H =>
  match P.underlying t, x, ix with
  | some (.slice e), .slice (some ⟨r, o, none⟩) len _, .int _ i =>
    match szOf P e with
    | some size => if 0 ≤ i ∧ i < len then some (.pointer (some ⟨r, o + i.toNat * size, none⟩), H) else none
    | none => none
  | some (.array len e), .pointer (some ⟨r, o, none⟩), .int _ i =>
    match szOf P e with
    | some size => if 0 ≤ i ∧ i < len then some (.pointer (some ⟨r, o + i.toNat * size, none⟩), H) else none
    | none => none
  | _, _, _ => none

def aIndex (P : Program) (t : TypeId) (x ix : Value) : M Value := fun H =>
  match P.underlying t, x, ix with
  | some (.array len e), .agg cs, .int _ i =>
    match szOf P e with
    | some size => if 0 ≤ i ∧ i < len then match partOf P e cs (i.toNat * size) with
        | some v => some (v, H)
        | none => none
      else none
    | none => none
  | some .string, .string _, .int _ _ => aGround P [x, ix] (Instr.index t x ix) H
  | _, _, _ => none

def aExtract (t : Value) (i : Nat) : M Value := fun H =>
  match t with
  | .tuple vs => match vs[i]? with
    | some v => some (v, H)
    | none => none
  | _ => none

/-- Keys: whole numbers, strings. -/
def keyKind : TypeDesc → Value → Bool
  | .int _, .int _ _ | .string, .string _ | .bool, .bool _ => true
  | _, _ => false
def aMakeMap (P : Program) (t : TypeId) (r : Option Value) : M Value := fun H =>
  match r with
  | none => some (.map (some H.next), H.push (.map [] 0))
  | some _ => none
def aLookup (P : Program) (t : TypeId) (x k : Value) (ok : Bool) : M Value := fun H =>
  match P.underlying t with
  | some (.map kt et) => match P.underlying kt with
    | some kd =>
      if keyKind kd k then
        match (match x with
          | .map none => some []
          | .map (some r) => match H.get r with
            | some (.map es _) => some es
            | _ => none
          | _ => none : Option (List MapEntry)) with
        | some es => match Instr.findNow kd k es 0 with
          | some (some (_, v)) => some (if ok then .tuple #[v, .bool true] else v, H)
          | some none => match zeroOf P et with
            | some z => if ground z then some (if ok then .tuple #[z, .bool false] else z, H) else none
            | none => none
          | none => none
        | none => none
      else none
    | none => none
  | _ => none
def aMapUpdate (P : Program) (t : TypeId) (x k v : Value) : M Value := fun H =>
  match P.underlying t with
  | some (.map kt _) => match P.underlying kt with
    | some kd =>
      if keyKind kd k then
        match x with
        | .map (some r) => match H.get r with
          | some (.map es clock) => match Instr.findNow kd k es 0 with
            | some (some (i, _)) => some (undef, H.set r (.map (es.modify i fun e => { e with key := k, val := v }) clock))
            | some none => some (undef, H.set r (.map (es ++ [{ key := k, val := v, born := clock }]) (clock + 1)))
            | none => none
          | _ => none
        | _ => none
      else none
    | none => none
  | _ => none

def srcCells (P : Program) (tx : TypeId) (size : Nat) (x : Value) (H : AHeap) : Option (Nat × List Value) :=
  match P.underlying tx, x with
  | some (.slice _), .slice _ n _ => match aCells x (n * size) H with
    | some cs => if cs.all (·.oneCell') then some (n, cs) else none
    | none => none
  | some .string, .string s => if size = 1 then some (s.size, byteCells s) else none
  | _, _ => none
def aAppend (P : Program) (t tx : TypeId) (s x : Value) : M Value := fun H =>
  match elemOf? P t with
  | some e => match szOf P e, zeroOf P e, bytesOf P e with
    | some size, some z, some bytes =>
      if 0 < size then if z.cells.size = size then
      match srcCells P tx size x H with
      | some (k, news) =>
        match s with
        | .slice none 0 0 =>
          if k = 0 then some (.slice none 0 0, H)
          else if k * bytes ≤ 140737488355328 then if k ≤ 4611686018427387903 then
            some (.slice (some ⟨H.next, 0, none⟩) k k, H.push (.cells news true size)) else none else none
        | .slice (some ⟨r, o, none⟩) n _ =>
          match H.get r with
          | some (.cells cs true esz) =>
            if esz = size then if o + n * size ≤ cs.length then if (n + k) * bytes ≤ 140737488355328 then if n + k ≤ 4611686018427387903 then
              if ((cs.drop o).take (n * size)).all (·.oneCell') then
              some (.slice (some ⟨H.next, 0, none⟩) (n + k) (n + k), (H.set r .dead).push (.cells ((cs.drop o).take (n * size) ++ news) true size))
              else none else none else none else none else none
          | _ => none
        | _ => none
      | none => none
      else none else none
    | _, _, _ => none
  | none => none

def aCopy (P : Program) (t tx : TypeId) (d s : Value) : M Value := fun H =>
  match elemOf? P t with
  | some e => match szOf P e with
    | some size =>
      match d, s with
      | .slice d' dn dc, .slice s' sn sc =>
        if Nat.min sn dn = 0 then some (goInt 0, H) else
        match d' with
        | some ⟨r, o, none⟩ =>
          match H.get r, aCells (.slice s' sn sc) (Nat.min sn dn * size) H with
          | some (.cells cs true esz), some news =>
            if o + Nat.min sn dn * size ≤ cs.length then if news.all (·.oneCell') then
              some (goInt (Nat.min sn dn), H.set r (.cells (splice cs o news) true esz)) else none else none
          | _, _ => none
        | _ => none
      | _, _ => none
    | none => none
  | none => none

def aClear (P : Program) (t : TypeId) (x : Value) : M Value := fun H =>
  match elemOf? P t, x with
  | some _, .slice none _ _ => some (undef, H)
  | some e, .slice (some ⟨r, o, none⟩) n _ =>
    if n = 0 then some (undef, H) else
    match szOf P e, zeroOf P e, H.get r with
    | some size, some z, some (.cells cs true esz) =>
      if ground z then if z.cells.size = size then if z.cells.toList.all (·.oneCell') then if 0 < size then if o + n * size ≤ cs.length then
        some (undef, H.set r (.cells (splice cs o (zl z.cells.toList n)) true esz)) else none else none else none else none else none
    | _, _, _ => none
  | _, _ => none

def aLen (P : Program) (t : TypeId) (x : Value) : M Value := fun H =>
  match P.underlying t, x with
  | some .string, .string s => some (goInt s.size, H)
  | some (.array n _), _ => some (goInt n, H)
  | some (.slice _), .slice _ n _ => some (goInt n, H)
  | some (.map _ _), .map none => some (goInt 0, H)
  | some (.map _ _), .map (some r) => match H.get r with
    | some (.map es _) => some (goInt es.length, H)
    | _ => none
  | _, _ => none

def aBuiltin (P : Program) (b : Builtin) (ts : Array TypeId) (ty : TypeId) (args : List Value) : M Value := fun H =>
  match b with
  | .len => match ts.toList, args with
    | [t], [x] => aLen P t x H
    | _, _ => none
  | .append => match ts.toList, args with
    | [t, tx], [s, x] => aAppend P t tx s x H
    | _, _ => none
  | .copy => match ts.toList, args with
    | [t, tx], [d, s] => aCopy P t tx d s H
    | _, _ => none
  | .clear => match ts.toList, args with
    | [t], [x] => aClear P t x H
    | _, _ => none
  | .min => aGround P args (Builtin.min_ ts ty args.toArray) H
  | .max => aGround P args (Builtin.max_ ts ty args.toArray) H
  | _ => none
def aPick (c a b : Value) : M Value := fun H =>
  match c with
  | .bool t => some (if t then a else b, H)
  | _ => none

/-- An operation that calls no function. -/
def aOp (P : Program) (ρ : Operand → Value) (o : Oper) : M Value :=
  match o.op with
  | .move x | .assign x => ret (ρ x)
  | .pick c a b => aPick (ρ c) (ρ a) (ρ b)
  | .alloc e => aAlloc P e
  | .box _ x => aBox (ρ x)
  | .build t parts => aBuild P t (parts.toList.map fun p => (p.1, ρ p.2))
  | .buildSlice t len parts => aBuildSlice P t len (parts.toList.map fun p => (p.1, ρ p.2))
  | .load t a => aLoad P t (ρ a)
  | .store t a x => aStore P t (ρ a) (ρ x)
  | .nilCheck x => aNilCheck (ρ x)
  | .binOp op t x y _ => aBin P op t (ρ x) (ρ y)
  | .unOp op _ x => aUn P op (ρ x)
  | .convert src dst x => aConv P src dst (ρ x)
  | .makeFunc fn first captured => ret (.func fn (first.toList.map ρ).toArray (captured.toList.map ρ).toArray)
  | .makeMap t r => aMakeMap P t (r.map ρ)
  | .makeSlice t l c => aMakeSlice P t (ρ l) (ρ c)
  | .slice t x lo hi none => aSlice P t (ρ x) (lo.map ρ) (hi.map ρ)
  | .fieldAddr s x f => aFieldAddr P s (ρ x) f
  | .field t x f => aField P t (ρ x) f
  | .indexAddr t x i => aIndexAddr P t (ρ x) (ρ i)
  | .index t x i => aIndex P t (ρ x) (ρ i)
  | .lookup t x i ok => aLookup P t (ρ x) (ρ i) ok
  | .mapUpdate t x k v => aMapUpdate P t (ρ x) (ρ k) (ρ v)
  | .extract t i => aExtract (ρ t) i
  | .call c => match c.callee with
    | .builtin b => aBuiltin P b c.argTypes o.type (c.args.toList.map ρ)
    | _ => fail
  | _ => fail

end Go.Abs
