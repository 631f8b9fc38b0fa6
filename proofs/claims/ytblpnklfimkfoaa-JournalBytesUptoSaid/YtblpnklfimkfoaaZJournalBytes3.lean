/-
The law JournalBytes returns true for every input that holds together at most 1048576 values and letters (each counted as often as it is reached), and leaves it as it was. Condition: that bound, the second form's (UptoSaid); nothing else. Part 3 of 6 of the texts (put together by a program: own names are short, what isn't needed is left out).
-/
import Derived.Test.YtblpnklfimkfoaaZJournalBytes2

set_option linter.unusedVariables false
set_option linter.unusedSimpArgs false
set_option maxRecDepth 100000
namespace Go.Abs
open Go.RowKit
def SL (k e n : Nat) (cs : List Value) : Value := .iface k (.iface e (.iface n (.agg cs.toArray)))
def EP (cs : List Value) : Value := .iface 3 (.agg cs.toArray)
def Y4 : Value → Bool
 | .slice (some _) _ _ => true
 | _ => false
structure Fx where
 hp : Bool
 dr : Bool
 nm : Bool
def qP : Value → Value
 | .iface k v => .iface (if k = 2 then 1 else k) v
 | v => v
def dem : Value → Value
 | .tuple vs => .tuple (vs.map qP)
 | v => qP v
def vSl : Value → Option (Nat × Nat × List Value)
 | .slice none 0 0 => some (0, 0, [])
 | .iface k (.iface e (.iface n (.agg cs))) => if k = 1 ∨ k = 2 then some (e, n, cs.toList) else none
 | _ => none
def jg (P : Program) (t : TypeId) (len : Nat) (parts : List (Nat × Value)) : M Value := fun S =>
 match kZ P t len (parts.map fun p => (p.1, dem p.2)) with
 | some (cells, size) => some (SL 2 size len cells, S)
 | none => none
def afW (P : Program) (t : TypeId) (parts : List (Nat × Value)) : M Value := yh P t (parts.map fun p => (p.1, dem p.2))
def jw (P : Program) (fx : Bool) (t : TypeId) (p : Value) : M Value := fun S =>
 match p with
 | .iface k (.agg cs) => if k = 3 then
   match qg P t with
   | some true => match qR P t with
    | some n => if n ≤ cs.toList.length then some (.agg (cs.toList.take n).toArray, S) else none
    | none => none
   | some false => match cs.toList[0]? with
    | some v => some (v, S)
    | none => none
   | none => none
  else none
 | .pointer _ => match wY P t p S with
  | some (.agg cs, _) => if fx then if ground (.agg cs) then some (.agg cs, S) else none else some (.agg (cs.map qP), S)
  | some (v, _) => if fx then if ground v then some (v, S) else none else some (dem v, S)
  | none => none
 | _ => none
def jf (P : Program) (s : TypeId) (x : Value) (f : Nat) : M Value := fun S =>
 match x with
 | .iface k (.agg cs) => if k = 3 then
   match P.underlying s with
   | some (.struct fields) => match fields[f]? with
    | some fd => match qR P fd.type with
     | some n => if n = 0 then none else if fd.offset + n ≤ cs.toList.length then some (EP ((cs.toList.drop fd.offset).take n), S) else none
     | none => none
    | none => none
   | _ => none
  else none
 | _ => wF P s x f S
def jk (P : Program) (t : TypeId) (x ix : Value) : M Value := fun S =>
 match x with
 | .iface k v => match P.underlying t, vSl (.iface k v), ix with
  | some (.slice te), some (e, n, cs), .int _ i => match qR P te with
   | some size => if size = e then if 0 ≤ i ∧ i < n then some (EP ((cs.drop (i.toNat * e)).take e), S) else none else none
   | none => none
  | _, _, _ => none
 | .pointer _ => jM P t x ix S
 | .slice (some _) _ _ => jM P t x ix S
 | _ => none
def yT (P : Program) (t : TypeId) (x : Value) (lo hi : Option Value) : M Value := fun S =>
 match x with
 | .string _ => y9 P t x lo hi S
 | _ => match P.underlying t, vSl x with
  | some (.slice te), some (e, n, cs) => match qR P te, y5 0 lo, y5 n hi with
   | some size, some l, some h => if 0 ≤ l then if l ≤ h then if h ≤ n then
     match x with
     | .slice none 0 0 => some (.slice none 0 0, S)
     | _ => if size = e then some (SL 1 e (h.toNat - l.toNat) ((cs.drop (l.toNat * e)).take ((h.toNat - l.toNat) * e)), S) else none
     else none else none else none
   | _, _, _ => none
  | _, _ => none
def kG (P : Program) (src dst : TypeId) (x : Value) : M Value := fun S =>
 match x with
 | .string s => match P.underlying src, P.underlying dst with
  | some _, some (.slice e) => match P.underlying e with
   | some (.int .u8) => some (SL 2 1 s.size (byteCells s), S)
   | _ => none
  | _, _ => jS P [x] (convert src dst x) S
 | _ => match vSl x with
  | some (e, n, cs) => match P.underlying src, P.underlying dst with
   | some (.slice te), some .string => match P.underlying te with
    | some (.int .u8) => if cs.length = n then match wG cs with
      | some bs => some (.string ⟨bs.toArray⟩, S)
      | none => none
     else none
    | _ => none
   | some (.slice _), some (.slice te) => match P.underlying te, x with
    | some (.int .u8), .iface k v => if src = dst ∧ k = 2 then some (.iface 1 v, S) else none
    | _, _ => none
   | _, _ => none
  | none => jS P [x] (convert src dst x) S
def wz (P : Program) (dr : Bool) (t : TypeId) (x : Value) (lo hi : Option Value) : M Value := fun S =>
 if Y4 x then if dr then none else y9 P t x lo hi S else yT P t x lo hi S
def jK (P : Program) (hp dr : Bool) (src dst : TypeId) (x : Value) : M Value := fun S =>
 if Y4 x then if dr then none else wB P src dst x S else
 match hp, x with
 | true, .string _ => wB P src dst x S
 | _, _ => kG P src dst x S
def ZU (P : Program) (t : TypeId) (l c : Value) : M Value := fun S =>
 match l, c with
 | .int _ l, .int _ c =>
  match wE P t with
  | some e => match qR P e, zeroOf P e, bytesOf P e with
   | some size, some z, some bytes =>
    if ground z then if z.cells.size = size then if 0 < size then if 0 ≤ l then if l ≤ c then if c * bytes ≤ 140737488355328 then if c ≤ 9223372036854775807 then
     some (SL 2 size l.toNat (zl z.cells.toList l.toNat), S) else none else none else none else none else none else none else none
   | _, _, _ => none
  | none => none
 | _, _ => none
def aeQ (P : Program) (tx : TypeId) (size : Nat) (x : Value) : Option (Nat × List Value) :=
 match x with
 | .string s => match P.underlying tx with
  | some .string => if size = 1 then some (s.size, byteCells s) else none
  | _ => none
 | _ => match P.underlying tx, vSl x with
  | some (.slice _), some (e, n, cs) => if n = 0 ∨ e = size then if cs.length = n * size then if cs.all (·.oneCell') then some (n, cs) else none else none else none
  | _, _ => none
def WA (P : Program) (tx : TypeId) (size : Nat) (x : Value) (S : zi) : Option (Nat × List Value) := if Y4 x then yP P tx size x S else aeQ P tx size x
def y8 (P : Program) (hp : Bool) (t tx : TypeId) (s x : Value) : M Value := fun S =>
 match wE P t with
 | some e => match qR P e, zeroOf P e, bytesOf P e with
  | some size, some z, some bytes =>
   if 0 < size then if z.cells.size = size then
   match WA P tx size x S with
   | some (k, news) =>
    match s with
    | .slice none 0 0 =>
     if k = 0 then some (.slice none 0 0, S)
     else if k * bytes ≤ 140737488355328 then if k ≤ 4611686018427387903 then
      if hp then some (.slice (some ⟨S.next, 0, none⟩) k k, S.push (.cells news (.own []) size)) else some (SL 2 size k news, S) else none else none
    | .slice (some ⟨q, o, none⟩) n _ =>
     match S.get q with
     | some (.cells cs own esz) =>
      if esz = size then if o + n * size ≤ cs.length then if (n + k) * bytes ≤ 140737488355328 then if n + k ≤ 4611686018427387903 then
       if ((cs.drop o).take (n * size)).all (·.oneCell') then
       match yQ S q own cs (o + n * size) (n * size) size with
       | some (G, anc) => some (.slice (some ⟨S.next, 0, none⟩) (n + k) (n + k), G.push (.cells ((cs.drop o).take (n * size) ++ news) (.own anc) size))
       | none => none
       else none else none else none else none else none
     | _ => none
    | .iface g (.iface e' (.iface n (.agg cs))) =>
     if g = 2 then if e' = size then if (n + k) * bytes ≤ 140737488355328 then if n + k ≤ 4611686018427387903 then if cs.toList.all (·.oneCell') then
      some (SL 2 size (n + k) (cs.toList ++ news), S) else none else none else none else none else none
    | _ => none
   | none => none
   else none else none
  | _, _, _ => none
 | none => none
def jB (P : Program) (t tx : TypeId) (s x : Value) : M Value := y8 P false t tx s x
def JO (x : Value) (S : zi) : Option (Nat × (Nat → Option (List Value))) :=
 match x with
 | .slice (some a) n c => some (n, fun m => wS (.slice (some a) n c) m S)
 | _ => match vSl x with
  | some (_, n, cs) => some (n, fun m => if m ≤ cs.length then some (cs.take m) else none)
  | none => none
def WG (P : Program) (t tx : TypeId) (d s : Value) : M Value := fun S =>
 match wE P t with
 | some e => match qR P e with
  | some size =>
   match JO s S with
   | some (sn, src) =>
    match d with
    | .slice none 0 0 => some (goInt 0, S)
    | .slice (some ⟨q, o, none⟩) dn _ =>
     if Nat.min sn dn = 0 then some (goInt 0, S) else
     match S.get q, src (Nat.min sn dn * size) with
     | some (.cells cs (.own anc) esz), some news =>
      if o + Nat.min sn dn * size ≤ cs.length then if news.all (·.oneCell') then
       some (goInt (Nat.min sn dn), (S.kills anc).set q (.cells (splice cs o news) (.own []) esz)) else none else none
     | _, _ => none
    | _ => none
   | none => none
  | none => none
 | none => none
def ab3 (P : Program) (t : TypeId) (x : Value) : M Value := fun S =>
 match x with
 | .slice _ _ _ => xC P t x S
 | _ => none
def ZL (P : Program) (nm : Bool) (t : TypeId) (x k : Value) (ok : Bool) : M Value := fun S => if nm then none else jT P t x k ok S
def qM (P : Program) (t : TypeId) (x : Value) : M Value := fun S =>
 match x with
 | .iface k v => match P.underlying t, vSl (.iface k v) with
  | some (.slice _), some (_, n, _) => some (goInt n, S)
  | _, _ => none
 | .map _ => none
 | _ => QI P t x S
def jJ (P : Program) (op : BinOp) (t : TypeId) (x y : Value) : M Value := fun S =>
 match x, y with
 | .iface k v, .slice none 0 0 => match P.underlying t, vSl (.iface k v), op with
  | some (.slice _), some _, .eql => some (.bool false, S)
  | some (.slice _), some _, .neq => some (.bool true, S)
  | _, _, _ => none
 | _, _ => xI P op t x y S
def yU (P : Program) (t : TypeId) (p x : Value) : M Value := vX P t p x
def wZ (c a b : Value) : M Value := fun S =>
 match c with
 | .bool t => some (if t then dem a else dem b, S)
 | _ => none
def qp (x : Value) : M Value := fun S =>
 match x with
 | .pointer (some _) => some (x, S)
 | .iface k (.agg cs) => if k = 3 then some (x, S) else none
 | _ => none
def Yr (P : Program) (hp : Bool) (b : Builtin) (ts : Array TypeId) (ty : TypeId) (args : List Value) : M Value := fun S =>
 match b with
 | .len => match ts.toList, args with
  | [t], [x] => qM P t x S
  | _, _ => none
 | .append => match ts.toList, args with
  | [t, tx], [s, x] => y8 P hp t tx s x S
  | _, _ => none
 | .copy => match ts.toList, args with
  | [t, tx], [d, s] => WG P t tx d s S
  | _, _ => none
 | .clear => match ts.toList, args with
  | [t], [x] => ab3 P t x S
  | _, _ => none
 | .min => jS P args (Builtin.min_ ts ty args.toArray) S
 | .max => jS P args (Builtin.max_ ts ty args.toArray) S
 | _ => none
def vOp (P : Program) (fx : Fx) (ρ : Operand → Value) (o : Oper) : M Value :=
 match o.op with
 | .move x | .assign x => ret (ρ x)
 | .pick c a b => wZ (ρ c) (ρ a) (ρ b)
 | .alloc e => qc P e
 | .box _ x => Xd (dem (ρ x))
 | .build t parts => afW P t (parts.toList.map fun p => (p.1, ρ p.2))
 | .buildSlice t len parts => if fx.hp then jZ P t len ((parts.toList.map fun p => (p.1, ρ p.2)).map fun p => (p.1, dem p.2)) else jg P t len (parts.toList.map fun p => (p.1, ρ p.2))
 | .load t a => jw P fx.nm t (ρ a)
 | .store t a x => yU P t (ρ a) (dem (ρ x))
 | .nilCheck x => qp (ρ x)
 | .binOp op t x y _ => jJ P op t (ρ x) (ρ y)
 | .unOp op _ x => aUn P op (ρ x)
 | .convert src dst x => jK P fx.hp fx.dr src dst (ρ x)
 | .makeFunc fn first captured => ret (.func fn (first.toList.map fun x => dem (ρ x)).toArray (captured.toList.map fun x => dem (ρ x)).toArray)
 | .makeMap t r => xu P t (r.map ρ)
 | .makeSlice t l c => if fx.hp then jO P t (ρ l) (ρ c) else ZU P t (ρ l) (ρ c)
 | .slice t x lo hi none => wz P fx.dr t (ρ x) (lo.map ρ) (hi.map ρ)
 | .fieldAddr s x f => jf P s (ρ x) f
 | .field t x f => xE P t (ρ x) f
 | .indexAddr t x i => jk P t (ρ x) (ρ i)
 | .index t x i => kH P t (ρ x) (ρ i)
 | .lookup t x i ok => ZL P fx.nm t (ρ x) (ρ i) ok
 | .mapUpdate t x k v => wM P t (ρ x) (ρ k) (dem (ρ v))
 | .extract t i => zL (ρ t) i
 | _ => fail
def jW (P : Program) (fx : Fx) (call : FuncId → List Value → M Value) (T : List Value) (o : Oper) : M Value := fun S =>
 if adg o then
  match o.op with
  | .call c => match c.callee with
   | .value f => match je T f with
    | .func (.func g) first captured => call g (first.toList ++ c.args.toList.map (fun x => dem (je T x)) ++ captured.toList) S
    | _ => none
   | .builtin b => Yr P fx.hp b c.argTypes o.type (c.args.toList.map (je T)) S
   | _ => none
  | _ => vOp P fx (je T) o S
 else none
def yM (T : List Value) (t : Nat) : List Value := T.set t (dem (T.getD t undef))
def zQ (i : Nat) : Value → Value
 | .tuple vs => .tuple (vs.modify i qP)
 | v => v
def moved (o : Oper) (T : List Value) : List Value :=
 match o.op with
 | .move (.tmp t) | .assign (.tmp t) => yM T t
 | .extract (.tmp t) i => T.set t (zQ i (T.getD t undef))
 | .call c => match c.callee, c.args.toList with
  | .builtin .append, .tmp t :: _ => yM T t
  | _, _ => T
 | _ => T
def agC (o : Oper) (rest : List Oper) : Bool :=
 match o.op, o.dst with
 | .move _, some d => !rest.any fun q => match q.op with
  | .assign (.tmp t) | .move (.tmp t) | .extract (.tmp t) _ => t == d
  | .call c => match c.callee, c.args.toList with
   | .builtin .append, .tmp t :: _ => t == d
   | _, _ => false
  | _ => false
 | _, _ => false
def kS (o : Oper) (rest : List Oper) (T : List Value) (v : Value) : List Value := if agC o rest then Zw T o.dst (dem v) else Zw (moved o T) o.dst v
def jl (P : Program) (fx : Fx) (call : FuncId → List Value → M Value) (ops : Array Oper) : List Oper → List Value → zi → Option (List Value × zi)
 | [], T, S => some (T, S)
 | o :: rest, T, S =>
  if Region.wanted o (ynd ops T) then
   match jW P fx call T o S with
   | some (v, S') => jl P fx call ops rest (kS o rest T v) S'
   | none => none
  else jl P fx call ops rest (kS o rest T undef) S
def qB (o : Oper) : Bool :=
 match o.op with
 | .load .. | .lookup .. | .slice .. | .convert .. => true
 | _ => false
def yY (o : Oper) : Bool :=
 match o.op with
 | .load .. | .lookup .. => true
 | _ => false
def yI (bad : List Nat) (o : Oper) : Bool := o.op.operands.toList.all fun x => match x with
 | .tmp t => !bad.contains t
 | _ => true
def aaZ (P : Program) (nm : Bool) : List Oper → List Nat → List (List Nat)
 | [], bad => [bad]
 | o :: rest, bad => bad :: aaZ P nm rest (match o.dst with
  | some d => if xM P o || !yI bad o || (yY o && !nm) then d :: bad else bad
  | none => bad)
def YN (P : Program) (ops : Array Oper) (nm : Bool) : Bool := QF P ops && (need P ops).all fun p => match ops.toList[p.1]? with
 | some o => !qB o || decide (p.1 < p.2) || yI ((aaZ P nm (ops.toList.drop p.2) []).getD (p.1 - p.2) []) o
 | none => false
def fixed (P : Program) (ops : Array Oper) : Bool := !YN P ops false
def again (P : Program) (ops : Array Oper) : List (Nat × Nat) := (need P ops).filter fun p => match ops.toList[p.1]? with
 | some o => yY o
 | none => false
def kT (T : List Value) (o : Oper) : Value :=
 match o.op with
 | .load _ a => je T a
 | .lookup _ x _ _ => je T x
 | _ => undef
def qN (p : Value) (Sa Sb : zi) : Bool :=
 match p with
 | .pointer (some ⟨q, _, _⟩) => (match Sa.get q with
  | some (.cells _ _ _) => true
  | _ => false) && !((Sb.log.take (Sb.log.length - Sa.log.length)).contains q)
 | .map (some q) => (match Sa.get q with
  | some (.map _ _) => true
  | _ => false) && !((Sb.log.take (Sb.log.length - Sa.log.length)).contains q)
 | _ => true
def XC (hist : List (Value × zi)) (x : Nat × Nat) : Bool :=
 match hist[x.1]?, hist[if x.2 < x.1 then x.2 else x.2 + 1]? with
 | some (p, Sa), some (_, Sb) => if x.2 < x.1 then qN p Sb Sa else qN p Sa Sb
 | _, _ => false
def qx (nl : List (Nat × Nat)) (hist : List (Value × zi)) (p : Value) (S : zi) : List (Value × zi) := if nl.isEmpty then hist else hist ++ [(p, S)]
def okq : Nat → Value → Bool
 | _, .bool _ | _, .int _ _ | _, .string _ | _, .pointer _ | _, .slice _ _ _ | _, .map _ | _, .nilFunc | _, .iface _ _ => true
 | d + 1, .agg cs => cs.toList.all (okq d)
 | _, _ => false
def jH (P : Program) (fx : Fx) (chk : List Nat) (nl : List (Nat × Nat)) (call : FuncId → List Value → M Value) (ops : Array Oper) : Nat → List (Value × zi) → List Oper → List Value → zi → Option (List Value × zi)
 | _, hist, [], T, S => if nl.all (XC (qx nl hist undef S)) then some (T, S) else none
 | k, hist, o :: rest, T, S =>
  if Region.wanted o (ynd ops T) then
   match jW P fx call T o S with
   | some (v, S') => if !chk.contains k || okq 3 v then jH P fx chk nl call ops (k + 1) (qx nl hist (kT T o) S) rest (kS o rest T v) S' else none
   | none => none
  else jH P fx chk nl call ops (k + 1) (qx nl hist (kT T o) S) rest (kS o rest T undef) S
def checked (P : Program) (ops : Array Oper) : List Nat := (need P ops).map (·.1)
def qI (P : Program) (ops : Array Oper) : Bool := YN P ops (fixed P ops)
structure Ora where
 fn : FuncId → Option (List Value → M Value)
 hp : FuncId → Bool
 pu : FuncId → Bool
def Xb (x : Value) : M Value := fun S =>
 match x with
 | .slice (some ⟨q, o, none⟩) n c =>
  match S.get q with
  | some (.cells cs (.own _) e) => if n = c then if o + n * e ≤ cs.length then some (SL 1 e n ((cs.drop o).take (n * e)), S.set q .dead) else none else none
  | _ => none
 | .slice (some ⟨_, _, some _⟩) _ _ => none
 | _ => some (x, S)
def ZJ : List Value → M (List Value)
 | [] => fun S => some ([], S)
 | x :: l => fun S => match Xb x S with
  | some (y, S1) => match ZJ l S1 with
   | some (m, S2) => some (y :: m, S2)
   | none => none
  | none => none
def aaE (S S1 : zi) (args : List Value) (r : Value × zi) : Value × zi := if args.any Y4 && ground r.1 && (r.2.log == S1.log) then (r.1, S) else r
def qK (hps : FuncId → Bool) (hp : Bool) (call : FuncId → List Value → M Value) : FuncId → List Value → M Value :=
 match hp with
 | false => call
 | true => fun g args S => if hps g then call g args S else match ZJ args S with
  | some (m, S1) => match call g m S1 with
   | some r => some (aaE S S1 args r)
   | none => none
  | none => none
def wH (P : Program) (hp : Bool) (call : FuncId → List Value → M Value) (fuel : Nat) : Code → List Value → zi → St
 | .skip, T, H => some (.normal, T, H)
 | .region _ ops false, T, H => match jl P ⟨hp, false, false⟩ call ops ops.toList T H with
  | some (T1, H1) => some (.normal, T1, H1)
  | none => none
 | .region _ ops true, T, H => if qI P ops then match jH P ⟨hp, !(checked P ops).isEmpty, fixed P ops⟩ (checked P ops) (again P ops) call ops 0 [] ops.toList T H with
  | some (T1, H1) => some (.normal, T1, H1)
  | none => none
  else none
 | .seq x y, T, H => match wH P hp call fuel x T H with
  | some (.normal, T1, H1) => wH P hp call fuel y T1 H1
  | r => r
 | .cond c x y, T, H => if yO c then
   match je T c with
   | .bool true => wH P hp call fuel x T H
   | .bool false => wH P hp call fuel y T H
   | _ => none
  else none
 | .block id c, T, H => match wH P hp call fuel c T H with
  | some (.exit id', T1, H1) => if id' = id then some (.normal, T1, H1) else some (.exit id', T1, H1)
  | r => r
 | .loop c, T, H => yC fuel (wH P hp call fuel c) T H
 | .exit id, T, H => some (.exit id, T, H)
 | .ret, T, H => some (.ret, T, H)
 | _, _, _ => none
def zV (P : Program) (T : List Value) (S : zi) : List ResultVar → Option (List Value)
 | [] => some []
 | .tmp t :: r => match zV P T S r with
  | some l => some (T.getD t undef :: l)
  | none => none
 | .cell a t :: r => match jw P false t (T.getD a undef) S, zV P T S r with
  | some (v, _), some l => some (v :: l)
  | _, _ => none
def adi (i : Nat) : ResultVar → Bool
 | .tmp t => t == i
 | _ => false
def ae6 (rs : List ResultVar) : Bool := (List.range rs.length).all fun i => match rs[i]? with
 | some (.tmp t) => rs.findIdx? (adi t) == some i
 | _ => true
def ji : Value → Bool
 | .tuple vs => vs.size == 0
 | _ => true
def aaW (P : Program) (fn : Func) (T : List Value) : M Value := fun S =>
 match zV P T S fn.results.toList with
 | some vs => if ae6 fn.results.toList then match vs with
   | [v] => some (v, S)
   | _ => if vs.all ji then some (.tuple vs.toArray, S) else none
  else none
 | none => none
def jy : Nat → Value → Bool
 | 0, _ => false
 | _ + 1, .bool _ => true
 | _ + 1, .int _ _ => true
 | _ + 1, .string _ => true
 | _ + 1, .pointer none => true
 | _ + 1, .slice none _ _ => true
 | _ + 1, .map none => true
 | _ + 1, .nilFunc => true
 | d + 1, .iface _ v => jy d v
 | d + 1, .agg cs => cs.toList.all (jy d)
 | d + 1, .tuple vs => vs.toList.all (jy d)
 | _ + 1, _ => false
def abN (run : M Value) (args : List Value) : M Value := fun S =>
 if args.all (jy 16) then match run zi.empty with
  | some (v, _) => if jy 16 v then some (v, S) else none
  | none => none
 else none
def acB (P : Program) (hp : Bool) (call : FuncId → List Value → M Value) (fuel : Nat) (fn : Func) (c : Code) (args : List Value) : M Value := fun S =>
 match wH P hp call fuel c (args ++ List.replicate (fn.ntmps - args.length) undef) S with
 | some (.normal, T, S') => aaW P fn T S'
 | some (.ret, T, S') => aaW P fn T S'
 | _ => none
def kF (P : Program) (O : Ora) : Nat → FuncId → List Value → M Value
 | 0, _, _ => fun _ => none
 | n + 1, f, args => fun S =>
  match O.fn f with
  | some q => q args S
  | none => match P.funcs[f]? with
   | some fn =>
    if fn.name = "runtime.NumGoroutine" then none else
    match fn.body with
    | some c => if O.pu f then abN (acB P (O.hp f) (qK O.hp (O.hp f) (kF P O n)) n fn c args) args S else acB P (O.hp f) (qK O.hp (O.hp f) (kF P O n)) n fn c args S
    | none => none
   | none => none
end Go.Abs
namespace Go.Abs
open Go.RowKit
inductive wO where
 | ext
 | slot (i : Nat) (j : Option Nat)
 | res (j : Option Nat)
 deriving DecidableEq
def wO.comp : wO → Nat → Option wO
 | .slot i none, j => some (.slot i (some j))
 | .res none, j => some (.res (some j))
 | _, _ => none
def PW (R : Value → Value → Prop) (l l' : List Value) : Prop := l.length = l'.length ∧ ∀ i : Nat, R (l.getD i undef) (l'.getD i undef)
structure Mu where
 m : Nat → Option (Nat × Bool)
 hid : Nat → Bool
 log : List Nat
instance : CoeFun Mu (fun _ => Nat → Option (Nat × Bool)) := ⟨Mu.m⟩
def Jh (μ : Mu) (r : Nat) : Prop := (∀ q, μ q ≠ some (r, true)) ∧ μ.hid r = false
inductive VV (μ : Mu) (H : zi) (ω : Nat → Option wO) : Option wO → Value → Value → Prop
 | sg {ℓ v} (h : sg v = true) : VV μ H ω ℓ v v
 | ptr {ℓ r o r' b} (h : μ r = some (r', b)) : VV μ H ω ℓ (.pointer (some ⟨r, o, none⟩)) (.pointer (some ⟨r', o, none⟩))
 | map {ℓ r r' b} (h : μ r = some (r', b)) : VV μ H ω ℓ (.map (some r)) (.map (some r'))
 | slm {ℓ r o r' b n} (h : μ r = some (r', b)) : VV μ H ω ℓ (.slice (some ⟨r, o, none⟩) n n) (.slice (some ⟨r', o, none⟩) n n)
 | slE {ℓ e} : VV μ H ω ℓ (.iface 1 (.iface e (.iface 0 (.agg #[])))) (.slice (some ⟨0, 0, some 0⟩) 0 0)
 | sl {ℓ e n r o} {cs : Array Value} {l : List Value} {own} (hr : r < H.next) (hp : Jh μ r) (hg : H.get r = some (.cells l own e)) (hl : o + n * e ≤ l.length) (hn : cs.toList.length = n * e)
   (hc : ∀ i : Nat, i < n * e → VV μ H ω none (cs.toList.getD i undef) (l.getD (o + i) undef)) : VV μ H ω ℓ (.iface 1 (.iface e (.iface n (.agg cs)))) (.slice (some ⟨r, o, none⟩) n n)
 | so {s e n r} {cs : Array Value} {l : List Value} {anc} (hω : ω r = some s) (hr : r < H.next) (hp : Jh μ r) (hg : H.get r = some (.cells l (.own anc) e)) (hl : l.length = n * e) (hn : cs.toList.length = n * e)
   (hc : ∀ i : Nat, i < n * e → VV μ H ω none (cs.toList.getD i undef) (l.getD i undef)) : VV μ H ω (some s) (.iface 2 (.iface e (.iface n (.agg cs)))) (.slice (some ⟨r, 0, none⟩) n n)
 | ep {ℓ r o e} {cs : Array Value} {l : List Value} {own} (hr : r < H.next) (hp : Jh μ r) (hg : H.get r = some (.cells l own e)) (hl : o + cs.toList.length ≤ l.length)
   (hc : ∀ i : Nat, i < cs.toList.length → VV μ H ω none (cs.toList.getD i undef) (l.getD (o + i) undef)) : VV μ H ω ℓ (.iface 3 (.agg cs)) (.pointer (some ⟨r, o, none⟩))
 | func {ℓ} (fn) {x x' c c' : Array Value} (hx : x.size = x'.size) (hc : c.size = c'.size)
   (hx' : ∀ i : Nat, VV μ H ω none (x.getD i undef) (x'.getD i undef)) (hc' : ∀ i : Nat, VV μ H ω none (c.getD i undef) (c'.getD i undef)) : VV μ H ω ℓ (.func fn x c) (.func fn x' c')
 | agg {ℓ} {x x' : Array Value} (hx : x.size = x'.size) (h : ∀ i : Nat, VV μ H ω none (x.getD i undef) (x'.getD i undef)) : VV μ H ω ℓ (.agg x) (.agg x')
 | nores {ℓ} : VV μ H ω ℓ (.tuple #[]) (.tuple #[])
 | tuple {ℓ} {x x' : Array Value} (hx : x.size = x'.size) (h : ∀ i : Nat, VV μ H ω (ℓ.bind (·.comp i)) (x.getD i undef) (x'.getD i undef)) : VV μ H ω ℓ (.tuple x) (.tuple x')
section
variable {μ : Mu} {H : zi} {ω : Nat → Option wO}
theorem VV.undef {ℓ} : VV μ H ω ℓ Go.undef Go.undef := .nores
theorem VV.weaken {ℓ ℓ' : Option wO} {v a : Value} (h : VV μ H ω ℓ' v a) (hn : ℓ' = none) : VV μ H ω ℓ v a := by
 induction h generalizing ℓ with
 | sg h => exact .sg h
 | ptr h => exact .ptr h
 | map h => exact .map h
 | slm h => exact .slm h
 | slE => exact .slE
 | sl hr hp hg hl hl' hc _ => exact .sl hr hp hg hl hl' hc
 | so hω => cases hn
 | ep hr hp hg hl hc _ => exact .ep hr hp hg hl hc
 | func fn hx hc h1 h2 _ _ => exact .func fn hx hc h1 h2
 | agg hx h _ => exact .agg hx h
 | nores => exact .nores
 | tuple hx h ih => subst hn; exact .tuple hx fun i => ih i rfl
theorem VV.qP {ℓ ℓ' : Option wO} {v a : Value} (h : VV μ H ω ℓ v a) (hv : ∀ x, v ≠ .tuple x) : VV μ H ω ℓ' (qP v) a := by
 cases h with
 | sg h =>
  have : Go.Abs.qP v = v := by cases v <;> first | rfl | simp [Go.Abs.sg] at h
  rw [this]; exact .sg h
 | ptr h => exact .ptr h
 | map h => exact .map h
 | slm h => exact .slm h
 | slE => exact .slE
 | sl hr hp hg hl hl' hc => exact .sl hr hp hg hl hl' hc
 | so hω hr hp hg hl hl' hc => exact .sl (o := 0) hr hp hg (by omega) hl' (fun i hi => by rw [Nat.zero_add]; exact hc i hi)
 | ep hr hp hg hl hc => exact .ep hr hp hg hl hc
 | func fn hx hc h1 h2 => exact .func fn hx hc h1 h2
 | agg hx h => exact .agg hx h
 | nores => exact absurd rfl (hv _)
 | tuple hx h => exact absurd rfl (hv _)
theorem getD_toList (x : Array Value) (i : Nat) : x.toList.getD i undef = x.getD i undef := by
 rw [List.getD_eq_getElem?_getD, Array.getD_eq_getD_getElem?, Array.getElem?_toList]
theorem YC (x : Array Value) (i : Nat) : (x.map Go.Abs.qP).getD i undef = Go.Abs.qP (x.getD i undef) := by
 rw [Array.getD_eq_getD_getElem?, Array.getD_eq_getD_getElem?, Array.getElem?_map]
 cases x[i]? <;> rfl
theorem xX : Go.Abs.dem (.tuple #[]) = .tuple #[] := by simp [Go.Abs.dem]
theorem ael {v : Value} (h : Go.Abs.sg v = true) : Go.Abs.dem v = v := by cases v <;> first | rfl | simp [Go.Abs.sg] at h
theorem acF {v : Value} (h : Go.Abs.sg v = true) : v.cells = #[v] := by cases v <;> first | rfl | simp [Go.Abs.sg] at h
theorem VV.dem {ℓ ℓ' : Option wO} {v a : Value} (h : VV μ H ω ℓ v a) : VV μ H ω ℓ' (dem v) a := by
 induction h generalizing ℓ' with
 | nores => rw [xX]; exact .nores
 | @tuple ℓ x x' hx h ih =>
  refine .tuple (by simpa using hx) fun i => ?_
  rw [YC]
  by_cases ht : ∃ y, x.getD i Go.undef = .tuple y
  ·
   obtain ⟨y, hy⟩ := ht
   have hh := h i
   rw [hy] at hh ⊢
   show VV μ H ω _ (.tuple y) _
   cases ℓ with
   | none => exact hh.weaken rfl
   | some s =>
    cases hs : s.comp i with
    | none =>
     have : (some s).bind (·.comp i) = none := hs
     rw [this] at hh
     exact hh.weaken rfl
    | some t =>
     have hb : (some s).bind (·.comp i) = some t := hs
     rw [hb] at hh
     have hc : ∀ j, t.comp j = none := by
      intro j
      cases s with
      | ext => cases hs
      | slot a b => cases b <;> first | (cases hs; rfl) | cases hs
      | res b => cases b <;> first | (cases hs; rfl) | cases hs
     generalize x'.getD i Go.undef = b at hh
     cases hh with
     | sg h => simp [Go.Abs.sg] at h
     | nores => exact .nores
     | tuple hx2 h2 =>
      refine .tuple hx2 fun j => ?_
      have := h2 j
      have e : (some t).bind (·.comp j) = none := hc j
      rw [e] at this
      exact this.weaken rfl
  ·
   exact (h i).qP fun y hy => ht ⟨y, hy⟩
 | sg h => rw [ael h]; exact .sg h
 | ptr h => exact .ptr h
 | map h => exact .map h
 | slm h => exact .slm h
 | slE => exact .slE
 | sl hr hp hg hl hl' hc _ => exact .sl hr hp hg hl hl' hc
 | so hω hr hp hg hl hl' hc _ => exact .sl (o := 0) hr hp hg (by omega) hl' (fun i hi => by rw [Nat.zero_add]; exact hc i hi)
 | ep hr hp hg hl hc _ => exact .ep hr hp hg hl hc
 | func fn hx hc h1 h2 _ _ => exact .func fn hx hc h1 h2
 | agg hx h _ => exact .agg hx h
theorem VV.aaJ {v a : Value} (h : VV μ H ω none v a) : Go.Abs.qP v = v := by
 cases h <;> first | rfl | skip
 rename_i h; cases v <;> first | rfl | simp [Go.Abs.sg] at h
theorem VV.plain {v a : Value} (h : VV μ H ω none v a) : Go.Abs.dem v = v := by
 cases h with
 | tuple hx h =>
  rename_i x x'
  show Value.tuple (x.map Go.Abs.qP) = .tuple x
  congr 1
  apply Array.ext (by simp)
  intro i h1 h2
  rw [Array.getElem_map]
  have := (h i)
  have e : (none : Option wO).bind (·.comp i) = none := rfl
  rw [e] at this
  have := this.aaJ
  rwa [Array.getD_eq_getD_getElem?, Array.getElem?_eq_getElem h2] at this
 | sg h => exact ael h
 | nores => exact xX
 | _ => rfl
theorem Yx (v : Value) : dem (dem v) = dem v := by
 have h1 : ∀ v, qP (qP v) = qP v := by
  intro v
  cases v <;> first | rfl | skip
  rename_i k v
  simp only [qP]
  by_cases h : k = 2
  ·
   rw [if_pos h, if_neg (by decide)]
  ·
   rw [if_neg h, if_neg h]
 cases v with
 | tuple vs =>
  simp only [dem, Array.map_map]
  congr 1
  apply Array.map_congr_left
  intro a _
  exact h1 a
 | iface k v => exact h1 (.iface k v)
 | _ => rfl
structure Later (μ : Mu) (H : zi) (μ' : Mu) (H' : zi) : Prop where
 mu : ∀ q r b, μ q = some (r, b) → ∃ b', μ' q = some (r, b')
 next : H.next ≤ H'.next
 new : ∀ q r, μ' q = some (r, true) → μ q = some (r, true) ∨ H.next ≤ r
 hid : μ'.hid = μ.hid
 same : ∀ r, r < H.next → μ.hid r = true → H'.get r = H.get r
 still : ∃ new, μ'.log = new ++ μ.log ∧ ∀ q r, μ q = some (r, true) → q ∉ new → μ' q = some (r, true) ∧ H'.get r = H.get r
 cells : ∀ r l own e, r < H.next → Jh μ r → H.get r = some (.cells l own e) → ∃ own', H'.get r = some (.cells l own' e)
theorem Later.refl (μ : Mu) (H : zi) : Later μ H μ H := ⟨fun _ _ b h => ⟨b, h⟩, Nat.le_refl _, fun _ _ h => .inl h, rfl, fun _ _ _ => rfl, ⟨[], rfl, fun _ _ h _ => ⟨h, rfl⟩⟩, fun r l own e _ _ h => ⟨own, h⟩⟩
theorem Later.priv {μ' : Mu} {H' : zi} (h : Later μ H μ' H') {r : Nat} (hr : r < H.next) (hp : Jh μ r) : Jh μ' r := ⟨fun q hq => by
 rcases h.new q r hq with h1 | h1
 ·
  exact hp.1 q h1
 ·
  omega, by rw [h.hid]; exact hp.2⟩
theorem Later.trans {μ1 μ2 : Mu} {H1 H2 : zi} (h : Later μ H μ1 H1) (k : Later μ1 H1 μ2 H2) : Later μ H μ2 H2 :=
 ⟨fun q r b e => let ⟨b1, e1⟩ := h.mu q r b e; k.mu q r b1 e1, Nat.le_trans h.next k.next, fun q r e => by
  rcases k.new q r e with h1 | h1
  ·
   exact h.new q r h1
  ·
   exact .inr (Nat.le_trans h.next h1), k.hid.trans h.hid, fun r hr hh => (k.same r (Nat.lt_of_lt_of_le hr h.next) (by rw [h.hid]; exact hh)).trans (h.same r hr hh), (by
  obtain ⟨n1, e1, f1⟩ := h.still
  obtain ⟨n2, e2, f2⟩ := k.still
  refine ⟨n2 ++ n1, by rw [e2, e1, List.append_assoc], fun q r hq hn => ?_⟩
  rw [List.mem_append, not_or] at hn
  obtain ⟨a1, a2⟩ := f1 q r hq hn.2
  obtain ⟨b1, b2⟩ := f2 q r a1 hn.1
  exact ⟨b1, b2.trans a2⟩), fun r l own e hr hp hg => by
  obtain ⟨own1, hg1⟩ := h.cells r l own e hr hp hg
  exact k.cells r l own1 e (Nat.lt_of_lt_of_le hr h.next) (h.priv hr hp) hg1⟩
theorem VV.later {μ' : Mu} {H' : zi} {ω' : Nat → Option wO} (hL : Later μ H μ' H') {K : wO → Prop} (hK : ∀ s i t, K s → s.comp i = some t → K t) (hω : ∀ r s, K s → ω r = some s → ω' r = some s ∧ H'.get r = H.get r)
  {ℓ : Option wO} {v a : Value} (h : VV μ H ω ℓ v a) : (∀ s, ℓ = some s → K s) → VV μ' H' ω' ℓ v a := by
 induction h with
 | sg h => exact fun _ => .sg h
 | ptr h => exact fun _ => let ⟨_, e⟩ := hL.mu _ _ _ h; .ptr e
 | map h => exact fun _ => let ⟨_, e⟩ := hL.mu _ _ _ h; .map e
 | slm h => exact fun _ => let ⟨_, e⟩ := hL.mu _ _ _ h; .slm e
 | slE => exact fun _ => .slE
 | sl hr hp hg hl hl' hc ih =>
  intro _
  obtain ⟨own', hg'⟩ := hL.cells _ _ _ _ hr hp hg
  exact .sl (Nat.lt_of_lt_of_le hr hL.next) (hL.priv hr hp) hg' hl hl' (fun i hi => ih i hi (fun s hs => by cases hs))
 | so h hr hp hg hl hl' hc ih =>
  intro hs
  obtain ⟨h1, h2⟩ := hω _ _ (hs _ rfl) h
  exact .so h1 (Nat.lt_of_lt_of_le hr hL.next) (hL.priv hr hp) (by rw [h2, hg]) hl hl' (fun i hi => ih i hi (fun s hs => by cases hs))
 | ep hr hp hg hl hc ih =>
  intro _
  obtain ⟨own', hg'⟩ := hL.cells _ _ _ _ hr hp hg
  exact .ep (Nat.lt_of_lt_of_le hr hL.next) (hL.priv hr hp) hg' hl (fun i hi => ih i hi (fun s hs => by cases hs))
 | func fn hx hc _ _ ih1 ih2 => exact fun _ => .func fn hx hc (fun i => ih1 i (fun s hs => by cases hs)) (fun i => ih2 i (fun s hs => by cases hs))
 | agg hx _ ih => exact fun _ => .agg hx (fun i => ih i (fun s hs => by cases hs))
 | nores => exact fun _ => .nores
 | @tuple ℓ x x' hx _ ih =>
  intro hs
  refine .tuple hx (fun i => ih i (fun s h => ?_))
  cases ℓ with
  | none => cases h
  | some s0 => exact hK s0 i s (hs _ rfl) h
theorem VV.kU {μ' : Mu} {H' : zi} {ω' : Nat → Option wO} (hL : Later μ H μ' H') {v a : Value} (h : VV μ H ω none v a) : VV μ' H' ω' none v a :=
 h.later hL (K := fun _ => False) (fun _ _ _ h _ => h) (fun _ _ h _ => h.elim) (fun s hs => by cases hs)
theorem VV.qG {ℓ : Option wO} {v a : Value} (hg : ground v = true) (h : VV μ H ω ℓ v a) : a = v := by
 cases h with
 | sg h => rfl
 | agg hx h =>
  rename_i x x'
  have hall : x.toList.all Go.Abs.sg = true := hg
  congr 1
  apply Array.ext hx.symm
  intro i h1 h2
  have := h i
  rw [Array.getD_eq_getD_getElem?, Array.getElem?_eq_getElem h2, Array.getD_eq_getD_getElem?, Array.getElem?_eq_getElem h1] at this
  have hs : Go.Abs.sg x[i] = true := List.all_eq_true.1 hall _ (by simp)
  simp only [Option.getD_some] at this
  generalize x[i] = u at *
  generalize x'[i] = u' at *
  cases this <;> first | rfl | (simp [Go.Abs.sg] at hs)
 | _ => simp [ground, Go.Abs.sg] at hg
theorem VV.wo {ℓ : Option wO} {v : Value} (hg : ground v = true) : VV μ H ω ℓ v v := by
 cases v with
 | agg cs =>
  refine .agg rfl fun i => ?_
  by_cases hi : i < cs.size
  ·
   rw [Array.getD_eq_getD_getElem?, Array.getElem?_eq_getElem hi]
   exact .sg (List.all_eq_true.1 (show cs.toList.all Go.Abs.sg = true from hg) _ (by simp))
  ·
   rw [Array.getD_eq_getD_getElem?, Array.getElem?_eq_none (Nat.le_of_not_lt hi)]
   exact .nores
 | bool b => exact .sg hg
 | int k n => exact .sg hg
 | string s => exact .sg hg
 | pointer a => exact .sg hg
 | slice a n c => exact .sg hg
 | map r => exact .sg hg
 | nilFunc => exact .sg hg
 | _ => simp [ground, Go.Abs.sg] at hg
abbrev VL (μ : Mu) (H : zi) (ω : Nat → Option wO) (l l' : List Value) : Prop := PW (VV μ H ω none) l l'
theorem VL.nil : VL μ H ω [] [] := ⟨rfl, fun i => by simpa using VV.undef⟩
theorem VL.cons {v v' : Value} {l l' : List Value} (h : VV μ H ω none v v') (k : VL μ H ω l l') : VL μ H ω (v :: l) (v' :: l') :=
 ⟨by simp [k.1], fun i => by cases i with
  | zero => simpa using h
  | succ i => simpa using k.2 i⟩
theorem VL.head {v v' : Value} {l l' : List Value} (k : VL μ H ω (v :: l) (v' :: l')) : VV μ H ω none v v' := by simpa using k.2 0
theorem VL.tail {v v' : Value} {l l' : List Value} (k : VL μ H ω (v :: l) (v' :: l')) : VL μ H ω l l' :=
 ⟨by have := k.1; simpa using this, fun i => by simpa using k.2 (i + 1)⟩
theorem VL.later {μ' : Mu} {H' : zi} {ω' : Nat → Option wO} (hL : Later μ H μ' H') {l l' : List Value} (h : VL μ H ω l l') : VL μ' H' ω' l l' := ⟨h.1, fun i => (h.2 i).kU hL⟩
theorem VL.get {l l' : List Value} (h : VL μ H ω l l') {i : Nat} {v : Value} (hv : l[i]? = some v) : ∃ v', l'[i]? = some v' ∧ VV μ H ω none v v' := by
 obtain ⟨hi, rfl⟩ := List.getElem?_eq_some_iff.1 hv
 have hi' : i < l'.length := h.1 ▸ hi
 refine ⟨l'[i], by simp [hi'], ?_⟩
 have := h.2 i
 simpa [List.getD_eq_getElem?_getD, hi, hi'] using this
theorem VL.append {l l' k k' : List Value} (h : VL μ H ω l l') (h2 : VL μ H ω k k') : VL μ H ω (l ++ k) (l' ++ k') := by
 refine ⟨by simp [h.1, h2.1], fun i => ?_⟩
 by_cases hi : i < l.length
 ·
  have hi' : i < l'.length := h.1 ▸ hi
  have := h.2 i
  simpa [List.getD_eq_getElem?_getD, List.getElem?_append, hi, hi'] using this
 ·
  have hi' : ¬ i < l'.length := h.1 ▸ hi
  have := h2.2 (i - l.length)
  have e := h.1
  simpa [List.getD_eq_getElem?_getD, List.getElem?_append, hi, hi', e] using this
theorem VL.drop {l l' : List Value} (h : VL μ H ω l l') (n : Nat) : VL μ H ω (l.drop n) (l'.drop n) :=
 ⟨by simp [h.1], fun i => by simpa [List.getD_eq_getElem?_getD, List.getElem?_drop] using h.2 (n + i)⟩
theorem VL.take {l l' : List Value} (h : VL μ H ω l l') (n : Nat) : VL μ H ω (l.take n) (l'.take n) := by
 refine ⟨by simp [h.1], fun i => ?_⟩
 by_cases hi : i < n
 ·
  simpa [List.getD_eq_getElem?_getD, List.getElem?_take, hi] using h.2 i
 ·
  simpa [List.getD_eq_getElem?_getD, List.getElem?_take, hi] using VV.undef
theorem VL.ofRange {l l' : List Value} (h1 : l.length = l'.length) (h : ∀ i, i < l.length → VV μ H ω none (l.getD i Go.undef) (l'.getD i Go.undef)) : VL μ H ω l l' := by
 refine ⟨h1, fun i => ?_⟩
 by_cases hi : i < l.length
 ·
  exact h i hi
 ·
  rw [List.getD_eq_getElem?_getD, List.getElem?_eq_none (by omega), List.getD_eq_getElem?_getD, List.getElem?_eq_none (by omega)]
  exact VV.undef
theorem VL.kQ {l : List Value} (h : l.all Go.Abs.sg = true) : VL μ H ω l l := VL.ofRange rfl fun i hi => by
 rw [List.getD_eq_getElem?_getD, List.getElem?_eq_getElem hi]
 exact .sg (List.all_eq_true.1 h _ (List.getElem_mem hi))
theorem VL.splice {l l' k k' : List Value} (h : VL μ H ω l l') (h2 : VL μ H ω k k') (o : Nat) : VL μ H ω (Go.Abs.splice l o k) (Go.Abs.splice l' o k') := by
 unfold Go.Abs.splice
 rw [← h2.1]
 exact ((h.take o).append h2).append (h.drop _)
theorem VV.QS {v a : Value} (h : VV μ H ω none v a) : VL μ H ω v.cells.toList a.cells.toList := by
 cases h with
 | agg hx h => exact ⟨by simpa [Value.cells] using hx, fun i => by simpa [Value.cells, getD_toList] using h i⟩
 | sg h => rw [acF h]; exact VL.cons (.sg h) VL.nil
 | ptr h => exact VL.cons (.ptr h) VL.nil
 | map h => exact VL.cons (.map h) VL.nil
 | slm h => exact VL.cons (.slm h) VL.nil
 | slE => exact VL.cons .slE VL.nil
 | sl hr hp hg hl hl' hc => exact VL.cons (.sl hr hp hg hl hl' hc) VL.nil
 | ep hr hp hg hl hc => exact VL.cons (.ep hr hp hg hl hc) VL.nil
 | func fn hx hc h1 h2 => exact VL.cons (.func fn hx hc h1 h2) VL.nil
 | nores => exact VL.cons .nores VL.nil
 | tuple hx h => exact VL.cons (.tuple hx h) VL.nil
theorem VV.one {v a : Value} (h : VV μ H ω none v a) (hv : v.oneCell' = true) : a.oneCell' = true := by
 cases h <;> first | exact hv | rfl
theorem VL.one {l l' : List Value} (h : VL μ H ω l l') (hv : l.all (·.oneCell') = true) : l'.all (·.oneCell') = true := by
 rw [List.all_eq_true] at *
 intro v hv'
 obtain ⟨i, hi, rfl⟩ := List.mem_iff_getElem.1 hv'
 have hi' : i < l.length := by rw [h.1]; exact hi
 have := h.2 i
 rw [List.getD_eq_getElem?_getD, List.getElem?_eq_getElem hi', List.getD_eq_getElem?_getD, List.getElem?_eq_getElem hi] at this
 exact VV.one this (hv _ (List.getElem_mem hi'))
def SlA (μ : Mu) (H : zi) (e n : Nat) (l : List Value) (a : Value) : Prop :=
 l.length = n * e ∧ ((a = .slice (some ⟨0, 0, some 0⟩) 0 0 ∧ n = 0) ∨
  ∃ r o cs own, a = .slice (some ⟨r, o, none⟩) n n ∧ r < H.next ∧ Jh μ r ∧ H.get r = some (.cells cs own e) ∧ o + n * e ≤ cs.length ∧ l = (cs.drop o).take (n * e))
theorem VV.slice {ℓ : Option wO} {x a : Value} (h : VV μ H ω ℓ x a) {e n : Nat} {cs : List Value} (hs : vSl x = some (e, n, cs)) :
  (x = .slice none 0 0 ∧ a = .slice none 0 0 ∧ n = 0 ∧ cs = []) ∨ (∃ l, VL μ H ω cs l ∧ SlA μ H e n l a ∧ ∃ k v, x = .iface k v) := by
 cases h with
 | sg h =>
  left
  cases x with
  | slice b m c =>
   cases b with
   | none =>
    have : m = 0 ∧ c = 0 := by
     simp only [Go.Abs.sg] at h
     split at h <;> simp_all
    obtain ⟨rfl, rfl⟩ := this
    simp only [vSl, Option.some.injEq, Prod.mk.injEq] at hs
    exact ⟨rfl, rfl, hs.2.1.symm, hs.2.2.symm⟩
   | some b => simp [Go.Abs.sg] at h
  | _ => simp [vSl, Go.Abs.sg] at h hs
 | slE =>
  right
  simp [vSl] at hs
  obtain ⟨rfl, rfl, rfl⟩ := hs
  exact ⟨[], VL.nil, ⟨by simp, .inl ⟨rfl, rfl⟩⟩, _, _, rfl⟩
 | sl hr hp hg hl hl' hc =>
  right
  simp [vSl] at hs
  obtain ⟨rfl, rfl, rfl⟩ := hs
  rename_i e n r o cs l own
  refine ⟨(l.drop o).take (n * e), VL.ofRange (by simp; simp at hl'; omega) (fun i hi => ?_), ⟨by simp; omega, .inr ⟨_, _, _, _, rfl, hr, hp, hg, hl, rfl⟩⟩, _, _, rfl⟩
  have hi' : i < n * e := by simp at hl' hi; omega
  have := hc i hi'
  rwa [List.getD_eq_getElem?_getD (l := (l.drop o).take (n * e)), List.getElem?_take, if_pos hi', List.getElem?_drop, ← List.getD_eq_getElem?_getD]
 | so hω hr hp hg hl hl' hc =>
  right
  simp [vSl] at hs
  obtain ⟨rfl, rfl, rfl⟩ := hs
  rename_i s r cs l anc
  refine ⟨l, VL.ofRange (by simp at hl'; simp; omega) (fun i hi => hc i (by simp at hl' hi; omega)), ⟨hl, .inr ⟨_, _, _, _, rfl, hr, hp, hg, by omega, by rw [List.drop_zero, ← hl, List.take_length]⟩⟩, _, _, rfl⟩
 | ep hr hp hg hl hc => simp [vSl] at hs
 | ptr h => simp [vSl] at hs
 | map h => simp [vSl] at hs
 | slm h => simp [vSl] at hs
 | func => simp [vSl] at hs
 | agg => simp [vSl] at hs
 | nores => simp [vSl] at hs
 | tuple => simp [vSl] at hs
end
end Go.Abs
namespace Go.Abs
open Go.RowKit
def W0 : Nat → Option wO := fun _ => none
abbrev V0 (μ : Mu) (H : zi) (v a : Value) : Prop := VV μ H W0 none v a
abbrev L0 (μ : Mu) (H : zi) (l l' : List Value) : Prop := VL μ H W0 l l'
def Wv (μ : Mu) : List Nat → List Nat → Prop
 | [], [] => True
 | a :: l, a' :: l' => μ a = some (a', true) ∧ Wv μ l l'
 | _, _ => False
def agD (μ : Mu) : Own → Own → Prop
 | .ro, .ro => True
 | .own a, .own a' => Wv μ a a'
 | _, _ => False
theorem Wv.mono {μ μ' : Mu} : ∀ {l l' : List Nat}, Wv μ l l' → (∀ a ∈ l, ∀ r, μ a = some (r, true) → μ' a = some (r, true)) → Wv μ' l l'
 | [], [], _, _ => True.intro
 | [], _ :: _, h, _ => h.elim
 | _ :: _, [], h, _ => h.elim
 | a :: l, a' :: l', h, k => ⟨k a (by simp) a' h.1, Wv.mono h.2 fun b hb r => k b (by simp [hb]) r⟩
theorem Wv.right {μ : Mu} : ∀ {l l' : List Nat}, Wv μ l l' → ∀ r ∈ l', ∃ a ∈ l, μ a = some (r, true)
 | [], [], _, r, hr => by cases hr
 | [], _ :: _, h, _, _ => h.elim
 | _ :: _, [], h, _, _ => h.elim
 | a :: l, a' :: l', h, r, hr => by
  rcases List.mem_cons.1 hr with rfl | hr
  ·
   exact ⟨a, by simp, h.1⟩
  ·
   obtain ⟨b, h1, h2⟩ := Wv.right h.2 r hr
   exact ⟨b, by simp [h1], h2⟩
theorem Wv.left {μ : Mu} : ∀ {l l' : List Nat}, Wv μ l l' → ∀ a ∈ l, ∃ r, μ a = some (r, true)
 | [], [], _, r, hr => by cases hr
 | [], _ :: _, h, _, _ => h.elim
 | _ :: _, [], h, _, _ => h.elim
 | a :: l, a' :: l', h, r, hr => by
  rcases List.mem_cons.1 hr with rfl | hr
  ·
   exact ⟨a', h.1⟩
  ·
   exact Wv.left h.2 r hr
def OV (μ : Mu) (H : zi) : yG → yG → Prop
 | .cells cs own esz, .cells cs' own' esz' => esz' = esz ∧ agD μ own own' ∧ L0 μ H cs cs'
 | .map es c, .map es' c' => c' = c ∧ es.length = es'.length ∧ ∀ (i : Nat) (e : MapEntry), es[i]? = some e → ∃ e', es'[i]? = some e' ∧ e'.key = e.key ∧ e'.born = e.born ∧ V0 μ H e.val e'.val
 | _, _ => False
structure GI (μ : Mu) (S H : zi) : Prop where
 obj : ∀ q o, S.get q = some o → o.alive = true → ∃ r o', μ q = some (r, true) ∧ H.get r = some o' ∧ OV μ H o o'
 inj : ∀ q q' r, μ q = some (r, true) → μ q' = some (r, true) → q = q'
 lt : ∀ q r b, μ q = some (r, b) → r < H.next
 fresh : ∀ q, S.next ≤ q → μ q = none
 vis : ∀ q r, μ q = some (r, true) → μ.hid r = false
 hlt : ∀ r, μ.hid r = true → r < H.next
 log : μ.log = S.log
 anc : ∀ q cs anc e, S.get q = some (.cells cs (.own anc) e) → ∀ a ∈ anc, ∀ cs' anc' e', S.get a ≠ some (.cells cs' (.own anc') e')
section
variable {P : Program} {μ : Mu} {S S' H : zi}
theorem GI.cells {cs : List Value} {own : Own} {esz q : Nat} (hG : GI μ S H) (h : S.get q = some (.cells cs own esz)) : ∃ r cs' own', agD μ own own' ∧ μ q = some (r, true) ∧ H.get r = some (.cells cs' own' esz) ∧ L0 μ H cs cs' := by
 obtain ⟨r, o', h1, h2, h3⟩ := hG.obj q _ h rfl
 cases o' with
 | cells cs' own' esz' => obtain ⟨rfl, h4, h5⟩ := h3; exact ⟨r, cs', own', h4, h1, h2, h5⟩
 | map es c => exact h3.elim
 | dead => exact h3.elim
theorem GI.map {es : List MapEntry} {c q : Nat} (hG : GI μ S H) (h : S.get q = some (.map es c)) : ∃ r es', μ q = some (r, true) ∧ H.get r = some (.map es' c) ∧ es.length = es'.length ∧
  ∀ (i : Nat) (e : MapEntry), es[i]? = some e → ∃ e', es'[i]? = some e' ∧ e'.key = e.key ∧ e'.born = e.born ∧ V0 μ H e.val e'.val := by
 obtain ⟨r, o', h1, h2, h3⟩ := hG.obj q _ h rfl
 cases o' with
 | cells cs' own' esz' => exact h3.elim
 | map es' c' => obtain ⟨rfl, h4, h5⟩ := h3; exact ⟨r, es', h1, h2, h4, h5⟩
 | dead => exact h3.elim
theorem OV.later {o o' : yG} {μ' : Mu} {H' : zi} (h : OV μ H o o') (hL : Later μ H μ' H') (hp : ∀ cs anc e, o = .cells cs (.own anc) e → ∀ a ∈ anc, ∀ r, μ a = some (r, true) → μ' a = some (r, true)) : OV μ' H' o o' := by
 cases o with
 | cells cs own esz =>
  cases o' with
  | cells cs' own' esz' =>
   obtain ⟨rfl, h4, h5⟩ := h
   refine ⟨rfl, ?_, h5.later hL⟩
   cases own with
   | ro => cases own' with
    | ro => exact True.intro
    | own a => exact h4.elim
   | own a => cases own' with
    | ro => exact h4.elim
    | own a' => exact Wv.mono h4 (hp cs a _ rfl)
  | map es c => exact h.elim
  | dead => exact h.elim
 | map es c =>
  cases o' with
  | map es' c' =>
   obtain ⟨rfl, h4, h5⟩ := h
   exact ⟨rfl, h4, fun i e he => let ⟨e', k1, k2, k3, k4⟩ := h5 i e he; ⟨e', k1, k2, k3, k4.kU hL⟩⟩
  | cells cs' own' esz' => exact h.elim
  | dead => exact h.elim
 | dead => cases o' <;> exact h.elim
theorem GI.at {q r : Nat} {b : Bool} {o : yG} (hG : GI μ S H) (hm : μ q = some (r, b)) (h : S.get q = some o) (ha : o.alive = true) : b = true := by
 obtain ⟨r', o', h1, _⟩ := hG.obj q o h ha
 rw [hm] at h1
 cases h1
 rfl
def PV (μ : Mu) (H : zi) (ps ps' : List (Nat × Value)) : Prop := ps.map (·.1) = ps'.map (·.1) ∧ L0 μ H (ps.map (·.2)) (ps'.map (·.2))
theorem ae8 (place : Nat → Option (Nat × Nat)) : ∀ (ps ps' : List (Nat × Value)) (cs cs' r : List Value), PV μ H ps ps' → L0 μ H cs cs' → vW place cs ps = some r →
  ∃ r', vW place cs' ps' = some r' ∧ L0 μ H r r' := by
 intro ps
 induction ps with
 | nil =>
  intro ps' cs cs' r h hc hf
  cases ps' with
  | nil => simp only [vW, Option.some.injEq] at hf; subst hf; exact ⟨cs', rfl, hc⟩
  | cons p l => have := h.1; simp at this
 | cons p ps ih =>
  intro ps' cs cs' r h hc hf
  cases ps' with
  | nil => have := h.1; simp at this
  | cons p' ps' =>
   obtain ⟨i, v⟩ := p
   obtain ⟨i', v'⟩ := p'
   have hi : i = i' := by have := h.1; simp at this; exact this.1
   subst hi
   have hv : V0 μ H v v' := h.2.head
   have htl : PV μ H ps ps' := ⟨by have := h.1; simp at this; exact this, h.2.tail⟩
   have hcl := hv.QS
   simp only [vW] at hf ⊢
   cases hp : place i with
   | none => simp [hp] at hf
   | some q =>
    obtain ⟨off, size⟩ := q
    simp only [hp] at hf ⊢
    rw [← hcl.1, ← hc.1]
    split at hf
    ·
     rename_i hcond
     rw [if_pos hcond]
     exact ih ps' _ _ r htl (hc.splice hcl off) hf
    ·
     cases hf
theorem L0.zero {z : Value} (h : ground z = true) : L0 μ H z.cells.toList z.cells.toList := VL.kQ (wP h)
theorem JV {l l' : List Value} (h : L0 μ H l l') : V0 μ H (.agg l.toArray) (.agg l'.toArray) :=
 .agg (by simpa using h.1) (fun i => by have := h.2 i; rw [← getD_toList, ← getD_toList]; exact this)
theorem acg {t : TypeId} {ps ps' : List (Nat × Value)} {v : Value} (h : yh P t ps S = some (v, S')) (hp : PV μ H ps ps') : S' = S ∧ ∃ a, yh P t ps' H = some (a, H) ∧ V0 μ H v a := by
 unfold yh at h ⊢
 split at h
 ·
  rename_i z hz
  split at h
  ·
   rename_i hg
   rw [if_pos hg]
   split at h
   ·
    rename_i fields hu
    split at h
    ·
     rename_i pl hpl
     split at h
     ·
      rename_i l hl
      cases h
      obtain ⟨l', h1, h2⟩ := ae8 _ _ _ _ _ _ hp (L0.zero hg) hl
      exact ⟨rfl, .agg l'.toArray, by simp only [hpl, h1], JV h2⟩
     ·
      cases h
    ·
     cases h
   ·
    rename_i n e hu
    split at h
    ·
     rename_i size hs
     split at h
     ·
      rename_i l hl
      cases h
      obtain ⟨l', h1, h2⟩ := ae8 _ _ _ _ _ _ hp (L0.zero hg) hl
      exact ⟨rfl, .agg l'.toArray, by simp only [hs, h1], JV h2⟩
     ·
      cases h
    ·
     cases h
   ·
    cases h
  ·
   cases h
 ·
  cases h
theorem XD {t : TypeId} {cs cs' : Array Value} {off : Nat} {v : Value} (h : partOf P t cs off = some v) (hc : L0 μ H cs.toList cs'.toList) : ∃ a, partOf P t cs' off = some a ∧ V0 μ H v a := by
 unfold partOf at h ⊢
 split at h
 ·
  split at h
  ·
   cases h
   exact ⟨_, rfl, JV ((hc.drop off).take _)⟩
  ·
   cases h
 ·
  have h2 : cs.toList[off]? = some v := by simpa using h
  obtain ⟨v', h3, h4⟩ := hc.get h2
  exact ⟨v', by simpa using h3, h4⟩
 ·
  cases h
theorem jP {args : List Value} {s : Sem Value} {v : Value} (h : jS P args s S = some (v, S')) : S' = S ∧ ground v = true ∧ args.all ground = true ∧ jS P args s H = some (v, H) := by
 unfold jS at h ⊢
 split at h
 ·
  rename_i ha
  split at h
  ·
   rename_i w hw
   split at h
   ·
    rename_i hg
    cases h
    exact ⟨rfl, hg, ha, by rw [if_pos ha]; simp only [hw, hg, if_true]⟩
   ·
    cases h
  ·
   cases h
 ·
  cases h
theorem acw {d : TypeDesc} {x y x' y' : Value} {b : Bool} (h : xH d x y = some b) (hx : V0 μ H x x') (hy : V0 μ H y y') : xH d x' y' = some b := by
 unfold xH at h
 split at h
 ·
  cases hx
  cases hy <;> first | exact h | rfl | skip
  all_goals (rename_i hs; first | exact h | skip)
 ·
  cases hy
  cases hx <;> first | exact h | rfl | (simp [Go.Abs.sg] at *; done) | skip
 ·
  rename_i t n c b' n' c'
  cases hx
  cases hy <;> exact h
 ·
  rename_i t a n c n' c'
  cases hx
  ·
   rename_i hs
   simp [Go.Abs.sg] at hs
  ·
   cases hy
   exact h
 ·
  cases hx
  cases hy <;> first | exact h | rfl
 ·
  cases hy
  cases hx <;> first | exact h | rfl | (simp [Go.Abs.sg] at *; done)
 ·
  cases h
end
end Go.Abs
namespace Go.Abs
open Go.RowKit
section
variable {P : Program} {μ : Mu} {S S' H : zi}
theorem Zj (x : Value) : vSl (dem x) = vSl x := by
 cases x with
 | iface k v =>
  simp only [dem, qP]
  by_cases hk : k = 2
  ·
   subst hk
   rw [if_pos rfl]
   cases v <;> try rfl
   rename_i e v
   cases v <;> try rfl
   rename_i n v
   cases v <;> rfl
  ·
   rw [if_neg hk]
 | tuple vs => rfl
 | _ => rfl
theorem adq (v : Value) : dem (qP v) = dem v := by
 cases v <;> first | rfl | skip
 rename_i k v
 simp only [qP, dem]
 by_cases h : k = 2
 ·
  rw [if_pos h, if_neg (by decide)]
 ·
  rw [if_neg h, if_neg h]
theorem Yo {v : Value} (h : ground v = true) : dem v = v := by
 cases v <;> first | rfl | simp [ground, sg] at h
theorem jo {x x' : Value} (hx : V0 μ H (dem x) x') (h : ground x = true) : x' = x := by
 rw [Yo h] at hx
 exact hx.qG h
theorem V0.ground {v : Value} (h : ground v = true) : V0 μ H v v := VV.wo h
theorem QO {d : TypeDesc} {x y : Value} {b : Bool} (h : xH d x y = some b) : dem x = x ∧ dem y = y ∧ (∀ k n, x ≠ .int k n) ∧ (∀ s, x ≠ .string s) := by
 unfold xH at h
 split at h <;> first | (cases h; done) | exact ⟨rfl, rfl, (fun _ _ h => by cases h), (fun _ h => by cases h)⟩
theorem YO {op : BinOp} {t : TypeId} {x y : Value} {b : Bool} (h : yV P op t x y = some b) (h1 : ∀ k n, x ≠ .int k n) (h2 : ∀ s, x ≠ .string s) : xI P op t x y H = some (.bool b, H) := by
 unfold xI
 split
 ·
  exact absurd rfl (h1 _ _)
 ·
  exact absurd rfl (h2 _)
 ·
  rw [h]
theorem Vy {op : BinOp} {t : TypeId} {x y : Value} {b : Bool} (h : yV P op t x y = some b) : ∃ d c, P.underlying t = some d ∧ xH d x y = some c ∧ ∀ x' y', xH d x' y' = some c → yV P op t x' y' = some b := by
 unfold yV at h
 split at h
 ·
  rename_i d hd
  split at h
  ·
   exact ⟨d, b, hd, h, fun x' y' e => by unfold yV; rw [hd]; exact e⟩
  ·
   cases hn : xH d x y with
   | none => rw [hn] at h; cases h
   | some c => rw [hn] at h; exact ⟨d, c, hd, hn, fun x' y' e => by unfold yV; rw [hd]; dsimp only; rw [e]; exact h⟩
  ·
   cases h
 ·
  cases h
theorem aeL {op : BinOp} {t : TypeId} {x y x' y' v : Value} (h : jJ P op t x y S = some (v, S')) (hx : V0 μ H (dem x) x') (hy : V0 μ H (dem y) y') : S' = S ∧ ∃ a, xI P op t x' y' H = some (a, H) ∧ V0 μ H v a := by
 unfold jJ at h
 split at h
 ·
  rename_i k w
  have hy' : y' = .slice none 0 0 := jo hy rfl
  subst hy'
  have key : ∀ te z, P.underlying t = some (.slice te) → vSl (.iface k w) = some z → xH (.slice te) x' (.slice none 0 0) = some false ∧ (∀ k n, x' ≠ .int k n) ∧ (∀ s, x' ≠ .string s) := by
   intro te z ht hz
   obtain ⟨e, n, cs⟩ := z
   rcases hx.slice (by rw [Zj]; exact hz) with ⟨h1, _⟩ | ⟨l, _, ⟨_, hor⟩, _⟩
   ·
    cases h1
   ·
    rcases hor with ⟨rfl, _⟩ | ⟨r, o, cs', own, rfl, _⟩ <;> exact ⟨rfl, (fun _ _ h => by cases h), (fun _ h => by cases h)⟩
  split at h
  ·
   rename_i _ te z ht hz
   cases h
   obtain ⟨e1, e2, e3⟩ := key te _ ht hz
   exact ⟨rfl, _, YO (b := false) (by unfold yV; rw [ht]; exact e1) e2 e3, .sg rfl⟩
  ·
   rename_i _ te z ht hz
   cases h
   obtain ⟨e1, e2, e3⟩ := key te _ ht hz
   exact ⟨rfl, _, YO (b := true) (by unfold yV; rw [ht]; dsimp only; rw [e1]; rfl) e2 e3, .sg rfl⟩
  ·
   cases h
 ·
  by_cases hg : ground x = true ∧ ground y = true
  ·
   have e1 := jo hx hg.1
   have e2 := jo hy hg.2
   subst e1 e2
   obtain ⟨o, ho⟩ := QY (P := P) op t x' y'
   rw [ho] at h
   cases o with
   | none => cases h
   | some w =>
    simp only [Option.map_some, Option.some.injEq, Prod.mk.injEq] at h
    obtain ⟨rfl, rfl⟩ := h
    refine ⟨rfl, w, by rw [ho]; rfl, ?_⟩
    have hw : ground w = true := by
     have h2 := ho zi.empty
     unfold xI at h2
     split at h2
     ·
      exact (jP (H := H) h2).2.1
     ·
      rename_i a b _
      cases hs : aft op a b with
      | none => rw [hs] at h2; cases h2
      | some u =>
       rw [hs] at h2
       have : u = w := by simpa using h2
       subst this
       unfold aft at hs
       split at hs <;> first | (cases hs; rfl) | (split at hs <;> cases hs; rfl) | cases hs
     ·
      cases hn : yV P op t x' y' with
      | some b =>
       rw [hn] at h2
       have : Value.bool b = w := by simpa using h2
       subst this; rfl
      | none => rw [hn] at h2; exact (jP (H := H) h2).2.1
    exact V0.ground hw
  ·
   unfold xI at h
   split at h
   ·
    exact absurd ⟨rfl, rfl⟩ hg
   ·
    exact absurd ⟨rfl, rfl⟩ hg
   ·
    cases hn : yV P op t x y with
    | some b =>
     rw [hn] at h
     cases h
     obtain ⟨d, c, hd, he, hk⟩ := Vy hn
     obtain ⟨d1, d2, d3, d4⟩ := QO he
     rw [d1] at hx
     rw [d2] at hy
     have he' := acw he hx hy
     obtain ⟨_, _, d5, d6⟩ := QO he'
     exact ⟨rfl, _, YO (hk _ _ he') d5 d6, .sg rfl⟩
    | none =>
     rw [hn] at h
     have := (jP (H := H) h).2.2.1
     simp only [List.all_cons, List.all_nil, Bool.and_true, Bool.and_eq_true] at this
     exact absurd this hg
theorem Yn : ∀ (cs l : List Value) (bs : List UInt8), wG cs = some bs → L0 μ H cs l → l = cs := by
 intro cs
 induction cs with
 | nil => intro l bs _ h; exact List.length_eq_zero_iff.1 h.1.symm
 | cons v cs ih =>
  intro l bs hb h
  cases l with
  | nil => have := h.1; simp at this
  | cons v' l =>
   simp only [wG] at hb
   split at hb
   ·
    rename_i b bs' h1 h2
    rw [ih l bs' h2 h.tail]
    have hv : V0 μ H v v' := h.head
    have hg : ground v = true := by
     unfold JC at h1
     split at h1
     ·
      rfl
     ·
      cases h1
    rw [hv.qG hg]
   ·
    cases hb
theorem Jj {fx : Bool} {t : TypeId} {p p' v : Value} (h : jw P fx t p S = some (v, S')) (hp : V0 μ H (dem p) p') (hG : (∀ q, p ≠ .pointer q) ∨ GI μ S H) : S' = S ∧ ∃ a, wY P t p' H = some (a, H) ∧ V0 μ H v a := by
 unfold jw at h
 split at h
 ·
  rename_i k cs
  split at h <;> first | (cases h; done) | skip
  rename_i hk
  subst hk
  have hp : V0 μ H (.iface 3 (.agg cs)) p' := hp
  cases hp with
  | sg h => simp [Go.Abs.sg] at h
  | @ep _ r o e _ l own hr hpv hg hl hc =>
   split at h
   ·
    rename_i ha
    split at h
    ·
     rename_i n hn
     split at h
     ·
      rename_i hle
      cases h
      refine ⟨rfl, _, by simp only [wY, hg, ha, hn]; rw [if_pos (by omega)], JV (VL.ofRange (by simp; simp at hl hle; omega) fun i hi => ?_)⟩
      have hi' : i < n := by simp at hi; omega
      have := hc i (by omega)
      rwa [List.getD_eq_getElem?_getD, List.getElem?_take, if_pos hi', List.getD_eq_getElem?_getD, List.getElem?_take, if_pos hi', List.getElem?_drop, ← List.getD_eq_getElem?_getD, ← List.getD_eq_getElem?_getD]
     ·
      cases h
    ·
     cases h
   ·
    rename_i ha
    split at h
    ·
     rename_i w hw
     cases h
     have h0 : 0 < cs.toList.length := (List.getElem?_eq_some_iff.1 hw).1
     have := hc 0 h0
     rw [List.getD_eq_getElem?_getD, hw] at this
     have h1 : l[o]? = some l[o] := List.getElem?_eq_getElem (by omega)
     rw [List.getD_eq_getElem?_getD, Nat.add_zero, h1] at this
     exact ⟨rfl, l[o], by simp only [wY, hg, ha, h1], this⟩
    ·
     cases h
   ·
    cases h
 ·
  rename_i ad
  have hG2 : GI μ S H := hG.resolve_left (fun h => h _ rfl)
  clear hG
  have hp : V0 μ H (.pointer ad) p' := hp
  cases hp with
  | sg hs =>
   cases ad with
   | none => simp [wY] at h
   | some a => simp [Go.Abs.sg] at hs
  | @ptr _ q o r _ hm =>
   cases hg : S.get q with
   | none => simp [wY, hg] at h
   | some ob =>
    cases ob with
    | cells cs own esz =>
     obtain ⟨r', cs', own', _, hm', hg', hl⟩ := hG2.cells hg
     rw [hm] at hm'; cases hm'
     simp only [wY, hg] at h
     cases ha : qg P t with
     | none => simp [ha] at h
     | some b =>
      cases b with
      | true =>
       rw [ha] at h
       cases hn : qR P t with
       | none => simp [hn] at h
       | some n =>
        rw [hn] at h
        dsimp only at h
        by_cases hle : o + n ≤ cs.length
        ·
         rw [if_pos hle] at h
         dsimp only at h
         split at h
         ·
          split at h <;> first | (cases h; done) | skip
          cases h
          exact ⟨rfl, _, by simp only [wY, hg', ha, hn]; rw [if_pos (by rw [← hl.1]; exact hle)], JV ((hl.drop o).take n)⟩
         cases h
         have hp := JV ((hl.drop o).take n)
         refine ⟨rfl, _, by simp only [wY, hg', ha, hn]; rw [if_pos (by rw [← hl.1]; exact hle)], ?_⟩
         have : (((cs.drop o).take n).toArray.map qP) = ((cs.drop o).take n).toArray := by
          apply Array.ext (by simp)
          intro i h1 h2
          rw [Array.getElem_map]
          have := ((hl.drop o).take n).2 i
          have h3 := this.aaJ
          rw [List.getD_eq_getElem?_getD, List.getElem?_eq_getElem (by simpa using h2)] at h3
          simpa using h3
         rw [this]
         exact hp
        ·
         rw [if_neg hle] at h; cases h
      | false =>
       rw [ha] at h
       cases hv : cs[o]? with
       | none => simp [hv] at h
       | some w =>
        rw [hv] at h
        obtain ⟨w', h1, h2⟩ := hl.get hv
        have key : S' = S ∧ V0 μ H v w' := by
         dsimp only at h
         split at h
         ·
          rename_i cs2 G he
          cases he
          split at h
          ·
           split at h <;> first | (cases h; done) | skip
           cases h
           exact ⟨rfl, h2⟩
          cases h
          refine ⟨rfl, ?_⟩
          have : (Value.agg (cs2.map qP)) = .agg cs2 := by
           cases h2 with
           | sg hs =>
            congr 1
            apply Array.ext (by simp)
            intro i h1 h2
            rw [Array.getElem_map]
            have := List.all_eq_true.1 (show cs2.toList.all Go.Abs.sg = true from (by simp [Go.Abs.sg] at hs)) cs2[i] (by simp)
            cases hh : cs2[i] <;> first | rfl | (rw [hh] at this; simp [Go.Abs.sg] at this)
           | agg hx hh =>
            congr 1
            apply Array.ext (by simp)
            intro i h1 h2
            rw [Array.getElem_map]
            have := (hh i).aaJ
            rwa [Array.getD_eq_getD_getElem?, Array.getElem?_eq_getElem h2] at this
          rw [this]
          exact h2
         ·
          rename_i v2 G hne he
          cases he
          split at h
          ·
           split at h <;> first | (cases h; done) | skip
           cases h
           exact ⟨rfl, h2⟩
          cases h
          refine ⟨rfl, ?_⟩
          rw [h2.plain]
          exact h2
         ·
          rename_i he; cases he
        obtain ⟨rfl, h3⟩ := key
        exact ⟨rfl, w', by simp only [wY, hg', ha, h1], h3⟩
    | map es c => simp [wY, hg] at h
    | dead => simp [wY, hg] at h
 ·
  cases h
theorem YD {t : TypeId} {x x' v : Value} {f : Nat} (h : jf P t x f S = some (v, S')) (hx : V0 μ H (dem x) x') : S' = S ∧ ∃ a, wF P t x' f H = some (a, H) ∧ V0 μ H v a := by
 unfold jf at h
 split at h
 ·
  rename_i k cs
  split at h <;> first | (cases h; done) | skip
  rename_i hk
  subst hk
  have hx : V0 μ H (.iface 3 (.agg cs)) x' := hx
  cases hx with
  | sg h => simp [Go.Abs.sg] at h
  | @ep _ r o e _ l own hr hpv hg hl hc =>
   split at h <;> first | (cases h; done) | skip
   rename_i fields hu
   split at h <;> first | (cases h; done) | skip
   rename_i fd hfd
   split at h <;> first | (cases h; done) | skip
   rename_i n hn
   split at h <;> first | (cases h; done) | skip
   rename_i hn0
   split at h <;> first | (cases h; done) | skip
   rename_i hle
   cases h
   refine ⟨rfl, .pointer (some ⟨r, o + fd.offset, none⟩), by simp only [wF, hu, hfd, hn, if_neg hn0], ?_⟩
   refine .ep hr hpv hg ?_ ?_
   ·
    simp; simp at hl hle; omega
   ·
    intro i hi
    have hi' : i < n := by simp at hi; omega
    have := hc (fd.offset + i) (by omega)
    simp only [List.toList_toArray]
    rw [List.getD_eq_getElem?_getD, List.getElem?_take, if_pos hi', List.getElem?_drop, ← List.getD_eq_getElem?_getD, Nat.add_assoc]
    exact this
 ·
  rename_i hne
  unfold wF at h
  split at h
  ·
   rename_i fields r o hu
   split at h <;> first | (cases h; done) | skip
   rename_i fd hfd
   split at h <;> first | (cases h; done) | skip
   rename_i n hn
   split at h <;> first | (cases h; done) | skip
   rename_i hn0
   cases h
   have hx : V0 μ H (.pointer (some ⟨r, o, none⟩)) x' := hx
   cases hx with
   | sg hs => simp [Go.Abs.sg] at hs
   | ptr hm => exact ⟨rfl, _, by simp only [wF, hu, hfd, hn, if_neg hn0], .ptr hm⟩
  ·
   cases h
theorem Y6 {t : TypeId} {x x' ix ix' v : Value} (h : jk P t x ix S = some (v, S')) (hx : V0 μ H (dem x) x') (hi : V0 μ H (dem ix) ix') : S' = S ∧ ∃ a, jM P t x' ix' H = some (a, H) ∧ V0 μ H v a := by
 unfold jk at h
 split at h
 ·
  rename_i k w
  split at h <;> first | (cases h; done) | skip
  rename_i te e n cs ki i hu hs
  split at h <;> first | (cases h; done) | skip
  rename_i size hsz
  split at h <;> first | (cases h; done) | skip
  rename_i hse
  split at h <;> first | (cases h; done) | skip
  rename_i hin
  cases h
  have e2 := jo hi rfl
  subst e2
  rcases hx.slice (by rw [Zj]; exact hs) with ⟨h1, _⟩ | ⟨l, hl, ⟨hln, hor⟩, _⟩
  ·
   simp only [dem, qP] at h1; cases h1
  ·
   rcases hor with ⟨rfl, h0⟩ | ⟨r, o, cs', own, rfl, hr, hp, hg, hle, rfl⟩
   ·
    omega
   ·
    have hlt : i.toNat < n := by omega
    have hmul : i.toNat * e + e ≤ n * e := by rw [← Nat.succ_mul]; exact Nat.mul_le_mul_right _ hlt
    have hcs : cs.length = n * e := by rw [hl.1, hln]
    refine ⟨rfl, .pointer (some ⟨r, o + i.toNat * size, none⟩), by simp only [jM, hu, hsz]; rw [if_pos hin], ?_⟩
    subst hse
    refine .ep hr hp hg ?_ ?_
    ·
     simp; omega
    ·
     intro j hj
     have hj' : j < size := by simp at hj; omega
     have := hl.2 (i.toNat * size + j)
     simp only [List.toList_toArray]
     rw [List.getD_eq_getElem?_getD, List.getElem?_take, if_pos hj', List.getElem?_drop, ← List.getD_eq_getElem?_getD]
     rw [List.getD_eq_getElem?_getD (l := (cs'.drop o).take (n * size)), List.getElem?_take, if_pos (by omega), List.getElem?_drop, ← List.getD_eq_getElem?_getD] at this
     rw [Nat.add_assoc]
     exact this
 ·
  rename_i ad
  have hx : V0 μ H (.pointer ad) x' := hx
  cases hx with
  | sg hs => cases ad with
   | none => simp [jM] at h
   | some a => simp [Go.Abs.sg] at hs
  | @ptr _ q o r _ hm =>
   unfold jM at h
   split at h
   ·
    rename_i hu he; cases he
   ·
    rename_i len e r2 o2 k i hu he
    cases he
    split at h <;> first | (cases h; done) | skip
    rename_i size hsz
    split at h <;> first | (cases h; done) | skip
    rename_i hin
    cases h
    have e2 := jo hi rfl
    subst e2
    exact ⟨rfl, .pointer (some ⟨r, o + i.toNat * size, none⟩), by simp only [jM, hu, hsz]; rw [if_pos hin], .ptr hm⟩
   ·
    cases h
 ·
  rename_i ad n c
  have hx : V0 μ H (.slice (some ad) n c) x' := hx
  cases hx with
  | sg hs => simp [Go.Abs.sg] at hs
  | @slm _ q o r _ _ hm =>
   unfold jM at h
   split at h
   ·
    rename_i e q2 o2 len c2 k i hu he
    cases he
    split at h <;> first | (cases h; done) | skip
    rename_i size hsz
    split at h <;> first | (cases h; done) | skip
    rename_i hin
    cases h
    have e2 := jo hi rfl
    subst e2
    exact ⟨rfl, .pointer (some ⟨r, o + i.toNat * size, none⟩), by simp only [jM, hu, hsz]; rw [if_pos hin], .ptr hm⟩
   ·
    rename_i hu he; cases he
   ·
    cases h
 ·
  cases h
def ESV (μ : Mu) (H : zi) (es es' : List MapEntry) : Prop := es.length = es'.length ∧ ∀ (i : Nat) (e : MapEntry), es[i]? = some e → ∃ e', es'[i]? = some e' ∧ e'.key = e.key ∧ e'.born = e.born ∧ V0 μ H e.val e'.val
theorem ESV.tail {e e' : MapEntry} {es es' : List MapEntry} (h : ESV μ H (e :: es) (e' :: es')) : ESV μ H es es' :=
 ⟨by have := h.1; simpa using this, fun i x hx => by simpa using h.2 (i + 1) x (by simpa using hx)⟩
theorem ZE {kd : TypeDesc} {k : Value} : ∀ (es es' : List MapEntry) (i : Nat) (r : Option (Nat × Value)), ESV μ H es es' → Instr.findNow kd k es i = some r →
  ∃ r', Instr.findNow kd k es' i = some r' ∧ ((r = none ∧ r' = none) ∨ ∃ j v v', r = some (j, v) ∧ r' = some (j, v') ∧ V0 μ H v v') := by
 intro es
 induction es with
 | nil =>
  intro es' i r h hf
  have : es' = [] := by have := h.1; cases es' <;> simp_all
  subst this
  simp only [Instr.findNow, Option.some.injEq] at hf
  subst hf
  exact ⟨none, rfl, .inl ⟨rfl, rfl⟩⟩
 | cons e es ih =>
  intro es' i r h hf
  cases es' with
  | nil => have := h.1; simp at this
  | cons e' es' =>
   obtain ⟨x, hx, h1, h2, h3⟩ := h.2 0 e rfl
   simp at hx
   subst hx
   simp only [Instr.findNow, h1] at hf ⊢
   split at hf
   ·
    cases hf
    exact ⟨_, rfl, .inr ⟨i, e.val, e'.val, rfl, rfl, h3⟩⟩
   ·
    exact ih es' (i + 1) r h.tail hf
   ·
    cases hf
theorem ad3 {v a : Value} {b : Bool} (h : V0 μ H v a) : V0 μ H (.tuple #[v, .bool b]) (.tuple #[a, .bool b]) := by
 refine .tuple rfl fun i => ?_
 match i with
 | 0 => exact h
 | 1 => exact .sg rfl
 | i + 2 => exact .nores
theorem Yi {nm : Bool} {t : TypeId} {x x' k k' v : Value} {ok : Bool} (h : ZL P nm t x k ok S = some (v, S')) (hx : V0 μ H (dem x) x') (hk : V0 μ H (dem k) k') (hG : nm = true ∨ GI μ S H) : S' = S ∧ ∃ a, jT P t x' k' ok H = some (a, H) ∧ V0 μ H v a := by
 unfold ZL at h
 split at h <;> first | (cases h; done) | skip
 rename_i hnm
 have hG : GI μ S H := hG.resolve_left hnm
 unfold jT at h
 split at h <;> first | (cases h; done) | skip
 rename_i kt et hu
 split at h <;> first | (cases h; done) | skip
 rename_i kd hkd
 split at h <;> first | (cases h; done) | skip
 rename_i hkk
 have ek := jo hk (qm hkk)
 subst ek
 split at h <;> first | (cases h; done) | skip
 rename_i es hes
 have key : ∃ es', ESV μ H es es' ∧ (∀ j v, Instr.findNow kd k' es' 0 = some (some (j, v)) → jT P t x' k' ok H = some (if ok then .tuple #[v, .bool true] else v, H)) ∧
   (Instr.findNow kd k' es' 0 = some none → ∀ z, zeroOf P et = some z → Go.Abs.ground z = true → jT P t x' k' ok H = some (if ok then .tuple #[z, .bool false] else z, H)) := by
  split at hes
  ·
   cases hes
   have : x' = .map none := jo hx rfl
   subst this
   exact ⟨[], ⟨rfl, fun i e he => by simp at he⟩, fun j v f => by simp only [jT, hu, hkd, if_pos hkk, f], fun f z hz hg => by simp only [jT, hu, hkd, if_pos hkk, f, hz, if_pos hg]⟩
  ·
   rename_i q
   have hx : V0 μ H (.map (some q)) x' := hx
   split at hes <;> first | (cases hes; done) | skip
   rename_i es0 c hg
   cases hes
   cases hx with
   | sg hs => simp [Go.Abs.sg] at hs
   | map hm =>
    obtain ⟨r, es', h1, h2, h3, h4⟩ := hG.map hg
    rw [hm] at h1
    cases h1
    exact ⟨es', ⟨h3, h4⟩, fun j v f => by simp only [jT, hu, hkd, if_pos hkk, h2, f], fun f z hz hg => by simp only [jT, hu, hkd, if_pos hkk, h2, f, hz, if_pos hg]⟩
  ·
   cases hes
 obtain ⟨es', he2, k1, k2⟩ := key
 split at h <;> first | (cases h; done) | skip
 ·
  rename_i j w hf
  cases h
  obtain ⟨r', f1, f2⟩ := ZE _ _ _ _ he2 hf
  rcases f2 with ⟨h0, _⟩ | ⟨j2, v2, v3, h0, rfl, hv⟩
  ·
   cases h0
  ·
   cases h0
   refine ⟨rfl, if ok then .tuple #[v3, .bool true] else v3, k1 _ _ f1, ?_⟩
   cases ok
   ·
    exact hv
   ·
    exact ad3 hv
 ·
  rename_i hf
  split at h <;> first | (cases h; done) | skip
  rename_i z hz
  split at h <;> first | (cases h; done) | skip
  rename_i hgz
  cases h
  obtain ⟨r', f1, f2⟩ := ZE _ _ _ _ he2 hf
  rcases f2 with ⟨_, rfl⟩ | ⟨j2, v2, v3, h0, _⟩
  ·
   refine ⟨rfl, if ok then .tuple #[z, .bool false] else z, k2 f1 z hz hgz, ?_⟩
   cases ok
   ·
    exact V0.ground hgz
   ·
    exact ad3 (V0.ground hgz)
  ·
   cases h0
end
end Go.Abs
namespace Go.Abs
open Go.RowKit
section
variable {P : Program} {μ : Mu} {S S' H : zi}
theorem Yu {x : Option Value} {x' : Option Value} (hx : ∀ v ∈ x, ∃ a, x' = some a ∧ V0 μ H (dem v) a) (hn : x = none → x' = none) {d : Nat} {i : Int} (h : y5 d x = some i) : y5 d x' = some i := by
 cases x with
 | none => rw [hn rfl]; exact h
 | some v =>
  obtain ⟨a, rfl, ha⟩ := hx v rfl
  cases v <;> simp [y5] at h
  rw [jo ha rfl]
  simp [y5, h]
theorem aaA {t : TypeId} {x x' v : Value} {lo hi : Option Operand} {ρ ρA : Operand → Value} (h : yT P t x (lo.map ρ) (hi.map ρ) S = some (v, S')) (hx : V0 μ H (dem x) x')
  (hlo : ∀ y ∈ lo, V0 μ H (dem (ρ y)) (ρA y)) (hhi : ∀ y ∈ hi, V0 μ H (dem (ρ y)) (ρA y)) : S' = S ∧ ∃ a, y9 P t x' (lo.map ρA) (hi.map ρA) H = some (a, H) ∧ V0 μ H v a := by
 have glo : ∀ {d : Nat} {i : Int}, y5 d (lo.map ρ) = some i → y5 d (lo.map ρA) = some i := fun h => Yu (x := lo.map ρ) (x' := lo.map ρA) (μ := μ) (H := H) (by
  intro v hv
  cases lo with
  | none => cases hv
  | some y => cases hv; exact ⟨_, rfl, hlo y rfl⟩) (by cases lo <;> simp) h
 have ghi : ∀ {d : Nat} {i : Int}, y5 d (hi.map ρ) = some i → y5 d (hi.map ρA) = some i := fun h => Yu (x := hi.map ρ) (x' := hi.map ρA) (μ := μ) (H := H) (by
  intro v hv
  cases hi with
  | none => cases hv
  | some y => cases hv; exact ⟨_, rfl, hhi y rfl⟩) (by cases hi <;> simp) h
 unfold yT at h
 split at h
 ·
  rename_i s
  have e := jo hx rfl
  subst e
  unfold y9 at h ⊢
  cases hu : P.underlying t with
  | none => rw [hu] at h; cases h
  | some d =>
   rw [hu] at h
   cases d with
   | string =>
    dsimp only at h ⊢
    obtain ⟨rfl, hg, ha, hh⟩ := jP (H := H) h
    have e1 : lo.map ρA = lo.map ρ := by
     cases lo with
     | none => rfl
     | some y =>
      have : ground (ρ y) = true := List.all_eq_true.1 ha _ (by simp)
      simp only [Option.map_some]; rw [jo (hlo y rfl) this]
    have e2 : hi.map ρA = hi.map ρ := by
     cases hi with
     | none => rfl
     | some y =>
      have : ground (ρ y) = true := List.all_eq_true.1 ha _ (by simp)
      simp only [Option.map_some]; rw [jo (hhi y rfl) this]
    rw [e1, e2]
    exact ⟨rfl, v, hh, V0.ground hg⟩
   | _ => cases h
 ·
  rename_i hns
  split at h <;> first | (cases h; done) | skip
  rename_i te e n cs hu hs
  split at h <;> first | (cases h; done) | skip
  rename_i size l hh hsz hl hhi'
  split at h <;> first | (cases h; done) | skip
  rename_i c0
  split at h <;> first | (cases h; done) | skip
  rename_i c1
  split at h <;> first | (cases h; done) | skip
  rename_i c2
  have el := glo hl
  have eh := ghi hhi'
  rcases hx.slice (by rw [Zj]; exact hs) with ⟨h1, rfl, rfl, rfl⟩ | ⟨lc, hlc, ⟨hln, hor⟩, k, w, hkw⟩
  ·
   have hx0 : x = .slice none 0 0 := by
    cases x <;> simp [dem, qP] at h1 <;> simp [h1]
   subst hx0
   have h : some (Value.slice none 0 0, S) = some (v, S') := h
   cases h
   exact ⟨rfl, _, by simp only [y9, hu, hsz, el, eh, if_pos c0, if_pos c1, if_pos c2, if_true], .sg rfl⟩
  ·
   have hxi : ∃ k w, x = .iface k w := by
    cases x <;> simp [dem, qP] at hkw <;> exact ⟨_, _, rfl⟩
   obtain ⟨k2, w2, rfl⟩ := hxi
   have h : (if size = e then some (SL 1 e (hh.toNat - l.toNat) ((cs.drop (l.toNat * e)).take ((hh.toNat - l.toNat) * e)), S) else none) = some (v, S') := h
   split at h <;> first | (cases h; done) | skip
   rename_i hse
   cases h
   subst hse
   rcases hor with ⟨rfl, rfl⟩ | ⟨r, o, cs', own, rfl, hr, hp, hg, hle, rfl⟩
   ·
    have e1 : hh.toNat - l.toNat = 0 := by omega
    refine ⟨rfl, .slice (some ⟨0, 0, some 0⟩) 0 0, by simp only [y9, hu, hsz, el, eh, if_pos c0, if_pos c1, if_pos c2, if_true], ?_⟩
    unfold SL
    rw [e1, Nat.zero_mul, List.take_zero]
    exact .slE
   ·
    have hjn : hh.toNat ≤ n := by omega
    have hmul : (l.toNat + (hh.toNat - l.toNat)) * size ≤ n * size := Nat.mul_le_mul_right _ (by omega)
    rw [Nat.add_mul] at hmul
    have hcs : cs.length = n * size := by rw [hlc.1, hln]
    refine ⟨rfl, .slice (some ⟨r, o + l.toNat * size, none⟩) (hh.toNat - l.toNat) (hh.toNat - l.toNat), by simp only [y9, hu, hsz, el, eh, if_pos c0, if_pos c1, if_pos c2, hg, if_true], ?_⟩
    refine .sl hr hp hg (by omega) (by simp; omega) fun i hi => ?_
    have := hlc.2 (l.toNat * size + i)
    simp only [List.toList_toArray]
    rw [List.getD_eq_getElem?_getD, List.getElem?_take, if_pos hi, List.getElem?_drop, ← List.getD_eq_getElem?_getD]
    rw [List.getD_eq_getElem?_getD (l := (cs'.drop o).take (n * size)), List.getElem?_take, if_pos (by omega), List.getElem?_drop, ← List.getD_eq_getElem?_getD] at this
    rw [Nat.add_assoc]
    exact this
theorem XE {src dst : TypeId} {x x' v : Value} (h : kG P src dst x S = some (v, S')) (hx : V0 μ H (dem x) x') (hd : ∀ e, P.underlying dst ≠ some (.slice e)) : S' = S ∧ ∃ a, wB P src dst x' H = some (a, H) ∧ V0 μ H v a := by
 unfold kG at h
 split at h
 ·
  rename_i s
  have e := jo hx rfl
  subst e
  split at h
  ·
   rename_i d e hs hdd
   exact absurd hdd (hd e)
  ·
   rename_i hne
   obtain ⟨rfl, hg, ha, hh⟩ := jP (H := H) h
   refine ⟨rfl, v, ?_, V0.ground hg⟩
   unfold wB
   dsimp only
   split
   ·
    rename_i d e hs hdd
    exact absurd hdd (hd e)
   ·
    exact hh
 ·
  rename_i hns
  split at h
  ·
   rename_i e n cs hs
   split at h
   ·
    rename_i te hu hus
    split at h <;> first | (cases h; done) | skip
    rename_i hte
    split at h <;> first | (cases h; done) | skip
    rename_i hcn
    split at h <;> first | (cases h; done) | skip
    rename_i bs hbs
    cases h
    rcases hx.slice (by rw [Zj]; exact hs) with ⟨h1, rfl, rfl, rfl⟩ | ⟨lc, hlc, ⟨hln, hor⟩, k, w, hkw⟩
    ·
     simp only [wG, Option.some.injEq] at hbs
     subst hbs
     exact ⟨rfl, _, by simp only [wB, hu, hus, hte, wS, if_true, wG], .sg rfl⟩
    ·
     have hlc2 := Yn cs lc bs hbs hlc
     subst hlc2
     rcases hor with ⟨rfl, rfl⟩ | ⟨r, o, cs', own, rfl, hr, hp, hg, hle, rfl⟩
     ·
      have : lc = [] := List.length_eq_zero_iff.1 (by rw [hlc.1, hln, Nat.zero_mul])
      subst this
      simp only [wG, Option.some.injEq] at hbs
      subst hbs
      exact ⟨rfl, _, by simp only [wB, hu, hus, hte, wS, if_true, wG], .sg rfl⟩
     ·
      have hne : n * e = n := by rw [← hln]; exact hcn
      rw [hne] at hbs hle
      exact ⟨rfl, _, by simp only [wB, hu, hus, hte, wS, hg, if_pos hle, hbs], .sg rfl⟩
   ·
    rename_i te te2 hu hus
    exact absurd hus (hd _)
   ·
    cases h
  ·
   rename_i hvs
   obtain ⟨rfl, hg, ha, hh⟩ := jP (H := H) h
   have hgx : ground x = true := List.all_eq_true.1 ha _ (by simp)
   have e := jo hx hgx
   subst e
   refine ⟨rfl, v, ?_, V0.ground hg⟩
   unfold wB
   split
   ·
    rename_i a n c
    cases a with
    | none =>
     have : n = 0 ∧ c = 0 := by
      simp only [ground, Go.Abs.sg] at hgx
      split at hgx <;> simp_all
     obtain ⟨rfl, rfl⟩ := this
     simp [vSl] at hvs
    | some a => simp [ground, Go.Abs.sg] at hgx
   ·
    exact absurd rfl (hns _)
   ·
    exact hh
theorem Qb {q o n c m r : Nat} {b : Bool} {cs : List Value} (hG : GI μ S H) (hm : μ q = some (r, b)) (h : wS (.slice (some ⟨q, o, none⟩) n c) m S = some cs) : ∃ cs', wS (.slice (some ⟨r, o, none⟩) n c) m H = some cs' ∧ L0 μ H cs cs' := by
 simp only [wS] at h
 cases hg : S.get q with
 | none => rw [hg] at h; cases h
 | some ob =>
  rw [hg] at h
  cases ob with
  | cells l own e =>
   dsimp only at h
   split at h <;> first | (cases h; done) | skip
   rename_i hle
   cases h
   obtain ⟨r', cs', own', _, hm', hg', hl⟩ := hG.cells hg
   rw [hm] at hm'; cases hm'
   exact ⟨_, by simp only [wS, hg']; rw [if_pos (by rw [← hl.1]; exact hle)], (hl.drop o).take m⟩
  | map es c => cases h
  | dead => cases h
theorem aeS {x : Value} (h : Y4 x = true) : ∃ a n c, x = .slice (some a) n c := by
 unfold Y4 at h
 split at h
 ·
  exact ⟨_, _, _, rfl⟩
 ·
  cases h
theorem afo {x x' : Value} (h : Y4 x = true) (hx : V0 μ H (dem x) x') : ∃ q o r b n, x = .slice (some ⟨q, o, none⟩) n n ∧ x' = .slice (some ⟨r, o, none⟩) n n ∧ μ q = some (r, b) := by
 obtain ⟨a, n, c, rfl⟩ := aeS h
 have hx : V0 μ H (.slice (some a) n c) x' := hx
 cases hx with
 | sg hs => simp [Go.Abs.sg] at hs
 | slm hm => exact ⟨_, _, _, _, _, rfl, rfl, hm⟩
theorem Vz {dr : Bool} {t : TypeId} {x x' v : Value} {lo hi : Option Operand} {ρ ρA : Operand → Value} (h : wz P dr t x (lo.map ρ) (hi.map ρ) S = some (v, S')) (hx : V0 μ H (dem x) x')
  (hlo : ∀ y ∈ lo, V0 μ H (dem (ρ y)) (ρA y)) (hhi : ∀ y ∈ hi, V0 μ H (dem (ρ y)) (ρA y)) (hG : dr = true ∨ GI μ S H) : S' = S ∧ ∃ a, y9 P t x' (lo.map ρA) (hi.map ρA) H = some (a, H) ∧ V0 μ H v a := by
 unfold wz at h
 split at h
 ·
  rename_i hh
  split at h <;> first | (cases h; done) | skip
  rename_i hdr
  have hG : GI μ S H := hG.resolve_left hdr
  obtain ⟨q, o, r, b, n, rfl, rfl, hm⟩ := afo hh hx
  have glo : ∀ {d : Nat} {i : Int}, y5 d (lo.map ρ) = some i → y5 d (lo.map ρA) = some i := fun h => Yu (x := lo.map ρ) (x' := lo.map ρA) (μ := μ) (H := H) (by
   intro v hv
   cases lo with
   | none => cases hv
   | some y => cases hv; exact ⟨_, rfl, hlo y rfl⟩) (by cases lo <;> simp) h
  have ghi : ∀ {d : Nat} {i : Int}, y5 d (hi.map ρ) = some i → y5 d (hi.map ρA) = some i := fun h => Yu (x := hi.map ρ) (x' := hi.map ρA) (μ := μ) (H := H) (by
   intro v hv
   cases hi with
   | none => cases hv
   | some y => cases hv; exact ⟨_, rfl, hhi y rfl⟩) (by cases hi <;> simp) h
  unfold y9 at h
  split at h
  ·
   rename_i hu he; cases he
  ·
   rename_i e a len c hu he
   cases he
   split at h <;> first | (cases h; done) | skip
   rename_i size l hh' hsz hl hhi'
   split at h <;> first | (cases h; done) | skip
   rename_i c0
   split at h <;> first | (cases h; done) | skip
   rename_i c1
   split at h <;> first | (cases h; done) | skip
   rename_i c2
   have h : (match S.get q with
    | some (.cells _ _ esz) => if esz = size then some (Value.slice (some ⟨q, o + l.toNat * size, none⟩) (hh'.toNat - l.toNat) (hh'.toNat - l.toNat), S) else none
    | _ => none) = some (v, S') := h
   split at h <;> first | (cases h; done) | skip
   rename_i l2 own esz hg
   split at h <;> first | (cases h; done) | skip
   rename_i hes
   cases h
   obtain ⟨r', cs', own', _, hm', hg', hl'⟩ := hG.cells hg
   rw [hm] at hm'; cases hm'
   exact ⟨rfl, .slice (some ⟨r, o + l.toNat * size, none⟩) (hh'.toNat - l.toNat) (hh'.toNat - l.toNat), by simp only [y9, hu, hsz, glo hl, ghi hhi', if_pos c0, if_pos c1, if_pos c2, hg']; rw [if_pos hes], .slm hm⟩
  ·
   cases h
 ·
  exact aaA h hx hlo hhi
theorem adn {src dst : TypeId} {x x' v : Value} (h : wB P src dst x S = some (v, S')) (hx : V0 μ H (dem x) x') (hd : ∀ e, P.underlying dst ≠ some (.slice e)) (hG : GI μ S H) (hh : Y4 x = true) : S' = S ∧ ∃ a, wB P src dst x' H = some (a, H) ∧ V0 μ H v a := by
 obtain ⟨q, o, r, b, n, rfl, rfl, hm⟩ := afo hh hx
 unfold wB at h
 dsimp only at h
 split at h
 ·
  rename_i e hu hus
  split at h <;> first | (cases h; done) | skip
  rename_i hte
  split at h <;> first | (cases h; done) | skip
  rename_i cs hcs
  split at h <;> first | (cases h; done) | skip
  rename_i bs hbs
  cases h
  obtain ⟨cs', h1, h2⟩ := Qb hG hm hcs
  have := Yn cs cs' bs hbs h2
  subst this
  exact ⟨rfl, _, by simp only [wB, hu, hus, hte, h1, hbs], .sg rfl⟩
 ·
  rename_i e0 e hu hus
  exact absurd hus (hd _)
 ·
  cases h
theorem aaP {hp dr : Bool} {src dst : TypeId} {x x' v : Value} (h : jK P hp dr src dst x S = some (v, S')) (hx : V0 μ H (dem x) x') (hd : ∀ e, P.underlying dst ≠ some (.slice e)) (hG : dr = true ∨ GI μ S H) : S' = S ∧ ∃ a, wB P src dst x' H = some (a, H) ∧ V0 μ H v a := by
 unfold jK at h
 split at h
 ·
  rename_i hh
  split at h <;> first | (cases h; done) | skip
  rename_i hdr
  exact adn h hx hd (hG.resolve_left hdr) hh
 ·
  split at h
  ·
   rename_i s
   refine XE (S := S) ?_ hx hd
   unfold kG
   unfold wB at h
   dsimp only at h ⊢
   split at h
   ·
    rename_i d e hs hdd; exact absurd hdd (hd e)
   ·
    split
    ·
     rename_i d e hs hdd; exact absurd hdd (hd e)
    ·
     exact h
  ·
   exact XE h hx hd
theorem abH {t : TypeId} {x x' v : Value} {f : Nat} (h : xE P t x f S = some (v, S')) (hx : V0 μ H (dem x) x') : S' = S ∧ ∃ a, xE P t x' f H = some (a, H) ∧ V0 μ H v a := by
 unfold xE at h
 split at h
 ·
  rename_i fields cs hu
  split at h <;> first | (cases h; done) | skip
  rename_i fd hfd
  split at h <;> first | (cases h; done) | skip
  rename_i w hw
  cases h
  have hx : V0 μ H (.agg cs) x' := hx
  have hl := hx.QS
  cases hx with
  | sg hs => simp [Go.Abs.sg] at hs
  | agg hxs hxx =>
   obtain ⟨a, h1, h2⟩ := XD hw hl
   exact ⟨rfl, a, by simp only [xE, hu, hfd, Value.cells] at h1 ⊢; simp only [h1], h2⟩
 ·
  cases h
theorem abj {t : TypeId} {x x' ix ix' v : Value} (h : kH P t x ix S = some (v, S')) (hx : V0 μ H (dem x) x') (hi : V0 μ H (dem ix) ix') : S' = S ∧ ∃ a, kH P t x' ix' H = some (a, H) ∧ V0 μ H v a := by
 unfold kH at h
 split at h
 ·
  rename_i len e cs k i hu
  split at h <;> first | (cases h; done) | skip
  rename_i size hsz
  split at h <;> first | (cases h; done) | skip
  rename_i hin
  split at h <;> first | (cases h; done) | skip
  rename_i w hw
  cases h
  have e2 := jo hi rfl
  subst e2
  have hx : V0 μ H (.agg cs) x' := hx
  have hl := hx.QS
  cases hx with
  | sg hs => simp [Go.Abs.sg] at hs
  | agg hxs hxx =>
   obtain ⟨a, h1, h2⟩ := XD hw hl
   simp only [Value.cells] at h1
   exact ⟨rfl, a, by simp only [kH, hu, hsz]; rw [if_pos hin]; simp only [h1], h2⟩
 ·
  rename_i s k i hu
  have e1 := jo hx rfl
  have e2 := jo hi rfl
  subst e1 e2
  obtain ⟨rfl, hg, ha, hh⟩ := jP (H := H) h
  exact ⟨rfl, v, by simp only [kH, hu]; exact hh, V0.ground hg⟩
 ·
  cases h
theorem KF {x x' v : Value} {i : Nat} (h : zL x i S = some (v, S')) (hx : V0 μ H (dem x) x') : S' = S ∧ ∃ a, zL x' i H = some (a, H) ∧ V0 μ H (dem v) a := by
 unfold zL at h
 split at h
 ·
  rename_i vs
  split at h <;> first | (cases h; done) | skip
  rename_i w hw
  cases h
  have hx : V0 μ H (.tuple (vs.map qP)) x' := hx
  have hw2 : (vs.map qP)[i]? = some (qP v) := by rw [Array.getElem?_map, hw]; rfl
  generalize hvs : vs.map qP = ws at hx hw2
  cases hx with
  | sg hs => simp [Go.Abs.sg] at hs
  | nores => simp at hw2
  | @tuple _ _ y hxs hxx =>
   have hi : i < ws.size := (Array.getElem?_eq_some_iff.1 hw2).1
   have hi' : i < y.size := by rw [← hxs]; exact hi
   have := hxx i
   rw [Array.getD_eq_getD_getElem?, hw2, Array.getD_eq_getD_getElem?, Array.getElem?_eq_getElem hi'] at this
   have h3 : V0 μ H (dem (qP v)) y[i] := this.dem
   rw [adq] at h3
   exact ⟨rfl, y[i], by simp only [zL, Array.getElem?_eq_getElem hi'], h3⟩
 ·
  cases h
theorem adx {c c' x x' y y' v : Value} (h : wZ c x y S = some (v, S')) (hc : V0 μ H (dem c) c') (hx : V0 μ H (dem x) x') (hy : V0 μ H (dem y) y') : S' = S ∧ ∃ a, Q9 c' x' y' H = some (a, H) ∧ V0 μ H v a := by
 unfold wZ at h
 split at h
 ·
  rename_i t
  cases h
  have e := jo hc rfl
  subst e
  refine ⟨rfl, _, rfl, ?_⟩
  cases t
  ·
   exact hy
  ·
   exact hx
 ·
  cases h
theorem QC {x x' v : Value} (h : qp x S = some (v, S')) (hx : V0 μ H (dem x) x') : S' = S ∧ ∃ a, qA x' H = some (a, H) ∧ V0 μ H v a := by
 unfold qp at h
 split at h
 ·
  rename_i a
  cases h
  have hx : V0 μ H (.pointer (some a)) x' := hx
  cases hx with
  | sg hs => simp [Go.Abs.sg] at hs
  | ptr hm => exact ⟨rfl, _, rfl, .ptr hm⟩
 ·
  rename_i k cs
  split at h <;> first | (cases h; done) | skip
  rename_i hk
  subst hk
  cases h
  have hx : V0 μ H (.iface 3 (.agg cs)) x' := hx
  cases hx with
  | sg hs => simp [Go.Abs.sg] at hs
  | ep hr hp hg hl hc => exact ⟨rfl, _, rfl, .ep hr hp hg hl hc⟩
 ·
  cases h
theorem afF {op : UnOp} {x x' v : Value} (h : aUn P op x S = some (v, S')) (hx : V0 μ H (dem x) x') : S' = S ∧ ∃ a, aUn P op x' H = some (a, H) ∧ V0 μ H v a := by
 unfold aUn at h ⊢
 obtain ⟨rfl, hg, ha, hh⟩ := jP (H := H) h
 have hgx : ground x = true := List.all_eq_true.1 ha _ (by simp)
 have e := jo hx hgx
 subst e
 exact ⟨rfl, v, hh, V0.ground hg⟩
theorem abd {t : TypeId} {x x' v : Value} (h : qM P t x S = some (v, S')) (hx : V0 μ H (dem x) x') : S' = S ∧ ∃ a, QI P t x' H = some (a, H) ∧ V0 μ H v a := by
 unfold qM at h
 split at h
 ·
  rename_i k w
  split at h <;> first | (cases h; done) | skip
  rename_i te e n cs hu hs
  cases h
  rcases hx.slice (by rw [Zj]; exact hs) with ⟨h1, _⟩ | ⟨lc, hlc, ⟨hln, hor⟩, _⟩
  ·
   simp only [dem, qP] at h1; cases h1
  ·
   rcases hor with ⟨rfl, rfl⟩ | ⟨r, o, cs', own, rfl, _⟩ <;> exact ⟨rfl, _, by simp only [QI, hu], .sg rfl⟩
 ·
  cases h
 ·
  rename_i hn1 hn2
  unfold QI at h
  split at h
  ·
   rename_i s hu
   cases h
   have e := jo hx rfl
   subst e
   exact ⟨rfl, _, by simp only [QI, hu], .sg rfl⟩
  ·
   rename_i n e hu
   cases h
   exact ⟨rfl, goInt n, by simp only [QI, hu], .sg rfl⟩
  ·
   rename_i e a n c hu
   cases h
   have hx : V0 μ H (.slice a n c) x' := hx
   cases hx with
   | sg hs => exact ⟨rfl, goInt n, by simp only [QI, hu], .sg rfl⟩
   | slm hm => exact ⟨rfl, goInt n, by simp only [QI, hu], .sg rfl⟩
  ·
   exact absurd rfl (hn2 _)
  ·
   exact absurd rfl (hn2 _)
  ·
   cases h
theorem LV.map {xs : List Operand} {ρ ρA : Operand → Value} (h : ∀ x ∈ xs, V0 μ H (dem (ρ x)) (ρA x)) : L0 μ H (xs.map fun x => dem (ρ x)) (xs.map ρA) := by
 induction xs with
 | nil => exact VL.nil
 | cons x xs ih => exact VL.cons (h x (by simp)) (ih fun y hy => h y (by simp [hy]))
theorem adk {fn : Fn} {first captured : List Operand} {ρ ρA : Operand → Value} (h1 : ∀ x ∈ first, V0 μ H (dem (ρ x)) (ρA x)) (h2 : ∀ x ∈ captured, V0 μ H (dem (ρ x)) (ρA x)) :
  V0 μ H (.func fn (first.map fun x => dem (ρ x)).toArray (captured.map fun x => dem (ρ x)).toArray) (.func fn (first.map ρA).toArray (captured.map ρA).toArray) := by
 refine .func fn (by simp) (by simp) (fun i => ?_) (fun i => ?_)
 ·
  have := (LV.map h1).2 i
  rw [← getD_toList, ← getD_toList]; exact this
 ·
  have := (LV.map h2).2 i
  rw [← getD_toList, ← getD_toList]; exact this
theorem Kt {parts : List (Nat × Operand)} {ρ ρA : Operand → Value} (h : ∀ p ∈ parts, V0 μ H (dem (ρ p.2)) (ρA p.2)) : PV μ H ((parts.map fun p => (p.1, ρ p.2)).map fun p => (p.1, dem p.2)) (parts.map fun p => (p.1, ρA p.2)) := by
 refine ⟨by simp [Function.comp_def], ?_⟩
 have := LV.map (μ := μ) (H := H) (xs := parts.map (·.2)) (ρ := ρ) (ρA := ρA) (fun x hx => by
  obtain ⟨p, hp, rfl⟩ := List.mem_map.1 hx
  exact h p hp)
 simpa [Function.comp_def] using this
def hands (o : Oper) : Bool :=
 match o.op with
 | .move _ | .assign _ | .extract .. => true
 | _ => false
def kY (ρ : Operand → Value) (o : Oper) : Prop :=
 match o.op with
 | .load _ a => ∀ q, ρ a ≠ .pointer q
 | .lookup .. => False
 | _ => True
theorem ZW {ρ : Operand → Value} {o : Oper} (h : yY o = false) : kY ρ o := by
 unfold kY
 unfold yY at h
 split <;> simp_all
theorem Qv {fx : Fx} {ρ ρA : Operand → Value} {o : Oper} {v : Value} (h : vOp P fx ρ o S = some (v, S')) (hn : xM P o = false) (ho : ∀ x ∈ o.op.operands.toList, V0 μ H (dem (ρ x)) (ρA x)) (hG : kY ρ o ∨ GI μ S H) (hD : fx.dr = true ∨ GI μ S H) :
  S' = S ∧ ∃ a, aOp P ρA o H = some (a, H) ∧ V0 μ H (dem v) a ∧ (hands o = false → V0 μ H v a) := by
 have wrap : ∀ {s : Option (Value × zi)}, (S' = S ∧ ∃ a, s = some (a, H) ∧ V0 μ H v a) → S' = S ∧ ∃ a, s = some (a, H) ∧ V0 μ H (dem v) a ∧ (hands o = false → V0 μ H v a) := by
  rintro s ⟨h1, a, h2, h3⟩
  exact ⟨h1, a, h2, h3.dem, fun _ => h3⟩
 obtain ⟨dst, op, type, pos, after, guard⟩ := o
 unfold vOp at h
 unfold xM at hn
 unfold aOp
 cases op <;> simp only at h hn ho ⊢ <;> first | (cases hn; done) | (cases h; done) | skip
 case move x => cases h; exact ⟨rfl, _, rfl, ho x (by simp [Op.operands]), fun hh => by cases hh⟩
 case assign x => cases h; exact ⟨rfl, _, rfl, ho x (by simp [Op.operands]), fun hh => by cases hh⟩
 case pick c a b => exact wrap (adx h (ho c (by simp [Op.operands])) (ho a (by simp [Op.operands])) (ho b (by simp [Op.operands])))
 case build t parts => exact wrap (acg h (Kt fun p hp => ho p.2 (by simp [Op.operands]; exact ⟨p.1, by simpa using hp⟩)))
 case load t a => exact wrap (Jj h (ho a (by simp [Op.operands])) hG)
 case nilCheck x => exact wrap (QC h (ho x (by simp [Op.operands])))
 case binOp op t x y yt => exact wrap (aeL h (ho x (by simp [Op.operands])) (ho y (by simp [Op.operands])))
 case unOp op t x => exact wrap (afF h (ho x (by simp [Op.operands])))
 case convert src dst x =>
  refine wrap (aaP h (ho x (by simp [Op.operands])) (fun e he => ?_) hD)
  rw [he] at hn; cases hn
 case makeFunc fn first captured =>
  cases h
  have := adk (fn := fn) (first := first.toList) (captured := captured.toList) (ρ := ρ) (ρA := ρA) (μ := μ) (H := H) (fun x hx => ho x (by simp [Op.operands]; exact .inl (by simpa using hx))) (fun x hx => ho x (by simp [Op.operands]; exact .inr (by simpa using hx)))
  exact wrap ⟨rfl, _, rfl, this⟩
 case slice t x lo hi mx =>
  cases mx with
  | some m => cases h
  | none => exact wrap (Vz h (ho x (by simp [Op.operands])) (fun y hy => ho y (by simp [Op.operands, hy] <;> simp_all)) (fun y hy => ho y (by simp [Op.operands, hy] <;> simp_all)) hD)
 case fieldAddr t x f => exact wrap (YD h (ho x (by simp [Op.operands])))
 case field t x f => exact wrap (abH h (ho x (by simp [Op.operands])))
 case indexAddr t x i => exact wrap (Y6 h (ho x (by simp [Op.operands])) (ho i (by simp [Op.operands])))
 case index t x i => exact wrap (abj h (ho x (by simp [Op.operands])) (ho i (by simp [Op.operands])))
 case lookup t x k ok => exact wrap (Yi h (ho x (by simp [Op.operands])) (ho k (by simp [Op.operands])) (.inr (hG.resolve_left id)))
 case extract t i =>
  obtain ⟨h1, a, h2, h3⟩ := KF h (ho t (by simp [Op.operands]))
  exact ⟨h1, a, h2, h3, fun hh => by cases hh⟩
end
end Go.Abs
namespace Go.Abs
open Go.RowKit
def Dom (μ : Mu) (H : zi) (ω : Nat → Option wO) : Prop := ∀ r s, ω r = some s → r < H.next ∧ Jh μ r
structure TI (μ : Mu) (H : zi) (ω : Nat → Option wO) (T A : List Value) : Prop where
 len : T.length = A.length
 slots : ∀ i, VV μ H ω (some (.slot i none)) (T.getD i undef) (A.getD i undef)
 dom : Dom μ H ω
 nores : ∀ r j, ω r ≠ some (.res j)
def Kept (ω : Nat → Option wO) (H : zi) (ω' : Nat → Option wO) (H' : zi) : Prop := ∀ r, ω r = some .ext → ω' r = some .ext ∧ H'.get r = H.get r
theorem Kept.refl (ω : Nat → Option wO) (H : zi) : Kept ω H ω H := fun _ h => ⟨h, rfl⟩
theorem Kept.trans {ω ω1 ω2 : Nat → Option wO} {H H1 H2 : zi} (h : Kept ω H ω1 H1) (k : Kept ω1 H1 ω2 H2) : Kept ω H ω2 H2 := fun r hr => by
 obtain ⟨h1, h2⟩ := h r hr
 obtain ⟨h3, h4⟩ := k r h1
 exact ⟨h3, h4.trans h2⟩
def Out (μ : Mu) (ω : Nat → Option wO) (H : zi) (A : List Value) (T1 : List Value) (S' : zi) (v : Value) (R : Option (Value × zi)) : Prop :=
 ∃ a H' μ' ω', R = some (a, H') ∧ GI μ' S' H' ∧ Later μ H μ' H' ∧ Kept ω H ω' H' ∧ Dom μ' H' ω' ∧ T1.length = A.length ∧
  (∀ i, VV μ' H' ω' (some (.slot i none)) (T1.getD i undef) (A.getD i undef)) ∧ VV μ' H' ω' (some (.res none)) v a
section
variable {P : Program} {μ : Mu} {ω : Nat → Option wO} {S S' H : zi} {T A : List Value}
theorem VV.at0 {ℓ : Option wO} {v a : Value} (h : VV μ H ω none v a) {ω' : Nat → Option wO} : VV μ H ω' ℓ v a := (h.kU (Later.refl μ H)).weaken rfl
theorem VV.v0 {ℓ : Option wO} {v a : Value} (h : VV μ H ω ℓ v a) : V0 μ H (Go.Abs.dem v) a := (h.dem (ℓ' := none)).at0
theorem ab6 {s t : wO} {i : Nat} (h : s.comp i = some t) (j : Nat) : t.comp j = none := by
 cases s with
 | ext => cases h
 | slot a b => cases b <;> first | (cases h; rfl) | cases h
 | res b => cases b <;> first | (cases h; rfl) | cases h
theorem VV.YQ {f : wO → Option wO} {ω' : Nat → Option wO} (hω : ∀ r, ω' r = (ω r).bind f) {ℓ : Option wO} {v a : Value} (h : VV μ H ω ℓ v a) :
  ∀ ℓ' : Option wO, (∀ s, ℓ = some s → ∃ s', ℓ' = some s' ∧ f s = some s' ∧ ∀ i t, s.comp i = some t → ∃ t', s'.comp i = some t' ∧ f t = some t') → VV μ H ω' ℓ' v a := by
 induction h with
 | sg h => exact fun _ _ => .sg h
 | ptr h => exact fun _ _ => .ptr h
 | map h => exact fun _ _ => .map h
 | slm h => exact fun _ _ => .slm h
 | slE => exact fun _ _ => .slE
 | sl hr hp hg hl hl' hc ih => exact fun _ _ => .sl hr hp hg hl hl' (fun i hi => ih i hi none (fun s hs => by cases hs))
 | so h hr hp hg hl hl' hc ih =>
  intro ℓ' hs
  obtain ⟨s', rfl, h1, h2⟩ := hs _ rfl
  exact .so (by rw [hω, h]; exact h1) hr hp hg hl hl' (fun i hi => ih i hi none (fun s hs => by cases hs))
 | ep hr hp hg hl hc ih => exact fun _ _ => .ep hr hp hg hl (fun i hi => ih i hi none (fun s hs => by cases hs))
 | func fn hx hc _ _ ih1 ih2 => exact fun _ _ => .func fn hx hc (fun i => ih1 i none (fun s hs => by cases hs)) (fun i => ih2 i none (fun s hs => by cases hs))
 | agg hx _ ih => exact fun _ _ => .agg hx (fun i => ih i none (fun s hs => by cases hs))
 | nores => exact fun _ _ => .nores
 | @tuple ℓ x x' hx hh ih =>
  intro ℓ' hs
  refine .tuple hx (fun i => ih i _ (fun t ht => ?_))
  cases ℓ with
  | none => cases ht
  | some s =>
   obtain ⟨s', rfl, h1, h2⟩ := hs s rfl
   obtain ⟨t', h3, h4⟩ := h2 i t ht
   exact ⟨t', h3, h4, fun j u hu => by rw [ab6 ht j] at hu; cases hu⟩
theorem wR (T : List Value) (t i : Nat) (v : Value) : (T.set t v).getD i undef = if i = t ∧ t < T.length then v else T.getD i undef := by
 rw [List.getD_eq_getElem?_getD, List.getElem?_set]
 by_cases h : t = i
 ·
  subst h
  by_cases hl : t < T.length
  ·
   simp [hl]
  ·
   rw [if_pos rfl, if_neg hl, if_neg (by simp [hl]), List.getD_eq_getElem?_getD, List.getElem?_eq_none (Nat.le_of_not_lt hl)]
 ·
  rw [if_neg h, if_neg (by omega), ← List.getD_eq_getElem?_getD]
def ae1 : wO → Option wO
 | .res _ => none
 | s => some s
def Va (d : Nat) : wO → Option wO
 | .res j => some (.slot d j)
 | .slot i j => if i = d then none else some (.slot i j)
 | .ext => some .ext
theorem Out.put {T1 : List Value} {v : Value} {R : Option (Value × zi)} (h : Out μ ω H A T1 S' v R) (d : Option Tmp) :
  ∃ a H' μ' ω', R = some (a, H') ∧ GI μ' S' H' ∧ Later μ H μ' H' ∧ Kept ω H ω' H' ∧ TI μ' H' ω' (Zw T1 d v) (Zw A d a) := by
 obtain ⟨a, H', μ', ω', h1, h2, h3, h4, h5, h6, h7, h8⟩ := h
 cases d with
 | none =>
  refine ⟨a, H', μ', fun r => (ω' r).bind ae1, h1, h2, h3, fun r hr => ?_, h6, fun i => ?_, fun r s hs => ?_, fun r j hj => ?_⟩
  ·
   obtain ⟨k1, k2⟩ := h4 r hr
   exact ⟨by dsimp only; rw [k1]; rfl, k2⟩
  ·
   refine (h7 i).YQ (fun _ => rfl) _ (fun s hs => ?_)
   cases hs
   refine ⟨_, rfl, rfl, fun k t ht => ?_⟩
   cases ht
   exact ⟨_, rfl, rfl⟩
  ·
   try dsimp only at hs
   cases hr : ω' r with
   | none => rw [hr] at hs; cases hs
   | some s0 => exact h5 r s0 hr
  ·
   try dsimp only at hj
   cases hr : ω' r with
   | none => rw [hr] at hj; cases hj
   | some s0 =>
    rw [hr] at hj
    cases s0 <;> cases hj
 | some d =>
  refine ⟨a, H', μ', fun r => (ω' r).bind (Va d), h1, h2, h3, fun r hr => ?_, by simp [Zw, h6], fun i => ?_, fun r s hs => ?_, fun r j hj => ?_⟩
  ·
   obtain ⟨k1, k2⟩ := h4 r hr
   exact ⟨by dsimp only; rw [k1]; rfl, k2⟩
  ·
   simp only [Zw]
   rw [wR, wR, ← h6]
   by_cases hi : i = d
   ·
    subst hi
    by_cases hl : i < T1.length
    ·
     rw [if_pos ⟨rfl, hl⟩, if_pos ⟨rfl, hl⟩]
     refine h8.YQ (fun _ => rfl) _ (fun s hs => ?_)
     cases hs
     refine ⟨_, rfl, rfl, fun k t ht => ?_⟩
     cases ht
     exact ⟨_, rfl, rfl⟩
    ·
     rw [if_neg (fun h => hl h.2), if_neg (fun h => hl h.2)]
     rw [List.getD_eq_getElem?_getD, List.getElem?_eq_none (Nat.le_of_not_lt hl), List.getD_eq_getElem?_getD, List.getElem?_eq_none (by omega)]
     exact .nores
   ·
    rw [if_neg (fun h => hi h.1), if_neg (fun h => hi h.1)]
    refine (h7 i).YQ (fun _ => rfl) _ (fun s hs => ?_)
    cases hs
    refine ⟨_, rfl, by simp only [Va]; rw [if_neg hi], fun k t ht => ?_⟩
    cases ht
    exact ⟨_, rfl, by simp only [Va]; rw [if_neg hi]⟩
  ·
   try dsimp only at hs
   cases hr : ω' r with
   | none => rw [hr] at hs; cases hs
   | some s0 => exact h5 r s0 hr
  ·
   try dsimp only at hj
   cases hr : ω' r with
   | none => rw [hr] at hj; cases hj
   | some s0 =>
    rw [hr] at hj
    cases s0 with
    | ext => cases hj
    | res k => cases hj
    | slot a b =>
     simp only [Option.bind_some, Va] at hj
     split at hj <;> cases hj
theorem GI.aas (hG : GI μ S H) : Jh μ H.next := ⟨fun q hq => Nat.lt_irrefl _ (hG.lt q _ _ hq), by
 cases hh : μ.hid H.next with
 | false => rfl
 | true => exact absurd (hG.hlt _ hh) (Nat.lt_irrefl _)⟩
theorem Out.same {v a : Value} (hG : GI μ S H) (hT : TI μ H ω T A) (hv : V0 μ H v a) : Out μ ω H A T S v (some (a, H)) :=
 ⟨a, H, μ, ω, rfl, hG, Later.refl μ H, Kept.refl ω H, hT.dom, hT.len, hT.slots, hv.at0⟩
theorem GI.later {μ' : Mu} {H' : zi} (hG : GI μ S H) (hL : Later μ H μ' H') (hμ : μ' = μ) (hc : ∀ q r, μ q = some (r, true) → H'.get r = H.get r) : GI μ' S H' := by
 subst hμ
 refine ⟨fun q o ho ha => ?_, hG.inj, fun q r b h => Nat.lt_of_lt_of_le (hG.lt q r b h) hL.next, hG.fresh, hG.vis, fun r h => Nat.lt_of_lt_of_le (hG.hlt r h) hL.next, hG.log, hG.anc⟩
 obtain ⟨r, o', h1, h2, h3⟩ := hG.obj q o ho ha
 exact ⟨r, o', h1, by rw [hc q r h1, h2], h3.later hL fun _ _ _ _ _ _ _ h => h⟩
theorem Yp (hlt : ∀ q r, μ q = some (r, true) → r < H.next) (o : yG) : Later μ H μ (H.push o) :=
 ⟨fun _ _ b h => ⟨b, h⟩, by simp, fun _ _ h => .inl h, rfl, fun r hr _ => by rw [zi.jm, if_neg (by omega)], ⟨[], rfl, fun q r hq _ => ⟨hq, by rw [zi.jm, if_neg (by have := hlt q r hq; omega)]⟩⟩, fun r l own e hr hp hg => ⟨own, by rw [zi.jm, if_neg (by omega)]; exact hg⟩⟩
structure Upd (μ : Mu) (ω : Nat → Option wO) (H : zi) (T A : List Value) (μ' : Mu) (ω' : Nat → Option wO) (S' H' : zi) : Prop where
 gi : GI μ' S' H'
 later : Later μ H μ' H'
 kept : Kept ω H ω' H'
 ti : TI μ' H' ω' T A
theorem Upd.out {μ' : Mu} {ω' : Nat → Option wO} {S' H' : zi} {v a : Value} (h : Upd μ ω H T A μ' ω' S' H') (hv : V0 μ' H' v a) : Out μ ω H A T S' v (some (a, H')) :=
 ⟨a, H', μ', ω', rfl, h.gi, h.later, h.kept, h.ti.dom, h.ti.len, h.ti.slots, hv.at0⟩
theorem Upd.trans {μ1 μ2 : Mu} {ω1 ω2 : Nat → Option wO} {S1 S2 H1 H2 : zi} (h : Upd μ ω H T A μ1 ω1 S1 H1) (k : Upd μ1 ω1 H1 T A μ2 ω2 S2 H2) : Upd μ ω H T A μ2 ω2 S2 H2 :=
 ⟨k.gi, h.later.trans k.later, h.kept.trans k.kept, k.ti⟩
theorem TI.mu {μ' : Mu} (hT : TI μ H ω T A) (hL : Later μ H μ' H) : TI μ' H ω T A :=
  ⟨hT.len, fun i => (hT.slots i).later hL (K := fun _ => True) (fun _ _ _ _ _ => trivial) (fun r s _ hr => ⟨hr, rfl⟩) (fun _ _ => trivial),
   fun r s h => ⟨(hT.dom r s h).1, hL.priv (hT.dom r s h).1 (hT.dom r s h).2⟩, hT.nores⟩
def af4 (μ : Mu) (l : List Nat) : Mu := ⟨μ.m, μ.hid, l ++ μ.log⟩
theorem J6 {q r : Nat} {o o' : yG} {ks ks' : List Nat} (hG : GI μ S H) (hT : TI μ H ω T A) (hm : μ q = some (r, true)) (hks : Wv μ ks ks') (ho : ∀ μ' H', Later μ H μ' H' → o.alive = true → OV μ' H' o o')
  (hanc : ∀ cs anc e, o = .cells cs (.own anc) e → anc = [] ∧ ∃ cs0 anc0 e0, S.get q = some (.cells cs0 (.own anc0) e0)) : Upd μ ω H T A (af4 μ (q :: ks.reverse)) ω ((S.kills ks).set q o) ((H.kills ks').set r o') := by
 have gS : ∀ k, ((S.kills ks).set q o).get k = if k = q then some o else if k ∈ ks then some .dead else S.get k := fun k => by rw [zi.jF, zi.qE]
 have gH : ∀ k, ((H.kills ks').set r o').get k = if k = r then some o' else if k ∈ ks' then some .dead else H.get k := fun k => by rw [zi.jF, zi.qE]
 have hp : ∀ k, Jh μ k → ((H.kills ks').set r o').get k = H.get k := by
  intro k hk
  rw [gH, if_neg (fun e => hk.1 q (by rw [e]; exact hm)), if_neg (fun e => let ⟨a, _, h2⟩ := hks.right k e; hk.1 a h2)]
 have hph : ∀ k, μ.hid k = true → ((H.kills ks').set r o').get k = H.get k := by
  intro k hk
  rw [gH, if_neg (fun e => by rw [e, hG.vis q r hm] at hk; cases hk), if_neg (fun e => let ⟨a, _, h2⟩ := hks.right k e; by rw [hG.vis a k h2] at hk; cases hk)]
 have hL : Later μ H (af4 μ (q :: ks.reverse)) ((H.kills ks').set r o') := ⟨fun _ _ b h => ⟨b, h⟩, by simp, fun _ _ h => .inl h, rfl, fun k _ hk => hph k hk, ⟨_, rfl, fun q2 r2 hq2 hn => ⟨hq2, by
  rw [List.mem_cons, not_or, List.mem_reverse] at hn
  rw [gH, if_neg (fun e => hn.1 (hG.inj q2 q r (by rw [← e]; exact hq2) hm)), if_neg (fun e => by
   obtain ⟨a, ha1, ha2⟩ := hks.right r2 e
   exact hn.2 (by rw [hG.inj q2 a r2 hq2 ha2]; exact ha1))]⟩⟩, fun k l own e hr hpk hg => ⟨own, by rw [hp k hpk]; exact hg⟩⟩
 refine ⟨⟨fun k ob hk ha => ?_, hG.inj, fun q r b h => by simpa using hG.lt q r b h, fun q h => hG.fresh q (by simpa using h), hG.vis, fun r h => by simpa using hG.hlt r h, by rw [zi.YH, zi.acf, ← hG.log]; rfl, fun k cs anc e hk a haa cs' anc' e' hka => ?_⟩, hL, fun k hr => ⟨hr, hp k (hT.dom k _ hr).2⟩, hT.len, fun i => ?_, fun k s hs => ⟨by simpa using (hT.dom k s hs).1, hL.priv (hT.dom k s hs).1 (hT.dom k s hs).2⟩, hT.nores⟩
 ·
  rw [gS] at hk
  by_cases e1 : k = q
  ·
   rw [if_pos e1] at hk; cases hk
   exact ⟨r, o', by rw [e1]; exact hm, by rw [gH, if_pos rfl], ho _ _ hL ha⟩
  ·
   rw [if_neg e1] at hk
   by_cases e2 : k ∈ ks
   ·
    rw [if_pos e2] at hk; cases hk; cases ha
   ·
    rw [if_neg e2] at hk
    obtain ⟨r1, o1, h1, h2, h3⟩ := hG.obj k ob hk ha
    have n1 : r1 ≠ r := fun e => e1 (hG.inj k q r (by rw [← e]; exact h1) hm)
    have n2 : r1 ∉ ks' := fun e => by
     obtain ⟨a, ha1, ha2⟩ := hks.right r1 e
     exact e2 (by rw [hG.inj k a r1 h1 ha2]; exact ha1)
    exact ⟨r1, o1, h1, by rw [gH, if_neg n1, if_neg n2]; exact h2, h3.later hL fun _ _ _ _ _ _ _ h => h⟩
 ·
  rw [gS] at hk hka
  by_cases e1 : k = q
  ·
   rw [if_pos e1] at hk; cases hk
   rw [(hanc _ _ _ rfl).1] at haa
   cases haa
  ·
   rw [if_neg e1] at hk
   by_cases e2 : k ∈ ks
   ·
    rw [if_pos e2] at hk; cases hk
   ·
    rw [if_neg e2] at hk
    by_cases e3 : a = q
    ·
     rw [if_pos e3] at hka; cases hka
     obtain ⟨_, cs0, anc0, e0, h0⟩ := hanc _ _ _ rfl
     exact hG.anc k _ _ _ hk a haa _ _ _ (by rw [e3]; exact h0)
    ·
     rw [if_neg e3] at hka
     by_cases e4 : a ∈ ks
     ·
      rw [if_pos e4] at hka; cases hka
     ·
      rw [if_neg e4] at hka
      exact hG.anc k _ _ _ hk a haa _ _ _ hka
 ·
  exact (hT.slots i).later hL (K := fun _ => True) (fun _ _ _ _ _ => trivial) (fun k s _ hr => ⟨hr, hp k (hT.dom k s hr).2⟩) (fun _ _ => trivial)
def Zd (μ : Mu) (n r : Nat) : Mu := ⟨fun q => if q = n then some (r, true) else μ q, μ.hid, μ.log⟩
theorem qY {μ : Mu} {n r : Nat} : Zd μ n r n = some (r, true) := if_pos rfl
theorem WJ {μ : Mu} {n r q : Nat} (h : q ≠ n) : Zd μ n r q = μ q := if_neg h
def JF (μ : Mu) (q r : Nat) : Mu := ⟨fun k => if k = q then some (r, false) else μ k, μ.hid, q :: μ.log⟩
theorem aci {μ : Mu} {q r : Nat} : JF μ q r q = some (r, false) := if_pos rfl
theorem xY {μ : Mu} {q r k : Nat} (h : k ≠ q) : JF μ q r k = μ k := if_neg h
theorem Yq {o o' : yG} (hG : GI μ S H) (hT : TI μ H ω T A) (ho : ∀ μ' H', Later μ H μ' H' → (∀ q r, μ q = some (r, true) → μ' q = some (r, true)) → OV μ' H' o o')
  (hanc : ∀ cs anc e, o = .cells cs (.own anc) e → ∀ a ∈ anc, a ≠ S.next ∧ ∀ cs' anc' e', S.get a ≠ some (.cells cs' (.own anc') e')) :
  Upd μ ω H T A (Zd μ S.next H.next) ω (S.push o) (H.push o') := by
 have hn : μ S.next = none := hG.fresh _ (Nat.le_refl _)
 have hpub : ∀ q r b, μ q = some (r, b) → Zd μ S.next H.next q = some (r, b) := by
  intro q r b h
  have : q ≠ S.next := fun e => by rw [e, hn] at h; cases h
  show (if q = S.next then some (H.next, true) else μ q) = _
  rw [if_neg this]; exact h
 have hL : Later μ H (Zd μ S.next H.next) (H.push o') := by
  refine ⟨fun q r b h => ⟨b, hpub q r b h⟩, by simp, fun q r h => ?_, rfl, fun r hr _ => by rw [zi.jm, if_neg (by omega)], ⟨[], rfl, fun q r hq _ => ⟨hpub q r true hq, by rw [zi.jm, if_neg (by have := hG.lt q r _ hq; omega)]⟩⟩, fun r l own e hr hp hg => ⟨own, by rw [zi.jm, if_neg (by omega)]; exact hg⟩⟩
  (try dsimp only [Zd] at h)
  by_cases e1 : q = S.next
  ·
   rw [if_pos e1] at h; cases h; exact .inr (Nat.le_refl _)
  ·
   rw [if_neg e1] at h; exact .inl h
 refine ⟨⟨fun q ob hk ha => ?_, fun q q' r h1 h2 => ?_, fun q r b h => ?_, fun q h => ?_, fun q r h => ?_, fun r h => Nat.lt_of_lt_of_le (hG.hlt r h) hL.next, hG.log, fun k cs anc e hk a haa cs' anc' e' hka => ?_⟩, hL, fun r hr => ?_, hT.len, fun i => ?_, fun r s hs => ?_, hT.nores⟩
 ·
  rw [zi.jm] at hk
  by_cases e1 : q = S.next
  ·
   rw [if_pos e1] at hk; cases hk
   exact ⟨H.next, o', by rw [e1]; exact qY, by rw [zi.jm, if_pos rfl], ho _ _ hL fun q r h => hpub q r true h⟩
  ·
   rw [if_neg e1] at hk
   obtain ⟨r, o1, h1, h2, h3⟩ := hG.obj q ob hk ha
   exact ⟨r, o1, by rw [WJ e1]; exact h1, by rw [zi.jm, if_neg (by have := hG.lt q r _ h1; omega)]; exact h2, h3.later hL fun _ _ _ _ a _ r h => hpub a r true h⟩
 ·
  (try dsimp only [Zd] at h1 h2)
  by_cases e1 : q = S.next <;> by_cases e2 : q' = S.next
  ·
   rw [e1, e2]
  ·
   rw [if_pos e1] at h1; rw [if_neg e2] at h2; cases h1; exact absurd (hG.lt q' _ _ h2) (Nat.lt_irrefl _)
  ·
   rw [if_neg e1] at h1; rw [if_pos e2] at h2; cases h2; exact absurd (hG.lt q _ _ h1) (Nat.lt_irrefl _)
  ·
   rw [if_neg e1] at h1; rw [if_neg e2] at h2; exact hG.inj q q' r h1 h2
 ·
  (try dsimp only [Zd] at h)
  by_cases e1 : q = S.next
  ·
   rw [if_pos e1] at h; cases h; simp
  ·
   rw [if_neg e1] at h; have := hG.lt q r b h; simp; omega
 ·
  simp only [zi.ZF] at h
  rw [WJ (by omega)]; exact hG.fresh q (by omega)
 ·
  (try dsimp only [Zd] at h)
  by_cases e1 : q = S.next
  ·
   rw [if_pos e1] at h; cases h
   show μ.hid H.next = false
   cases hh : μ.hid H.next with
   | false => rfl
   | true => exact absurd (hG.hlt _ hh) (Nat.lt_irrefl _)
  ·
   rw [if_neg e1] at h; exact hG.vis q r h
 ·
  rw [zi.jm] at hk hka
  by_cases e1 : k = S.next
  ·
   rw [if_pos e1] at hk; cases hk
   obtain ⟨h1, h2⟩ := hanc _ _ _ rfl a haa
   rw [if_neg h1] at hka
   exact h2 _ _ _ hka
  ·
   rw [if_neg e1] at hk
   have hne : a ≠ S.next := by
    intro e2
    obtain ⟨r, cs1, own1, h1, _⟩ := hG.cells hk
    cases own1 with
    | ro => exact h1.elim
    | own a1 =>
     obtain ⟨r2, h2⟩ := Wv.left h1 a haa
     rw [e2, hn] at h2; cases h2
   rw [if_neg hne] at hka
   exact hG.anc k _ _ _ hk a haa _ _ _ hka
 ·
  have := (hT.dom r _ hr).1
  exact ⟨hr, by rw [zi.jm, if_neg (by omega)]⟩
 ·
  refine (hT.slots i).later hL (K := fun _ => True) (fun _ _ _ _ _ => trivial) (fun r s _ hr => ?_) (fun _ _ => trivial)
  have := (hT.dom r _ hr).1
  exact ⟨hr, by rw [zi.jm, if_neg (by omega)]⟩
 ·
  have := hT.dom r s hs
  exact ⟨by simp; omega, hL.priv this.1 this.2⟩
theorem vk {cs l : List Value} {e : Nat} (hG : GI μ S H) (hT : TI μ H ω T A) (hc : L0 μ H cs l) :
  Upd μ ω H T A (Zd μ S.next H.next) ω (S.push (.cells cs (.own []) e)) (H.push (.cells l (.own []) e)) :=
 Yq hG hT (fun μ' H' hL _ => ⟨rfl, True.intro, hc.later hL⟩) (fun _ _ _ h a ha => by cases h; cases ha)
theorem Out.slice {cs l : List Value} {e n : Nat} (hG : GI μ S H) (hT : TI μ H ω T A) (hc : L0 μ H cs l) :
  Out μ ω H A T (S.push (.cells cs (.own []) e)) (.slice (some ⟨S.next, 0, none⟩) n n) (some (.slice (some ⟨H.next, 0, none⟩) n n, H.push (.cells l (.own []) e))) :=
 (vk hG hT hc).out (.slm qY)
theorem Vh {q r : Nat} {cs : List Value} {anc : List Nat} {e : Nat} (hG : GI μ S H) (hm : μ q = some (r, true)) (hg : S.get q = some (.cells cs (.own anc) e)) :
  GI (JF μ q r) (S.set q .dead) H ∧ Later μ H (JF μ q r) H ∧ Jh (JF μ q r) r := by
 have hL : Later μ H (JF μ q r) H := by
  refine ⟨fun k r2 b h => ?_, Nat.le_refl _, fun k r2 h => ?_, rfl, fun _ _ _ => rfl, ⟨[q], rfl, fun q2 r2 hq2 hn => ⟨by rw [xY (by simpa using hn)]; exact hq2, rfl⟩⟩, fun r l own e _ _ h => ⟨own, h⟩⟩
  ·
   by_cases e1 : k = q
   ·
    subst e1; rw [hm] at h; cases h; exact ⟨false, aci⟩
   ·
    exact ⟨b, by rw [xY e1]; exact h⟩
  ·
   (try dsimp only [JF] at h)
   by_cases e1 : k = q
   ·
    rw [if_pos e1] at h; cases h
   ·
    rw [if_neg e1] at h; exact .inl h
 refine ⟨⟨fun k ob hk ha => ?_, fun k k' r2 h1 h2 => ?_, fun k r2 b h => ?_, fun k h => ?_, fun k r2 h => ?_, hG.hlt, by rw [zi.YH, ← hG.log]; rfl, fun k cs2 anc2 e2 hk a haa cs' anc' e' hka => ?_⟩, hL, fun k hk => ?_, hG.vis q r hm⟩
 ·
  rw [zi.jF] at hk
  by_cases e1 : k = q
  ·
   rw [if_pos e1] at hk; cases hk; cases ha
  ·
   rw [if_neg e1] at hk
   obtain ⟨r1, o1, h1, h2, h3⟩ := hG.obj k ob hk ha
   refine ⟨r1, o1, by rw [xY e1]; exact h1, h2, h3.later hL fun cs0 anc0 e0 h0 a haa r2 hr2 => ?_⟩
   subst h0
   have : a ≠ q := fun e2 => hG.anc k _ _ _ hk a haa _ _ _ (by rw [e2]; exact hg)
   rw [xY this]; exact hr2
 ·
  (try dsimp only [JF] at h1 h2)
  by_cases e1 : k = q
  ·
   rw [if_pos e1] at h1; cases h1
  ·
   by_cases e2 : k' = q
   ·
    rw [if_pos e2] at h2; cases h2
   ·
    rw [if_neg e1] at h1; rw [if_neg e2] at h2; exact hG.inj k k' r2 h1 h2
 ·
  (try dsimp only [JF] at h)
  by_cases e1 : k = q
  ·
   rw [if_pos e1] at h; cases h; exact hG.lt q r _ hm
  ·
   rw [if_neg e1] at h; exact hG.lt k r2 b h
 ·
  have h : S.next ≤ k := by simpa using h
  have e1 : k ≠ q := fun e1 => by rw [e1] at h; rw [hG.fresh q h] at hm; cases hm
  rw [xY e1]; exact hG.fresh k h
 ·
  (try dsimp only [JF] at h)
  by_cases e1 : k = q
  ·
   rw [if_pos e1] at h; cases h
  ·
   rw [if_neg e1] at h; exact hG.vis k r2 h
 ·
  rw [zi.jF] at hk hka
  by_cases e1 : k = q
  ·
   rw [if_pos e1] at hk; cases hk
  ·
   rw [if_neg e1] at hk
   by_cases e2 : a = q
   ·
    rw [if_pos e2] at hka; cases hka
   ·
    rw [if_neg e2] at hka; exact hG.anc k _ _ _ hk a haa _ _ _ hka
 ·
  (try dsimp only [JF] at hk)
  by_cases e1 : k = q
  ·
   rw [if_pos e1] at hk; cases hk
  ·
   rw [if_neg e1] at hk; exact e1 (hG.inj k q r hk hm)
theorem Xy {x y a : Value} (h : Xb x S = some (y, S')) (hG : GI μ S H) (hx : V0 μ H x a) : ∃ μ1, GI μ1 S' H ∧ Later μ H μ1 H ∧ V0 μ1 H y a := by
 unfold Xb at h
 split at h
 ·
  rename_i q o n c
  split at h <;> first | (cases h; done) | skip
  rename_i cs anc e hg
  split at h <;> first | (cases h; done) | skip
  rename_i hnc
  split at h <;> first | (cases h; done) | skip
  rename_i hle
  cases h
  subst hnc
  cases hx with
  | sg hs => simp [Go.Abs.sg] at hs
  | @slm _ _ _ r b _ hm =>
   obtain ⟨r', cs', own', _, hm', hg', hl⟩ := hG.cells hg
   rw [hm] at hm'; cases hm'
   obtain ⟨h1, h2, h3⟩ := Vh hG hm hg
   refine ⟨_, h1, h2, ?_⟩
   have hl2 := hl.later h2 (ω' := W0)
   have hlen := hl.1
   refine .sl (hG.lt q r _ hm) h3 hg' (by omega) (by simp; omega) fun i hi => ?_
   have := hl2.2 (o + i)
   simp only [List.toList_toArray]
   rw [List.getD_eq_getElem?_getD, List.getElem?_take, if_pos hi, List.getElem?_drop, ← List.getD_eq_getElem?_getD]
   exact this
 ·
  cases h
 ·
  cases h
  exact ⟨μ, hG, Later.refl _ _, hx⟩
theorem KX : ∀ (l m la : List Value) (S S' : zi) (μ : Mu), ZJ l S = some (m, S') → GI μ S H → L0 μ H l la → ∃ μ1, GI μ1 S' H ∧ Later μ H μ1 H ∧ L0 μ1 H m la := by
 intro l
 induction l with
 | nil =>
  intro m la S S' μ h hG hl
  simp only [ZJ, Option.some.injEq, Prod.mk.injEq] at h
  obtain ⟨rfl, rfl⟩ := h
  exact ⟨μ, hG, Later.refl _ _, hl⟩
 | cons x l ih =>
  intro m la S S' μ h hG hl
  cases la with
  | nil => have := hl.1; simp at this
  | cons a la =>
   simp only [ZJ] at h
   split at h <;> first | (cases h; done) | skip
   rename_i y S1 hf
   split at h <;> first | (cases h; done) | skip
   rename_i m2 S2 hf2
   cases h
   obtain ⟨μ1, h1, h2, h3⟩ := Xy hf hG hl.head
   obtain ⟨μ2, k1, k2, k3⟩ := ih _ _ _ _ _ hf2 h1 (hl.tail.later h2)
   exact ⟨μ2, k1, h2.trans k2, VL.cons (h3.kU k2) k3⟩
theorem Out.fresh {cs l : List Value} {e n : Nat} (hG : GI μ S H) (hT : TI μ H ω T A) (hc : L0 μ H cs l) (hl : l.length = n * e) :
  Out μ ω H A T S (SL 2 e n cs) (some (.slice (some ⟨H.next, 0, none⟩) n n, H.push (.cells l (.own []) e))) := by
 have hL : Later μ H μ (H.push (.cells l (.own []) e)) := Yp (fun q r h => hG.lt q r _ h) _
 have hpn : Jh μ H.next := hG.aas
 refine ⟨_, _, μ, fun r => if r = H.next then some (.res none) else ω r, rfl, hG.later hL rfl (fun q r h => by rw [zi.jm, if_neg (by have := hG.lt q r _ h; omega)]), hL, fun r hr => ?_, fun r s hs => ?_, hT.len, fun i => ?_, ?_⟩
 ·
  have := (hT.dom r _ hr).1
  exact ⟨by dsimp only; rw [if_neg (by omega)]; exact hr, by rw [zi.jm, if_neg (by omega)]⟩
 ·
  try dsimp only at hs
  by_cases e1 : r = H.next
  ·
   subst e1; exact ⟨by simp, hpn⟩
  ·
   rw [if_neg e1] at hs
   have := hT.dom r s hs
   exact ⟨by simp; omega, this.2⟩
 ·
  refine (hT.slots i).later hL (K := fun s => ∃ k j, s = .slot k j) (fun s k t ⟨a, b, h⟩ ht => by subst h; cases b <;> cases ht; exact ⟨_, _, rfl⟩) (fun r s hs hr => ?_) (fun s hs => by cases hs; exact ⟨_, _, rfl⟩)
  have := (hT.dom r _ hr).1
  exact ⟨by rw [if_neg (by omega)]; exact hr, by rw [zi.jm, if_neg (by omega)]⟩
 ·
  refine .so (by simp) (by simp) hpn (by rw [zi.jm, if_pos rfl]) hl (by rw [List.toList_toArray, hc.1, hl]) (fun i hi => ?_)
  have := (hc.2 i).kU (ω' := fun r => if r = H.next then some (.res none) else ω r) hL
  simpa using this
theorem Out.object {cs l : List Value} {e : Nat} (hG : GI μ S H) (hT : TI μ H ω T A) (hc : L0 μ H cs l) :
  Out μ ω H A T (S.push (.cells cs (.own []) e)) (.pointer (some ⟨S.next, 0, none⟩)) (some (.pointer (some ⟨H.next, 0, none⟩), H.push (.cells l (.own []) e))) :=
 (vk hG hT hc).out (.ptr qY)
theorem Out.stored {q r o : Nat} {cs cs' xs xs' : List Value} {anc anc' : List Nat} {esz : Nat} {v : Value} (hG : GI μ S H) (hT : TI μ H ω T A) (hm : μ q = some (r, true)) (ha : Wv μ anc anc') (hg : S.get q = some (.cells cs (.own anc) esz)) (hc : L0 μ H cs cs') (hx : L0 μ H xs xs') (hv : Go.Abs.sg v = true ∨ v = undef) :
  Out μ ω H A T ((S.kills anc).set q (.cells (splice cs o xs) (.own []) esz)) v (some (v, (H.kills anc').set r (.cells (splice cs' o xs') (.own []) esz))) :=
 (J6 (o := .cells (splice cs o xs) (.own []) esz) (o' := .cells (splice cs' o xs') (.own []) esz) hG hT hm ha (fun μ' H' hL _ => ⟨rfl, True.intro, (hc.splice hx o).later hL⟩) (fun _ _ _ h => by cases h; exact ⟨rfl, _, _, _, hg⟩)).out (by
  rcases hv with hv | rfl
  ·
   exact .sg hv
  ·
   exact .nores)
end
end Go.Abs
namespace Go.Abs
open Go.RowKit
def jX (T : List Value) : Operand → List Value
 | .tmp t => yM T t
 | _ => T
section
variable {P : Program} {μ : Mu} {ω : Nat → Option wO} {S S' H : zi} {T A : List Value}
theorem TI.eval (hT : TI μ H ω T A) {x : Operand} (hx : yO x = true) : V0 μ H (dem (je T x)) (je A x) := by
 cases x with
 | tmp t => exact (hT.slots t).v0
 | const v => exact (VV.wo (μ := μ) (H := H) (ω := ω) (ℓ := none) hx).v0
 | global g => cases hx
 | func f =>
  have : V0 μ H (.func (.func f) #[] #[]) (.func (.func f) #[] #[]) := .func _ rfl rfl (fun i => by simpa using VV.undef) (fun i => by simpa using VV.undef)
  exact this
theorem aa8 {e : TypeId} {v : Value} (hG : GI μ S H) (hT : TI μ H ω T A) (h : qc P e S = some (v, S')) : Out μ ω H A T S' v (qc P e H) := by
 unfold qc at h ⊢
 split at h
 ·
  rename_i z hz
  split at h
  ·
   rename_i hg
   rw [if_pos hg]
   cases h
   exact Out.object hG hT (L0.zero hg)
  ·
   cases h
 ·
  cases h
theorem ae3 {x x' v : Value} (hG : GI μ S H) (hT : TI μ H ω T A) (h : Xd x S = some (v, S')) (hx : V0 μ H x x') : Out μ ω H A T S' v (Xd x' H) := by
 unfold Xd at h ⊢
 cases h
 exact Out.object hG hT hx.QS
theorem abo {t : TypeId} {p p' x x' v : Value} (hG : GI μ S H) (hT : TI μ H ω T A) (h : vX P t p x S = some (v, S')) (hp : V0 μ H (dem p) p') (hx : V0 μ H x x') : Out μ ω H A T S' v (vX P t p' x' H) := by
 unfold vX at h
 split at h
 ·
  rename_i q o
  have hp : V0 μ H (.pointer (some ⟨q, o, none⟩)) p' := hp
  cases hp with
  | sg hs => simp [Go.Abs.sg] at hs
  | @ptr _ _ _ r _ hm =>
   split at h
   ·
    rename_i cs anc esz hg
    obtain ⟨r', cs', own', he, hm', hg', hl⟩ := hG.cells hg
    rw [hm] at hm'; cases hm'
    cases own' with
    | ro => exact he.elim
    | own anc' =>
    have he : Wv μ anc anc' := he
    split at h
    ·
     rename_i n hn
     split at h <;> first | (cases h; done) | skip
     rename_i h1
     split at h <;> first | (cases h; done) | skip
     rename_i h2
     split at h <;> first | (cases h; done) | skip
     rename_i h3
     cases h
     have hcl := hx.QS
     have k1 : x'.cells.size = n := by have := hcl.1; simp at this; omega
     have k2 := hcl.one h2
     have k3 : o + n ≤ cs'.length := by rw [← hl.1]; exact h3
     have : vX P t (.pointer (some ⟨r, o, none⟩)) x' H = some (undef, (H.kills anc').set r (.cells (splice cs' o x'.cells.toList) (.own []) esz)) := by
      simp only [vX, hg', hn, if_pos k1, if_pos k2, if_pos k3]
     rw [this]
     exact Out.stored hG hT hm he hg hl hcl (.inr rfl)
    ·
     cases h
   ·
    cases h
 ·
  cases h
theorem abU {t : TypeId} {len size : Nat} {ps ps' : List (Nat × Value)} {cells : List Value} (hlit : kZ P t len ps = some (cells, size)) (hp : PV μ H ps ps') : ∃ l', kZ P t len ps' = some (l', size) ∧ L0 μ H cells l' ∧ l'.length = len * size := by
 unfold kZ at hlit
 split at hlit <;> first | (cases hlit; done) | skip
 rename_i e he
 split at hlit <;> first | (cases hlit; done) | skip
 rename_i sz z hs hz
 split at hlit <;> first | (cases hlit; done) | skip
 rename_i c1
 split at hlit <;> first | (cases hlit; done) | skip
 rename_i c2
 split at hlit <;> first | (cases hlit; done) | skip
 rename_i c3
 split at hlit <;> first | (cases hlit; done) | skip
 rename_i cells' hf
 cases hlit
 have hz0 : L0 μ H (zl z.cells.toList len) (zl z.cells.toList len) := by
  refine VL.ofRange rfl fun i hi => ?_
  have hlen : i < (List.range (len * z.cells.toList.length)).length := by simpa [zl] using hi
  have hpos : 0 < z.cells.toList.length := by
   rcases Nat.eq_zero_or_pos z.cells.toList.length with h0 | h0
   ·
    simp [h0] at hlen
   ·
    exact h0
  have hv : (zl z.cells.toList len).getD i undef = z.cells.toList.getD (i % z.cells.toList.length) default := by
   unfold zl
   rw [List.getD_eq_getElem?_getD, List.getElem?_map, List.getElem?_range (by simpa using hlen)]
   rfl
  rw [hv]
  have hm : i % z.cells.toList.length < z.cells.toList.length := Nat.mod_lt _ hpos
  rw [List.getD_eq_getElem?_getD, List.getElem?_eq_getElem hm]
  exact .sg (List.all_eq_true.1 c3 _ (List.getElem_mem hm))
 obtain ⟨l', h1, h2⟩ := ae8 _ _ _ _ _ _ hp hz0 hf
 have hlen : l'.length = len * size := by
  have e1 := h2.1
  have e2 : ∀ (place : Nat → Option (Nat × Nat)) (ps : List (Nat × Value)) (cs r : List Value), vW place cs ps = some r → r.length = cs.length := by
   intro place ps
   induction ps with
   | nil => intro cs r h; simp only [vW, Option.some.injEq] at h; rw [h]
   | cons p ps ih =>
    intro cs r h
    simp only [vW] at h
    split at h
    ·
     cases h
    ·
     rename_i off size hp
     split at h
     ·
      rename_i hc
      rw [ih _ _ h, Zp (by omega)]
     ·
      cases h
  have e3 := e2 _ _ _ _ hf
  have e4 : (zl z.cells.toList len).length = len * z.cells.toList.length := by simp [zl]
  rw [← e1, e3, e4, c2]
 exact ⟨l', by simp only [kZ, he, hs, hz, if_pos c1, if_pos c2, if_pos c3, h1], h2, hlen⟩
theorem WB {t : TypeId} {len : Nat} {parts : List (Nat × Value)} {ps' : List (Nat × Value)} {v : Value} (hG : GI μ S H) (hT : TI μ H ω T A) (h : jg P t len parts S = some (v, S')) (hp : PV μ H (parts.map fun p => (p.1, dem p.2)) ps') :
  Out μ ω H A T S' v (jZ P t len ps' H) := by
 unfold jg at h
 split at h
 ·
  rename_i cells size hlit
  cases h
  obtain ⟨l', h1, h2, h3⟩ := abU hlit hp
  have : jZ P t len ps' H = some (.slice (some ⟨H.next, 0, none⟩) len len, H.push (.cells l' (.own []) size)) := by
   simp only [jZ, h1]
  rw [this]
  exact Out.fresh hG hT h2 h3
 ·
  cases h
theorem Qq {t : TypeId} {len : Nat} {ps ps' : List (Nat × Value)} {v : Value} (hG : GI μ S H) (hT : TI μ H ω T A) (h : jZ P t len ps S = some (v, S')) (hp : PV μ H ps ps') : Out μ ω H A T S' v (jZ P t len ps' H) := by
 unfold jZ at h
 split at h
 ·
  rename_i cells size hlit
  cases h
  obtain ⟨l', h1, h2, h3⟩ := abU hlit hp
  have : jZ P t len ps' H = some (.slice (some ⟨H.next, 0, none⟩) len len, H.push (.cells l' (.own []) size)) := by
   simp only [jZ, h1]
  rw [this]
  exact Out.slice hG hT h2
 ·
  cases h
theorem Ve (z : List Value) (n : Nat) : (zl z n).length = n * z.length := by simp [zl]
theorem aeH {z : List Value} (h : z.all Go.Abs.sg = true) (n : Nat) : L0 μ H (zl z n) (zl z n) := by
 refine VL.ofRange rfl fun i hi => ?_
 rw [Ve] at hi
 have hpos : 0 < z.length := by
  rcases Nat.eq_zero_or_pos z.length with h0 | h0
  ·
   simp [h0] at hi
  ·
   exact h0
 have hv : (zl z n).getD i undef = z.getD (i % z.length) default := by
  unfold zl
  rw [List.getD_eq_getElem?_getD, List.getElem?_map, List.getElem?_range hi]
  rfl
 rw [hv]
 have hm : i % z.length < z.length := Nat.mod_lt _ hpos
 rw [List.getD_eq_getElem?_getD, List.getElem?_eq_getElem hm]
 exact .sg (List.all_eq_true.1 h _ (List.getElem_mem hm))
theorem YS {t : TypeId} {l l' c c' v : Value} (hG : GI μ S H) (hT : TI μ H ω T A) (h : ZU P t l c S = some (v, S')) (hl : V0 μ H (dem l) l') (hc : V0 μ H (dem c) c') : Out μ ω H A T S' v (jO P t l' c' H) := by
 unfold ZU at h
 split at h
 ·
  rename_i k1 l k2 c
  have e1 := jo hl rfl
  have e2 := jo hc rfl
  subst e1 e2
  split at h <;> first | (cases h; done) | skip
  rename_i e he
  split at h <;> first | (cases h; done) | skip
  rename_i size z bytes hs hz hb
  split at h <;> first | (cases h; done) | skip
  rename_i c1
  split at h <;> first | (cases h; done) | skip
  rename_i c2
  split at h <;> first | (cases h; done) | skip
  rename_i c3
  split at h <;> first | (cases h; done) | skip
  rename_i c4
  split at h <;> first | (cases h; done) | skip
  rename_i c5
  split at h <;> first | (cases h; done) | skip
  rename_i c6
  split at h <;> first | (cases h; done) | skip
  rename_i c7
  cases h
  have : jO P t (.int k1 l) (.int k2 c) H = some (.slice (some ⟨H.next, 0, none⟩) l.toNat l.toNat, H.push (.cells (zl z.cells.toList l.toNat) (.own []) size)) := by
   simp only [jO, he, hs, hz, hb, if_pos c1, if_pos c2, if_pos c3, if_pos c4, if_pos c5, if_pos c6, if_pos c7]
  rw [this]
  exact Out.fresh hG hT (aeH (wP c1) _) (by rw [Ve]; simp [c2])
 ·
  cases h
theorem KP {t : TypeId} {l l' c c' v : Value} (hG : GI μ S H) (hT : TI μ H ω T A) (h : jO P t l c S = some (v, S')) (hl : V0 μ H (dem l) l') (hc : V0 μ H (dem c) c') : Out μ ω H A T S' v (jO P t l' c' H) := by
 unfold jO at h
 split at h
 ·
  rename_i k1 l k2 c
  have e1 := jo hl rfl
  have e2 := jo hc rfl
  subst e1 e2
  split at h <;> first | (cases h; done) | skip
  rename_i e he
  split at h <;> first | (cases h; done) | skip
  rename_i size z bytes hs hz hb
  split at h <;> first | (cases h; done) | skip
  rename_i c1
  split at h <;> first | (cases h; done) | skip
  rename_i c2
  split at h <;> first | (cases h; done) | skip
  rename_i c3
  split at h <;> first | (cases h; done) | skip
  rename_i c4
  split at h <;> first | (cases h; done) | skip
  rename_i c5
  split at h <;> first | (cases h; done) | skip
  rename_i c6
  split at h <;> first | (cases h; done) | skip
  rename_i c7
  cases h
  have : jO P t (.int k1 l) (.int k2 c) H = some (.slice (some ⟨H.next, 0, none⟩) l.toNat l.toNat, H.push (.cells (zl z.cells.toList l.toNat) (.own []) size)) := by
   simp only [jO, he, hs, hz, hb, if_pos c1, if_pos c2, if_pos c3, if_pos c4, if_pos c5, if_pos c6, if_pos c7]
  rw [this]
  exact Out.slice hG hT (aeH (wP c1) _)
 ·
  cases h
theorem Y8 (s : ByteArray) : L0 μ H (byteCells s) (byteCells s) := by
 refine VL.kQ ?_
 rw [List.all_eq_true]; intro x hx; obtain ⟨_, _, rfl⟩ := List.mem_map.1 hx; rfl
theorem ZH (s : ByteArray) : (byteCells s).length = s.size * 1 := by
 rw [Nat.mul_one]
 exact (List.length_map _).trans (Array.length_toList)
theorem abE {src dst : TypeId} {e : TypeId} {x x' v : Value} {ℓ : Option wO} (hG : GI μ S H) (hT : TI μ H ω T A) (h : kG P src dst x S = some (v, S')) (hx : VV μ H ω ℓ x x') (hd : P.underlying dst = some (.slice e)) : Out μ ω H A T S' v (wB P src dst x' H) := by
 unfold kG at h
 split at h
 ·
  rename_i s
  have e1 := jo hx.v0 rfl
  subst e1
  split at h
  ·
   rename_i d e' hs hdd
   split at h <;> first | (cases h; done) | skip
   rename_i he
   cases h
   have : wB P src dst (.string s) H = some (.slice (some ⟨H.next, 0, none⟩) s.size s.size, H.push (.cells (byteCells s) (.own []) 1)) := by
    simp only [wB, hs, hdd, he]
   rw [this]
   exact Out.fresh hG hT (Y8 s) (ZH s)
  ·
   rename_i hne
   obtain ⟨rfl, hg, ha, hh⟩ := jP (H := H) h
   have : wB P src dst (.string s) H = some (v, H) := by
    unfold wB
    dsimp only
    split
    ·
     rename_i d e' hs hdd; exact absurd hdd (hne d e' hs)
    ·
     exact hh
   rw [this]
   exact Out.same hG hT (V0.ground hg)
 ·
  rename_i hns
  split at h
  ·
   rename_i e0 n cs hs
   split at h
   ·
    rename_i te hu hus
    rw [hd] at hus; cases hus
   ·
    rename_i te te2 hu hus
    split at h <;> first | (cases h; done) | skip
    rename_i k w hte
    split at h <;> first | (cases h; done) | skip
    rename_i hc
    obtain ⟨hsd, rfl⟩ := hc
    cases h
    cases hx with
    | sg hs => simp [Go.Abs.sg] at hs
    | so hω hr hp hg hl hn hcc =>
     rename_i s e n r cs l anc
     have : wB P src dst (.slice (some ⟨r, 0, none⟩) n n) H = some (.slice (some ⟨r, 0, none⟩) n n, H) := by
      simp only [wB, hu, hus, hte, if_pos hsd, hg]
     rw [this]
     refine Out.same hG hT ?_
     exact .sl (o := 0) hr hp hg (by omega) hn (fun i hi => by rw [Nat.zero_add]; exact (hcc i hi).at0)
   ·
    cases h
  ·
   rename_i hvs
   obtain ⟨rfl, hg, ha, hh⟩ := jP (H := H) h
   have hgx : ground x = true := List.all_eq_true.1 ha _ (by simp)
   have e1 := jo hx.v0 hgx
   subst e1
   have : wB P src dst x' H = some (v, H) := by
    unfold wB
    split
    ·
     rename_i a n c
     cases a with
     | none =>
      have : n = 0 ∧ c = 0 := by
       simp only [ground, Go.Abs.sg] at hgx
       split at hgx <;> simp_all
      obtain ⟨rfl, rfl⟩ := this
      simp [vSl] at hvs
     | some a => simp [ground, Go.Abs.sg] at hgx
    ·
     exact absurd rfl (hns _)
    ·
     exact hh
   rw [this]
   exact Out.same hG hT (V0.ground hg)
theorem Jv {hp dr : Bool} {src dst : TypeId} {e : TypeId} {x x' v : Value} {ℓ : Option wO} (hG : GI μ S H) (hT : TI μ H ω T A) (h : jK P hp dr src dst x S = some (v, S')) (hx : VV μ H ω ℓ x x') (hd : P.underlying dst = some (.slice e)) : Out μ ω H A T S' v (wB P src dst x' H) := by
 unfold jK at h
 split at h
 ·
  rename_i hh
  split at h <;> first | (cases h; done) | skip
  obtain ⟨q, o, r, b, n, rfl, rfl, hm⟩ := afo hh hx.v0
  unfold wB at h
  dsimp only at h
  split at h
  ·
   rename_i e1 hu hus; rw [hd] at hus; cases hus
  ·
   rename_i e0 e1 hu hus
   split at h <;> first | (cases h; done) | skip
   rename_i hte
   split at h <;> first | (cases h; done) | skip
   rename_i hsd
   have h : (match S.get q with
    | some (.cells _ (.own _) _) => some (Value.slice (some ⟨q, o, none⟩) n n, S)
    | _ => none) = some (v, S') := h
   split at h <;> first | (cases h; done) | skip
   rename_i l anc esz hg
   cases h
   obtain ⟨r', cs', own', ho, hm', hg', hl⟩ := hG.cells hg
   rw [hm] at hm'; cases hm'
   cases own' with
   | ro => exact ho.elim
   | own anc' =>
   have : wB P src dst (.slice (some ⟨r, o, none⟩) n n) H = some (.slice (some ⟨r, o, none⟩) n n, H) := by
    simp only [wB, hu, hus, hte, if_pos hsd, hg']
   rw [this]
   exact Out.same hG hT (.slm hm)
  ·
   cases h
 ·
  split at h
  ·
   rename_i s hns
   have e1 := jo hx.v0 rfl
   subst e1
   unfold wB at h
   dsimp only at h
   split at h
   ·
    rename_i d e' hs hdd
    split at h <;> first | (cases h; done) | skip
    rename_i he
    cases h
    have : wB P src dst (.string s) H = some (.slice (some ⟨H.next, 0, none⟩) s.size s.size, H.push (.cells (byteCells s) (.own []) 1)) := by
     simp only [wB, hs, hdd, he]
    rw [this]
    exact Out.slice hG hT (Y8 s)
   ·
    rename_i hne
    obtain ⟨rfl, hg, ha, hh⟩ := jP (H := H) h
    have : wB P src dst (.string s) H = some (v, H) := by
     unfold wB
     dsimp only
     split
     ·
      rename_i d e' hs hdd; exact absurd hdd (hne d e' hs)
     ·
      exact hh
    rw [this]
    exact Out.same hG hT (V0.ground hg)
  ·
   exact abE hG hT h hx hd
theorem afc {tx : TypeId} {size k : Nat} {x x' : Value} {news : List Value} (h : aeQ P tx size x = some (k, news)) (hx : V0 μ H (dem x) x') : ∃ news', yP P tx size x' H = some (k, news') ∧ L0 μ H news news' ∧ news.length = k * size := by
 unfold aeQ at h
 split at h
 ·
  rename_i s
  have e1 := jo hx rfl
  subst e1
  split at h
  ·
   rename_i hu
   split at h <;> first | (cases h; done) | skip
   rename_i h1
   cases h
   subst h1
   exact ⟨_, by simp only [yP, hu, if_true], Y8 s, ZH s⟩
  ·
   cases h
 ·
  rename_i hns
  split at h <;> first | (cases h; done) | skip
  rename_i te e n cs hu hs
  split at h <;> first | (cases h; done) | skip
  rename_i hor1
  split at h <;> first | (cases h; done) | skip
  rename_i hcl
  split at h <;> first | (cases h; done) | skip
  rename_i h1
  cases h
  rcases hx.slice (by rw [Zj]; exact hs) with ⟨e1, rfl, rfl, rfl⟩ | ⟨lc, hlc, ⟨hln, hor⟩, _⟩
  ·
   exact ⟨[], by simp only [yP, hu, wS, Nat.zero_mul, if_true, List.all_nil], VL.nil, by simp⟩
  ·
   have hone := hlc.one h1
   have hsz : k * e = k * size := by rw [← hln, ← hlc.1, hcl]
   rcases hor with ⟨rfl, rfl⟩ | ⟨r, o, cs', own, rfl, hr, hp, hg, hle, rfl⟩
   ·
    have : lc = [] := List.length_eq_zero_iff.1 (by rw [hln, Nat.zero_mul])
    subst this
    exact ⟨[], by simp only [yP, hu, wS, Nat.zero_mul, if_true, List.all_nil], hlc, hcl⟩
   ·
    refine ⟨(cs'.drop o).take (k * e), ?_, hlc, hcl⟩
    rw [hsz] at hle hone ⊢
    simp only [yP, hu, wS, hg, if_pos hle, hone, if_true]
theorem adF {tx : TypeId} {size k : Nat} {x x' : Value} {news : List Value} (h : WA P tx size x S = some (k, news)) (hx : V0 μ H (dem x) x') (hG : GI μ S H) : ∃ news', yP P tx size x' H = some (k, news') ∧ L0 μ H news news' ∧ news.length = k * size := by
 unfold WA at h
 split at h
 ·
  rename_i hh
  obtain ⟨q, o, r, b, n, rfl, rfl, hm⟩ := afo hh hx
  unfold yP at h
  split at h
  ·
   rename_i e a n2 c hu he
   cases he
   split at h <;> first | (cases h; done) | skip
   rename_i cs hcs
   split at h <;> first | (cases h; done) | skip
   rename_i hone
   cases h
   obtain ⟨cs', h1, h2⟩ := Qb hG hm hcs
   refine ⟨cs', by simp only [yP, hu, h1]; rw [if_pos (h2.one hone)], h2, ?_⟩
   simp only [wS] at hcs
   cases hg : S.get q with
   | none => rw [hg] at hcs; cases hcs
   | some ob =>
    rw [hg] at hcs
    cases ob with
    | cells l own e =>
     dsimp only at hcs
     split at hcs <;> first | (cases hcs; done) | skip
     rename_i hle
     cases hcs
     simp; omega
    | map es c => cases hcs
    | dead => cases hcs
  ·
   rename_i hu he; cases he
  ·
   cases h
 ·
  exact afc h hx
theorem VX {hp : Bool} {t tx : TypeId} {so : Operand} {x x' v : Value} (hG : GI μ S H) (hT : TI μ H ω T A) (hso : yO so = true) (h : y8 P hp t tx (je T so) x S = some (v, S')) (hx : V0 μ H (dem x) x') :
  Out μ ω H A (jX T so) S' v (yX P t tx (je A so) x' H) := by
 have hd : ∀ i, VV μ H ω (some (.slot i none)) ((jX T so).getD i undef) (A.getD i undef) := by
  intro i
  cases so with
  | tmp t =>
   dsimp only [jX, yM]
   rw [wR]
   split
   ·
    rename_i hi; rw [hi.1]; exact (hT.slots t).dem
   ·
    exact hT.slots i
  | _ => exact hT.slots i
 have hlenT : (jX T so).length = A.length := by
  cases so <;> simp [jX, yM, hT.len]
 have hT1 : TI μ H ω (jX T so) A := ⟨hlenT, hd, hT.dom, hT.nores⟩
 unfold y8 at h
 split at h <;> first | (cases h; done) | skip
 rename_i e he
 split at h <;> first | (cases h; done) | skip
 rename_i size z bytes hs hz hb
 split at h <;> first | (cases h; done) | skip
 rename_i c1
 split at h <;> first | (cases h; done) | skip
 rename_i c2
 split at h <;> first | (cases h; done) | skip
 rename_i k news hsrc
 obtain ⟨news', hsrc', hnn, hnl⟩ := adF hsrc hx hG
 split at h
 ·
  rename_i hse
  have hsa : je A so = .slice none 0 0 := jo (by have := hT.eval hso; rw [hse] at this; exact this) rfl
  rw [hsa]
  split at h
  ·
   rename_i hk
   cases h
   have : yX P t tx (.slice none 0 0) x' H = some (.slice none 0 0, H) := by
    simp only [yX, he, hs, hz, hb, if_pos c1, if_pos c2, hsrc', if_pos hk]
   rw [this]
   exact Out.same hG hT1 (.sg rfl)
  ·
   rename_i hk
   split at h <;> first | (cases h; done) | skip
   rename_i c3
   split at h <;> first | (cases h; done) | skip
   rename_i c4
   have : yX P t tx (.slice none 0 0) x' H = some (.slice (some ⟨H.next, 0, none⟩) k k, H.push (.cells news' (.own []) size)) := by
    simp only [yX, he, hs, hz, hb, if_pos c1, if_pos c2, hsrc', if_neg hk, if_pos c3, if_pos c4]
   rw [this]
   split at h
   ·
    cases h
    exact Out.slice hG hT1 hnn
   ·
    cases h
    exact Out.fresh hG hT1 hnn (by rw [← hnn.1]; exact hnl)
 ·
  rename_i q o n c hse
  have hsv : V0 μ H (.slice (some ⟨q, o, none⟩) n c) (je A so) := by have := hT.eval hso; rw [hse] at this; exact this
  generalize hsa : je A so = sa at hsv
  cases hsv with
  | sg hs => simp [Go.Abs.sg] at hs
  | @slm _ _ _ r b _ hm =>
   split at h <;> first | (cases h; done) | skip
   rename_i cs own esz hg
   split at h <;> first | (cases h; done) | skip
   rename_i d1
   split at h <;> first | (cases h; done) | skip
   rename_i d2
   split at h <;> first | (cases h; done) | skip
   rename_i d3
   split at h <;> first | (cases h; done) | skip
   rename_i d4
   split at h <;> first | (cases h; done) | skip
   rename_i d5
   split at h <;> first | (cases h; done) | skip
   rename_i G anc2 hap
   cases h
   obtain ⟨r', cs', own', ho, hm', hg', hl⟩ := hG.cells hg
   rw [hm] at hm'; cases hm'
   have hlen := hl.1
   have hct : L0 μ H ((cs.drop o).take (n * size)) ((cs'.drop o).take (n * size)) := (hl.drop o).take _
   unfold yQ at hap
   cases own with
   | ro => cases hap
   | own anc =>
   cases own' with
   | ro => exact ho.elim
   | own anc' =>
   have ho : Wv μ anc anc' := ho
   dsimp only at hap
   have hne : q ≠ S.next := fun e => by rw [e, hG.fresh _ (Nat.le_refl _)] at hm; cases hm
   split at hap
   ·
    rename_i hfin
    cases hap
    have hap' : yQ H r (.own anc') cs' (o + n * size) (n * size) size = some (H.set r (.cells cs' .ro size), if n * size = 0 then [] else r :: anc') := by
     simp only [yQ]; rw [if_pos (by omega)]
    have : yX P t tx (.slice (some ⟨r, o, none⟩) n n) x' H = some (.slice (some ⟨H.next, 0, none⟩) (n + k) (n + k), (H.set r (.cells cs' .ro size)).push (.cells ((cs'.drop o).take (n * size) ++ news') (.own (if n * size = 0 then [] else r :: anc')) size)) := by
     simp only [yX, he, hs, hz, hb, if_pos c1, if_pos c2, hsrc', hg', if_pos d1, if_pos (show o + n * size ≤ cs'.length by omega), if_pos d3, if_pos d4, if_pos (hct.one d5), hap']
    rw [this]
    have u1 := J6 (o := .cells cs .ro size) (o' := .cells cs' .ro size) (ks := []) (ks' := []) hG hT1 hm True.intro (fun μ' H' hL _ => ⟨rfl, True.intro, hl.later hL⟩) (fun _ _ _ h => by cases h)
    have hm1 : ∀ a ∈ anc, ∃ r2, μ a = some (r2, true) := fun a ha => Wv.left ho a ha
    have u2 := Yq (o := .cells ((cs.drop o).take (n * size) ++ news) (.own (if n * size = 0 then [] else q :: anc)) size) (o' := .cells ((cs'.drop o).take (n * size) ++ news') (.own (if n * size = 0 then [] else r :: anc')) size) u1.gi u1.ti
     (fun μ' H' hL hpub => ⟨rfl, by
      split
      ·
       exact True.intro
      ·
       exact ⟨hpub q r hm, Wv.mono ho fun a _ r2 h2 => hpub a r2 h2⟩, ((hct.append hnn).later u1.later (ω' := W0)).later hL⟩)
     (fun cs1 anc1 e1 h a ha => by
      simp only [yG.cells.injEq, Own.own.injEq] at h
      obtain ⟨_, rfl, _⟩ := h
      split at ha
      ·
       cases ha
      ·
       rcases List.mem_cons.1 ha with rfl | ha
       ·
        refine ⟨hne, fun cs2 anc2 e2 h2 => ?_⟩
        rw [zi.jF, if_pos rfl] at h2
        cases h2
       ·
        obtain ⟨r2, h2⟩ := hm1 a ha
        refine ⟨fun e => ?_, fun cs2 anc2 e2 h2 => ?_⟩
        ·
         simp only [zi.kills, zi.qQ] at e
         rw [e, hG.fresh _ (Nat.le_refl _)] at h2; cases h2
        ·
         rw [zi.jF] at h2
         split at h2
         ·
          cases h2
         ·
          exact hG.anc q _ _ _ hg a ha _ _ _ h2)
    exact (u1.trans u2).out (.slm (b := true) qY)
   ·
    rename_i hfin
    cases hap
    have hap' : yQ H r (.own anc') cs' (o + n * size) (n * size) size = some ((H.kills anc').set r .dead, []) := by
     simp only [yQ]; rw [if_neg (by omega)]
    have : yX P t tx (.slice (some ⟨r, o, none⟩) n n) x' H = some (.slice (some ⟨H.next, 0, none⟩) (n + k) (n + k), ((H.kills anc').set r .dead).push (.cells ((cs'.drop o).take (n * size) ++ news') (.own []) size)) := by
     simp only [yX, he, hs, hz, hb, if_pos c1, if_pos c2, hsrc', hg', if_pos d1, if_pos (show o + n * size ≤ cs'.length by omega), if_pos d3, if_pos d4, if_pos (hct.one d5), hap']
    rw [this]
    have u1 := J6 (o := .dead) (o' := .dead) (ks := anc) (ks' := anc') hG hT1 hm ho (fun μ' H' hL h => by cases h) (fun _ _ _ h => by cases h)
    have u2 := vk (e := size) u1.gi u1.ti ((hct.append hnn).later u1.later (ω' := W0))
    have hnx : ((S.kills anc).set q .dead).next = S.next := by simp
    have hnx' : ((H.kills anc').set r .dead).next = H.next := by simp
    have := (u1.trans u2).out (v := .slice (some ⟨S.next, 0, none⟩) (n + k) (n + k)) (a := .slice (some ⟨H.next, 0, none⟩) (n + k) (n + k)) (.slm (b := true) (by rw [hnx, hnx']; exact qY))
    exact this
 ·
  rename_i g e' n cs hse
  split at h <;> first | (cases h; done) | skip
  rename_i hg2
  subst hg2
  split at h <;> first | (cases h; done) | skip
  rename_i hee
  subst hee
  split at h <;> first | (cases h; done) | skip
  rename_i c3
  split at h <;> first | (cases h; done) | skip
  rename_i c4
  split at h <;> first | (cases h; done) | skip
  rename_i c5
  cases h
  cases so with
  | const w =>
   simp only [je] at hse
   rw [hse] at hso
   simp [yO, ground, Go.Abs.sg] at hso
  | global g => cases hso
  | func f => simp [je] at hse
  | tmp ts =>
   have hsl := hT.slots ts
   simp only [je] at hse ⊢
   rw [hse] at hsl
   generalize hA : A.getD ts undef = sa at hsl
   cases hsl with
   | sg hs => simp [Go.Abs.sg] at hs
   | @so _ _ _ r _ l anc hω hr hp hg hl hn hc =>
    have hle : (0 : Nat) + n * e' ≤ l.length := by omega
    have htk : (l.drop 0).take (n * e') = l := by rw [List.drop_zero, ← hl, List.take_length]
    have hlc : L0 μ H cs.toList l := VL.ofRange (by rw [hn, hl]) fun i hi => (hc i (by rw [← hn]; exact hi)).at0
    have hone := hlc.one c5
    have hrn : r ≠ H.next := by omega
    obtain ⟨anc2, hap⟩ : ∃ anc2, yQ H r (.own anc) l (0 + n * e') (n * e') e' = some (H.set r (.cells l .ro e'), anc2) := by
     simp only [yQ]
     rw [if_pos (by omega)]
     exact ⟨_, rfl⟩
    have hrun : yX P t tx (.slice (some ⟨r, 0, none⟩) n n) x' H = some (.slice (some ⟨H.next, 0, none⟩) (n + k) (n + k), (H.set r (.cells l .ro e')).push (.cells (l ++ news') (.own anc2) e')) := by
     simp only [yX, he, hs, hz, hb, if_pos c1, if_pos c2, hsrc', hg, if_true, if_pos hle, if_pos c3, if_pos c4, htk, hone, hap]
    rw [hrun]
    have getE : ∀ k', ((H.set r (.cells l .ro e')).push (.cells (l ++ news') (.own anc2) e')).get k' = if k' = H.next then some (.cells (l ++ news') (.own anc2) e') else if k' = r then some (.cells l .ro e') else H.get k' := by
     intro k'; rw [zi.jm, zi.jF]; rfl
    have hL : Later μ H μ ((H.set r (.cells l .ro e')).push (.cells (l ++ news') (.own anc2) e')) := by
     refine ⟨fun _ _ b h => ⟨b, h⟩, by simp, fun _ _ h => .inl h, rfl, fun r2 hr2 hh2 => by rw [getE, if_neg (by omega), if_neg (fun e => by rw [e, hp.2] at hh2; cases hh2)], ⟨[], rfl, fun q2 r2 hq2 _ => ⟨hq2, by rw [getE, if_neg (by have := hG.lt q2 r2 _ hq2; omega), if_neg (fun e => hp.1 q2 (by rw [← e]; exact hq2))]⟩⟩, fun r2 l2 own2 e2 hr2 hp2 hg2 => ?_⟩
     by_cases e1 : r2 = r
     ·
      subst e1
      rw [hg] at hg2; cases hg2
      exact ⟨.ro, by rw [getE, if_neg hrn, if_pos rfl]⟩
     ·
      exact ⟨own2, by rw [getE, if_neg (by omega), if_neg e1]; exact hg2⟩
    have hpn : Jh μ H.next := hG.aas
    refine ⟨_, _, μ, fun k' => if k' = H.next then some (.res none) else if k' = r then none else ω k', rfl, hG.later hL rfl (fun q r2 hq => by rw [getE, if_neg (by have := hG.lt q r2 _ hq; omega), if_neg (fun e => hp.1 q (by rw [← e]; exact hq))]), hL, fun r2 hr2 => ?_, fun r2 s hs2 => ?_, hlenT, fun i => ?_, ?_⟩
    ·
     have h1 := (hT.dom r2 _ hr2).1
     have h2 : r2 ≠ r := fun e => by rw [e, hω] at hr2; cases hr2
     exact ⟨by dsimp only; rw [if_neg (by omega), if_neg h2]; exact hr2, by rw [getE, if_neg (by omega), if_neg h2]⟩
    ·
     try dsimp only at hs2
     by_cases e1 : r2 = H.next
     ·
      subst e1; exact ⟨by simp, hpn⟩
     ·
      rw [if_neg e1] at hs2
      by_cases e2 : r2 = r
      ·
       rw [if_pos e2] at hs2; cases hs2
      ·
       rw [if_neg e2] at hs2
       have := hT.dom r2 s hs2
       exact ⟨by simp; omega, this.2⟩
    ·
     by_cases hi : i = ts
     ·
      subst hi
      dsimp only [jX, yM]
      rw [wR]
      by_cases hlt : i < T.length
      ·
       rw [if_pos ⟨rfl, hlt⟩]
       exact ((hT.slots i).v0.kU hL (ω' := W0)).at0
      ·
       rw [if_neg (fun h => hlt h.2)]
       rw [List.getD_eq_getElem?_getD, List.getElem?_eq_none (Nat.le_of_not_lt hlt), List.getD_eq_getElem?_getD, List.getElem?_eq_none (by rw [← hT.len]; omega)]
       exact .nores
     ·
      have := hT.slots i
      dsimp only [jX, yM]
      rw [wR, if_neg (fun h => hi h.1)]
      refine this.later hL (K := fun s => ∃ j, s = .slot i j) (fun s k t ⟨b, h⟩ ht => by subst h; cases b <;> cases ht; exact ⟨_, rfl⟩) (fun r2 s hs2 hr2 => ?_) (fun s hs => by cases hs; exact ⟨_, rfl⟩)
      obtain ⟨j, rfl⟩ := hs2
      have h1 := (hT.dom r2 _ hr2).1
      have h2 : r2 ≠ r := fun e => by rw [e, hω] at hr2; cases hr2; exact hi rfl
      exact ⟨by (try dsimp only); rw [if_neg (by omega), if_neg h2]; exact hr2, by rw [getE, if_neg (by omega), if_neg h2]⟩
    ·
     have hapl := (hlc.append hnn).later hL (ω' := fun k' => if k' = H.next then some (.res none) else if k' = r then none else ω k')
     refine .so (by simp) (by simp) hpn (by rw [getE, if_pos rfl]) ?_ ?_ (fun i hi => ?_)
     ·
      rw [List.length_append, hl, Nat.add_mul, ← hnl, hnn.1]
     ·
      rw [List.toList_toArray, List.length_append, hn, Nat.add_mul, ← hnl]
     ·
      have := hapl.2 i
      simpa using this
 ·
  cases h
theorem V5 {x x' : Value} {n : Nat} {src : Nat → Option (List Value)} (h : JO x S = some (n, src)) (hx : V0 μ H (dem x) x') (hG : GI μ S H) :
  ∃ a c, x' = .slice a n c ∧ ∀ m news, src m = some news → ∃ news', wS (.slice a n c) m H = some news' ∧ L0 μ H news news' := by
 unfold JO at h
 split at h
 ·
  cases h
  have hx0 := hx
  obtain ⟨q, o, r, b, n, he, rfl, hm⟩ := afo rfl hx0
  cases he
  exact ⟨_, _, rfl, fun m news hs => Qb hG hm hs⟩
 ·
  split at h <;> first | (cases h; done) | skip
  rename_i e n2 cs hs
  cases h
  rcases hx.slice (by rw [Zj]; exact hs) with ⟨h1, rfl, rfl, rfl⟩ | ⟨lc, hlc, ⟨hln, hor⟩, k, w, hkw⟩
  ·
   refine ⟨_, _, rfl, fun m news hm => ?_⟩
   (try dsimp only at hm)
   split at hm <;> first | (cases hm; done) | skip
   rename_i hle
   cases hm
   have : m = 0 := by simpa using hle
   subst this
   exact ⟨[], by simp only [wS, if_true], VL.nil⟩
  ·
   have hl1 := hlc.1
   rcases hor with ⟨rfl, rfl⟩ | ⟨r, o, cs', own, rfl, hr, hp, hg, hle, rfl⟩
   ·
    refine ⟨_, _, rfl, fun m news hm => ?_⟩
    (try dsimp only at hm)
    split at hm <;> first | (cases hm; done) | skip
    rename_i hle
    cases hm
    have : m = 0 := by omega
    subst this
    exact ⟨[], by simp only [wS, if_true], VL.nil⟩
   ·
    refine ⟨_, _, rfl, fun m news hm => ?_⟩
    (try dsimp only at hm)
    split at hm <;> first | (cases hm; done) | skip
    rename_i hle2
    cases hm
    have hm2 : m ≤ n * e := by omega
    refine ⟨_, by simp only [wS, hg]; rw [if_pos (by omega)], ?_⟩
    have := hlc.take m
    rwa [List.take_take, Nat.min_eq_left hm2] at this
theorem ac9 {t tx : TypeId} {d s d' s' v : Value} (hG : GI μ S H) (hT : TI μ H ω T A) (h : WG P t tx d s S = some (v, S')) (hd : V0 μ H (dem d) d') (hs : V0 μ H (dem s) s') : Out μ ω H A T S' v (WC P t tx d' s' H) := by
 unfold WG at h
 split at h <;> first | (cases h; done) | skip
 rename_i e he
 split at h <;> first | (cases h; done) | skip
 rename_i size hsz
 split at h <;> first | (cases h; done) | skip
 rename_i sn src hsrc
 obtain ⟨a, c, rfl, hnews⟩ := V5 hsrc hs hG
 split at h <;> first | (cases h; done) | skip
 ·
  have : d' = .slice none 0 0 := jo hd rfl
  subst this
  cases h
  have : WC P t tx (.slice none 0 0) (.slice a sn c) H = some (goInt 0, H) := by
   have h0 : Nat.min sn 0 = 0 := Nat.min_zero sn
   simp only [WC, he, hsz]; rw [if_pos h0]
  rw [this]
  exact Out.same hG hT (.sg rfl)
 ·
  rename_i q o dn dc
  obtain ⟨q2, o2, r, b, n, he2, rfl, hm⟩ := afo (show Y4 (.slice (some ⟨q, o, none⟩) dn dc) = true from rfl) hd
  cases he2
  split at h
  ·
   rename_i h0
   cases h
   have : WC P t tx (.slice (some ⟨r, o, none⟩) dn dn) (.slice a sn c) H = some (goInt 0, H) := by
    simp only [WC, he, hsz]; rw [if_pos h0]
   rw [this]
   exact Out.same hG hT (.sg rfl)
  ·
   rename_i h0
   split at h <;> first | (cases h; done) | skip
   rename_i cs anc esz news hg hsr
   split at h <;> first | (cases h; done) | skip
   rename_i h1
   split at h <;> first | (cases h; done) | skip
   rename_i h2
   cases h
   obtain ⟨news', k1, k2⟩ := hnews _ _ hsr
   obtain ⟨r', cs', own', ho, hm', hg', hl⟩ := hG.cells hg
   rw [hm] at hm'; cases hm'
   cases own' with
   | ro => exact ho.elim
   | own anc' =>
   have : WC P t tx (.slice (some ⟨r, o, none⟩) dn dn) (.slice a sn c) H = some (goInt (Nat.min sn dn), (H.kills anc').set r (.cells (splice cs' o news') (.own []) esz)) := by
    simp only [WC, he, hsz]
    rw [if_neg h0]
    simp only [hg', k1]
    rw [if_pos (by rw [← hl.1]; exact h1), if_pos (k2.one h2)]
   rw [this]
   exact Out.stored hG hT hm ho hg hl k2 (.inl rfl)
theorem aaB {t : TypeId} {x x' v : Value} (hG : GI μ S H) (hT : TI μ H ω T A) (h : ab3 P t x S = some (v, S')) (hx : V0 μ H (dem x) x') : Out μ ω H A T S' v (xC P t x' H) := by
 unfold ab3 at h
 split at h <;> first | (cases h; done) | skip
 rename_i b0 n0 c0
 have hx : V0 μ H (.slice b0 n0 c0) x' := hx
 unfold xC at h
 split at h
 ·
  rename_i e n c he hxe
  cases hxe
  cases h
  have : x' = .slice none n0 c0 := by
   cases hx with
   | sg hs => rfl
  subst this
  have : xC P t (.slice none n0 c0) H = some (undef, H) := by simp only [xC, he]
  rw [this]
  exact Out.same hG hT .nores
 ·
  rename_i e q o n c he hxe
  cases hxe
  cases hx with
  | sg hs => simp [Go.Abs.sg] at hs
  | @slm _ _ _ r b _ hm =>
   split at h
   ·
    rename_i h0
    cases h
    have : xC P t (.slice (some ⟨r, o, none⟩) n0 n0) H = some (undef, H) := by simp only [xC, he]; rw [if_pos h0]
    rw [this]
    exact Out.same hG hT .nores
   ·
    rename_i h0
    split at h <;> first | (cases h; done) | skip
    rename_i size z cs anc esz hs hz hg
    split at h <;> first | (cases h; done) | skip
    rename_i c1
    split at h <;> first | (cases h; done) | skip
    rename_i c2
    split at h <;> first | (cases h; done) | skip
    rename_i c3
    split at h <;> first | (cases h; done) | skip
    rename_i c4
    split at h <;> first | (cases h; done) | skip
    rename_i c5
    cases h
    obtain ⟨r', cs', own', ho, hm', hg', hl⟩ := hG.cells hg
    rw [hm] at hm'; cases hm'
    cases own' with
    | ro => exact ho.elim
    | own anc' =>
    have : xC P t (.slice (some ⟨r, o, none⟩) n0 n0) H = some (undef, (H.kills anc').set r (.cells (splice cs' o (zl z.cells.toList n0)) (.own []) esz)) := by
     simp only [xC, he]
     rw [if_neg h0]
     simp only [hs, hz, hg']
     rw [if_pos c1, if_pos c2, if_pos c3, if_pos c4, if_pos (by rw [← hl.1]; exact c5)]
    rw [this]
    exact Out.stored hG hT hm ho hg hl (aeH (wP c1) _) (.inr rfl)
 ·
  cases h
theorem Xn {t : TypeId} {r r' : Option Value} {v : Value} (hG : GI μ S H) (hT : TI μ H ω T A) (h : xu P t r S = some (v, S')) (hr : r = none → r' = none) : Out μ ω H A T S' v (xu P t r' H) := by
 unfold xu at h
 split at h <;> first | (cases h; done) | skip
 cases h
 rw [hr rfl]
 exact (Yq (o := .map [] 0) (o' := .map [] 0) hG hT (fun _ _ _ _ => ⟨rfl, rfl, fun i e he => by simp at he⟩) (fun _ _ _ h => by cases h)).out (.map qY)
theorem ESV.later {μ' : Mu} {H' : zi} {es es' : List MapEntry} (h : ESV μ H es es') (hL : Later μ H μ' H') : ESV μ' H' es es' := ⟨h.1, fun i e he => let ⟨e', k1, k2, k3, k4⟩ := h.2 i e he; ⟨e', k1, k2, k3, k4.kU hL⟩⟩
theorem Y2 {t : TypeId} {x x' k k' w w' v : Value} (hG : GI μ S H) (hT : TI μ H ω T A) (h : wM P t x k w S = some (v, S')) (hx : V0 μ H (dem x) x') (hk : V0 μ H (dem k) k') (hw : V0 μ H w w') : Out μ ω H A T S' v (wM P t x' k' w' H) := by
 unfold wM at h
 split at h <;> first | (cases h; done) | skip
 rename_i kt et hu
 split at h <;> first | (cases h; done) | skip
 rename_i kd hkd
 split at h <;> first | (cases h; done) | skip
 rename_i hkk
 have ek := jo hk (qm hkk)
 subst ek
 split at h <;> first | (cases h; done) | skip
 rename_i q
 have hx : V0 μ H (.map (some q)) x' := hx
 split at h <;> first | (cases h; done) | skip
 rename_i es clock hg
 cases hx with
 | sg hs => simp [Go.Abs.sg] at hs
 | map hm =>
  rename_i r b
  obtain ⟨r', es', h1, h2, h3, h4⟩ := hG.map hg
  rw [hm] at h1
  cases h1
  have hes : ESV μ H es es' := ⟨h3, h4⟩
  split at h <;> first | (cases h; done) | skip
  ·
   rename_i i w0 hf
   cases h
   obtain ⟨r2, f1, f2⟩ := ZE _ _ _ _ hes hf
   rcases f2 with ⟨h0, _⟩ | ⟨j2, v2, v3, h0, rfl, hv⟩
   ·
    cases h0
   ·
    cases h0
    have : wM P t (.map (some r)) k' w' H = some (undef, H.set r (.map (es'.modify i fun e => { e with key := k', val := w' }) clock)) := by
     simp only [wM, hu, hkd, if_pos hkk, h2, f1]
    rw [this]
    refine (J6 (ks := []) (ks' := []) (o := .map (es.modify i fun e => { e with key := k', val := w }) clock) (o' := .map (es'.modify i fun e => { e with key := k', val := w' }) clock) hG hT hm True.intro (fun μ' H' hL _ => ⟨rfl, by simp [h3], fun j e he => ?_⟩) (fun _ _ _ h => by cases h)).out .nores
    rw [List.getElem?_modify] at he
    rw [List.getElem?_modify]
    cases hej : es[j]? with
    | none => rw [hej] at he; simp at he
    | some e0 =>
     rw [hej] at he
     obtain ⟨e1, k1, k2, k3, k4⟩ := h4 j e0 hej
     rw [k1]
     by_cases hij : i = j
     ·
      simp only [hij, if_true, Option.map_eq_map, Option.map_some, Option.some.injEq] at he ⊢
      subst he
      exact ⟨_, rfl, rfl, k3, hw.kU hL⟩
     ·
      simp only [hij, if_false, Option.map_eq_map, Option.map_some, Option.some.injEq] at he ⊢
      subst he
      exact ⟨_, rfl, k2, k3, k4.kU hL⟩
  ·
   rename_i hf
   cases h
   obtain ⟨r2, f1, f2⟩ := ZE _ _ _ _ hes hf
   rcases f2 with ⟨_, rfl⟩ | ⟨j2, v2, v3, h0, _⟩
   ·
    have : wM P t (.map (some r)) k' w' H = some (undef, H.set r (.map (es' ++ [{ key := k', val := w', born := clock }]) (clock + 1))) := by
     simp only [wM, hu, hkd, if_pos hkk, h2, f1]
    rw [this]
    refine (J6 (ks := []) (ks' := []) (o := .map (es ++ [{ key := k', val := w, born := clock }]) (clock + 1)) (o' := .map (es' ++ [{ key := k', val := w', born := clock }]) (clock + 1)) hG hT hm True.intro (fun μ' H' hL _ => ⟨rfl, by simp [h3], fun j e he => ?_⟩) (fun _ _ _ h => by cases h)).out .nores
    rw [List.getElem?_append] at he
    rw [List.getElem?_append, ← h3]
    split at he
    ·
     rename_i hj
     rw [if_pos hj]
     obtain ⟨e1, k1, k2, k3, k4⟩ := h4 j e he
     exact ⟨e1, k1, k2, k3, k4.kU hL⟩
    ·
     rename_i hj
     rw [if_neg hj]
     cases hz : j - es.length with
     | zero =>
      rw [hz] at he
      simp only [List.getElem?_cons_zero, Option.some.injEq] at he
      subst he
      exact ⟨_, rfl, rfl, rfl, hw.kU hL⟩
     | succ m => rw [hz] at he; simp at he
   ·
    cases h0
end
end Go.Abs
