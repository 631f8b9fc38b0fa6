/-
The law FetchBounds returns true for every input, and leaves it as it was; no condition. Part 1 of 4 of the texts (put together by a program: own names are short, what isn't needed is left out).
-/
import Derived.Calls
import Derived.Orders
import Derived.Deep.LoopGhost
import Derived.Below
import Derived.KernelRfl
import Derived.Laws.Sem
import Derived.Deep.AppendSrc
import Derived.Deep.MidRow
import Derived.Laws.OwnMore
import Derived.Laws.MakeOwn
import Derived.Lib.ConvBytes
import Derived.Laws.Strings
import Derived.ProofKit
import Derived.OpenShut
import Derived.ChangeOld
import Derived.SizedLaws
import Derived.Carry
import Derived.ChangeShapes
set_option linter.unusedVariables false
set_option linter.unusedSimpArgs false
set_option maxRecDepth 100000
open Go renaming undef → zh
namespace Go.Abs
theorem aed {a b:Prop} (h:a) (k:b):a∧b:=⟨h,k⟩
end Go.Abs
namespace Go.Abs
open Go.RowKit
inductive Own where
 | ro
 | own (anc:List Nat)
 deriving Inhabited,DecidableEq
def Own.owns:Own→Bool
 | .ro=>false
 | .own _=>true
inductive wo where
 | cells (cs:List Value) (own:Own) (esz:Nat)
 | map (es:List MapEntry) (clock:Nat)
 | dead
 deriving Inhabited
def wo.owns:wo→Bool
 | .cells _ own _=>own.owns
 | .map _ _=>true
 | .dead=>false
def wo.lo (o:wo) (r':Nat) (o':wo):Nat :=
 match o with
 | .cells cs (.own anc) _=>if r' ∈ anc∧o'.owns=false then cs.length else 0
 | _=>0
def wo.hi (shift lim:Nat):wo→Nat
 | .cells cs .ro _=>shift+cs.length
 | _=>lim
def wo.alive:wo→Bool
 | .dead=>false
 | _=>true
inductive Trie where
 | leaf
 | node (v:Option wo) (l r:Trie)
 deriving Inhabited
def Trie.get:Trie→Nat→Option wo
 | .leaf,_=>none
 | .node v l r,n=>if n=0 then v else if n % 2=1 then l.get (n / 2) else r.get (n / 2 - 1)
def Trie.val:Trie→Option wo
 | .leaf=>none
 | .node v _ _=>v
def Trie.left:Trie→Trie
 | .leaf=>.leaf
 | .node _ l _=>l
def Trie.right:Trie→Trie
 | .leaf=>.leaf
 | .node _ _ r=>r
def Trie.adF:Nat→Trie→Nat→wo→Trie
 | 0,t,_,_=>t
 | f+1,t,n,o =>
  if n=0 then .node (some o) t.left t.right
  else if n % 2=1 then .node t.val (t.left.adF f (n / 2) o) t.right
  else .node t.val t.left (t.right.adF f (n / 2 - 1) o)
def Trie.set (t:Trie) (n:Nat) (o:wo):Trie:=t.adF (n+1) n o
theorem Trie.vK (t:Trie):t.get 0=t.val:=by cases t <;> simp [Trie.get,Trie.val]
theorem Trie.get_odd (t : Trie) (n : Nat) (h : n % 2 = 1) : t.get n = t.left.get (n / 2) := by
  cases t with
  | leaf => simp [Trie.get, Trie.left]
  | node v l r => have : n ≠ 0 := by omega
                  simp [Trie.get, Trie.left, this, h]
theorem Trie.get_even (t : Trie) (n : Nat) (h : n % 2 = 0) (h0 : n ≠ 0) : t.get n = t.right.get (n / 2 - 1) := by
  cases t with
  | leaf => simp [Trie.get, Trie.right]
  | node v l r => have h1 : ¬ n % 2 = 1 := by omega
                  simp [Trie.get, Trie.right, h0, h1]
theorem Trie.aaN (f:Nat):∀ (t:Trie) (n k:Nat) (o:wo),n < f→(t.adF f n o).get k=if k=n then some o else t.get k:=by
 induction f with
 | zero=>intro t n k o h;omega
 | succ f ih =>
  intro t n k o h
  rw [Trie.adF]
  by_cases hn:n=0
  ·
   subst hn
   rw [if_pos rfl]
   by_cases hk:k=0
   ·
    subst hk;rw [Trie.vK];simp [Trie.val]
   ·
    rw [if_neg hk]
    by_cases ho:k % 2=1
    ·
     rw [Trie.get_odd _ _ ho,Trie.get_odd _ _ ho];simp [Trie.left]
    ·
     rw [Trie.get_even _ _ (by omega) hk,Trie.get_even _ _ (by omega) hk];simp [Trie.right]
  ·
   rw [if_neg hn]
   by_cases hn2:n % 2=1
   ·
    rw [if_pos hn2]
    by_cases hk:k=0
    ·
     subst hk;rw [Trie.vK,Trie.vK,if_neg (by omega)];simp [Trie.val]
    ·
     by_cases ho:k % 2=1
     ·
      rw [Trie.get_odd _ _ ho,Trie.get_odd _ _ ho]
      simp only [Trie.left]
      rw [ih _ _ _ _ (by omega)]
      by_cases e:k=n
      ·
       subst e;simp
      ·
       rw [if_neg e,if_neg (by omega)]
     ·
      rw [Trie.get_even _ _ (by omega) hk,Trie.get_even _ _ (by omega) hk,if_neg (by omega)];simp [Trie.right]
   ·
    rw [if_neg hn2]
    by_cases hk:k=0
    ·
     subst hk;rw [Trie.vK,Trie.vK,if_neg (by omega)];simp [Trie.val]
    ·
     by_cases ho:k % 2=1
     ·
      rw [Trie.get_odd _ _ ho,Trie.get_odd _ _ ho,if_neg (by omega)];simp [Trie.left]
     ·
      rw [Trie.get_even _ _ (by omega) hk,Trie.get_even _ _ (by omega) hk]
      simp only [Trie.right]
      rw [ih _ _ _ _ (by omega)]
      by_cases e:k=n
      ·
       subst e;simp
      ·
       rw [if_neg e,if_neg (by omega)]
theorem Trie.jc (t:Trie) (n k:Nat) (o:wo):(t.set n o).get k=if k=n then some o else t.get k :=
 Trie.aaN _ t n k o (by omega)
structure zx where
 next:Nat
 tr:Trie
 log:List Nat
 deriving Inhabited
def zx.get (H:zx) (r:Nat):Option wo:=H.tr.get r
def zx.set (H:zx) (r:Nat) (o:wo):zx:={ H with tr:=H.tr.set r o,log:=r::H.log }
def zx.push (H:zx) (o:wo):zx:={ H with next:=H.next+1,tr:=H.tr.set H.next o }
def zx.kills (H:zx):List Nat→zx
 | []=>H
 | r::l=>(H.set r .dead).kills l
def zx.empty:zx:={ next:=0,tr:=.leaf,log:=[] }
theorem zx.jc (H:zx) (r k:Nat) (o:wo):(H.set r o).get k=if k=r then some o else H.get k:=Trie.jc ..
theorem zx.zQ (H:zx) (k:Nat) (o:wo):(H.push o).get k=if k=H.next then some o else H.get k:=Trie.jc ..
@[simp] theorem zx.Zz (H:zx) (r:Nat) (o:wo):(H.set r o).next=H.next:=rfl
@[simp] theorem zx.xM (H:zx) (o:wo):(H.push o).next=H.next+1:=rfl
theorem zx.WO (H:zx) (r:Nat) (o:wo):(H.set r o).log=r::H.log:=rfl
theorem zx.VX (l:List Nat):∀ (H:zx),(H.kills l).log=l.reverse++H.log:=by
 induction l with
 | nil=>intro H;rfl
 | cons r l ih=>intro H;rw [zx.kills,ih,zx.WO,List.reverse_cons,List.append_assoc];rfl
@[simp] theorem zx.Zd (l:List Nat):∀ (H:zx),(H.kills l).next=H.next:=by
 induction l with
 | nil=>intro H;rfl
 | cons r l ih=>intro H;rw [zx.kills,ih];rfl
theorem zx.yT (l:List Nat):∀ (H:zx) (k:Nat),(H.kills l).get k=if k ∈ l then some .dead else H.get k:=by
 induction l with
 | nil=>intro H k;rfl
 | cons r l ih =>
  intro H k
  rw [zx.kills,ih,zx.jc]
  by_cases h1:k ∈ l
  ·
   rw [if_pos h1,if_pos (List.mem_cons_of_mem _ h1)]
  ·
   by_cases h2:k=r
   ·
    rw [if_neg h1,if_pos h2,if_pos (by simp [h2])]
   ·
    rw [if_neg h1,if_neg h2,if_neg (by simp [h1,h2])]
structure Loc where
 blk:Nat
 shift:Nat
 lim:Nat
 esz:Nat
abbrev Mp:=Nat→Option Loc
inductive VR (m:Mp):Value→Value→Prop
 | bool (b):VR m (.bool b) (.bool b)
 | int (k n):VR m (.int k n) (.int k n)
 | string (s):VR m (.string s) (.string s)
 | ptrNil:VR m (.pointer none) (.pointer none)
 | ptr {r o L} (h:m r=some L):VR m (.pointer (some ⟨r,o,none⟩)) (.pointer (some ⟨L.blk,L.shift+o,none⟩))
 | sliceNil:VR m (.slice none 0 0) (.slice none 0 0)
 | slice {r o L n c} (h:m r=some L) (hn:n≤c) (hl:L.shift+o+c * L.esz≤L.lim) :
   VR m (.slice (some ⟨r,o,none⟩) n n) (.slice (some ⟨L.blk,L.shift+o,none⟩) n c)
 | slice0 {r o L} {a:Addr} (h:m r=some L) (hl:L.shift+o≤L.lim) (ha:a.block=L.blk):VR m (.slice (some ⟨r,o,none⟩) 0 0) (.slice (some a) 0 0)
 | sliceE (a:Addr) (c:Nat):VR m (.slice (some ⟨0,0,some 0⟩) 0 0) (.slice (some a) 0 c)
 | mapNil:VR m (.map none) (.map none)
 | map {r L} (h:m r=some L):VR m (.map (some r)) (.map (some L.blk))
 | nilFunc:VR m .nilFunc .nilFunc
 | func (fn) {x x' c c':Array Value} (hx:x.size=x'.size) (hc:c.size=c'.size)
   (hx':∀ i:Nat,VR m (x.getD i zh) (x'.getD i zh)) (hc':∀ i:Nat,VR m (c.getD i zh) (c'.getD i zh)):VR m (.func fn x c) (.func fn x' c')
 | nilIface:VR m .nilIface .nilIface
 | iface (t) {v v'} (h:VR m v v'):VR m (.iface t v) (.iface t v')
 | agg {x x':Array Value} (hx:x.size=x'.size) (h:∀ i:Nat,VR m (x.getD i zh) (x'.getD i zh)):VR m (.agg x) (.agg x')
 | nores:VR m (.tuple #[]) (.tuple #[])
 | tuple {x x':Array Value} (hx:x.size=x'.size) (h:∀ i:Nat,VR m (x.getD i zh) (x'.getD i zh)):VR m (.tuple x) (.tuple x')
def Mp.le (m m':Mp):Prop:=∀ r L,m r=some L→m' r=some L
theorem Mp.le_refl (m:Mp):m.le m:=fun _ _ h=>h
theorem Mp.le_trans {a b c:Mp} (h:a.le b) (k:b.le c):a.le c:=fun r L e=>k r L (h r L e)
theorem VR.mono {m m':Mp} (hm:m.le m') {a c:Value} (h:VR m a c):VR m' a c:=by
 induction h with
 | bool b=>exact .bool b
 | int k n=>exact .int k n
 | string s=>exact .string s
 | ptrNil=>exact .ptrNil
 | ptr h=>exact .ptr (hm _ _ h)
 | sliceNil=>exact .sliceNil
 | slice h hn hl=>exact .slice (hm _ _ h) hn hl
 | slice0 h hl ha=>exact .slice0 (hm _ _ h) hl ha
 | sliceE a c=>exact .sliceE a c
 | mapNil=>exact .mapNil
 | map h=>exact .map (hm _ _ h)
 | nilFunc=>exact .nilFunc
 | func fn hx hc _ _ ihx ihc=>exact .func fn hx hc ihx ihc
 | nilIface=>exact .nilIface
 | iface t _ ih=>exact .iface t ih
 | agg hx _ ih=>exact .agg hx ih
 | nores=>exact .nores
 | tuple hx _ ih=>exact .tuple hx ih
theorem VR.zh {m:Mp}:VR m Go.undef Go.undef:=.nores
def AR (m:Mp) (x x':Array Value):Prop:=x.size=x'.size∧∀ i:Nat,VR m (x.getD i zh) (x'.getD i zh)
theorem AR.mono {m m':Mp} (hm:m.le m') {x x':Array Value} (h:AR m x x'):AR m' x x':=⟨h.1,fun i=>(h.2 i).mono hm⟩
theorem AR.empty {m:Mp}:AR m #[] #[]:=⟨rfl,fun _=>by simpa using VR.zh⟩
def LR (m:Mp) (l:List Value) (l':List Value):Prop:=l.length=l'.length∧∀ i:Nat,VR m (l.getD i zh) (l'.getD i zh)
theorem LR.nil {m:Mp}:LR m [] []:=⟨rfl,fun _=>by simpa using VR.zh⟩
theorem LR.cons {m:Mp} {v v':Value} {l l':List Value} (h:VR m v v') (k:LR m l l'):LR m (v::l) (v'::l') :=
 ⟨by simp [k.1],fun i=>by cases i with
  | zero=>simpa using h
  | succ i=>simpa using k.2 i⟩
theorem LR.head {m:Mp} {v v':Value} {l l':List Value} (k:LR m (v::l) (v'::l')):VR m v v':=by simpa using k.2 0
theorem LR.tail {m:Mp} {v v':Value} {l l':List Value} (k:LR m (v::l) (v'::l')):LR m l l' :=
 ⟨by have:=k.1;simpa using this,fun i=>by simpa using k.2 (i+1)⟩
theorem LR.mono {m m':Mp} (hm:m.le m') {x x':List Value} (h:LR m x x'):LR m' x x':=⟨h.1,fun i=>(h.2 i).mono hm⟩
theorem LR.get {m:Mp} {l l':List Value} (h:LR m l l') {i:Nat} {v:Value} (hv:l[i]?=some v):∃ v',l'[i]?=some v'∧VR m v v':=by
 obtain ⟨hi,rfl⟩:=List.getElem?_eq_some_iff.1 hv
 have hi':i < l'.length:=h.1 ▸ hi
 refine ⟨l'[i],by simp [hi'],?_⟩
 have:=h.2 i
 simpa [List.getD_eq_getElem?_getD,hi,hi'] using this
theorem LR.append {m:Mp} {l l' k k':List Value} (h:LR m l l') (h2:LR m k k'):LR m (l++k) (l'++k'):=by
 refine ⟨by simp [h.1,h2.1],fun i=>?_⟩
 by_cases hi:i < l.length
 ·
  have hi':i < l'.length:=h.1 ▸ hi
  have:=h.2 i
  simpa [List.getD_eq_getElem?_getD,List.getElem?_append,hi,hi'] using this
 ·
  have hi':¬ i < l'.length:=h.1 ▸ hi
  have:=h2.2 (i - l.length)
  have e:=h.1
  simpa [List.getD_eq_getElem?_getD,List.getElem?_append,hi,hi',e] using this
theorem LR.drop {m:Mp} {l l':List Value} (h:LR m l l') (n:Nat):LR m (l.drop n) (l'.drop n) :=
 ⟨by simp [h.1],fun i=>by simpa [List.getD_eq_getElem?_getD,List.getElem?_drop] using h.2 (n+i)⟩
theorem LR.take {m:Mp} {l l':List Value} (h:LR m l l') (n:Nat):LR m (l.take n) (l'.take n):=by
 refine ⟨by simp [h.1],fun i=>?_⟩
 by_cases hi:i < n
 ·
  simpa [List.getD_eq_getElem?_getD,List.getElem?_take,hi] using h.2 i
 ·
  simpa [List.getD_eq_getElem?_getD,List.getElem?_take,hi] using VR.zh
theorem LR.set {m:Mp} {l l':List Value} (h:LR m l l') (n:Nat) {v v':Value} (hv:VR m v v'):LR m (l.set n v) (l'.set n v'):=by
 refine ⟨by simp [h.1],fun i=>?_⟩
 have e:=h.1
 have hh:=h.2 i
 simp only [List.getD_eq_getElem?_getD,List.getElem?_set] at hh ⊢
 by_cases hi:n=i
 ·
  subst hi
  by_cases hl:n < l.length
  ·
   simpa [hl,← e] using hv
  ·
   simpa [hl,← e] using VR.zh
 ·
  simpa [hi] using hh
theorem AR.toList {m:Mp} {x x':Array Value} (h:AR m x x'):LR m x.toList x'.toList :=
 ⟨by simpa using h.1,fun i=>by simpa [List.getD_eq_getElem?_getD,Array.getD_eq_getD_getElem?] using h.2 i⟩
theorem LR.toArray {m:Mp} {x x':List Value} (h:LR m x x'):AR m x.toArray x'.toArray :=
 ⟨by simpa using h.1,fun i=>by simpa [List.getD_eq_getElem?_getD,Array.getD_eq_getD_getElem?] using h.2 i⟩
theorem AR.iff {m:Mp} {x x':Array Value}:AR m x x' ↔ LR m x.toList x'.toList :=
 ⟨AR.toList,fun h=>by simpa using h.toArray⟩
theorem VR.cells {m:Mp} {a c:Value} (h:VR m a c):AR m a.cells c.cells:=by
 have one:∀ {a c:Value},VR m a c→AR m #[a] #[c]:=fun h=>⟨rfl,fun i=>by
  match i with
  | 0=>simpa using h
  | i+1=>simpa using VR.zh⟩
 cases h with
 | agg hx h=>exact ⟨hx,h⟩
 | bool b=>exact one (.bool b)
 | int k n=>exact one (.int k n)
 | string s=>exact one (.string s)
 | ptrNil=>exact one .ptrNil
 | ptr h=>exact one (.ptr h)
 | sliceNil=>exact one .sliceNil
 | slice h hn hl=>exact one (.slice h hn hl)
 | slice0 h hl ha=>exact one (.slice0 h hl ha)
 | sliceE a c=>exact one (.sliceE a c)
 | mapNil=>exact one .mapNil
 | map h=>exact one (.map h)
 | nilFunc=>exact one .nilFunc
 | func fn hx hc h1 h2=>exact one (.func fn hx hc h1 h2)
 | nilIface=>exact one .nilIface
 | iface t h=>exact one (.iface t h)
 | nores=>exact one .nores
 | tuple hx h=>exact one (.tuple hx h)
def ER (m:Mp) (e e':MapEntry):Prop:=e'.key=e.key∧e'.born=e.born∧VR m e.val e'.val
def KU (m:Mp) (w:World) (L:Loc):wo→Prop
 | .cells cs own esz=>L.esz=esz∧∃ cc e fr,w.heap[L.blk]?=some (.cells cc e fr)∧L.shift+cs.length≤L.lim∧L.lim≤cc.size ∧
   (∀ (j:Nat) (v:Value),cs[j]?=some v→∃ v',cc[L.shift+j]?=some v'∧VR m v v') ∧
   (own.owns=true→fr.1=fr.2∨cc.size≤fr.1)
 | .map es clock=>L.shift=0∧L.lim=1∧∃ es':Array MapEntry,w.heap[L.blk]?=some (.map es' clock)∧es.length=es'.size ∧
   ∀ (i:Nat) (e:MapEntry),es[i]?=some e→∃ e',es'[i]?=some e'∧ER m e e'
 | .dead=>True
structure Rel (B:Nat) (w0:World) (m:Mp) (H:zx) (w:World):Prop where
 below:Below B w0 w
 base:B≤w.heap.size
 obj:∀ r L o,m r=some L→H.get r=some o→KU m w L o
 lt:∀ r L,m r=some L→L.blk < w.heap.size
 own:∀ r L o,m r=some L→H.get r=some o→o.owns=true→B≤L.blk
 apart:∀ r r' L L' o o',r≠r'→m r=some L→m r'=some L'→H.get r=some o→H.get r'=some o'→o.owns=true →
  o'.alive=true→L.blk=L'.blk→L.lim≤L'.shift∨o'.hi L'.shift L'.lim≤L.shift+o.lo r' o'
 fresh:∀ r,H.next≤r→m r=none
theorem KU.mono {m m':Mp} (hm:m.le m') {w:World} {L:Loc} {o:wo} (h:KU m w L o):KU m' w L o:=by
 cases o with
 | cells cs own esz =>
  obtain ⟨h0,cc,e,fr,h1,h2,h3,h4,h5⟩:=h
  exact ⟨h0,cc,e,fr,h1,h2,h3,fun j v hj=>let ⟨v',a,b⟩:=h4 j v hj;⟨v',a,b.mono hm⟩,h5⟩
 | map es clock =>
  obtain ⟨h0,h1,es',h2,h3,h4⟩:=h
  exact ⟨h0,h1,es',h2,h3,fun i e he=>let ⟨e',a,b,c,d⟩:=h4 i e he;⟨e',a,b,c,d.mono hm⟩⟩
 | dead=>exact True.intro
theorem KU.draw {m:Mp} {w:World} {L:Loc} {o:wo} (h:KU m w L o) (n:Nat):KU m { w with drawn:=n } L o:=by
 cases o with
 | cells cs own esz=>exact h
 | map es clock=>exact h
 | dead=>exact True.intro
theorem Rel.draw {B:Nat} {w0:World} {m:Mp} {H:zx} {w:World} (h:Rel B w0 m H w) (n:Nat):Rel B w0 m H { w with drawn:=n } :=
 ⟨⟨h.below.os,h.below.tape,h.below.output,h.below.size,h.below.block⟩,h.base,fun r L o hm hg=>(h.obj r L o hm hg).draw n,h.lt,h.own,h.apart,h.fresh⟩
def Mp.add (m:Mp) (r:Nat) (L:Loc):Mp:=fun k=>if k=r then some L else m k
theorem Mp.add_same (m:Mp) (r:Nat) (L:Loc):m.add r L r=some L:=by simp [Mp.add]
theorem Mp.je {m:Mp} {r k:Nat} {L:Loc} (h:k≠r):m.add r L k=m k:=by simp [Mp.add,h]
theorem Mp.yU {m:Mp} {r:Nat} {L:Loc} (h:m r=none):m.le (m.add r L):=fun k L' hk=>by
 rw [Mp.je]
 ·
  exact hk
 ·
  rintro rfl;rw [h] at hk;cases hk
structure qA (w w1:World) (b:Obj):Prop where
 os:w1.os=w.os
 tape:w1.tape=w.tape
 output:w1.output=w.output
 size:w1.heap.size=w.heap.size+1
 old:∀ k,k < w.heap.size→w1.heap[k]?=w.heap[k]?
 new:w1.heap[w.heap.size]?=some b
theorem qA.push (w:World) (b:Obj) (n:Nat):qA w { w with heap:=w.heap.push b,drawn:=n } b :=
 ⟨rfl,rfl,rfl,by simp,fun k hk=>by show (w.heap.push b)[k]?=_;rw [Array.getElem?_push,if_neg (by omega)],by simp⟩
theorem qA.da (w:World) (b:Obj):qA w (w.drew.alloc b) b:=qA.push w b (w.drawn+1)
theorem KU.grows {m:Mp} {w w1:World} {L:Loc} {o:wo} {b:Obj} (h:KU m w L o) (hl:L.blk < w.heap.size) (hg:qA w w1 b):KU m w1 L o:=by
 cases o with
 | cells cs own esz =>
  obtain ⟨h0,cc,e,fr,h1,h2⟩:=h
  exact ⟨h0,cc,e,fr,by rw [hg.old _ hl];exact h1,h2⟩
 | map es clock =>
  obtain ⟨h0,h1,es',h2,h3⟩:=h
  exact ⟨h0,h1,es',by rw [hg.old _ hl];exact h2,h3⟩
 | dead=>exact True.intro
theorem Rel.push {B:Nat} {w0:World} {m:Mp} {H:zx} {w w1:World} (h:Rel B w0 m H w) (b:Obj) (o:wo) (L:Loc) (hb:L.blk=w.heap.size) (hw1:qA w w1 b)
  (ho:KU (m.add H.next L) w1 L o) :
  Rel B w0 (m.add H.next L) (H.push o) w1:=by
 have hle:m.le (m.add H.next L):=Mp.yU (h.fresh _ (Nat.le_refl _))
 have hsz:=hw1.size
 refine ⟨?_,?_,?_,?_,?_,?_,?_⟩
 ·
  refine ⟨hw1.os.trans h.below.os,hw1.tape.trans h.below.tape,hw1.output.trans h.below.output,?_,fun k hk=>?_⟩
  ·
   have:=h.below.size;omega
  ·
   rw [hw1.old _ (by have:=h.base;omega)];exact h.below.block k hk
 ·
  have:=h.base;omega
 ·
  intro r L' o' hr hg
  rw [zx.zQ] at hg
  by_cases e:r=H.next
  ·
   subst e
   rw [Mp.add_same] at hr
   rw [if_pos rfl] at hg
   cases hr;cases hg
   exact ho
  ·
   rw [Mp.je e] at hr
   rw [if_neg e] at hg
   exact ((h.obj r L' o' hr hg).mono hle).grows (h.lt r L' hr) hw1
 ·
  intro r L' hr
  by_cases e:r=H.next
  ·
   subst e;rw [Mp.add_same] at hr;cases hr;omega
  ·
   rw [Mp.je e] at hr;have:=h.lt r L' hr;omega
 ·
  intro r L' o' hr hg hw
  rw [zx.zQ] at hg
  by_cases e:r=H.next
  ·
   subst e;rw [Mp.add_same] at hr;cases hr;have:=h.base;omega
  ·
   rw [Mp.je e] at hr;rw [if_neg e] at hg;exact h.own r L' o' hr hg hw
 ·
  intro r r' L1 L2 o1 o2 hne h1 h2 g1 g2 hw ha hbk
  rw [zx.zQ] at g1 g2
  by_cases e1:r=H.next
  ·
   subst e1
   have e2:r'≠H.next:=fun e=>hne e.symm
   rw [Mp.add_same] at h1;cases h1
   rw [Mp.je e2] at h2
   have:=h.lt r' L2 h2;omega
  ·
   by_cases e2:r'=H.next
   ·
    subst e2
    rw [Mp.add_same] at h2;cases h2
    rw [Mp.je e1] at h1
    have:=h.lt r L1 h1;omega
   ·
    rw [Mp.je e1] at h1;rw [Mp.je e2] at h2;rw [if_neg e1] at g1;rw [if_neg e2] at g2
    exact h.apart r r' L1 L2 o1 o2 hne h1 h2 g1 g2 hw ha hbk
 ·
  intro r hr
  simp only [zx.xM] at hr
  rw [Mp.je (by omega)]
  exact h.fresh r (by omega)
end Go.Abs
namespace Go.Abs
open Go.RowKit
abbrev M (α:Type):=zx→Option (α×zx)
def ret {α:Type} (a:α):M α:=fun H=>some (a,H)
def fail {α:Type}:M α:=fun _=>none
def qV {α:Type} (P:Program):Sem α→Option α
 | .pure a=>some a
 | .program k=>qV P (k P)
 | .mark _ k=>qV P k
 | _=>none
theorem Qp {α:Type} {P:Program} (s:Sem α):∀ {a:α},qV P s=some a→∀ w:World,s.run P w=.ok a w:=by
 induction s with
 | pure b=>intro a h w;simp only [qV,Option.some.injEq] at h;subst h;rfl
 | program k ih=>intro a h w;exact ih P h w
 | mark mk k ih=>intro a h w;exact ih h w
 | _=>intro a h;simp [qV] at h
theorem zZ {α:Type} {P:Program} (a:α):qV P (Pure.pure a:Sem α)=some a:=rfl
def sg:Value→Bool
 | .bool _ | .int _ _ | .string _ | .pointer none | .slice none 0 0 | .map none | .nilFunc=>true
 | _=>false
def ground:Value→Bool
 | .agg cs=>cs.toList.all sg
 | v=>sg v
theorem WI {m:Mp} {v:Value} (h:sg v=true):VR m v v:=by
 cases v with
 | bool b=>exact .bool b
 | int k n=>exact .int k n
 | string s=>exact .string s
 | pointer a=>cases a with
  | none=>exact .ptrNil
  | some a=>simp [sg] at h
 | slice a n c=>cases a with
  | none =>
   have:n=0∧c=0:=by
    simp only [sg] at h
    split at h <;> simp_all
   rw [this.1,this.2];exact .sliceNil
  | some a=>simp [sg] at h
 | map r=>cases r with
  | none=>exact .mapNil
  | some r=>simp [sg] at h
 | nilFunc=>exact .nilFunc
 | _=>simp [sg] at h
theorem adV {m:Mp} {v v':Value} (h:sg v=true) (hv:VR m v v'):v'=v:=by
 cases hv <;> first | rfl | (simp [sg] at h)
theorem xO {l:List Value} (h:l.all sg=true) (i:Nat) {m:Mp}:VR m (l.getD i zh) (l.getD i zh):=by
 by_cases hi:i < l.length
 ·
  rw [List.getD_eq_getElem?_getD,List.getElem?_eq_getElem hi]
  exact WI (List.all_eq_true.1 h _ (List.getElem_mem hi))
 ·
  rw [List.getD_eq_getElem?_getD,List.getElem?_eq_none (Nat.le_of_not_lt hi)]
  exact VR.zh
theorem ada {m:Mp} {x x':Array Value} (h:x.toList.all sg=true) (hs:x.size=x'.size) (hv:∀ i:Nat,VR m (x.getD i zh) (x'.getD i zh)):x'=x:=by
 apply Array.ext hs.symm
 intro i h1 h2
 have:=hv i
 simp only [Array.getD_eq_getD_getElem?,Array.getElem?_eq_getElem h1,Array.getElem?_eq_getElem h2,Option.getD_some] at this
 exact adV (List.all_eq_true.1 h _ (by simp)) this
theorem yJ {m:Mp} {v v':Value} (h:ground v=true) (hv:VR m v v'):v'=v:=by
 cases hv with
 | agg hx hh=>rw [ada h hx hh]
 | tuple hx hh=>simp [ground,sg] at h
 | nores=>rfl
 | bool b=>rfl
 | int k n=>rfl
 | string s=>rfl
 | ptrNil=>rfl
 | ptr h'=>simp [ground,sg] at h
 | sliceNil=>rfl
 | slice h'=>simp [ground,sg] at h
 | slice0 h'=>simp [ground,sg] at h
 | sliceE=>simp [ground,sg] at h
 | mapNil=>rfl
 | map h'=>simp [ground,sg] at h
 | nilFunc=>rfl
 | func=>simp [ground,sg] at h
 | nilIface=>rfl
 | iface=>simp [ground,sg] at h
theorem jD {m:Mp} {v:Value} (h:ground v=true):VR m v v:=by
 cases v with
 | agg cs=>exact .agg rfl (fun i=>by simpa [List.getD_eq_getElem?_getD,Array.getD_eq_getD_getElem?] using xO (m:=m) h i)
 | bool b=>exact .bool b
 | int k n=>exact .int k n
 | string s=>exact .string s
 | pointer a=>exact WI h
 | slice a n c=>exact WI h
 | map r=>exact WI h
 | nilFunc=>exact .nilFunc
 | _=>simp [ground,sg] at h
def jq (P:Program) (args:List Value) (s:Sem Value):M Value:=fun H =>
 if args.all ground then
  match qV P s with
  | some v=>if ground v then some (v,H) else none
  | none=>none
 else none
def yc (P:Program) (t:TypeId):Option Bool :=
 match P.underlying t with
 | some (.struct _) | some (.array _ _)=>some true
 | some _=>some false
 | none=>none
def yL (P:Program) (t:TypeId):Option Nat:=(P.info? t).map (·.size)
def zeroOf (P:Program) (t:TypeId):Option Value:=(P.info? t).bind (·.zero)
def bytesOf (P:Program) (t:TypeId):Option Nat:=(P.info? t).map (·.bytes)
def wz (P:Program) (t:TypeId):Option TypeId :=
 match P.underlying t with
 | some (.slice e)=>some e
 | _=>none
def splice (cs:List Value) (o:Nat) (xs:List Value):List Value:=cs.take o++xs++cs.drop (o+xs.length)
def qL (P:Program) (e:TypeId):M Value:=fun H =>
 match zeroOf P e with
 | some z=>if ground z then some (.pointer (some ⟨H.next,0,none⟩),H.push (.cells z.cells.toList (.own []) 0)) else none
 | none=>none
def Xp (x:Value):M Value:=fun H=>some (.pointer (some ⟨H.next,0,none⟩),H.push (.cells x.cells.toList (.own []) 0))
def yZ (place:Nat→Option (Nat×Nat)):List Value→List (Nat×Value)→Option (List Value)
 | cells,[]=>some cells
 | cells,(i,v)::rest =>
  match place i with
  | none=>none
  | some (off,size)=>if v.cells.toList.length=size∧off+size≤cells.length then yZ place (splice cells off v.cells.toList) rest else none
def placesOf (P:Program):List Field→Option (List (Nat×Nat))
 | []=>some []
 | f::fs=>match yL P f.type,placesOf P fs with
  | some n,some l=>some ((f.offset,n)::l)
  | _,_=>none
def wH (P:Program) (t:TypeId) (parts:List (Nat×Value)):M Value:=fun H =>
 match zeroOf P t with
 | some z=>if ground z then
   match P.underlying t with
   | some (.struct fields)=>match placesOf P fields.toList with
    | some pl=>match yZ (pl[·]?) z.cells.toList parts with
     | some l=>some (.agg l.toArray,H)
     | none=>none
    | none=>none
   | some (.array _ e)=>match yL P e with
    | some size=>match yZ (fun i=>some (i * size,size)) z.cells.toList parts with
     | some l=>some (.agg l.toArray,H)
     | none=>none
    | none=>none
   | _=>none
  else none
 | none=>none
def zl (z:List Value) (n:Nat):List Value:=(List.range (n * z.length)).map fun i=>z.getD (i % z.length) default
def qG (P:Program) (t:TypeId) (len:Nat) (parts:List (Nat×Value)):Option (List Value×Nat) :=
 match wz P t with
 | some e=>match yL P e,zeroOf P e with
  | some size,some z =>
   if len * size≤16777216 then if z.cells.toList.length=size then if z.cells.toList.all sg then
    match yZ (fun i=>some (i * size,size)) (zl z.cells.toList len) parts with
    | some cells=>some (cells,size)
    | none=>none
   else none else none else none
  | _,_=>none
 | none=>none
def jl (P:Program) (t:TypeId) (len:Nat) (parts:List (Nat×Value)):M Value:=fun H =>
 match qG P t len parts with
 | some (cells,size)=>some (.slice (some ⟨H.next,0,none⟩) len len,H.push (.cells cells (.own []) size))
 | none=>none
def wu (P:Program) (t:TypeId) (p:Value):M Value:=fun H =>
 match p with
 | .pointer (some ⟨r,o,none⟩) =>
  match H.get r with
  | some (.cells cs _ _) =>
   match yc P t with
   | some true=>match yL P t with
    | some n=>if o+n≤cs.length then some (.agg ((cs.drop o).take n).toArray,H) else none
    | none=>none
   | some false=>match cs[o]? with
    | some v=>some (v,H)
    | none=>none
   | none=>none
  | _=>none
 | _=>none
def kW (P:Program) (t:TypeId) (p x:Value):M Value:=fun H =>
 match p with
 | .pointer (some ⟨r,o,none⟩) =>
  match H.get r with
  | some (.cells cs (.own anc) esz) =>
   match yL P t with
   | some n=>if x.cells.size=n then if x.cells.toList.all (·.oneCell') then if o+n≤cs.length then
     some (zh,(H.kills anc).set r (.cells (splice cs o x.cells.toList) (.own []) esz)) else none else none else none
   | none=>none
  | _=>none
 | _=>none
def yG (p:Value):M Value:=fun H =>
 match p with
 | .pointer (some _)=>some (p,H)
 | _=>none
def kE (d:TypeDesc) (x y:Value):Option Bool :=
 match d,x,y with
 | .pointer _,.pointer none,.pointer b=>some b.isNone
 | .pointer _,.pointer (some _),.pointer none=>some false
 | .slice _,.slice none _ _,.slice b _ _=>some b.isNone
 | .slice _,.slice (some _) _ _,.slice none _ _=>some false
 | .map _ _,.map none,.map b=>some b.isNone
 | .map _ _,.map (some _),.map none=>some false
 | _,_,_=>none
def yA (P:Program) (op:BinOp) (t:TypeId) (x y:Value):Option Bool :=
 match P.underlying t with
 | some d=>match op with
  | .eql=>kE d x y
  | .neq=>(kE d x y).map not
  | _=>none
 | none=>none
def acZ (op:BinOp) (a b:ByteArray):Option Value :=
 match op with
 | .eql=>some (.bool (decide (a.data.toList=b.data.toList)))
 | .neq=>some (.bool (!decide (a.data.toList=b.data.toList)))
 | .add=>if a.data.toList.length+b.data.toList.length≤9223372036854775807 then some (.string ⟨(a.data.toList++b.data.toList).toArray⟩) else none
 | _=>none
def kS (P:Program) (op:BinOp) (t:TypeId) (x y:Value):M Value:=fun H =>
 match x,y with
 | .int _ _,.int _ _=>jq P [x,y] (binOp op t x y) H
 | .string a,.string b=>match acZ op a b with
  | some v=>some (v,H)
  | none=>none
 | _,_ =>
  match yA P op t x y with
  | some b=>some (.bool b,H)
  | none=>jq P [x,y] (do eqGuard op t (.tmp 0) (.tmp 0) x y;binOp op t x y) H
def aUn (P:Program) (op:UnOp) (x:Value):M Value:=jq P [x] (Op.unary op x)
def WV:Value→Option UInt8
 | .int .u8 n=>some (UInt8.ofNat n.toNat)
 | _=>none
def jW:List Value→Option (List UInt8)
 | []=>some []
 | v::l=>match WV v,jW l with
  | some b,some bs=>some (b::bs)
  | _,_=>none
def jY (x:Value) (n:Nat):zx→Option (List Value):=fun H =>
 match x with
 | .slice (some ⟨r,o,none⟩) _ _ =>
  match H.get r with
  | some (.cells cs _ _)=>if o+n≤cs.length then some ((cs.drop o).take n) else none
  | _=>none
 | .slice (some ⟨_,_,some _⟩) _ _=>if n=0 then some [] else none
 | .slice none 0 0=>if n=0 then some [] else none
 | _=>none
def jS (P:Program) (src dst:TypeId) (x:Value):M Value:=fun H =>
 match x with
 | .slice _ n _ =>
  match P.underlying src,P.underlying dst with
  | some (.slice e),some .string =>
   match P.underlying e with
   | some (.int .u8)=>match jY x n H with
    | some cs=>match jW cs with
     | some bs=>some (.string ⟨bs.toArray⟩,H)
     | none=>none
    | none=>none
   | _=>none
  | some (.slice e0),some (.slice e) =>
   match P.underlying e with
   | some (.int .u8)=>if src=dst then match x with
     | .slice (some ⟨r,_,none⟩) _ _=>match H.get r with
      | some (.cells _ (.own _) _)=>some (x,H)
      | _=>none
     | _=>none
    else none
   | _=>none
  | _,_=>none
 | .string s =>
  match P.underlying src,P.underlying dst with
  | some _,some (.slice e)=>match P.underlying e with
   | some (.int .u8)=>some (.slice (some ⟨H.next,0,none⟩) s.size s.size,H.push (.cells (byteCells s) (.own []) 1))
   | _=>none
  | _,_=>jq P [x] (convert src dst x) H
 | _=>jq P [x] (convert src dst x) H
def jJ (P:Program) (t:TypeId) (l c:Value):M Value:=fun H =>
 match l,c with
 | .int _ l,.int _ c =>
  match wz P t with
  | some e=>match yL P e,zeroOf P e,bytesOf P e with
   | some size,some z,some bytes =>
    if ground z then if z.cells.size=size then if 0 < size then if 0≤l then if l≤c then if c * bytes≤140737488355328 then if c≤9223372036854775807 then
     some (.slice (some ⟨H.next,0,none⟩) l.toNat l.toNat,H.push (.cells (zl z.cells.toList l.toNat) (.own []) size)) else none else none else none else none else none else none else none
   | _,_,_=>none
  | none=>none
 | _,_=>none
def yM (d:Nat):Option Value→Option Int
 | none=>some d
 | some (.int _ i)=>some i
 | some _=>none
def yg (P:Program) (t:TypeId) (x:Value) (lo hi:Option Value):M Value:=fun H =>
 match P.underlying t,x with
 | some .string,.string _=>jq P ((x::lo.toList)++hi.toList) (Instr.slice t x lo hi none) H
 | some (.slice e),.slice a len _ =>
  match yL P e,yM 0 lo,yM len hi with
  | some size,some l,some h =>
   if 0≤l then if l≤h then if h≤len then
    match a with
    | none=>if len=0 then some (.slice none 0 0,H) else none
    | some ⟨r,o,none⟩=>match H.get r with
     | some (.cells _ _ esz)=>if esz=size then some (.slice (some ⟨r,o+l.toNat * size,none⟩) (h.toNat - l.toNat) (h.toNat - l.toNat),H) else none
     | _=>none
    | some ⟨0,0,some 0⟩=>if len=0 then some (.slice (some ⟨0,0,some 0⟩) 0 0,H) else none
    | _=>none
   else none else none else none
  | _,_,_=>none
 | _,_=>none
def jH (P:Program) (s:TypeId) (x:Value) (f:Nat):M Value:=fun H =>
 match P.underlying s,x with
 | some (.struct fields),.pointer (some ⟨r,o,none⟩) =>
  match fields[f]? with
  | some fd=>match yL P fd.type with
   | some n=>if n=0 then none else some (.pointer (some ⟨r,o+fd.offset,none⟩),H)
   | none=>none
  | none=>none
 | _,_=>none
def partOf (P:Program) (t:TypeId) (cs:Array Value) (off:Nat):Option Value :=
 match yc P t with
 | some true=>match yL P t with
  | some n=>some (.agg ((cs.toList.drop off).take n).toArray)
  | none=>none
 | some false=>cs[off]?
 | none=>none
def qN (P:Program) (t:TypeId) (x:Value) (f:Nat):M Value:=fun H =>
 match P.underlying t,x with
 | some (.struct fields),.agg cs =>
  match fields[f]? with
  | some fd=>match partOf P fd.type cs fd.offset with
   | some v=>some (v,H)
   | none=>none
  | none=>none
 | _,_=>none
def jk (P:Program) (t:TypeId) (x ix:Value):M Value:=fun H =>
 match P.underlying t,x,ix with
 | some (.slice e),.slice (some ⟨r,o,none⟩) len _,.int _ i =>
  match yL P e with
  | some size=>if 0≤i∧i < len then some (.pointer (some ⟨r,o+i.toNat * size,none⟩),H) else none
  | none=>none
 | some (.array len e),.pointer (some ⟨r,o,none⟩),.int _ i =>
  match yL P e with
  | some size=>if 0≤i∧i < len then some (.pointer (some ⟨r,o+i.toNat * size,none⟩),H) else none
  | none=>none
 | _,_,_=>none
def qh (P:Program) (t:TypeId) (x ix:Value):M Value:=fun H =>
 match P.underlying t,x,ix with
 | some (.array len e),.agg cs,.int _ i =>
  match yL P e with
  | some size=>if 0≤i∧i < len then match partOf P e cs (i.toNat * size) with
    | some v=>some (v,H)
    | none=>none
   else none
  | none=>none
 | some .string,.string _,.int _ _=>jq P [x,ix] (Instr.index t x ix) H
 | _,_,_=>none
def zG (t:Value) (i:Nat):M Value:=fun H =>
 match t with
 | .tuple vs=>match vs[i]? with
  | some v=>some (v,H)
  | none=>none
 | _=>none
def vX:TypeDesc→Value→Bool
 | .int _,.int _ _ | .string,.string _ | .bool,.bool _=>true
 | _,_=>false
def qI (P:Program) (t:TypeId) (r:Option Value):M Value:=fun H =>
 match r with
 | none=>some (.map (some H.next),H.push (.map [] 0))
 | some _=>none
def jw (P:Program) (t:TypeId) (x k:Value) (ok:Bool):M Value:=fun H =>
 match P.underlying t with
 | some (.map kt et)=>match P.underlying kt with
  | some kd =>
   if vX kd k then
    match (match x with
     | .map none=>some []
     | .map (some r)=>match H.get r with
      | some (.map es _)=>some es
      | _=>none
     | _=>none:Option (List MapEntry)) with
    | some es=>match Instr.findNow kd k es 0 with
     | some (some (_,v))=>some (if ok then .tuple #[v,.bool true] else v,H)
     | some none=>match zeroOf P et with
      | some z=>if ground z then some (if ok then .tuple #[z,.bool false] else z,H) else none
      | none=>none
     | none=>none
    | none=>none
   else none
  | none=>none
 | _=>none
def jT (P:Program) (t:TypeId) (x k v:Value):M Value:=fun H =>
 match P.underlying t with
 | some (.map kt _)=>match P.underlying kt with
  | some kd =>
   if vX kd k then
    match x with
    | .map (some r)=>match H.get r with
     | some (.map es clock)=>match Instr.findNow kd k es 0 with
      | some (some (i,_))=>some (zh,H.set r (.map (es.modify i fun e=>{ e with key:=k,val:=v }) clock))
      | some none=>some (zh,H.set r (.map (es++[{ key:=k,val:=v,born:=clock }]) (clock+1)))
      | none=>none
     | _=>none
    | _=>none
   else none
  | none=>none
 | _=>none
def wJ (P:Program) (tx:TypeId) (size:Nat) (x:Value) (H:zx):Option (Nat×List Value) :=
 match P.underlying tx,x with
 | some (.slice _),.slice _ n _=>match jY x (n * size) H with
  | some cs=>if cs.all (·.oneCell') then some (n,cs) else none
  | none=>none
 | some .string,.string s=>if size=1 then some (s.size,byteCells s) else none
 | _,_=>none
def wW (H:zx) (r:Nat) (own:Own) (cs:List Value) (fin n esz:Nat):Option (zx×List Nat) :=
 match own with
 | .ro=>none
 | .own anc=>if fin=cs.length then some (H.set r (.cells cs .ro esz),if n=0 then [] else r::anc) else some ((H.kills anc).set r .dead,[])
def yw (P:Program) (t tx:TypeId) (s x:Value):M Value:=fun H =>
 match wz P t with
 | some e=>match yL P e,zeroOf P e,bytesOf P e with
  | some size,some z,some bytes =>
   if 0 < size then if z.cells.size=size then
   match wJ P tx size x H with
   | some (k,news) =>
    match s with
    | .slice none 0 0 =>
     if k=0 then some (.slice none 0 0,H)
     else if k * bytes≤140737488355328 then if k≤4611686018427387903 then
      some (.slice (some ⟨H.next,0,none⟩) k k,H.push (.cells news (.own []) size)) else none else none
    | .slice (some ⟨r,o,none⟩) n _ =>
     match H.get r with
     | some (.cells cs own esz) =>
      if esz=size then if o+n * size≤cs.length then if (n+k) * bytes≤140737488355328 then if n+k≤4611686018427387903 then
       if ((cs.drop o).take (n * size)).all (·.oneCell') then
       match wW H r own cs (o+n * size) (n * size) size with
       | some (G,anc)=>some (.slice (some ⟨H.next,0,none⟩) (n+k) (n+k),G.push (.cells ((cs.drop o).take (n * size)++news) (.own anc) size))
       | none=>none
       else none else none else none else none else none
     | _=>none
    | _=>none
   | none=>none
   else none else none
  | _,_,_=>none
 | none=>none
def Jq (P:Program) (t tx:TypeId) (d s:Value):M Value:=fun H =>
 match wz P t with
 | some e=>match yL P e with
  | some size =>
   match d,s with
   | .slice d' dn dc,.slice s' sn sc =>
    if Nat.min sn dn=0 then some (goInt 0,H) else
    match d' with
    | some ⟨r,o,none⟩ =>
     match H.get r,jY (.slice s' sn sc) (Nat.min sn dn * size) H with
     | some (.cells cs (.own anc) esz),some news =>
      if o+Nat.min sn dn * size≤cs.length then if news.all (·.oneCell') then
       some (goInt (Nat.min sn dn),(H.kills anc).set r (.cells (splice cs o news) (.own []) esz)) else none else none
     | _,_=>none
    | _=>none
   | _,_=>none
  | none=>none
 | none=>none
def qC (P:Program) (t:TypeId) (x:Value):M Value:=fun H =>
 match wz P t,x with
 | some _,.slice none _ _=>some (zh,H)
 | some e,.slice (some ⟨r,o,none⟩) n _ =>
  if n=0 then some (zh,H) else
  match yL P e,zeroOf P e,H.get r with
  | some size,some z,some (.cells cs (.own anc) esz) =>
   if ground z then if z.cells.size=size then if z.cells.toList.all (·.oneCell') then if 0 < size then if o+n * size≤cs.length then
    some (zh,(H.kills anc).set r (.cells (splice cs o (zl z.cells.toList n)) (.own []) esz)) else none else none else none else none else none
  | _,_,_=>none
 | _,_=>none
def YI (P:Program) (t:TypeId) (x:Value):M Value:=fun H =>
 match P.underlying t,x with
 | some .string,.string s=>some (goInt s.size,H)
 | some (.array n _),_=>some (goInt n,H)
 | some (.slice _),.slice _ n _=>some (goInt n,H)
 | some (.map _ _),.map none=>some (goInt 0,H)
 | some (.map _ _),.map (some r)=>match H.get r with
  | some (.map es _)=>some (goInt es.length,H)
  | _=>none
 | _,_=>none
def yD (P:Program) (b:Builtin) (ts:Array TypeId) (ty:TypeId) (args:List Value):M Value:=fun H =>
 match b with
 | .len=>match ts.toList,args with
  | [t],[x]=>YI P t x H
  | _,_=>none
 | .append=>match ts.toList,args with
  | [t,tx],[s,x]=>yw P t tx s x H
  | _,_=>none
 | .copy=>match ts.toList,args with
  | [t,tx],[d,s]=>Jq P t tx d s H
  | _,_=>none
 | .clear=>match ts.toList,args with
  | [t],[x]=>qC P t x H
  | _,_=>none
 | .min=>jq P args (Builtin.min_ ts ty args.toArray) H
 | .max=>jq P args (Builtin.max_ ts ty args.toArray) H
 | _=>none
def Yk (c a b:Value):M Value:=fun H =>
 match c with
 | .bool t=>some (if t then a else b,H)
 | _=>none
def aOp (P:Program) (ρ:Operand→Value) (o:Oper):M Value :=
 match o.op with
 | .move x | .assign x=>ret (ρ x)
 | .pick c a b=>Yk (ρ c) (ρ a) (ρ b)
 | .alloc e=>qL P e
 | .box _ x=>Xp (ρ x)
 | .build t parts=>wH P t (parts.toList.map fun p=>(p.1,ρ p.2))
 | .buildSlice t len parts=>jl P t len (parts.toList.map fun p=>(p.1,ρ p.2))
 | .load t a=>wu P t (ρ a)
 | .store t a x=>kW P t (ρ a) (ρ x)
 | .nilCheck x=>yG (ρ x)
 | .binOp op t x y _=>kS P op t (ρ x) (ρ y)
 | .unOp op _ x=>aUn P op (ρ x)
 | .convert src dst x=>jS P src dst (ρ x)
 | .makeFunc fn first captured=>ret (.func fn (first.toList.map ρ).toArray (captured.toList.map ρ).toArray)
 | .makeMap t r=>qI P t (r.map ρ)
 | .makeSlice t l c=>jJ P t (ρ l) (ρ c)
 | .slice t x lo hi none=>yg P t (ρ x) (lo.map ρ) (hi.map ρ)
 | .fieldAddr s x f=>jH P s (ρ x) f
 | .field t x f=>qN P t (ρ x) f
 | .indexAddr t x i=>jk P t (ρ x) (ρ i)
 | .index t x i=>qh P t (ρ x) (ρ i)
 | .lookup t x i ok=>jw P t (ρ x) (ρ i) ok
 | .mapUpdate t x k v=>jT P t (ρ x) (ρ k) (ρ v)
 | .extract t i=>zG (ρ t) i
 | .call c=>match c.callee with
  | .builtin b=>yD P b c.argTypes o.type (c.args.toList.map ρ)
  | _=>fail
 | _=>fail
end Go.Abs
namespace Go.Abs
open Go.RowKit
def Sim (P:Program) (B:Nat) (w0:World) (m:Mp) (H':zx) (w:World) (s:Sem Value) (v:Value):Prop :=
 ∃ v' w' m',s.run P w=.ok v' w'∧VR m' v v'∧m.le m'∧Rel B w0 m' H' w'
section
variable {P:Program} {B:Nat} {w0:World} {m:Mp} {H H':zx} {w:World}
theorem Sim.same {s:Sem Value} {v v':Value} (hr:Rel B w0 m H w) (hs:s.run P w=.ok v' w) (hv:VR m v v'):Sim P B w0 m H w s v :=
 ⟨v',w,m,hs,hv,Mp.le_refl m,hr⟩
theorem LR.ground {l l':List Value} (h:LR m l l') (hg:l.all ground=true):l'=l:=by
 induction l generalizing l' with
 | nil=>have:=h.1;cases l' with
  | nil=>rfl
  | cons=>simp at this
 | cons v l ih =>
  cases l' with
  | nil=>have:=h.1;simp at this
  | cons v' l' =>
   simp only [List.all_cons,Bool.and_eq_true] at hg
   rw [yJ hg.1 h.head,ih h.tail hg.2]
theorem wM {args args':List Value} {s s':Sem Value} {v:Value} (hr:Rel B w0 m H w) (h:jq P args s H=some (v,H')) (ha:LR m args args')
  (hs:args'=args→s'=s):Sim P B w0 m H' w s' v:=by
 unfold jq at h
 split at h
 ·
  rename_i hg
  split at h
  ·
   rename_i u hu
   split at h
   ·
    rename_i hu2
    cases h
    refine Sim.same hr ?_ (jD hu2)
    rw [hs (ha.ground hg)]
    exact Qp _ hu w
   ·
    cases h
  ·
   cases h
 ·
  cases h
theorem vS {w:World} {b o:Nat} {cc:Array Value} {e:TypeId} {fr:Nat×Nat} (h:w.heap[b]?=some (.cells cc e fr)):w.cell? ⟨b,o,none⟩=cc[o]?:=by
 simp [World.cell?,h]
theorem YE {w:World} {b o:Nat} {cc:Array Value} {e:TypeId} {fr:Nat×Nat} (h:w.heap[b]?=some (.cells cc e fr)) (hf:¬(fr.1≤o∧o < fr.2)):w.frozen? ⟨b,o,none⟩=false:=by
 simp only [World.frozen?,h]
 obtain ⟨lo,hi⟩:=fr
 simp only [not_and,Nat.not_lt] at hf
 simp only [Bool.and_eq_false_iff,decide_eq_false_iff_not,Nat.not_le,Nat.not_lt]
 by_cases h1:lo≤o
 ·
  exact .inr (hf h1)
 ·
  exact .inl (by omega)
theorem Rel.range {r:Nat} {L:Loc} {cs:List Value} {own:Own} {esz o n:Nat} (hr:Rel B w0 m H w) (hm:m r=some L) (hg:H.get r=some (.cells cs own esz))
  (hn:o+n≤cs.length):∃ cs':List Value,LR m ((cs.drop o).take n) cs'∧w.rangeAt L.blk (L.shift+o) cs':=by
 obtain ⟨_,cc,e,fr,hb,h1,h2,h3,_⟩:=hr.obj r L _ hm hg
 refine ⟨(cc.toList.drop (L.shift+o)).take n,⟨?_,?_⟩,?_⟩
 ·
  simp only [List.length_take,List.length_drop,Array.length_toList];omega
 ·
  intro i
  by_cases hi:i < n
  ·
   have hlt:o+i < cs.length:=by omega
   obtain ⟨v',hv',hvr⟩:=h3 (o+i) cs[o+i] (by simp [hlt])
   have e1:((cs.drop o).take n).getD i zh=cs[o+i]:=by
    simp [List.getD_eq_getElem?_getD,List.getElem?_take,hi,List.getElem?_drop,hlt]
   have e2:((cc.toList.drop (L.shift+o)).take n).getD i zh=v':=by
    have:cc.toList[L.shift+o+i]?=some v':=by rw [← hv',Array.getElem?_toList,Nat.add_assoc]
    simp only [List.getD_eq_getElem?_getD,List.getElem?_take,hi,if_true,List.getElem?_drop,this,Option.getD_some]
   rw [e1,e2]
   exact hvr
  ·
   have e1:((cs.drop o).take n).getD i zh=zh:=by simp [List.getD_eq_getElem?_getD,List.getElem?_take,hi]
   have e2:((cc.toList.drop (L.shift+o)).take n).getD i zh=zh:=by simp [List.getD_eq_getElem?_getD,List.getElem?_take,hi]
   rw [e1,e2]
   exact VR.zh
 ·
  intro j v hj
  rw [vS hb]
  rw [List.getElem?_take] at hj
  split at hj
  ·
   rw [List.getElem?_drop,Array.getElem?_toList] at hj
   exact hj
  ·
   cases hj
theorem Rel.cell {r:Nat} {L:Loc} {cs:List Value} {own:Own} {esz o:Nat} {v:Value} (hr:Rel B w0 m H w) (hm:m r=some L) (hg:H.get r=some (.cells cs own esz))
  (hv:cs[o]?=some v):∃ v',w.cell? ⟨L.blk,L.shift+o,none⟩=some v'∧VR m v v':=by
 obtain ⟨_,cc,e,fr,hb,h1,h2,h3,_⟩:=hr.obj r L _ hm hg
 obtain ⟨v',h,k⟩:=h3 o v hv
 exact ⟨v',by rw [vS hb];exact h,k⟩
theorem vO {t:TypeId} (h:yc P t=some true):∃ d,P.underlying t=some d∧d.isRow=true:=by
 unfold yc at h
 split at h
 ·
  rename_i x hx;exact ⟨_,hx,rfl⟩
 ·
  rename_i x y hx;exact ⟨_,hx,rfl⟩
 ·
  cases h
 ·
  cases h
theorem xG {t:TypeId} (h:yc P t=some false) (w:World):(isAgg t).run P w=.ok false w:=by
 unfold yc at h
 split at h
 ·
  cases h
 ·
  cases h
 ·
  rename_i d h1 h2 hx
  unfold isAgg
  rw [Sem.run_bind,run_underlying hx w]
  cases d <;> first | rfl | (exact absurd rfl (h1 _)) | (exact absurd rfl (h2 _ _))
 ·
  cases h
theorem QJ {t:TypeId} {p p' v:Value} (hr:Rel B w0 m H w) (h:wu P t p H=some (v,H')) (hp:VR m p p'):Sim P B w0 m H' w (Instr.loadAt t p') v:=by
 unfold wu at h
 split at h
 ·
  rename_i r o
  cases hp with
  | @ptr _ _ L hm =>
   split at h
   ·
    rename_i cs own esz hg
    split at h
    ·
     rename_i ha
     split at h
     ·
      rename_i n hsz
      split at h
      ·
       rename_i hn
       cases h
       obtain ⟨cs',hl,hra⟩:=hr.range hm hg hn
       obtain ⟨d,hd,hd2⟩:=vO ha
       have hlen:cs'.length=n:=by rw [← hl.1];simp;omega
       refine Sim.same hr (run_loadAt_mid w L.blk (L.shift+o) t cs' d hra hd hd2 (by rw [hlen];exact hsz)) ?_
       have:=hl.toArray
       exact .agg this.1 this.2
      ·
       cases h
     ·
      cases h
    ·
     rename_i ha
     split at h
     ·
      rename_i u hu
      cases h
      obtain ⟨v',hc,hv⟩:=hr.cell hm hg hu
      refine Sim.same hr ?_ hv
      simp only [Instr.loadAt,Instr.sureAddr,Sem.run_bind,Sem.run_pure,Result.andThen_ok,loadVar,xG ha w,Bool.false_eq_true,if_false,Sem.run_ite,run_load,hc]
     ·
      cases h
    ·
     cases h
   ·
    cases h
 ·
  cases h
def abE (cc:Array Value):Nat→List Value→Array Value
 | _,[]=>cc
 | o,v::r=>abE (cc.setIfInBounds o v) (o+1) r
theorem yI (vs:List Value):∀ (cc:Array Value) (o:Nat),(abE cc o vs).size=cc.size:=by
 induction vs with
 | nil=>intro cc o;rfl
 | cons v r ih=>intro cc o;rw [abE,ih];simp
theorem ZB (vs:List Value):∀ (cc:Array Value) (o k:Nat),(abE cc o vs)[k]?=if o≤k∧k < o+vs.length∧k < cc.size then vs[k - o]? else cc[k]?:=by
 induction vs with
 | nil=>intro cc o k;rw [abE,if_neg (by simp;omega)]
 | cons v r ih =>
  intro cc o k
  rw [abE,ih]
  simp only [Array.size_setIfInBounds,List.length_cons]
  by_cases h1:o+1≤k∧k < o+1+r.length∧k < cc.size
  ·
   rw [if_pos h1,if_pos (by omega)]
   obtain ⟨j,hj⟩:∃ j,k - o=j+1:=⟨k - o - 1,by omega⟩
   rw [hj,List.getElem?_cons_succ]
   congr 1;omega
  ·
   rw [if_neg h1]
   by_cases h2:k=o
   ·
    subst h2
    by_cases h3:k < cc.size
    ·
     rw [if_pos (by omega)];simp [h3]
    ·
     rw [if_neg (by omega)];simp [h3]
   ·
    rw [Array.getElem?_setIfInBounds_ne (by omega),if_neg (by omega)]
theorem yO (b:Nat) (vs:List Value):∀ (o:Nat) (w:World) (cc:Array Value) (e:TypeId) (fr:Nat×Nat),w.heap[b]?=some (.cells cc e fr) →
  (w.setCells b o vs).heap[b]?=some (.cells (abE cc o vs) e fr):=by
 induction vs with
 | nil=>intro o w cc e fr h;exact h
 | cons v r ih =>
  intro o w cc e fr h
  rw [World.setCells,abE]
  refine ih _ _ _ _ _ ?_
  simp [World.setCell,Array.getElem?_modify,h]
theorem jZ (b:Nat) (vs:List Value):∀ (o:Nat) (w:World) (k:Nat),k≠b→(w.setCells b o vs).heap[k]?=w.heap[k]?:=by
 induction vs with
 | nil=>intro o w k h;rfl
 | cons v r ih =>
  intro o w k h
  rw [World.setCells,ih _ _ _ h,Below.heap_setCell _ _ _ _ h]
theorem vJ (b:Nat) (vs:List Value):∀ (o:Nat) (w:World),(w.setCells b o vs).os=w.os∧(w.setCells b o vs).tape=w.tape∧(w.setCells b o vs).output=w.output∧(w.setCells b o vs).heap.size=w.heap.size:=by
 induction vs with
 | nil=>intro o w;exact ⟨rfl,rfl,rfl,rfl⟩
 | cons v r ih =>
  intro o w
  rw [World.setCells]
  obtain ⟨a,b,c,d⟩:=ih (o+1) (w.setCell ⟨b,o,none⟩ v)
  exact ⟨a,b,c,by rw [d];simp [World.setCell]⟩
theorem vg {cs xs:List Value} {o:Nat} (h:o+xs.length≤cs.length):(splice cs o xs).length=cs.length:=by
 simp [splice];omega
theorem vT {cs xs:List Value} {o:Nat} (h:o+xs.length≤cs.length) (k:Nat):(splice cs o xs)[k]?=if o≤k∧k < o+xs.length then xs[k - o]? else cs[k]?:=by
 unfold splice
 have ht:(cs.take o).length=o:=by simp;omega
 by_cases h1:k < o
 ·
  rw [if_neg (by omega),List.append_assoc,List.getElem?_append_left (by omega),List.getElem?_take,if_pos h1]
 ·
  by_cases h2:k < o+xs.length
  ·
   rw [if_pos (by omega),List.append_assoc,List.getElem?_append_right (by omega),ht,List.getElem?_append_left (by omega)]
  ·
   rw [if_neg (by omega),List.getElem?_append_right (by simp;omega),List.getElem?_drop]
   congr 1
   simp
   omega
theorem wo.QF {cs:List Value} {own:Own} {esz shift lim:Nat} (h:shift+cs.length≤lim):shift+cs.length≤wo.hi shift lim (.cells cs own esz):=by
 cases own <;> simp only [wo.hi] <;> omega
theorem Rel.store {r:Nat} {L:Loc} {cs xs xs':List Value} {esz o:Nat} {anc:List Nat} (hr:Rel B w0 m H w) (hm:m r=some L) (hg:H.get r=some (.cells cs (.own anc) esz))
  (hx:LR m xs xs') (ho:o+xs.length≤cs.length) :
  w.there L.blk (L.shift+o) xs'.length∧Rel B w0 m ((H.kills anc).set r (.cells (splice cs o xs) (.own []) esz)) (w.setCells L.blk (L.shift+o) xs'):=by
 obtain ⟨hesz,cc,e,fr,hb,h1,h2,h3,h4⟩:=hr.obj r L _ hm hg
 have hlen:=hx.1
 have hB:B≤L.blk:=hr.own r L _ hm hg rfl
 obtain ⟨r1,r2,r3,r4⟩:=vJ L.blk xs' (L.shift+o) w
 have other:∀ k o',k≠r→((H.kills anc).set r (.cells (splice cs o xs) (.own []) esz)).get k=some o'→o'=.dead∨(k ∉ anc∧H.get k=some o'):=by
  intro k o' hk hg'
  rw [zx.jc,if_neg hk,zx.yT] at hg'
  by_cases ha:k ∈ anc
  ·
   rw [if_pos ha] at hg';cases hg';exact .inl rfl
  ·
   rw [if_neg ha] at hg';exact .inr ⟨ha,hg'⟩
 have same:((H.kills anc).set r (.cells (splice cs o xs) (.own []) esz)).get r=some (.cells (splice cs o xs) (.own []) esz):=by rw [zx.jc,if_pos rfl]
 have strong:∀ r' L' o',r'≠r→r' ∉ anc→m r'=some L'→H.get r'=some o'→o'.alive=true→L.blk=L'.blk→L.lim≤L'.shift∨o'.hi L'.shift L'.lim≤L.shift:=by
  intro r' L' o' hne hna hm' hg' hal hbk
  have:=hr.apart r r' L L' _ o' (fun e=>hne e.symm) hm hm' hg hg' rfl hal hbk
  simp only [wo.lo] at this
  rw [if_neg (fun h=>hna h.1)] at this
  exact this
 refine ⟨fun j hj=>⟨?_,?_⟩,?_⟩
 ·
  rw [vS hb];simp;omega
 ·
  exact YE hb (by have:=h4 rfl;omega)
 ·
  refine ⟨?_,?_,?_,?_,?_,?_,?_⟩
  ·
   refine ⟨r1.trans hr.below.os,r2.trans hr.below.tape,r3.trans hr.below.output,by rw [r4];exact hr.below.size,fun k hk=>?_⟩
   rw [jZ _ _ _ _ _ (by omega)];exact hr.below.block k hk
  ·
   rw [r4];exact hr.base
  ·
   intro r' L' o' hm' hg'
   by_cases hrr:r'=r
   ·
    subst hrr
    rw [same] at hg'
    cases hg'
    rw [hm] at hm';cases hm'
    refine ⟨hesz,_,e,fr,yO _ _ _ _ _ _ _ hb,by rw [vg ho];exact h1,by rw [yI];exact h2,?_,fun h=>by rw [yI];exact h4 rfl⟩
    intro j v hj
    rw [vT ho] at hj
    rw [ZB]
    by_cases hin:o≤j∧j < o+xs.length
    ·
     rw [if_pos hin] at hj
     rw [if_pos (by omega)]
     obtain ⟨v',hv',hvr⟩:=hx.get hj
     exact ⟨v',by rw [← hv'];congr 1;omega,hvr⟩
    ·
     rw [if_neg hin] at hj
     rw [if_neg (by omega)]
     exact h3 j v hj
   ·
    rcases other r' o' hrr hg' with rfl | ⟨hna,hg'⟩
    ·
     exact True.intro
    have hold:=hr.obj r' L' o' hm' hg'
    have hap:=strong r' L' o' hrr hna hm' hg'
    cases o' with
    | dead=>exact True.intro
    | map es clock =>
     obtain ⟨a1,a2,es',a3,a4⟩:=hold
     have:L'.blk≠L.blk:=by rintro e2;rw [e2,hb] at a3;cases a3
     exact ⟨a1,a2,es',by rw [jZ _ _ _ _ _ this];exact a3,a4⟩
    | cells cs2 own2 esz2 =>
     obtain ⟨a0,cc2,e2,fr2,a1,a2,a3,a4,a5⟩:=hold
     by_cases hbb:L'.blk=L.blk
     ·
      have hdis:=hap rfl hbb.symm
      have hhi:=wo.QF (own:=own2) (esz:=esz2) a2
      rw [hbb,hb] at a1
      cases a1
      refine ⟨a0,_,e,fr,by rw [hbb];exact yO _ _ _ _ _ _ _ hb,a2,by rw [yI];exact a3,?_,fun h=>by rw [yI];exact a5 h⟩
      intro j v hj
      have hjl:j < cs2.length:=(List.getElem?_eq_some_iff.1 hj).1
      rw [ZB,if_neg (by omega)]
      exact a4 j v hj
     ·
      exact ⟨a0,cc2,e2,fr2,by rw [jZ _ _ _ _ _ hbb];exact a1,a2,a3,a4,a5⟩
  ·
   intro r' L' hm';rw [r4];exact hr.lt r' L' hm'
  ·
   intro r' L' o' hm' hg' hw
   by_cases hrr:r'=r
   ·
    subst hrr;rw [hm] at hm';cases hm';exact hB
   ·
    rcases other r' o' hrr hg' with rfl | ⟨hna,hg'⟩
    ·
     cases hw
    ·
     exact hr.own r' L' o' hm' hg' hw
  ·
   intro ra rb La Lb oa ob hne ma mb ga gb hw hal hbk
   by_cases ea:ra=r
   ·
    subst ea
    rw [same] at ga;cases ga
    have eb:rb≠ra:=fun e=>hne e.symm
    rw [hm] at ma;cases ma
    rcases other rb ob eb gb with rfl | ⟨hnb,gb⟩
    ·
     cases hal
    ·
     have:=strong rb Lb ob eb hnb mb gb hal hbk
     simp only [wo.lo]
     omega
   ·
    rcases other ra oa ea ga with rfl | ⟨hna,ga2⟩
    ·
     cases hw
    ·
     by_cases eb:rb=r
     ·
      subst eb
      rw [same] at gb;cases gb
      rw [hm] at mb;cases mb
      have:=hr.apart ra rb La L oa _ hne ma hm ga2 hg hw rfl hbk
      have e1:wo.lo oa rb (.cells cs (.own anc) esz)=wo.lo oa rb (.cells (splice cs o xs) (.own []) esz):=by cases oa <;> rfl
      rw [← e1]
      exact this
     ·
      rcases other rb ob eb gb with rfl | ⟨hnb,gb2⟩
      ·
       cases hal
      ·
       exact hr.apart ra rb La Lb oa ob hne ma mb ga2 gb2 hw hal hbk
  ·
   exact fun r' h=>hr.fresh r' (by simpa using h)
theorem Wv {xs xs':List Value} (h:LR m xs xs') (hx:xs.all (·.oneCell')=true):∀ v ∈ xs',v.oneCell'=true:=by
 intro v hv
 obtain ⟨i,hi,rfl⟩:=List.mem_iff_getElem.1 hv
 have hi':i < xs.length:=h.1 ▸ hi
 have hvr:VR m xs[i] xs'[i]:=by
  have:=h.2 i
  simpa [List.getD_eq_getElem?_getD,hi,hi'] using this
 have h1:=List.all_eq_true.1 hx _ (List.getElem_mem hi')
 cases hh:xs'[i] <;> first | rfl | skip
 all_goals (rw [hh] at hvr;generalize xs[i]=u at *;cases hvr <;> simp [Value.oneCell'] at h1)
theorem aam {t:TypeId} {p p' x x' v:Value} (hr:Rel B w0 m H w) (h:kW P t p x H=some (v,H')) (hp:VR m p p') (hx:VR m x x') :
  v=zh∧∃ w',(Instr.storeAt t p' x').run P w=.ok () w'∧Rel B w0 m H' w':=by
 unfold kW at h
 split at h
 ·
  rename_i r o
  cases hp with
  | @ptr _ _ L hm =>
   split at h
   ·
    rename_i cs anc esz hg
    split at h
    ·
     rename_i n hsz
     split at h
     ·
      rename_i hn
      split at h
      ·
       rename_i h1
       split at h
       ·
        rename_i ho
        cases h
        refine ⟨rfl,?_⟩
        have hl:=hx.cells.toList
        have hlen:x.cells.toList.length=n:=by simpa using hn
        obtain ⟨ht,hrel⟩:=hr.store hm hg hl (by rw [hlen];exact ho)
        have hone:=Wv hl h1
        have hsz':x'.cells.size=n:=by have:=hl.1;simp at this;omega
        refine ⟨_,?_,hrel⟩
        have hst:=run_storeCells_cells (P:=P) L.blk (L.shift+o) x'.cells.toList 0 w (fun j hj=>by simpa using (ht j hj).1) (fun j hj=>by simpa using (ht j hj).2) hone
        simp only [Nat.add_zero] at hst
        cases hq:P.info? t with
        | none=>simp [yL,hq] at hsz
        | some i =>
         have hs:i.size=n:=by simpa [yL,hq] using hsz
         simp [Instr.storeAt,Instr.sureAddr,storeVar,sizeOf,typeInfo,hq,hs,hsz',hst]
       ·
        cases h
      ·
       cases h
     ·
      cases h
    ·
     cases h
   ·
    cases h
 ·
  cases h
end
end Go.Abs
namespace Go.Abs
open Go.RowKit
section
variable {P:Program} {B:Nat} {w0:World} {m:Mp} {H H':zx} {w:World}
theorem Rel.new {cs cs' tail:List Value} {own:Own} {esz:Nat} {e:TypeId} {fr:Nat×Nat} {w1:World} (hr:Rel B w0 m H w) (h:LR m cs cs')
  (hw1:qA w w1 (.cells (cs'++tail).toArray e fr)) (hfr:fr=(0,0)∨fr.1=cs'.length+tail.length) :
  ∃ L,L.blk=w.heap.size∧L.shift=0∧L.lim=cs'.length+tail.length∧L.esz=esz∧Rel B w0 (m.add H.next L) (H.push (.cells cs own esz)) w1:=by
 refine ⟨⟨w.heap.size,0,cs'.length+tail.length,esz⟩,rfl,rfl,rfl,rfl,hr.push _ _ _ rfl hw1 ?_⟩
 refine ⟨rfl,(cs'++tail).toArray,e,fr,hw1.new,?_,?_,?_,?_⟩
 ·
  have:=h.1;simp;omega
 ·
  simp
 ·
  intro j v hj
  obtain ⟨v',hv',hvr⟩:=(h.mono (Mp.yU (L:=⟨w.heap.size,0,cs'.length+tail.length,esz⟩) (hr.fresh _ (Nat.le_refl _)))).get hj
  refine ⟨v',?_,hvr⟩
  have:j < cs'.length:=(List.getElem?_eq_some_iff.1 hv').1
  simp only [Nat.zero_add,List.getElem?_toArray,List.getElem?_append_left this]
  exact hv'
 ·
  intro _
  rcases hfr with rfl | hfr
  ·
   exact .inl rfl
  ·
   right;simp;omega
theorem LR.ql {l:List Value} (h:l.all sg=true):LR m l l:=⟨rfl,fun i=>xO h i⟩
theorem jU {z:Value} (h:ground z=true):z.cells.toList.all sg=true:=by
 cases z <;> first | exact h | simpa [Value.cells,ground] using h
theorem xB {t:TypeId} {z:Value} (h:zeroOf P t=some z):∃ i,P.info? t=some i∧i.zero=some z:=by
 unfold zeroOf at h
 cases hi:P.info? t with
 | none=>simp [hi] at h
 | some i=>exact ⟨i,rfl,by simpa [hi] using h⟩
theorem yP {t:TypeId} {z:Value} (h:zeroOf P t=some z) (w:World):(zeroValue t).run P w=.ok z w:=by
 obtain ⟨i,hi,hz⟩:=xB h
 simp [zeroValue,typeInfo,hi,hz]
theorem wC {t:TypeId} {n:Nat} (h:yL P t=some n) (w:World):(sizeOf t).run P w=.ok n w:=by
 unfold yL at h
 cases hi:P.info? t with
 | none=>simp [hi] at h
 | some i=>simp [sizeOf,typeInfo,hi];simpa [hi] using h
theorem VG {e:TypeId} {v:Value} (hr:Rel B w0 m H w) (h:qL P e H=some (v,H')):Sim P B w0 m H' w (Instr.alloc e true (.tuple #[])) v:=by
 unfold qL at h
 split at h
 ·
  rename_i z hz
  split at h
  ·
   rename_i hg
   cases h
   obtain ⟨L,l1,l2,l3,l4,hrel⟩:=hr.new (esz:=0) (tail:=[]) (LR.ql (jU hg)) (qA.push w (.cells _ e (0,0)) w.drawn) (.inl rfl)
   refine ⟨.pointer (some ⟨w.heap.size,0,none⟩),_,m.add H.next L,?_,?_,Mp.yU (hr.fresh _ (Nat.le_refl _)),hrel⟩
   ·
    simp [Instr.alloc,yP hz,newVar,newRow]
   ·
    have:=VR.ptr (o:=0) (Mp.add_same m H.next L)
    rw [l1,l2] at this
    exact this
  ·
   cases h
 ·
  cases h
theorem acr {x x' v:Value} (e:TypeId) (hr:Rel B w0 m H w) (h:Xp x H=some (v,H')) (hx:VR m x x'):Sim P B w0 m H' w (Instr.box e x') v:=by
 unfold Xp at h
 cases h
 obtain ⟨L,l1,l2,l3,l4,hrel⟩:=hr.new (esz:=0) (tail:=[]) hx.cells.toList (qA.push w (.cells _ e (0,0)) w.drawn) (.inl rfl)
 refine ⟨.pointer (some ⟨w.heap.size,0,none⟩),_,m.add H.next L,?_,?_,Mp.yU (hr.fresh _ (Nat.le_refl _)),hrel⟩
 ·
  simp [Instr.box,newVar,newRow]
 ·
  have:=VR.ptr (o:=0) (Mp.add_same m H.next L)
  rw [l1,l2] at this
  exact this
theorem AR.set {x x':Array Value} (h:AR m x x') (i:Nat) {v v':Value} (hv:VR m v v'):AR m (x.setIfInBounds i v) (x'.setIfInBounds i v'):=by
 rw [AR.iff] at h ⊢
 simp only [Array.toList_setIfInBounds]
 exact h.set i hv
theorem abf (off:Nat):∀ (l l':List Value) (k:Nat) (cs cs':Array Value),LR m l l'→AR m cs cs' →
  AR m ((l.zipIdx k).foldl (fun cs (c,j)=>cs.setIfInBounds (off+j) c) cs) ((l'.zipIdx k).foldl (fun cs (c,j)=>cs.setIfInBounds (off+j) c) cs'):=by
 intro l
 induction l with
 | nil=>intro l' k cs cs' h hc;have:=h.1;cases l' with
  | nil=>exact hc
  | cons=>simp at this
 | cons v l ih =>
  intro l' k cs cs' h hc
  cases l' with
  | nil=>have:=h.1;simp at this
  | cons v' l' =>
   simp only [List.zipIdx_cons,List.foldl_cons]
   exact ih l' (k+1) _ _ h.tail (hc.set _ h.head)
def PR (m:Mp) (ps ps':List (Nat×Value)):Prop:=ps.map (·.1)=ps'.map (·.1)∧LR m (ps.map (·.2)) (ps'.map (·.2))
theorem JZ (place:Nat→Option (Nat×Nat)):∀ (ps ps':List (Nat×Value)) (cs cs':Array Value) (r:Array Value),PR m ps ps'→AR m cs cs'→Instr.fill place cs ps=some r →
  ∃ r',Instr.fill place cs' ps'=some r'∧AR m r r':=by
 intro ps
 induction ps with
 | nil =>
  intro ps' cs cs' r h hc hf
  cases ps' with
  | nil=>simp only [Instr.fill,Option.some.injEq] at hf;subst hf;exact ⟨cs',rfl,hc⟩
  | cons p l=>have:=h.1;simp at this
 | cons p ps ih =>
  intro ps' cs cs' r h hc hf
  cases ps' with
  | nil=>have:=h.1;simp at this
  | cons p' ps' =>
   obtain ⟨i,v⟩:=p
   obtain ⟨i',v'⟩:=p'
   have hi:i=i':=by have:=h.1;simp at this;exact this.1
   subst hi
   have hv:VR m v v':=h.2.head
   have htl:PR m ps ps':=⟨by have:=h.1;simp at this;exact this,h.2.tail⟩
   simp only [Instr.fill] at hf ⊢
   cases hp:place i with
   | none=>simp [hp] at hf
   | some q =>
    obtain ⟨off,size⟩:=q
    simp only [hp] at hf ⊢
    have hcs:v'.cells.size=v.cells.size:=hv.cells.1.symm
    rw [hcs,show cs'.size=cs.size from hc.1.symm]
    split at hf
    ·
     cases hf
    ·
     rename_i hcond
     rw [if_neg hcond]
     refine ih ps' _ _ r htl ?_ hf
     have:=abf off v.cells.toList v'.cells.toList 0 cs cs' hv.cells.toList hc
     rw [← Array.foldl_toList,← Array.foldl_toList]
     simpa using this
theorem Y6 {cs:List Value} {o:Nat} {v:Value} {xs:List Value} (h:o+(xs.length+1)≤cs.length):splice (cs.set o v) (o+1) xs=splice cs o (v::xs):=by
 apply List.ext_getElem?
 intro k
 rw [vT (by simp;omega),vT (by simpa using h)]
 simp only [List.getElem?_set,List.length_cons]
 by_cases h1:o+1≤k∧k < o+1+xs.length
 ·
  rw [if_pos h1,if_pos (by omega)]
  obtain ⟨j,hj⟩:∃ j,k - o=j+1:=⟨k - o - 1,by omega⟩
  rw [hj,List.getElem?_cons_succ]
  congr 1;omega
 ·
  rw [if_neg h1]
  by_cases h2:o=k
  ·
   subst h2
   rw [if_pos rfl,if_pos (by omega),if_pos (by omega)]
   simp
  ·
   rw [if_neg h2,if_neg (by omega)]
theorem Y3 (off:Nat):∀ (l:List Value) (k:Nat) (cs:Array Value),off+k+l.length≤cs.size →
  ((l.zipIdx k).foldl (fun cs (c,j)=>cs.setIfInBounds (off+j) c) cs).toList=splice cs.toList (off+k) l:=by
 intro l
 induction l with
 | nil=>intro k cs h;simp [splice]
 | cons v l ih =>
  intro k cs h
  simp only [List.zipIdx_cons,List.foldl_cons,List.length_cons] at h ⊢
  rw [ih (k+1) _ (by simp;omega),Array.toList_setIfInBounds,show off+(k+1)=off+k+1 by omega]
  exact Y6 (by simp;omega)
theorem vP (place:Nat→Option (Nat×Nat)):∀ (ps:List (Nat×Value)) (cs:Array Value) (l:List Value),yZ place cs.toList ps=some l→Instr.fill place cs ps=some l.toArray:=by
 intro ps
 induction ps with
 | nil=>intro cs l h;simp only [yZ,Option.some.injEq] at h;subst h;simp [Instr.fill]
 | cons p ps ih =>
  intro cs l h
  obtain ⟨i,v⟩:=p
  simp only [yZ] at h
  simp only [Instr.fill]
  split at h
  ·
   cases h
  ·
   rename_i off size hp
   split at h
   ·
    rename_i hc
    simp only [hp]
    have h1:v.cells.size=size:=by simpa using hc.1
    have h2:off+size≤cs.size:=by simpa using hc.2
    rw [if_neg (by simp;omega)]
    apply ih
    rw [← h]
    congr 1
    rw [← Array.foldl_toList]
    have:=Y3 off v.cells.toList 0 cs (by simp;omega)
    simpa using this
   ·
    cases h
theorem run_places {fs:List Field} {pl:List (Nat×Nat)} (h:placesOf P fs=some pl) (w:World) :
  (fs.mapM fun f=>do pure (f.offset,← sizeOf f.type):Sem (List (Nat×Nat))).run P w=.ok pl w:=by
 induction fs generalizing pl with
 | nil=>simp only [placesOf,Option.some.injEq] at h;subst h;rfl
 | cons f fs ih =>
  simp only [placesOf] at h
  split at h
  ·
   rename_i n l hn hl
   cases h
   simp only [List.mapM_cons,Sem.run_bind,wC hn,Result.andThen_ok,Sem.run_pure,ih hl]
  ·
   cases h
theorem aag {t:TypeId} {ps:List (Nat×Value)} {ps':Array (Nat×Value)} {v:Value} (hr:Rel B w0 m H w) (h:wH P t ps H=some (v,H')) (hp:PR m ps ps'.toList) :
  Sim P B w0 m H' w (Instr.build t ps') v:=by
 unfold wH at h
 split at h
 ·
  rename_i z hz
  split at h
  ·
   rename_i hg
   have har:AR m z.cells z.cells:=AR.iff.2 (LR.ql (jU hg))
   split at h
   ·
    rename_i fields hu
    split at h
    ·
     rename_i pl hpl
     split at h
     ·
      rename_i l hl
      cases h
      obtain ⟨r',hr',har'⟩:=JZ _ _ _ _ _ _ hp har (vP _ _ _ _ hl)
      refine Sim.same hr (v':=.agg r') ?_ (.agg har'.1 har'.2)
      have hm:(fields.mapM fun f=>do pure (f.offset,← sizeOf f.type):Sem (Array (Nat×Nat))).run P w=.ok pl.toArray w:=by
       rw [← Array.toArray_toList (xs:=fields)]
       rw [List.mapM_toArray,Sem.run_map,run_places hpl]
       rfl
      have hpl2:(fun x:Nat=>pl.toArray[x]?)=(fun x=>pl[x]?):=by funext x;simp
      simp only [Instr.build,Sem.run_bind,yP hz,Result.andThen_ok,run_underlying hu,hm,hpl2,hr',Sem.run_pure]
     ·
      cases h
    ·
     cases h
   ·
    rename_i n e hu
    split at h
    ·
     rename_i size hsz
     split at h
     ·
      rename_i l hl
      cases h
      obtain ⟨r',hr',har'⟩:=JZ _ _ _ _ _ _ hp har (vP _ _ _ _ hl)
      refine Sim.same hr (v':=.agg r') ?_ (.agg har'.1 har'.2)
      simp only [Instr.build,Sem.run_bind,yP hz,Result.andThen_ok,run_underlying hu,wC hsz,hr',Sem.run_pure]
     ·
      cases h
    ·
     cases h
   ·
    cases h
  ·
   cases h
 ·
  cases h
end
end Go.Abs
namespace Go.Abs
open Go.RowKit
section
variable {P:Program} {B:Nat} {w0:World} {m:Mp} {H H':zx} {w:World}
theorem yB {t e:TypeId} (h:wz P t=some e):P.underlying t=some (.slice e):=by
 unfold wz at h
 split at h
 ·
  rename_i x hx;cases h;exact hx
 ·
  cases h
theorem VR.xZ {m:Mp} {r:Nat} {L:Loc} {n c:Nat} (hm:m r=some L) (hs:L.shift=0) (hn:n≤c) (hl:c * L.esz≤L.lim) :
  VR m (.slice (some ⟨r,0,none⟩) n n) (.slice (some ⟨L.blk,0,none⟩) n c):=by
 have:=VR.slice (o:=0) (c:=c) hm hn (by rw [hs];omega)
 rw [hs] at this
 exact this
theorem Vu (place:Nat→Option (Nat×Nat)):∀ (ps:List (Nat×Value)) (cs r:Array Value),Instr.fill place cs ps=some r→r.size=cs.size:=by
 intro ps
 induction ps with
 | nil=>intro cs r h;simp only [Instr.fill,Option.some.injEq] at h;rw [h]
 | cons p ps ih =>
  intro cs r h
  obtain ⟨i,v⟩:=p
  simp only [Instr.fill] at h
  split at h
  ·
   cases h
  ·
   split at h
   ·
    cases h
   ·
    have:=ih _ _ h
    rw [this]
    rw [← Array.foldl_toList]
    generalize (v.cells.zipIdx).toList=l
    induction l generalizing cs with
    | nil=>rfl
    | cons q l ih2 =>
     rw [List.foldl_cons]
     rename_i off size _ _
     have:∀ (l:List (Value×Nat)) (a:Array Value),(List.foldl (fun cs (x:Value×Nat)=>cs.setIfInBounds (off+x.2) x.1) a l).size=a.size:=by
      intro l
      induction l with
      | nil=>intro a;rfl
      | cons q l ih=>intro a;rw [List.foldl_cons,ih];simp
     rw [this];simp
theorem aaC (z:Array Value) (n:Nat):((Array.range (n * z.size)).map (z[· % z.size]!)).toList=zl z.toList n:=by
 apply List.ext_getElem?
 intro i
 unfold zl
 simp only [Array.toList_map,Array.toList_range,List.getElem?_map,Array.length_toList]
 by_cases hi:i < n * z.size
 ·
  rw [List.getElem?_range hi]
  by_cases hlt:i % z.size < z.size
  ·
   simp [getElem!_def,hlt]
  ·
   simp [getElem!_def,hlt]
 ·
  rw [List.getElem?_eq_none (by simp;omega)]
  rfl
theorem KT:sg (default:Value)=true:=rfl
theorem adQ {z:List Value} (h:z.all sg=true) (n:Nat):(zl z n).all sg=true:=by
 rw [List.all_eq_true]
 intro x hx
 unfold zl at hx
 obtain ⟨i,hi,rfl⟩:=List.mem_map.1 hx
 by_cases h0:i % z.length < z.length
 ·
  rw [List.getD_eq_getElem?_getD,List.getElem?_eq_getElem h0]
  exact List.all_eq_true.1 h _ (by simp)
 ·
  rw [List.getD_eq_getElem?_getD,List.getElem?_eq_none (by omega)];exact KT
theorem Jp {t:TypeId} {len:Nat} {ps:List (Nat×Value)} {ps':Array (Nat×Value)} {v:Value} (hr:Rel B w0 m H w) (h:jl P t len ps H=some (v,H')) (hp:PR m ps ps'.toList) :
  Sim P B w0 m H' w (Instr.buildSlice t len ps') v:=by
 unfold jl at h
 split at h
 ·
  rename_i cells size hc
  cases h
  unfold qG at hc
  split at hc
  ·
   rename_i e he
   split at hc
   ·
    rename_i size' z hsz hz
    split at hc <;> first | cases hc | skip
    rename_i hbig
    split at hc <;> first | cases hc | skip
    rename_i hzs
    split at hc <;> first | cases hc | skip
    rename_i hsg
    split at hc
    ·
     rename_i cs hfill
     cases hc
     have hut:=yB he
     have hzs':z.cells.size=size:=by simpa using hzs
     have hbig':¬ (len * size > 2 ^ 24):=by omega
     have hall:=adQ hsg len
     rw [← aaC,hzs'] at hfill hall
     have har:AR m ((Array.range (len * size)).map (z.cells[· % size]!)) ((Array.range (len * size)).map (z.cells[· % size]!)):=AR.iff.2 (LR.ql hall)
     obtain ⟨r',hr',har'⟩:=JZ _ _ _ _ _ _ hp har (vP _ _ _ _ hfill)
     have hrs:r'.toList.length=len * size:=by
      rw [Array.length_toList,Vu _ _ _ _ hr'];simp
     obtain ⟨L,l1,l2,l3,l4,hrel⟩:=hr.new (esz:=size) (tail:=[]) har'.toList (qA.push w (.cells _ e (0,0)) w.drawn) (.inl rfl)
     have hadd:=Mp.add_same m H.next L
     refine ⟨.slice (some ⟨w.heap.size,0,none⟩) len len,_,m.add H.next L,?_,?_,Mp.yU (hr.fresh _ (Nat.le_refl _)),by simpa using hrel⟩
     ·
      by_cases h0:len * size=0
      ·
       have e0:∀ f:Nat→Value,(Array.map f (Array.range (len * size)))=#[]:=fun f=>by rw [h0];simp
       rw [e0] at hr'
       simp only [Instr.buildSlice,Sem.run_bind,run_underlying hut,Result.andThen_ok,wC hsz,hbig',if_false,e0]
       simp only [h0,if_true,Sem.run_pure,hr',newRow,run_newObj]
       simp
      ·
       simp only [Instr.buildSlice,Sem.run_bind,run_underlying hut,Result.andThen_ok,wC hsz,hbig',if_false,h0,yP hz,Sem.run_pure,hzs',hr',newRow,run_newObj]
       simp
     ·
      have:=VR.xZ (n:=len) (c:=len) hadd l2 (Nat.le_refl _) (by rw [l4,l3];simp [hrs])
      rw [l1] at this
      exact this
    ·
     cases hc
   ·
    cases hc
  ·
   cases hc
 ·
  cases h
theorem X0 {d:TypeDesc} {t:TypeId} {x y x' y':Value} {b:Bool} (hu:P.underlying t=some d) (h:kE d x y=some b) (hx:VR m x x') (hy:VR m y y') (w:World) :
  (Op.equal t x' y').run P w=.ok b w:=by
 unfold kE at h
 unfold Op.equal Op.maxDepth
 rw [show (10000:Nat)=9999+1 from rfl]
 generalize 9999=d
 split at h
 ·
  cases h;cases hx;cases hy <;> simp [Op.equalIn,run_underlying hu]
 ·
  cases h;cases hy;cases hx <;> simp [Op.equalIn,run_underlying hu]
 ·
  cases h;cases hx;cases hy <;> simp [Op.equalIn,run_underlying hu]
 ·
  cases h;cases hy;cases hx <;> simp [Op.equalIn,run_underlying hu]
 ·
  cases h;cases hx;cases hy <;> simp [Op.equalIn,run_underlying hu]
 ·
  cases h;cases hy;cases hx <;> simp [Op.equalIn,run_underlying hu]
 ·
  cases h
theorem YZ {d:TypeDesc} {x y:Value} {b:Bool} (h:kE d x y=some b):(∃ a c,x=.pointer a∧y=.pointer c)∨(∃ a n k c n' k',x=.slice a n k∧y=.slice c n' k')∨(∃ a c,x=.map a∧y=.map c):=by
 unfold kE at h
 split at h <;> first | cases h | skip
 ·
  exact .inl ⟨_,_,rfl,rfl⟩
 ·
  exact .inl ⟨_,_,rfl,rfl⟩
 ·
  exact .inr (.inl ⟨_,_,_,_,_,_,rfl,rfl⟩)
 ·
  exact .inr (.inl ⟨_,_,_,_,_,_,rfl,rfl⟩)
 ·
  exact .inr (.inr ⟨_,_,rfl,rfl⟩)
 ·
  exact .inr (.inr ⟨_,_,rfl,rfl⟩)
theorem VR.pointer' {a:Option Addr} {c:Value} (h:VR m (.pointer a) c):∃ a',c=.pointer a':=by
 cases h <;> exact ⟨_,rfl⟩
theorem VR.slice' {a:Option Addr} {n k:Nat} {c:Value} (h:VR m (.slice a n k) c):∃ a' k',c=.slice a' n k':=by
 cases h <;> exact ⟨_,_,rfl⟩
theorem VR.map' {a:Option Nat} {c:Value} (h:VR m (.map a) c):∃ a',c=.map a':=by
 cases h <;> exact ⟨_,rfl⟩
def _root_.Go.Value.isNilIface:Value→Bool
 | .nilIface=>true
 | _=>false
theorem sim_bin {op : BinOp} {t : TypeId} {x y x' y' v : Value} (ox oy : Operand) (hr : Rel B w0 m H w) (h : kS P op t x y H = some (v, H')) (hx : VR m x x') (hy : VR m y y') :
    Sim P B w0 m H' w (do eqGuard op t ox oy x' y'; binOp op t x' y') v := by
  unfold kS at h
  have hlr : LR m [x, y] [x', y'] := .cons hx (.cons hy .nil)
  have guardless : ∀ {a b : Value}, (∀ (c : Array Value), a ≠ .agg c) → a ≠ .nilIface → (eqGuard op t ox oy a b) = pure () := by
    intro a b h1 h2
    unfold eqGuard
    cases op <;> simp only [Bool.not_true, Bool.not_false, Bool.false_eq_true, if_false, if_true] <;> first
      | rfl
      | (split
         · exact absurd rfl h2
         · exact absurd rfl (h1 _)
         · rfl)
  split at h
  · refine wM hr h hlr ?_
    intro e
    simp only [List.cons.injEq, and_true] at e
    rw [e.1, e.2, guardless (fun c hc => by cases hc) (fun hc => by cases hc)]
    simp only [pure_bind]
  · rename_i a b
    cases hx; cases hy
    split at h
    · rename_i u hu
      cases h
      have hlist : ∀ s : ByteArray, s.toList = s.data.toList := fun s => ByteArray.toList_eq s
      have hg0 : eqGuard op t ox oy (.string a) (.string b) = pure () := guardless (fun c hc => by cases hc) (fun hc => by cases hc)
      rw [hg0]
      simp only [pure_bind]
      unfold acZ at hu
      cases op <;> simp only at hu <;> first | (cases hu; done) | skip
      · split at hu
        · rename_i hle
          cases hu
          refine Sim.same hr (v' := .string (a ++ b)) ?_ ?_
          · simp only [binOp, Op.stringOp]
            have : ¬ (((a.size + b.size : Nat) : Int) > IntKind.i64.max) := by
              have e1 : a.data.toList.length = a.size := by rw [Array.length_toList]; rfl
              have e2 : b.data.toList.length = b.size := by rw [Array.length_toList]; rfl
              have e3 : IntKind.i64.max = 9223372036854775807 := rfl
              omega
            rw [if_neg this]; rfl
          · have : a ++ b = ⟨(a.data.toList ++ b.data.toList).toArray⟩ := by
              apply ByteArray.ext
              simp
            rw [this]; exact .string _
        · cases hu
      · cases hu
        refine Sim.same hr ?_ (.bool _)
        simp only [binOp, Op.stringOp, hlist, Sem.run_pure]
        congr 2
        rw [Bool.eq_iff_iff]; simp
      · cases hu
        refine Sim.same hr ?_ (.bool _)
        simp only [binOp, Op.stringOp, hlist, Sem.run_pure]
        congr 3
        rw [Bool.eq_iff_iff]; simp
    · cases h
  · split at h
    · rename_i b hb
      cases h
      refine Sim.same hr (v' := .bool b) ?_ (.bool b)
      unfold yA at hb
      split at hb
      · rename_i d hd
        have hne : (eqGuard op t ox oy x' y') = pure () ∨ True := .inr trivial
        have main : ∀ c, kE d x y = some c → (eqGuard op t ox oy x' y' = pure ()) ∧ (∀ w : World, (Op.equal t x' y').run P w = .ok c w) ∧ (∃ z1 z2, (x' = .pointer z1 ∧ y' = .pointer z2)) ∨ (eqGuard op t ox oy x' y' = pure ()) ∧ (∀ w : World, (Op.equal t x' y').run P w = .ok c w) ∧ ((∃ a n k c n' k', x' = .slice a n k ∧ y' = .slice c n' k') ∨ (∃ a c, x' = .map a ∧ y' = .map c)) := by
          intro c hc
          have hq := X0 hd hc hx hy
          rcases YZ hc with ⟨a, c', rfl, rfl⟩ | ⟨a, n, k, c', n', k', rfl, rfl⟩ | ⟨a, c', rfl, rfl⟩
          · obtain ⟨a', rfl⟩ := hx.pointer'
            obtain ⟨c', rfl⟩ := hy.pointer'
            exact .inl ⟨guardless (fun _ hc => by cases hc) (fun hc => by cases hc), hq, _, _, rfl, rfl⟩
          · obtain ⟨a', k', rfl⟩ := hx.slice'
            obtain ⟨c', k'', rfl⟩ := hy.slice'
            exact .inr ⟨guardless (fun _ hc => by cases hc) (fun hc => by cases hc), hq, .inl ⟨_, _, _, _, _, _, rfl, rfl⟩⟩
          · obtain ⟨a', rfl⟩ := hx.map'
            obtain ⟨c', rfl⟩ := hy.map'
            exact .inr ⟨guardless (fun _ hc => by cases hc) (fun hc => by cases hc), hq, .inr ⟨_, _, rfl, rfl⟩⟩
        cases op <;> simp only at hb <;> first | (cases hb; done) | skip
        · rcases main b hb with ⟨hg, hq, z1, z2, rfl, rfl⟩ | ⟨hg, hq, ⟨_, _, _, _, _, _, rfl, rfl⟩ | ⟨_, _, rfl, rfl⟩⟩ <;>
            (rw [hg]; simp [binOp, hq])
        · cases hn : kE d x y with
          | none => simp [hn] at hb
          | some c =>
            simp only [hn, Option.map_some, Option.some.injEq] at hb
            subst hb
            rcases main c hn with ⟨hg, hq, z1, z2, rfl, rfl⟩ | ⟨hg, hq, ⟨_, _, _, _, _, _, rfl, rfl⟩ | ⟨_, _, rfl, rfl⟩⟩ <;>
              (rw [hg]; simp [binOp, hq])
      · cases hb
    ·
      refine wM hr h hlr ?_
      intro e
      simp only [List.cons.injEq, and_true] at e
      rw [e.1, e.2]
      have hgr : x.isNilIface = false := by
        unfold jq at h
        split at h
        · rename_i hg
          simp only [List.all_cons, Bool.and_eq_true] at hg
          cases x <;> first | rfl | simp [ground, sg] at hg
        · cases h
      congr 1
      unfold eqGuard
      cases op <;> first | rfl | (cases x <;> first | rfl | (cases y <;> rfl) | (exact absurd hgr (by simp [Value.isNilIface])))
theorem adi {op:UnOp} {x x' v:Value} (hr:Rel B w0 m H w) (h:aUn P op x H=some (v,H')) (hx:VR m x x'):Sim P B w0 m H' w (Op.unary op x') v :=
 wM hr h (.cons hx .nil) (fun e=>by simp only [List.cons.injEq,and_true] at e;rw [e])
theorem Yf {p p' v:Value} (h:yG p H=some (v,H')) (hp:VR m p p'):H'=H∧v=p∧∃ a,p'=.pointer (some a):=by
 unfold yG at h
 split at h
 ·
  cases h
  cases hp
  exact ⟨rfl,rfl,_,rfl⟩
 ·
  cases h
theorem Rel.cells {x x':Value} {n:Nat} {cs:List Value} (hr:Rel B w0 m H w) (h:jY x n H=some cs) (hx:VR m x x') (hn:0 < n→∀ k a c,x=.slice a k c→0 < k) :
  cs.length=n∧∃ cs',LR m cs cs'∧((∃ (ad:Addr) (k c:Nat),x'=.slice (some ad) k c∧∀ (j:Nat) (u:Value),cs'[j]?=some u→w.cell? (ad.add j)=some u)∨(x'=.slice none 0 0∧cs'=[])):=by
 unfold jY at h
 split at h
 ·
  rename_i r o n' c'
  split at h
  ·
   rename_i ccs own esz hg
   split at h
   ·
    rename_i hle
    cases h
    refine ⟨by simp;omega,?_⟩
    cases hx with
    | @slice _ _ L _ c hm h1 h2 =>
     obtain ⟨cs',hl,hra⟩:=hr.range hm hg hle
     refine ⟨cs',hl,.inl ⟨_,_,_,rfl,fun j u hj=>?_⟩⟩
     rw [Addr.add_mid]
     exact hra j u hj
    | @slice0 _ _ L a hm h1 ha =>
     have hn0:n=0:=by
      by_cases h0:0 < n
      ·
       have:=hn h0 _ _ _ rfl;omega
      ·
       omega
     subst hn0
     exact ⟨[],by simpa using LR.nil,.inl ⟨_,_,_,rfl,fun j u hj=>by simp at hj⟩⟩
   ·
    cases h
  ·
   cases h
 ·
  split at h
  ·
   rename_i h0
   cases h
   subst h0
   cases hx
   exact ⟨rfl,[],LR.nil,.inl ⟨_,_,_,rfl,fun j u hj=>by simp at hj⟩⟩
  ·
   cases h
 ·
  split at h
  ·
   rename_i h0
   cases h
   cases hx
   exact ⟨by simp [h0],[],LR.nil,.inr ⟨rfl,rfl⟩⟩
  ·
   cases h
 ·
  cases h
theorem ZW {v:Value} {b:UInt8} (h:WV v=some b):∃ n,v=.int .u8 n∧b=UInt8.ofNat n.toNat:=by
 unfold WV at h
 split at h
 ·
  cases h;exact ⟨_,rfl,rfl⟩
 ·
  cases h
theorem KO {cs cs':List Value} {bs:List UInt8} (h:jW cs=some bs) (hl:LR m cs cs'):cs'=cs:=by
 induction cs generalizing cs' bs with
 | nil=>have:=hl.1;cases cs' with
  | nil=>rfl
  | cons=>simp at this
 | cons v cs ih =>
  cases cs' with
  | nil=>have:=hl.1;simp at this
  | cons v' cs' =>
   simp only [jW] at h
   split at h
   ·
    rename_i b bs' hb hbs
    cases h
    obtain ⟨n,rfl,rfl⟩:=ZW hb
    have:=hl.head
    cases this
    rw [ih hbs hl.tail]
   ·
    cases h
theorem Wh {P:Program}:∀ (cs:List Value) (bs:List UInt8) (s0:ByteArray) (w:World),jW cs=some bs →
  (forIn cs.toArray s0 (fun c s=>do
   match c with
   | .int .u8 n=>pure (ForInStep.yield (s.push (UInt8.ofNat n.toNat)))
   | _=>do
    stuck "bytesToString: byte expected"
    pure (ForInStep.yield s)):Sem ByteArray).run P w=.ok ⟨s0.data++bs.toArray⟩ w:=by
 intro cs
 simp only [List.forIn_toArray]
 induction cs with
 | nil =>
  intro bs s0 w h
  simp only [jW,Option.some.injEq] at h
  subst h
  simp
 | cons v cs ih =>
  intro bs s0 w h
  simp only [jW] at h
  split at h
  ·
   rename_i b bs' hb hbs
   cases h
   obtain ⟨n,rfl,rfl⟩:=ZW hb
   simp only [List.forIn_cons,Sem.run_bind,Sem.run_pure,Result.andThen_ok]
   rw [ih bs' _ w hbs]
   simp [ByteArray.push]
  ·
   cases h
theorem Rel.mark {r:Nat} {L:Loc} {cs:List Value} {esz:Nat} {anc:List Nat} (hr:Rel B w0 m H w) (hm:m r=some L) (hg:H.get r=some (.cells cs (.own anc) esz)) (a:Addr) (ha:a.block=L.blk) :
  ∃ w',(markStringish a).run P w=.ok () w'∧Rel B w0 m H w':=by
 obtain ⟨hesz,cc,e,fr,hb,h1,h2,h3,h4⟩:=hr.obj r L _ hm hg
 have hB:B≤L.blk:=hr.own r L _ hm hg rfl
 obtain ⟨lo,hi⟩:=fr
 have hsh:w.shape? a.block=some (e,cc.size):=by simp [World.shape?,ha,hb]
 refine ⟨w.freeze ⟨a.block,cc.size,none⟩ 1,by simp [markStringish,hsh],?_⟩
 have hblk:(w.freeze ⟨a.block,cc.size,none⟩ 1).heap[L.blk]?=some (.cells cc e (if lo == hi then (cc.size,cc.size+1) else (min lo cc.size,max hi (cc.size+1)))):=by
  simp [World.freeze,ha,Array.getElem?_modify,hb]
 have hoth:∀ k,k≠L.blk→(w.freeze ⟨a.block,cc.size,none⟩ 1).heap[k]?=w.heap[k]?:=by
  intro k hk
  simp [World.freeze,ha,Array.getElem?_modify,Ne.symm hk]
 have hsz:(w.freeze ⟨a.block,cc.size,none⟩ 1).heap.size=w.heap.size:=by simp [World.freeze]
 refine ⟨⟨hr.below.os,hr.below.tape,hr.below.output,by rw [hsz];exact hr.below.size,fun k hk=>by rw [hoth k (by omega)];exact hr.below.block k hk⟩,by rw [hsz];exact hr.base,?_,?_,hr.own,hr.apart,hr.fresh⟩
 ·
  intro r' L' o' hm' hg'
  have hold:=hr.obj r' L' o' hm' hg'
  cases o' with
  | dead=>exact True.intro
  | map es clock =>
   obtain ⟨a1,a2,es',a3,a4⟩:=hold
   have:L'.blk≠L.blk:=by rintro e2;rw [e2,hb] at a3;cases a3
   exact ⟨a1,a2,es',by rw [hoth _ this];exact a3,a4⟩
  | cells cs2 own2 esz2 =>
   obtain ⟨a0,cc2,e2,fr2,a1,a2,a3,a4,a5⟩:=hold
   by_cases hbb:L'.blk=L.blk
   ·
    rw [hbb,hb] at a1
    cases a1
    refine ⟨a0,cc,e,_,by rw [hbb];exact hblk,a2,a3,a4,fun h=>.inr ?_⟩
    have:=a5 h
    by_cases hlh:(lo == hi)=true
    ·
     rw [if_pos hlh];exact Nat.le_refl _
    ·
     rw [if_neg hlh]
     have hne:lo≠hi:=by simpa using hlh
     dsimp only at this ⊢
     omega
   ·
    exact ⟨a0,cc2,e2,fr2,by rw [hoth _ hbb];exact a1,a2,a3,a4,a5⟩
 ·
  intro r' L' hm';rw [hsz];exact hr.lt r' L' hm'
theorem aa3 {src dst:TypeId} {x x' v:Value} (hr:Rel B w0 m H w) (h:jS P src dst x H=some (v,H')) (hx:VR m x x'):Sim P B w0 m H' w (convert src dst x') v:=by
 unfold jS at h
 split at h
 ·
  rename_i a n c
  split at h
  ·
   rename_i e hs hd
   split at h
   ·
    rename_i he
    split at h
    ·
     rename_i cs hcs
     split at h
     ·
      rename_i bs hbs
      cases h
      obtain ⟨hlen,cs',hl,hh⟩:=hr.cells hcs hx (fun h0 k a' c' e=>by cases e;exact h0)
      have heq:=KO hbs hl
      subst heq
      refine Sim.same hr ?_ (.string _)
      rcases hh with ⟨ad,k,c',rfl,hc⟩ | ⟨rfl,rfl⟩
      ·
       have hk:k=n:=by cases hx <;> rfl
       subst hk
       have hload:=run_loadCells_list (P:=P) w ad cs' hc
       rw [hlen] at hload
       have:=Wh (P:=P) cs' bs .empty w hbs
       simp only [convert,Sem.run_bind,run_underlying hs,run_underlying hd,Result.andThen_ok,run_underlying he,Conv.bytesToString,hload]
       refine (congrArg (fun r=>Result.andThen r fun a w'=>Sem.run P (pure (Value.string a)) w') this).trans ?_
       simp [ByteArray.empty,ByteArray.emptyWithCapacity]
       rfl
      ·
       simp only [jW,Option.some.injEq] at hbs
       subst hbs
       simp only [convert,Sem.run_bind,run_underlying hs,run_underlying hd,Result.andThen_ok,run_underlying he,Conv.bytesToString]
       rfl
     ·
      cases h
    ·
     cases h
   ·
    cases h
  ·
   rename_i e0 e hs hd
   split at h
   ·
    rename_i he
    split at h
    ·
     rename_i hsd
     split at h
     ·
      rename_i r o n' c' heq
      split at h
      ·
       rename_i cs esz hg
       cases h
       cases heq
       have fin:∀ (L:Loc) (a:Addr) (k:Nat),m r=some L→a.block=L.blk→x'=.slice (some a) n k→Sim P B w0 m H w (convert src dst x') (.slice (some ⟨r,o,none⟩) n c):=by
        intro L a k hm ha hx'
        obtain ⟨w',hrun,hrel⟩:=hr.mark (P:=P) hm hg a ha
        refine ⟨x',w',m,?_,hx,Mp.le_refl m,hrel⟩
        subst hx'
        subst hsd
        obtain rfl:e0=e:=by
         rw [hs] at hd
         injection hd with hd
         injection hd
        simp [convert,run_underlying hs,run_underlying he,hrun]
       cases hx with
       | @slice _ _ L _ k hm h1 h2=>exact fin L _ k hm rfl rfl
       | @slice0 _ _ L a hm h1 ha=>exact fin L a 0 hm ha rfl
      ·
       cases h
     ·
      cases h
    ·
     cases h
   ·
    cases h
  ·
   cases h
 ·
  rename_i s
  split at h
  ·
   rename_i u e hs hd
   split at h
   ·
    rename_i he
    cases h
    cases hx
    have hrun:=Lib.run_convert_string_bytes (P:=P) w src dst e s hs hd he
    have hge:=grownCap_ge w s.size 0 e
    have hg:qA w (Lib.bytesWorld w e s) (.cells (byteCells s++List.replicate (grownCap w s.size 0 e - s.size) (Value.int .u8 0)).toArray e ((Lib.bytesCells w e s).size,(Lib.bytesCells w e s).size+1)):=by
     refine ⟨rfl,rfl,rfl,Lib.bytesWorld_size w e s,fun k hk=>Lib.bytesWorld_at_old w e s k hk,?_⟩
     rw [Lib.bytesWorld_at_new]
     congr 2
     apply Array.ext'
     simp [Lib.bytesCells,byteCells]
    have hsz:(Lib.bytesCells w e s).size=s.size+(grownCap w s.size 0 e - s.size):=by
     simp [Lib.bytesCells]
    obtain ⟨L,l1,l2,l3,l4,hrel⟩:=hr.new (esz:=1) (LR.ql (by
     rw [List.all_eq_true];intro x hx;obtain ⟨_,_,rfl⟩:=List.mem_map.1 hx;rfl)) hg (.inr (by simp [hsz,byteCells_length]))
    refine ⟨_,_,m.add H.next L,hrun,?_,Mp.yU (hr.fresh _ (Nat.le_refl _)),hrel⟩
    have:=VR.xZ (n:=s.size) (c:=grownCap w s.size 0 e) (Mp.add_same m H.next L) l2 hge (by rw [l4,l3,byteCells_length];simp;omega)
    rw [l1] at this
    exact this
   ·
    cases h
  ·
   exact wM hr h (.cons hx .nil) (fun e=>by simp only [List.cons.injEq,and_true] at e;rw [e])
 ·
  exact wM hr h (.cons hx .nil) (fun e=>by simp only [List.cons.injEq,and_true] at e;rw [e])
end
end Go.Abs
namespace Go.Abs
open Go.RowKit
section
variable {P:Program} {B:Nat} {w0:World} {m:Mp} {H H':zx} {w:World}
theorem XQ {z:List Value} {p:Value→Bool} (h:z.all p=true) (hd:p default=true∨0 < z.length) (n:Nat):(zl z n).all p=true:=by
 rw [List.all_eq_true]
 intro x hx
 unfold zl at hx
 obtain ⟨i,hi,rfl⟩:=List.mem_map.1 hx
 by_cases h0:i % z.length < z.length
 ·
  rw [List.getD_eq_getElem?_getD,List.getElem?_eq_getElem h0]
  exact List.all_eq_true.1 h _ (by simp)
 ·
  rcases hd with hd | hd
  ·
   rw [List.getD_eq_getElem?_getD,List.getElem?_eq_none (by omega)];exact hd
  ·
   exact absurd (Nat.mod_lt _ hd) h0
theorem Ym (z:List Value) (n:Nat):(zl z n).length=n * z.length:=by simp [zl]
theorem ab5 (z:Array Value) (n k:Nat) (hk:n * z.size≤k) (h0:0 < z.size):(madeCells z k).toList.take (n * z.size)=zl z.toList n:=by
 apply List.ext_getElem?
 intro i
 unfold madeCells zl
 simp only [Array.toList_map,Array.toList_range,List.getElem?_take,Array.length_toList,List.getElem?_map]
 by_cases hi:i < n * z.size
 ·
  rw [if_pos hi,List.getElem?_range (by omega),List.getElem?_range hi]
  have hlt:i % z.size < z.size:=Nat.mod_lt _ h0
  simp [getElem!_def,hlt]
 ·
  rw [if_neg hi,List.getElem?_eq_none (by simp;omega)]
  rfl
theorem Wq {t:TypeId} {l c l' c' v:Value} (hr:Rel B w0 m H w) (h:jJ P t l c H=some (v,H')) (hl:VR m l l') (hc:VR m c c') :
  Sim P B w0 m H' w (Instr.makeSlice t l' c') v:=by
 unfold jJ at h
 split at h
 ·
  rename_i kl li kc ci
  cases hl;cases hc
  split at h
  ·
   rename_i e he
   split at h
   ·
    rename_i size z bytes hsz hz hb
    split at h <;> first | cases h | skip
    rename_i hg
    split at h <;> first | cases h | skip
    rename_i hzs
    split at h <;> first | cases h | skip
    rename_i hpos
    split at h <;> first | cases h | skip
    rename_i h0
    split at h <;> first | cases h | skip
    rename_i hlc
    split at h <;> first | cases h | skip
    rename_i hbig
    split at h <;> first | cases h | skip
    rename_i h63
    obtain ⟨i,hi,hiz⟩:=xB hz
    have his:i.size=size:=by simpa [yL,hi] using hsz
    have hib:i.bytes=bytes:=by simpa [bytesOf,hi] using hb
    have hmul:(i.bytes:Int) * ci=ci * bytes:=by rw [hib,Int.mul_comm]
    have hrun:=run_make (P:=P) w t e i z (yB he) hi hiz kl kc li ci h0 hlc (by rw [hmul];omega) h63
    subst hzs
    rw [his] at hrun
    have hle:li.toNat * z.cells.size≤ci.toNat * z.cells.size:=Nat.mul_le_mul_right _ (by omega)
    have hmade:=ab5 z.cells li.toNat (ci.toNat * z.cells.size) hle hpos
    have hg1:qA w (w.alloc (.cells (madeCells z.cells (ci.toNat * z.cells.size)) e)) (.cells (zl z.cells.toList li.toNat++(madeCells z.cells (ci.toNat * z.cells.size)).toList.drop (li.toNat * z.cells.size)).toArray e (0,0)):=by
     rw [← hmade,List.take_append_drop]
     simpa using qA.push w (.cells (madeCells z.cells (ci.toNat * z.cells.size)) e (0,0)) w.drawn
    obtain ⟨L,l1,l2,l3,l4,hrel⟩:=hr.new (esz:=z.cells.size) (LR.ql (XQ (jU hg) (.inr (by simpa using hpos)) li.toNat)) hg1 (.inl rfl)
    refine ⟨_,_,m.add H.next L,hrun,?_,Mp.yU (hr.fresh _ (Nat.le_refl _)),hrel⟩
    have hlim:L.lim=ci.toNat * z.cells.size:=by
     rw [l3,Ym]
     simp [madeCells]
     omega
    have:=VR.xZ (n:=li.toNat) (c:=ci.toNat) (Mp.add_same m H.next L) l2 (by omega) (by rw [l4,hlim];exact Nat.le_refl _)
    rw [l1] at this
    exact this
   ·
    cases h
  ·
   cases h
 ·
  cases h
theorem Jv {d:Nat} {o o':Option Value} {i:Int} (h:yM d o=some i) (ho:o=none∧o'=none∨∃ v v',o=some v∧o'=some v'∧VR m v v') :
  (o'=none∧i=d)∨∃ k,o'=some (.int k i):=by
 rcases ho with ⟨rfl,rfl⟩ | ⟨v,v',rfl,rfl,hv⟩
 ·
  simp only [yM,Option.some.injEq] at h;exact .inl ⟨rfl,h.symm⟩
 ·
  unfold yM at h
  split at h
  ·
   rename_i hh;cases hh
  ·
   rename_i k i' hh;cases hh;cases h;cases hv;exact .inr ⟨_,rfl⟩
  ·
   cases h
theorem X3 {t:TypeId} {x x' v:Value} {lo hi lo' hi':Option Value} (hr:Rel B w0 m H w) (h:yg P t x lo hi H=some (v,H')) (hx:VR m x x')
  (hlo:lo=none∧lo'=none∨∃ v v',lo=some v∧lo'=some v'∧VR m v v') (hhi:hi=none∧hi'=none∨∃ v v',hi=some v∧hi'=some v'∧VR m v v') :
  Sim P B w0 m H' w (Instr.sliceAt t x' lo' hi' none) v:=by
 have notArr:(∃ d,P.underlying t=some d∧(∀ n e,d≠.array n e))→∀ w:World,(Instr.sliceAt t x' lo' hi' none).run P w=(Instr.slice t x' lo' hi' none).run P w:=by
  rintro ⟨d,hd,hne⟩ w
  unfold Instr.sliceAt
  rw [Sem.run_bind,run_underlying hd]
  cases d <;> first | rfl | exact absurd rfl (hne _ _)
 unfold yg at h
 split at h
 ·
  rename_i s hu
  have hopt:∀ {o o':Option Value},(o=none∧o'=none∨∃ v v',o=some v∧o'=some v'∧VR m v v')→LR m o.toList o'.toList:=by
   rintro o o' (⟨rfl,rfl⟩ | ⟨v,v',rfl,rfl,hv⟩)
   ·
    exact .nil
   ·
    exact .cons hv .nil
  have hlr:LR m ((Value.string s::lo.toList)++hi.toList) ((x'::lo'.toList)++hi'.toList):=(LR.cons hx (hopt hlo)).append (hopt hhi)
  obtain ⟨v',w',m',h1,h2⟩:=wM (s':=Instr.slice t x' lo' hi' none) hr h hlr (fun e=>by
   rcases hlo with ⟨rfl,rfl⟩ | ⟨a,a',rfl,rfl,ha⟩ <;> rcases hhi with ⟨rfl,rfl⟩ | ⟨b,b',rfl,rfl,hb⟩ <;> simp at e <;> simp [e])
  exact ⟨v',w',m',by rw [notArr ⟨_,hu,fun _ _=>by simp⟩];exact h1,h2⟩
 ·
  rename_i e a len cap hu
  split at h
  ·
   rename_i size l hh hsz hl hh'
   split at h <;> first | cases h | skip
   rename_i h0
   split at h <;> first | cases h | skip
   rename_i hlh
   split at h <;> first | cases h | skip
   rename_i hhl
   have hl2:=Jv hl hlo
   have hh2:=Jv hh' hhi
   have bounds:∀ (cap':Nat),len≤cap'→∀ w:World,(Instr.sliceBounds true len cap' lo' hi' none).run P w=.ok (l.toNat,hh.toNat,cap') w:=by
    intro cap' hle w
    unfold Instr.sliceBounds
    have b1:∀ (k:IntKind) (y:Nat) (code:BoundsCode),hh≤y→(Instr.sliceBound (.int k hh) y code).run P w=.ok hh.toNat w:=by
     intro k y code hy
     simp only [Instr.sliceBound,asIntOf,pure_bind]
     rw [if_pos ⟨by omega,hy⟩]
     rfl
    have b2:∀ (k:IntKind) (y:Nat) (code:BoundsCode),l≤y→(Instr.sliceBound (.int k l) y code).run P w=.ok l.toNat w:=by
     intro k y code hy
     simp only [Instr.sliceBound,asIntOf,pure_bind]
     rw [if_pos ⟨h0,hy⟩]
     rfl
    have e1:(len:Int).toNat=len:=by omega
    rcases hl2 with ⟨rfl,rfl⟩ | ⟨kl,rfl⟩ <;> rcases hh2 with ⟨rfl,rfl⟩ | ⟨kh,rfl⟩
    ·
     simp
    ·
     simp [b1 kh cap' _ (by omega)]
    ·
     simp [b2 kl len _ (by omega)]
    ·
     simp [b1 kh cap' _ (by omega),b2 kl hh.toNat _ (by omega)]
   have hrun:∀ (a':Option Addr) (cap':Nat),len≤cap'→(Instr.sliceAt t (.slice a' len cap') lo' hi' none).run P w =
     .ok (.slice (if cap'=l.toNat then a' else a'.map (·.add (l.toNat * size))) (hh.toNat - l.toNat) (cap' - l.toNat)) w:=by
    intro a' cap' hle
    have:(Instr.sliceAt t (.slice a' len cap') lo' hi' none).run P w=(Instr.slice t (.slice a' len cap') lo' hi' none).run P w:=by
     unfold Instr.sliceAt
     rw [Sem.run_bind,run_underlying hu]
     rfl
    rw [this]
    simp only [Instr.slice,Sem.run_bind,run_underlying hu,Result.andThen_ok,bounds cap' hle,wC hsz,Sem.run_pure]
   cases hx with
   | sliceNil =>
    simp only at h
    split at h
    ·
     rename_i hn
     cases h
     refine Sim.same hr (hrun none 0 (Nat.le_refl _)) ?_
     have e1:l.toNat=0:=by omega
     have e2:hh.toNat=0:=by omega
     rw [e1,e2]
     exact .sliceNil
    ·
     cases h
   | @slice r o L _ c hm hn hlm =>
    simp only at h
    split at h
    ·
     rename_i cs own esz hg
     split at h
     ·
      rename_i hes
      cases h
      have hL:L.esz=size:=(hr.obj r L _ hm hg).1.trans hes
      have hle:l.toNat * L.esz≤c * L.esz:=Nat.mul_le_mul_right _ (by omega)
      refine Sim.same hr (hrun _ c hn) ?_
      by_cases hc:c=l.toNat
      ·
       rw [if_pos hc]
       have e1:hh.toNat - l.toNat=0:=by omega
       have e2:c - l.toNat=0:=by omega
       rw [e1,e2]
       exact .slice0 hm (by rw [← hL];omega) rfl
      ·
       rw [if_neg hc]
       simp only [Option.map_some,Addr.add_mid]
       have e3:L.shift+o+l.toNat * size=L.shift+(o+l.toNat * size):=by omega
       rw [e3]
       refine .slice hm (by omega) ?_
       have:(c - l.toNat) * L.esz=c * L.esz - l.toNat * L.esz:=Nat.sub_mul _ _ _
       rw [this,← hL]
       omega
     ·
      cases h
    ·
     cases h
   | sliceE a' c =>
    simp only at h
    split at h
    ·
     cases h
     refine Sim.same hr (hrun _ c (Nat.zero_le _)) ?_
     have e1:l.toNat=0:=by omega
     have e2:hh.toNat=0:=by omega
     rw [e1,e2]
     have e3:(if c=0 then some a' else (some a').map (·.add (0 * size)))=some a':=by
      split
      ·
       rfl
      ·
       simp [Addr.add]
     rw [e3]
     exact .sliceE a' _
    ·
     rename_i hn;exact absurd True.intro hn
   | @slice0 r o L a' hm hlm ha =>
    simp only at h
    split at h
    ·
     split at h
     ·
      cases h
      refine Sim.same hr (hrun _ 0 (Nat.le_refl _)) ?_
      have e1:l.toNat=0:=by omega
      have e2:hh.toNat=0:=by omega
      rw [e1,e2]
      simp only [Nat.zero_mul,Nat.sub_self,Nat.add_zero,if_true]
      exact .slice0 hm hlm ha
     ·
      cases h
    ·
     cases h
  ·
   cases h
 ·
  cases h
theorem WA {s:TypeId} {x x' v:Value} {f:Nat} (hr:Rel B w0 m H w) (h:jH P s x f H=some (v,H')) (hx:VR m x x'):Sim P B w0 m H' w (Instr.fieldAt s x' f) v:=by
 unfold jH at h
 split at h
 ·
  rename_i fields r o hu
  split at h
  ·
   rename_i fd hfd
   split at h
   ·
    rename_i n hn
    split at h
    ·
     cases h
    ·
     rename_i hn0
     cases h
     cases hx with
     | @ptr _ _ L hm =>
      refine Sim.same hr (v':=.pointer (some ⟨L.blk,L.shift+(o+fd.offset),none⟩)) ?_ (.ptr hm)
      simp only [Instr.fieldAt,Sem.run_bind,run_underlying hu,Result.andThen_ok,hfd,Instr.sureAddr,Sem.run_pure,fieldPlace,wC hn,Sem.run_ite,hn0,if_false,Addr.add_mid,Nat.add_assoc]
   ·
    cases h
  ·
   cases h
 ·
  cases h
theorem Kq {t:TypeId} {cs cs':Array Value} {off:Nat} {v:Value} (h:partOf P t cs off=some v) (ha:AR m cs cs'):∃ v',(∀ w:World,(part t cs' off).run P w=.ok v' w)∧VR m v v':=by
 unfold partOf at h
 split at h
 ·
  rename_i hagg
  split at h
  ·
   rename_i n hn
   cases h
   obtain ⟨d,hd,hd2⟩:=vO hagg
   have hia:∀ w:World,(isAgg t).run P w=.ok true w:=by
    intro w
    unfold isAgg
    rw [Sem.run_bind,run_underlying hd w]
    cases d <;> simp_all [TypeDesc.isRow]
   refine ⟨.agg (cs'.extract off (off+n)),fun w=>?_,?_⟩
   ·
    simp only [part,Sem.run_bind,hia,Result.andThen_ok,if_true,wC hn,Sem.run_pure]
   ·
    have:AR m ((cs.toList.drop off).take n).toArray (cs'.extract off (off+n)):=by
     rw [AR.iff] at ha ⊢
     have e:(cs'.extract off (off+n)).toList=(cs'.toList.drop off).take n:=by
      simp only [Array.toList_extract,List.extract_eq_take_drop]
      congr 1;omega
     rw [e]
     exact (ha.drop _).take _
    exact .agg this.1 this.2
  ·
   cases h
 ·
  rename_i hagg
  obtain ⟨v',hv',hvr⟩:=ha.toList.get (i:=off) (v:=v) (by simpa using h)
  refine ⟨v',fun w=>?_,hvr⟩
  have:cs'[off]?=some v':=by simpa using hv'
  simp only [part,Sem.run_bind,xG hagg w,Result.andThen_ok,this]
  rfl
 ·
  cases h
theorem Xu {t:TypeId} {x x' v:Value} {f:Nat} (hr:Rel B w0 m H w) (h:qN P t x f H=some (v,H')) (hx:VR m x x'):Sim P B w0 m H' w (Instr.field t x' f) v:=by
 unfold qN at h
 split at h
 ·
  rename_i fields cs hu
  split at h
  ·
   rename_i fd hfd
   split at h
   ·
    rename_i u hp
    cases h
    cases hx with
    | agg hs hh =>
     obtain ⟨v',hrun,hvr⟩:=Kq hp ⟨hs,hh⟩
     refine Sim.same hr ?_ hvr
     simp only [Instr.field,Sem.run_bind,run_underlying hu,Result.andThen_ok,hfd,asAgg,Sem.run_pure,hrun]
   ·
    cases h
  ·
   cases h
 ·
  cases h
theorem Wl {t:TypeId} {x x' ix ix' v:Value} (hr:Rel B w0 m H w) (h:jk P t x ix H=some (v,H')) (hx:VR m x x') (hi:VR m ix ix') :
  Sim P B w0 m H' w (Instr.indexAt t x' ix') v:=by
 unfold jk at h
 split at h
 ·
  rename_i e r o len cap k i hu
  split at h
  ·
   rename_i size hsz
   split at h
   ·
    rename_i hb
    cases h
    cases hi
    cases hx with
    | @slice _ _ L _ c hm hn hl =>
     refine Sim.same hr (v':=.pointer (some ⟨L.blk,L.shift+(o+i.toNat * size),none⟩)) ?_ (.ptr hm)
     simp only [Instr.indexAt,Sem.run_bind,asIntOf,Sem.run_pure,run_underlying hu,Result.andThen_ok,wC hsz]
     rw [if_pos hb]
     simp only [Sem.run_bind,wC hsz,Result.andThen_ok,Sem.run_pure,Addr.add_mid,Nat.add_assoc]
    | slice0 hm hl ha=>omega
   ·
    cases h
  ·
   cases h
 ·
  rename_i len e r o k i hu
  split at h
  ·
   rename_i size hsz
   split at h
   ·
    rename_i hb
    cases h
    cases hi
    cases hx with
    | @ptr _ _ L hm =>
     refine Sim.same hr (v':=.pointer (some ⟨L.blk,L.shift+(o+i.toNat * size),none⟩)) ?_ (.ptr hm)
     simp only [Instr.indexAt,Sem.run_bind,asIntOf,Sem.run_pure,run_underlying hu,Result.andThen_ok,wC hsz,Instr.sureAddr]
     rw [if_pos hb]
     simp only [Sem.run_bind,wC hsz,Result.andThen_ok,Sem.run_pure,Addr.add_mid,Nat.add_assoc]
   ·
    cases h
  ·
   cases h
 ·
  cases h
theorem Vy {t:TypeId} {x x' ix ix' v:Value} (hr:Rel B w0 m H w) (h:qh P t x ix H=some (v,H')) (hx:VR m x x') (hi:VR m ix ix') :
  Sim P B w0 m H' w (Instr.index t x' ix') v:=by
 unfold qh at h
 split at h
 ·
  rename_i len e cs k i hu
  split at h
  ·
   rename_i size hsz
   split at h
   ·
    rename_i hb
    split at h
    ·
     rename_i u hp
     cases h
     cases hi
     cases hx with
     | agg hs hh =>
      obtain ⟨v',hrun,hvr⟩:=Kq hp ⟨hs,hh⟩
      refine Sim.same hr ?_ hvr
      simp only [Instr.index,Sem.run_bind,asIntOf,Sem.run_pure,run_underlying hu,Result.andThen_ok]
      rw [if_pos hb]
      simp only [Sem.run_bind,wC hsz,Result.andThen_ok,hrun]
    ·
     cases h
   ·
    cases h
  ·
   cases h
 ·
  exact wM hr h (.cons hx (.cons hi .nil)) (fun e=>by simp only [List.cons.injEq,and_true] at e;rw [e.1,e.2])
 ·
  cases h
theorem Qr {x x' v:Value} {i:Nat} (hr:Rel B w0 m H w) (h:zG x i H=some (v,H')) (hx:VR m x x'):Sim P B w0 m H' w (Instr.extract x' i) v:=by
 unfold zG at h
 split at h
 ·
  rename_i vs
  split at h
  ·
   rename_i u hu
   cases h
   cases hx with
   | nores=>simp at hu
   | @tuple _ x2 hs hh =>
    obtain ⟨v',hv',hvr⟩:=(AR.toList ⟨hs,hh⟩).get (i:=i) (v:=v) (by simpa using hu)
    refine Sim.same hr ?_ hvr
    have:x2[i]?=some v':=by simpa using hv'
    simp only [Instr.extract,this]
    rfl
  ·
   cases h
 ·
  cases h
end
end Go.Abs
namespace Go.Abs
open Go.RowKit
section
variable {P:Program} {B:Nat} {w0:World} {m:Mp} {H H':zx} {w:World}
theorem Qc {t:TypeId} {r r':Option Value} {v:Value} (hr:Rel B w0 m H w) (h:qI P t r H=some (v,H')) (hx:r=none→r'=none):Sim P B w0 m H' w (Instr.makeMap t r') v:=by
 unfold qI at h
 split at h
 ·
  cases h
  rw [hx rfl]
  have hrel:=hr.push (.map #[] 0) (.map [] 0) ⟨w.heap.size,0,1,0⟩ rfl (qA.push w _ w.drawn) ⟨rfl,rfl,#[],(qA.push w (.map #[] 0) w.drawn).new,rfl,fun i e h=>by simp at h⟩
  refine ⟨.map (some w.heap.size),_,_,?_,?_,Mp.yU (hr.fresh _ (Nat.le_refl _)),hrel⟩
  ·
   simp [Instr.makeMap,newObj,Sem.run]
  ·
   exact .map (Mp.add_same m H.next ⟨w.heap.size,0,1,0⟩)
 ·
  cases h
def ESR (m:Mp) (es:List MapEntry) (es':List MapEntry):Prop:=es.length=es'.length∧∀ (i:Nat) (e:MapEntry),es[i]?=some e→∃ e',es'[i]?=some e'∧ER m e e'
theorem ESR.tail {e e':MapEntry} {es es':List MapEntry} (h:ESR m (e::es) (e'::es')):ESR m es es' :=
 ⟨by have:=h.1;simpa using this,fun i x hx=>by simpa using h.2 (i+1) x (by simpa using hx)⟩
theorem ESR.head {e e':MapEntry} {es es':List MapEntry} (h:ESR m (e::es) (e'::es')):ER m e e':=by
 obtain ⟨x,hx,h1⟩:=h.2 0 e rfl
 simp at hx
 rw [hx];exact h1
theorem qF {kd:TypeDesc} {k:Value}:∀ (es es':List MapEntry) (i:Nat) (r:Option (Nat×Value)),ESR m es es'→Instr.findNow kd k es i=some r →
  ∃ r',Instr.findNow kd k es' i=some r'∧((r=none∧r'=none)∨∃ j v v',r=some (j,v)∧r'=some (j,v')∧VR m v v'):=by
 intro es
 induction es with
 | nil =>
  intro es' i r h hf
  have:es'=[]:=by have:=h.1;cases es' <;> simp_all
  subst this
  simp only [Instr.findNow,Option.some.injEq] at hf
  subst hf
  exact ⟨none,rfl,.inl ⟨rfl,rfl⟩⟩
 | cons e es ih =>
  intro es' i r h hf
  cases es' with
  | nil=>have:=h.1;simp at this
  | cons e' es' =>
   obtain ⟨h1,h2,h3⟩:=h.head
   simp only [Instr.findNow,h1] at hf ⊢
   split at hf
   ·
    cases hf
    exact ⟨_,rfl,.inr ⟨i,e.val,e'.val,rfl,rfl,h3⟩⟩
   ·
    exact ih es' (i+1) r h.tail hf
   ·
    cases hf
theorem Xb {kd:TypeDesc} {k:Value}:∀ (es:List MapEntry) (i j:Nat) (v:Value),Instr.findNow kd k es i=some (some (j,v))→i≤j∧∃ e,es[j - i]?=some e∧Instr.sameNow kd k e.key=some true:=by
 intro es
 induction es with
 | nil=>intro i j v h;simp [Instr.findNow] at h
 | cons e es ih =>
  intro i j v h
  simp only [Instr.findNow] at h
  split at h
  ·
   rename_i hs
   simp only [Option.some.injEq,Prod.mk.injEq] at h
   obtain ⟨rfl,rfl⟩:=h
   exact ⟨Nat.le_refl _,e,by simp,hs⟩
  ·
   obtain ⟨h1,e2,h2,h3⟩:=ih (i+1) j v h
   refine ⟨by omega,e2,?_,h3⟩
   obtain ⟨n,hn⟩:∃ n,j - i=n+1:=⟨j - i - 1,by omega⟩
   rw [hn,List.getElem?_cons_succ,← h2]
   congr 1;omega
  ·
   cases h
theorem run_checkKey {kd:TypeDesc} {kt:TypeId} {k:Value} (hu:P.underlying kt=some kd) (hk:vX kd k=true) (em:Bool) (w:World):(Instr.checkKey em 10000 kt k).run P w=.ok () w:=by
 rw [show (10000:Nat)=9999+1 from rfl]
 generalize 9999=d
 simp only [Instr.checkKey,Sem.run_bind,run_underlying hu,Result.andThen_ok]
 unfold vX at hk
 split at hk <;> first | rfl | cases hk
theorem yE {kd:TypeDesc} {k:Value} (hk:vX kd k=true):ground k=true:=by
 unfold vX at hk
 split at hk <;> first | rfl | cases hk
theorem run_findKey {kd:TypeDesc} {kt:TypeId} {k:Value} {es:List MapEntry} {r:Option (Nat×Value)} (hu:P.underlying kt=some kd) (h:Instr.findNow kd k es 0=some r) (w:World) :
  (Instr.findKey kt k es).run P w=.ok r w:=by
 simp only [Instr.findKey,Sem.run_bind,run_underlying hu,Result.andThen_ok,h]
 rfl
theorem kK {b:Nat} {es:Array MapEntry} {clock:Nat} (h:w.heap[b]?=some (.map es clock)):(getObj b).run P w=.ok (.map es clock) w:=by
 simp [getObj,Sem.run,h]
theorem Rel.map {r:Nat} {L:Loc} {es:List MapEntry} {clock:Nat} (hr:Rel B w0 m H w) (hm:m r=some L) (hg:H.get r=some (.map es clock)) :
  ∃ es':Array MapEntry,w.heap[L.blk]?=some (.map es' clock)∧ESR m es es'.toList:=by
 obtain ⟨_,_,es',h1,h2,h3⟩:=hr.obj r L _ hm hg
 exact ⟨es',h1,by simpa using h2,fun i e he=>by simpa using h3 i e he⟩
theorem sim_lookup {t : TypeId} {x x' k k' v : Value} {ok : Bool} (hr : Rel B w0 m H w) (h : jw P t x k ok H = some (v, H')) (hx : VR m x x') (hk : VR m k k') :
    Sim P B w0 m H' w (Instr.lookup t x' k' ok) v := by
  unfold jw at h
  split at h
  · rename_i kt et hu
    split at h
    · rename_i kd hkd
      split at h
      · rename_i hkk
        obtain rfl := yJ (yE hkk) hk
        split at h
        · rename_i es hes
          have ent : ∃ es' : Array MapEntry, ESR m es es'.toList ∧ ((x' = .map none ∧ es' = #[]) ∨ ∃ b clock, x' = .map (some b) ∧ w.heap[b]? = some (.map es' clock)) := by
            split at hes
            · cases hes
              cases hx
              exact ⟨#[], ⟨rfl, fun i e h => by simp at h⟩, .inl ⟨rfl, rfl⟩⟩
            · split at hes
              · rename_i r es2 clock hg
                cases hes
                cases hx with
                | map hm =>
                  obtain ⟨es', h1, h2⟩ := hr.map hm hg
                  exact ⟨es', h2, .inr ⟨_, _, rfl, h1⟩⟩
              · cases hes
            · cases hes
          obtain ⟨es', hes', hrun⟩ := ent
          have lk : ∀ (r' : Option (Nat × Value)), Instr.findNow kd k' es'.toList 0 = some r' → (Instr.lookup t x' k' ok).run P w =
              (match r' with
               | some (_, v) => .ok (if ok then .tuple #[v, .bool true] else v) w
               | none => ((zeroValue et).run P w).andThen fun z w' => .ok (if ok then .tuple #[z, .bool false] else z) w' : Result Value) := by
            intro r' hf
            rcases hrun with ⟨rfl, rfl⟩ | ⟨b, clock, rfl, hb⟩
            · simp only [Instr.lookup, Sem.run_bind, run_underlying hu, Result.andThen_ok, Sem.run_pure, run_checkKey hkd hkk, run_findKey hkd hf]
              cases r' with
              | none =>
                simp only [Sem.run_bind]
                cases (zeroValue et).run P w <;> rfl
              | some q => obtain ⟨j, u⟩ := q; rfl
            · simp only [Instr.lookup, Sem.run_bind, run_underlying hu, Result.andThen_ok, kK hb, Sem.run_pure, run_checkKey hkd hkk, run_findKey hkd hf]
              cases r' with
              | none =>
                simp only [Sem.run_bind]
                cases (zeroValue et).run P w <;> rfl
              | some q => obtain ⟨j, u⟩ := q; rfl
          split at h
          · rename_i j u hf
            cases h
            obtain ⟨r', hf', hh⟩ := qF es es'.toList 0 _ hes' hf
            rcases hh with ⟨h1, _⟩ | ⟨j', u1, u', h1, rfl, hvr⟩
            · cases h1
            · cases h1
              refine Sim.same hr (lk _ hf') ?_
              cases ok
              · exact hvr
              · have := (LR.cons hvr (LR.cons (VR.bool (m := m) true) LR.nil)).toArray
                exact .tuple this.1 this.2
          · rename_i hf
            split at h
            · rename_i z hz
              split at h
              · rename_i hgz
                cases h
                obtain ⟨r', hf', hh⟩ := qF es es'.toList 0 _ hes' hf
                rcases hh with ⟨_, rfl⟩ | ⟨_, _, _, h1, _⟩
                · refine Sim.same hr (v' := if ok then .tuple #[z, .bool false] else z) ?_ ?_
                  · rw [lk _ hf']
                    simp only [yP hz, Result.andThen_ok]
                  · cases ok
                    · exact jD hgz
                    · have := (LR.cons (jD (m := m) hgz) (LR.cons (VR.bool (m := m) false) LR.nil)).toArray
                      exact .tuple this.1 this.2
                · cases h1
              · cases h
            · cases h
          · cases h
        · cases h
      · cases h
    · cases h
  · cases h
theorem ER.mono {m':Mp} (hm:m.le m') {e e':MapEntry} (h:ER m e e'):ER m' e e':=⟨h.1,h.2.1,h.2.2.mono hm⟩
theorem Rel.ab1 {r:Nat} {L:Loc} {es es2:List MapEntry} {clock clock2:Nat} {es2':Array MapEntry} (hr:Rel B w0 m H w) (hm:m r=some L) (hg:H.get r=some (.map es clock))
  (h2:ESR m es2 es2'.toList):Rel B w0 m (H.set r (.map es2 clock2)) { w with heap:=w.heap.setIfInBounds L.blk (.map es2' clock2) }:=by
 obtain ⟨hs,hl,es',hb,_,_⟩:=hr.obj r L _ hm hg
 have hB:=hr.own r L _ hm hg rfl
 have hlt:=hr.lt r L hm
 refine ⟨?_,?_,?_,?_,?_,?_,?_⟩
 ·
  refine ⟨hr.below.os,hr.below.tape,hr.below.output,by simpa using hr.below.size,fun k hk=>?_⟩
  show (w.heap.setIfInBounds L.blk _)[k]?=_
  rw [Array.getElem?_setIfInBounds_ne (by omega)];exact hr.below.block k hk
 ·
  simpa using hr.base
 ·
  intro r' L' o' hm' hg'
  rw [zx.jc] at hg'
  by_cases hrr:r'=r
  ·
   subst hrr
   rw [if_pos rfl] at hg'
   cases hg'
   rw [hm] at hm';cases hm'
   exact ⟨hs,hl,es2',by simp [hlt],by simpa using h2.1,fun i e he=>by simpa using h2.2 i e he⟩
  ·
   rw [if_neg hrr] at hg'
   have hold:=hr.obj r' L' o' hm' hg'
   have hne:o'.alive=true→L'.blk≠L.blk:=by
    intro hal hbk
    have hap:=hr.apart r r' L L' _ o' (fun e=>hrr e.symm) hm hm' hg hg' rfl hal hbk.symm
    cases o' with
    | dead=>cases hal
    | cells cs own esz =>
     obtain ⟨_,cc,e,fr,a1,_⟩:=hold
     rw [hbk,hb] at a1;cases a1
    | map es3 c3 =>
     obtain ⟨a1,a2,_⟩:=hold
     simp only [wo.hi,wo.lo] at hap
     omega
   cases o' with
   | dead=>exact True.intro
   | cells cs own esz =>
    obtain ⟨a0,cc,e,fr,a1,a2⟩:=hold
    refine ⟨a0,cc,e,fr,?_,a2⟩
    show (w.heap.setIfInBounds L.blk _)[L'.blk]?=_
    rw [Array.getElem?_setIfInBounds_ne (fun e=>hne rfl e.symm)];exact a1
   | map es3 c3 =>
    obtain ⟨a0,a1,e3,a2,a3⟩:=hold
    refine ⟨a0,a1,e3,?_,a3⟩
    show (w.heap.setIfInBounds L.blk _)[L'.blk]?=_
    rw [Array.getElem?_setIfInBounds_ne (fun e=>hne rfl e.symm)];exact a2
 ·
  intro r' L' hm';have:=hr.lt r' L' hm';simpa using this
 ·
  intro r' L' o' hm' hg' hw
  rw [zx.jc] at hg'
  by_cases hrr:r'=r
  ·
   subst hrr;rw [hm] at hm';cases hm';exact hB
  ·
   rw [if_neg hrr] at hg';exact hr.own r' L' o' hm' hg' hw
 ·
  intro ra rb La Lb oa ob hne ma mb ga gb hw hal hbk
  rw [zx.jc] at ga gb
  have fa:∃ oa',H.get ra=some oa'∧oa'.owns=true∧∀ k q,oa'.lo k q=oa.lo k q:=by
   by_cases e1:ra=r
   ·
    subst e1;rw [if_pos rfl] at ga;cases ga;exact ⟨_,hg,rfl,fun _ _=>rfl⟩
   ·
    rw [if_neg e1] at ga;exact ⟨_,ga,hw,fun _ _=>rfl⟩
  have fb:∃ ob',H.get rb=some ob'∧ob'.alive=true∧ob'.hi Lb.shift Lb.lim=ob.hi Lb.shift Lb.lim∧∀ oo:wo,oo.lo rb ob'=oo.lo rb ob:=by
   by_cases e1:rb=r
   ·
    subst e1;rw [if_pos rfl] at gb;cases gb;exact ⟨_,hg,rfl,rfl,fun oo=>by cases oo <;> rfl⟩
   ·
    rw [if_neg e1] at gb;exact ⟨_,gb,hal,rfl,fun _=>rfl⟩
  obtain ⟨oa',ga',wa,la⟩:=fa
  obtain ⟨ob',gb',wb,hb',lb'⟩:=fb
  rw [← la,← hb',← lb']
  exact hr.apart ra rb La Lb oa' ob' hne ma mb ga' gb' wa wb hbk
 ·
  exact fun r' h=>hr.fresh r' h
theorem YJ {kd:TypeDesc} {k k2:Value} (h:Instr.sameNow kd k k2=some true):Instr.sameBits 10000 k2 k=true:=by
 unfold Instr.sameNow at h
 split at h
 ·
  split at h
  ·
   rename_i hk
   simp only [Option.some.injEq,beq_iff_eq] at h
   subst h;subst hk
   simp [Instr.sameBits]
  ·
   cases h
 ·
  simp only [Option.some.injEq] at h
  obtain rfl:=(MapKept.bytes_beq _ _).mp h
  simpa [Instr.sameBits] using h
 ·
  simp only [Option.some.injEq,beq_iff_eq] at h
  subst h
  simp [Instr.sameBits]
 ·
  cases h
theorem JF {b:Nat} {es es2:Array MapEntry} {c c2:Nat} (h:w.heap[b]?=some (.map es c)):(setObj b (.map es2 c2)).run P w=.ok () { w with heap:=w.heap.setIfInBounds b (.map es2 c2) }:=by
 simp [setObj,Sem.run,h]
theorem WY {t:TypeId} {x x' k k' u u' v:Value} (hr:Rel B w0 m H w) (h:jT P t x k u H=some (v,H')) (hx:VR m x x') (hk:VR m k k') (hu':VR m u u') :
  v=zh∧∃ w',(Instr.mapUpdate t x' k' u').run P w=.ok () w'∧Rel B w0 m H' w':=by
 unfold jT at h
 split at h
 ·
  rename_i kt et hu
  split at h
  ·
   rename_i kd hkd
   split at h
   ·
    rename_i hkk
    obtain rfl:=yJ (yE hkk) hk
    split at h
    ·
     rename_i r
     cases hx with
     | @map _ L hm =>
      split at h
      ·
       rename_i es clock hg
       obtain ⟨es',hb,hes⟩:=hr.map hm hg
       split at h
       ·
        rename_i i w2 hf
        cases h
        refine ⟨rfl,?_⟩
        obtain ⟨r',hf',hh⟩:=qF es es'.toList 0 _ hes hf
        rcases hh with ⟨h1,_⟩ | ⟨j',u1,u2,h1,rfl,hvr⟩
        ·
         cases h1
        ·
         cases h1
         obtain ⟨_,e2,he2,hsame⟩:=Xb _ _ _ _ hf'
         have he2':es'[i]?=some e2:=by simpa using he2
         refine ⟨_,?_,hr.ab1 (es2:=es.modify i fun e=>{ e with key:=k',val:=u }) (es2':=es'.modify i fun e=>{ e with key:=k',val:=u' }) (clock2:=clock) hm hg ?_⟩
         ·
          simp only [Instr.mapUpdate,Sem.run_bind,run_underlying hu,Result.andThen_ok,kK hb,run_checkKey hkd hkk,run_findKey hkd hf',Instr.keyThatStays,he2',Option.map_some,Option.getD_some,
           YJ hsame,if_true,Sem.run_pure,JF hb]
         ·
          refine ⟨by simpa using hes.1,fun j e he=>?_⟩
          rw [List.getElem?_modify] at he
          rw [Array.getElem?_toList,Array.getElem?_modify]
          by_cases hij:i=j
          ·
           subst hij
           simp only [if_true] at he ⊢
           cases hei:es[i]? with
           | none=>simp [hei] at he
           | some e0 =>
            simp only [hei,Option.map_eq_map,Option.map_some,Option.some.injEq] at he
            subst he
            obtain ⟨e0',he0',hER⟩:=hes.2 i e0 hei
            have:es'[i]?=some e0':=by simpa using he0'
            exact ⟨{ e0' with key:=k',val:=u' },by simp [this],rfl,hER.2.1,hu'⟩
          ·
           simp only [if_neg hij] at he ⊢
           cases hei:es[j]? with
           | none=>simp [hei] at he
           | some e0 =>
            simp [hei] at he
            subst he
            obtain ⟨e0',he0',hER⟩:=hes.2 j e0 hei
            exact ⟨e0',by simpa using he0',hER⟩
       ·
        rename_i hf
        cases h
        refine ⟨rfl,?_⟩
        obtain ⟨r',hf',hh⟩:=qF es es'.toList 0 _ hes hf
        rcases hh with ⟨_,rfl⟩ | ⟨_,_,_,h1,_⟩
        ·
         refine ⟨_,?_,hr.ab1 (es2:=es++[{ key:=k',val:=u,born:=clock }]) (es2':=es'.push { key:=k',val:=u',born:=clock }) (clock2:=clock+1) hm hg ?_⟩
         ·
          simp only [Instr.mapUpdate,Sem.run_bind,run_underlying hu,Result.andThen_ok,kK hb,run_checkKey hkd hkk,run_findKey hkd hf',JF hb]
         ·
          refine ⟨by simp [hes.1],fun j e he=>?_⟩
          rw [Array.toList_push]
          by_cases hj:j < es.length
          ·
           rw [List.getElem?_append_left hj] at he
           rw [List.getElem?_append_left (by rw [← hes.1];exact hj)]
           exact hes.2 j e he
          ·
           rw [List.getElem?_append_right (by omega)] at he
           rw [List.getElem?_append_right (by rw [← hes.1];omega),← hes.1]
           cases hjj:j - es.length with
           | zero =>
            rw [hjj] at he
            simp at he
            subst he
            exact ⟨_,rfl,rfl,rfl,hu'⟩
           | succ n=>rw [hjj] at he;simp at he
        ·
         cases h1
       ·
        cases h
      ·
       cases h
    ·
     cases h
   ·
    cases h
  ·
   cases h
 ·
  cases h
end
end Go.Abs
namespace Go.Abs
open Go.RowKit
section
variable {P:Program} {B:Nat} {w0:World} {m:Mp} {H H':zx} {w:World}
theorem Rel.drew (hr:Rel B w0 m H w):Rel B w0 m H w.drew:=hr.draw _
theorem Rel.src {tx:TypeId} {size n:Nat} {x x':Value} {cs:List Value} (hr:Rel B w0 m H w) (h:wJ P tx size x H=some (n,cs)) (hx:VR m x x') :
  ∃ cs',LR m cs cs'∧Src P size tx x' n cs' w:=by
 unfold wJ at h
 split at h
 ·
  rename_i e a n' c hu
  split at h
  ·
   rename_i cs2 hc
   split at h
   ·
    rename_i h1
    cases h
    have hn:∀ k a' c',Value.slice a n c=.slice a' k c'→k=n:=fun k a' c' e=>by cases e;rfl
    obtain ⟨hlen,cs',hl,hh⟩:=hr.cells hc hx (fun h0 k a' c' e=>by
     have:=hn _ _ _ e;subst this
     exact Nat.pos_of_ne_zero (fun e=>by rw [e] at h0;simp at h0))
    refine ⟨cs',hl,?_⟩
    have hone:=Wv hl h1
    rcases hh with ⟨ad,k,c',rfl,hcell⟩ | ⟨rfl,rfl⟩
    ·
     have hk:k=n:=by cases hx <;> rfl
     subst hk
     exact Src.ofSlice w hu ad k c' cs' (by rw [← hl.1];exact hlen) hcell hone
    ·
     have hn0:n=0:=by cases hx;rfl
     subst hn0
     exact Src.ofNil w hu 0
   ·
    cases h
  ·
   cases h
 ·
  rename_i s hu
  split at h
  ·
   rename_i h1
   cases h
   cases hx
   subst h1
   refine ⟨byteCells s,LR.ql ?_,Src.ofString w hu s⟩
   rw [List.all_eq_true];intro x hx;obtain ⟨_,_,rfl⟩:=List.mem_map.1 hx;rfl
  ·
   cases h
 ·
  cases h
def Left (H:zx) (r:Nat) (anc0:List Nat) (cs:List Value) (fin n size:Nat) (G:zx) (anc:List Nat):Prop :=
 (fin=cs.length∧G=H.set r (.cells cs .ro size)∧anc=if n=0 then [] else r::anc0)∨(G=(H.kills anc0).set r .dead∧anc=[])
theorem J7 {r:Nat} {own:Own} {cs:List Value} {fin n esz:Nat} {G:zx} {anc:List Nat} (h:wW H r own cs fin n esz=some (G,anc)):∃ anc0,own=.own anc0∧Left H r anc0 cs fin n esz G anc:=by
 unfold wW at h
 split at h
 ·
  cases h
 ·
  rename_i anc0
  split at h
  ·
   rename_i h1;cases h;exact ⟨_,rfl,.inl ⟨h1,rfl,rfl⟩⟩
  ·
   cases h;exact ⟨_,rfl,.inr ⟨rfl,rfl⟩⟩
theorem Left.next {r:Nat} {anc0 anc:List Nat} {cs:List Value} {fin n size:Nat} {G:zx} (h:Left H r anc0 cs fin n size G anc):G.next=H.next:=by
 rcases h with ⟨_,rfl,_⟩ | ⟨rfl,_⟩ <;> simp
theorem Left.other {r:Nat} {anc0 anc:List Nat} {cs:List Value} {fin n size:Nat} {G:zx} (h:Left H r anc0 cs fin n size G anc) {k:Nat} {o':wo} (hk:k≠r) (hg:G.get k=some o'):o'=.dead∨(H.get k=some o'∧(k ∈ anc0→k ∈ anc∨n=0∧fin=cs.length)):=by
 rcases h with ⟨hf,rfl,rfl⟩ | ⟨rfl,rfl⟩
 ·
  rw [zx.jc,if_neg hk] at hg
  refine .inr ⟨hg,fun hm=>?_⟩
  by_cases hn:n=0
  ·
   exact .inr ⟨hn,hf⟩
  ·
   rw [if_neg hn];exact .inl (List.mem_cons_of_mem _ hm)
 ·
  rw [zx.jc,if_neg hk,zx.yT] at hg
  by_cases ha:k ∈ anc0
  ·
   rw [if_pos ha] at hg;cases hg;exact .inl rfl
  ·
   rw [if_neg ha] at hg;exact .inr ⟨hg,fun h=>absurd h ha⟩
theorem Left.self {r:Nat} {anc0 anc:List Nat} {cs:List Value} {fin n size:Nat} {G:zx} (h:Left H r anc0 cs fin n size G anc) {o':wo} (hg:G.get r=some o'):o'=.dead∨(o'=.cells cs .ro size∧fin=cs.length∧(n=0∨r ∈ anc)):=by
 rcases h with ⟨hf,rfl,rfl⟩ | ⟨rfl,rfl⟩
 ·
  rw [zx.jc,if_pos rfl] at hg;cases hg
  refine .inr ⟨rfl,hf,?_⟩
  by_cases hn:n=0
  ·
   exact .inl hn
  ·
   rw [if_neg hn];exact .inr (by simp)
 ·
  rw [zx.jc,if_pos rfl] at hg;cases hg;exact .inl rfl
theorem Rel.leave {r:Nat} {cs:List Value} {size fin n:Nat} {anc0 anc:List Nat} {G:zx} (hr:Rel B w0 m H w) (hg:H.get r=some (.cells cs (.own anc0) size)) (hX:Left H r anc0 cs fin n size G anc):Rel B w0 m G w:=by
 refine ⟨hr.below,hr.base,?_,hr.lt,?_,?_,fun k hk=>hr.fresh k (by rw [← hX.next];exact hk)⟩
 ·
  intro r' L' o' hm' hg'
  by_cases e:r'=r
  ·
   subst e
   rcases hX.self hg' with rfl | ⟨rfl,_⟩
   ·
    exact True.intro
   ·
    obtain ⟨a0,cc,e,fr,a1,a2,a3,a4,a5⟩:=hr.obj _ _ _ hm' hg
    exact ⟨a0,cc,e,fr,a1,a2,a3,a4,fun h=>by cases h⟩
  ·
   rcases hX.other e hg' with rfl | ⟨h2,_⟩
   ·
    exact True.intro
   ·
    exact hr.obj r' L' o' hm' h2
 ·
  intro r' L' o' hm' hg' hw
  by_cases e:r'=r
  ·
   subst e
   rcases hX.self hg' with rfl | ⟨rfl,_⟩ <;> cases hw
  ·
   rcases hX.other e hg' with rfl | ⟨h2,_⟩
   ·
    cases hw
   ·
    exact hr.own r' L' o' hm' h2 hw
 ·
  intro ra rb La Lb oa ob hne ma mb ga gb hw hal hbk
  by_cases ea:ra=r
  ·
   subst ea
   rcases hX.self ga with rfl | ⟨rfl,_⟩ <;> cases hw
  ·
   rcases hX.other ea ga with rfl | ⟨ga2,_⟩
   ·
    cases hw
   by_cases eb:rb=r
   ·
    subst eb
    rcases hX.self gb with rfl | ⟨rfl,_⟩
    ·
     cases hal
    have:=hr.apart ra rb La Lb oa _ ea ma mb ga2 hg hw rfl hbk
    obtain ⟨a0,cc,e,fr,a1,a2,_⟩:=hr.obj _ _ _ mb hg
    have e1:wo.hi Lb.shift Lb.lim (.cells cs (.own anc0) size)=Lb.lim:=rfl
    have e2:wo.lo oa rb (.cells cs (.own anc0) size)=0:=by cases oa <;> simp [wo.lo];rename_i own _;cases own <;> simp [wo.owns,Own.owns]
    rw [e1,e2] at this
    show _∨Lb.shift+cs.length≤_
    omega
   ·
    rcases hX.other eb gb with rfl | ⟨gb2,_⟩
    ·
     cases hal
    ·
     exact hr.apart ra rb La Lb oa ob hne ma mb ga2 gb2 hw hal hbk
theorem Rel.moved {r:Nat} {L:Loc} {cs news news':List Value} {size o n:Nat} {anc0 anc:List Nat} {G:zx} (hr:Rel B w0 m H w) (hm:m r=some L) (hg:H.get r=some (.cells cs (.own anc0) size)) (hX:Left H r anc0 cs (o+n) n size G anc)
  (ho:o+n≤cs.length) (hx:LR m news news') (hl:L.shift+o+n+news.length≤L.lim) :
  w.there L.blk (L.shift+o+n) news'.length ∧
  Rel B w0 (m.add H.next ⟨L.blk,L.shift+o,L.lim,size⟩) (G.push (.cells ((cs.drop o).take n++news) (.own anc) size)) (w.setCells L.blk (L.shift+o+n) news'):=by
 obtain ⟨hesz,cc,e,fr,hb,h1,h2,h3,h4⟩:=hr.obj r L _ hm hg
 have hG:=hr.leave hg hX
 have hlen:=hx.1
 have hB:B≤L.blk:=hr.own r L _ hm hg rfl
 obtain ⟨r1,r2,r3,r4⟩:=vJ L.blk news' (L.shift+o+n) w
 have hle:m.le (m.add H.next ⟨L.blk,L.shift+o,L.lim,size⟩):=Mp.yU (hr.fresh _ (Nat.le_refl _))
 have hrn:r≠H.next:=by
  intro e1;rw [e1,hr.fresh _ (Nat.le_refl _)] at hm;cases hm
 have hnl:((cs.drop o).take n++news).length=n+news.length:=by simp;omega
 have getE:∀ k,(G.push (.cells ((cs.drop o).take n++news) (.own anc) size)).get k=if k=H.next then some (.cells ((cs.drop o).take n++news) (.own anc) size) else G.get k:=by
  intro k;rw [zx.zQ,hX.next]
 have zone:∀ k L' o',m k=some L'→G.get k=some o'→o'.alive=true→L.blk=L'.blk→(L.lim≤L'.shift∨o'.hi L'.shift L'.lim≤L.shift+o+n)∧(L.lim≤L'.shift∨o'.hi L'.shift L'.lim≤L.shift+o+(wo.cells ((cs.drop o).take n++news) (.own anc) size).lo k o'):=by
  intro k L' o' hk hgk hal hbk
  by_cases ek:k=r
  ·
   subst ek
   rw [hm] at hk;cases hk
   rcases hX.self hgk with rfl | ⟨rfl,hf,hor⟩
   ·
    cases hal
   ·
    have e1:wo.hi L.shift L.lim (.cells cs .ro size)=L.shift+cs.length:=rfl
    rw [e1]
    refine ⟨.inr (by omega),.inr ?_⟩
    simp only [wo.lo]
    rcases hor with h0 | hmem
    ·
     omega
    ·
     rw [if_pos ⟨hmem,rfl⟩,hnl];omega
  ·
   rcases hX.other ek hgk with rfl | ⟨h2,h3⟩
   ·
    cases hal
   ·
    have hap:=hr.apart r k L L' _ o' (fun e=>ek e.symm) hm hk hg h2 rfl hal hbk
    simp only [wo.lo] at hap ⊢
    by_cases hc:k ∈ anc0∧o'.owns=false
    ·
     rw [if_pos hc] at hap
     rcases hX with ⟨hf,hG2,ha⟩ | ⟨hG2,ha⟩
     ·
      refine ⟨by omega,?_⟩
      rcases h3 hc.1 with hmem | ⟨h0,_⟩
      ·
       rw [if_pos ⟨hmem,hc.2⟩,hnl];omega
      ·
       omega
     ·
      exfalso
      subst hG2
      rw [zx.jc,if_neg ek,zx.yT,if_pos hc.1] at hgk
      cases hgk;cases hal
    ·
     rw [if_neg hc] at hap
     omega
 have zoneOwn:∀ ra La oa,m ra=some La→G.get ra=some oa→oa.owns=true→La.blk=L.blk→La.lim≤L.shift∨L.lim≤La.shift:=by
  intro ra La oa ma ga hw hbk
  by_cases ea:ra=r
  ·
   subst ea
   rcases hX.self ga with rfl | ⟨rfl,_⟩ <;> cases hw
  ·
   rcases hX.other ea ga with rfl | ⟨ga2,_⟩
   ·
    cases hw
   ·
    have:=hr.apart ra r La L oa _ ea ma hm ga2 hg hw rfl hbk
    have e1:wo.hi L.shift L.lim (.cells cs (.own anc0) size)=L.lim:=rfl
    have e2:wo.lo oa r (.cells cs (.own anc0) size)=0:=by cases oa <;> simp [wo.lo];rename_i own _;cases own <;> simp [wo.owns,Own.owns]
    rw [e1,e2] at this
    omega
 refine ⟨fun j hj=>⟨?_,?_⟩,?_⟩
 ·
  rw [vS hb];simp;omega
 ·
  exact YE hb (by have:=h4 rfl;omega)
 ·
  refine ⟨?_,?_,?_,?_,?_,?_,?_⟩
  ·
   refine ⟨r1.trans hr.below.os,r2.trans hr.below.tape,r3.trans hr.below.output,by rw [r4];exact hr.below.size,fun k hk=>?_⟩
   rw [jZ _ _ _ _ _ (by omega)];exact hr.below.block k hk
  ·
   rw [r4];exact hr.base
  ·
   intro r' L' o' hm' hg'
   rw [getE] at hg'
   by_cases hrr:r'=H.next
   ·
    subst hrr
    rw [if_pos rfl] at hg'
    cases hg'
    rw [Mp.add_same] at hm';cases hm'
    refine ⟨rfl,_,e,fr,yO _ _ _ _ _ _ _ hb,?_,by rw [yI];exact h2,?_,fun h=>by rw [yI];exact h4 rfl⟩
    ·
     simp only [List.length_append,List.length_take,List.length_drop]
     omega
    ·
     intro j v hj
     dsimp only
     rw [ZB]
     by_cases hjn:j < n
     ·
      rw [List.getElem?_append_left (by simp;omega),List.getElem?_take,if_pos hjn,List.getElem?_drop] at hj
      rw [if_neg (by omega)]
      obtain ⟨v',hv',hvr⟩:=h3 (o+j) v hj
      exact ⟨v',by rw [← hv'];congr 1;omega,hvr.mono hle⟩
     ·
      have hl2:((cs.drop o).take n).length=n:=by simp;omega
      rw [List.getElem?_append_right (by omega),hl2] at hj
      have hjl:j - n < news.length:=(List.getElem?_eq_some_iff.1 hj).1
      rw [if_pos (by omega)]
      obtain ⟨v',hv',hvr⟩:=hx.get hj
      exact ⟨v',by rw [← hv'];congr 1;omega,hvr.mono hle⟩
   ·
    rw [if_neg hrr] at hg'
    rw [Mp.je hrr] at hm'
    have hold:=(hG.obj r' L' o' hm' hg').mono hle
    have hzone:=zone r' L' o' hm' hg'
    cases o' with
    | dead=>exact True.intro
    | map es clock =>
     obtain ⟨a1,a2,es',a3,a4⟩:=hold
     have:L'.blk≠L.blk:=by rintro e2;rw [e2,hb] at a3;cases a3
     exact ⟨a1,a2,es',by rw [jZ _ _ _ _ _ this];exact a3,a4⟩
    | cells cs2 own2 esz2 =>
     obtain ⟨a0,cc2,e2,fr2,a1,a2,a3,a4,a5⟩:=hold
     by_cases hbb:L'.blk=L.blk
     ·
      have hdis:=(hzone rfl hbb.symm).1
      have hhi:=wo.QF (own:=own2) (esz:=esz2) a2
      rw [hbb,hb] at a1
      cases a1
      refine ⟨a0,_,e,fr,by rw [hbb];exact yO _ _ _ _ _ _ _ hb,a2,by rw [yI];exact a3,?_,fun h=>by rw [yI];exact a5 h⟩
      intro j v hj
      have hjl:j < cs2.length:=(List.getElem?_eq_some_iff.1 hj).1
      rw [ZB,if_neg (by omega)]
      exact a4 j v hj
     ·
      exact ⟨a0,cc2,e2,fr2,by rw [jZ _ _ _ _ _ hbb];exact a1,a2,a3,a4,a5⟩
  ·
   intro r' L' hm'
   rw [r4]
   by_cases hrr:r'=H.next
   ·
    subst hrr;rw [Mp.add_same] at hm';cases hm';exact hr.lt r L hm
   ·
    rw [Mp.je hrr] at hm';exact hr.lt r' L' hm'
  ·
   intro r' L' o' hm' hg' hw
   rw [getE] at hg'
   by_cases hrr:r'=H.next
   ·
    subst hrr;rw [Mp.add_same] at hm';cases hm';exact hB
   ·
    rw [if_neg hrr] at hg';rw [Mp.je hrr] at hm'
    exact hG.own r' L' o' hm' hg' hw
  ·
   intro ra rb La Lb oa ob hne ma mb ga gb hw hal hbk
   rw [getE] at ga gb
   by_cases ea:ra=H.next
   ·
    subst ea
    have eb:rb≠H.next:=fun e=>hne e.symm
    rw [if_pos rfl] at ga;cases ga
    rw [if_neg eb] at gb
    rw [Mp.add_same] at ma;cases ma
    rw [Mp.je eb] at mb
    exact (zone rb Lb ob mb gb hal hbk).2
   ·
    rw [if_neg ea] at ga
    rw [Mp.je ea] at ma
    by_cases eb:rb=H.next
    ·
     subst eb
     rw [if_pos rfl] at gb;cases gb
     rw [Mp.add_same] at mb;cases mb
     have:=zoneOwn ra La oa ma ga hw hbk
     have e1:wo.hi (L.shift+o) L.lim (.cells ((cs.drop o).take n++news) (.own anc) size)=L.lim:=rfl
     dsimp only at *
     rw [e1]
     omega
    ·
     rw [if_neg eb] at gb
     rw [Mp.je eb] at mb
     exact hG.apart ra rb La Lb oa ob hne ma mb ga gb hw hal hbk
  ·
   intro r' hr'
   simp only [zx.xM,hX.next] at hr'
   rw [Mp.je (by omega)]
   exact hr.fresh r' (by omega)
theorem WQ {b o n size c:Nat} {l:List Value} (hl:l.length=n * size) (h:w.rangeAt b o l):(Builtin.firstCells size n (.slice (some ⟨b,o,none⟩) n c)).run P w.drew=.ok l.toArray w.drew :=
 run_firstCells_some w.drew size n ⟨b,o,none⟩ n c l hl (fun j u hj=>by rw [Addr.add_mid];exact h j u hj)
theorem KQ {t tx ty:TypeId} {s s' x x' v:Value} (hr:Rel B w0 m H w) (h:yw P t tx s x H=some (v,H')) (hs:VR m s s') (hx:VR m x x') :
  Sim P B w0 m H' w (Builtin.append_ #[t,tx] ty #[s',x']) v:=by
 unfold yw at h
 split at h
 ·
  rename_i e he
  split at h
  ·
   rename_i size z bytes hsz hz hb
   split at h <;> first | cases h | skip
   rename_i hpos
   split at h <;> first | cases h | skip
   rename_i hzs
   split at h
   ·
    rename_i k news hsrc
    obtain ⟨news',hln,hS⟩:=hr.src hsrc hx
    obtain ⟨i,hi,hiz⟩:=xB hz
    have his:i.size=size:=by simpa [yL,hi] using hsz
    have hib:i.bytes=bytes:=by simpa [bytesOf,hi] using hb
    have hut:=yB he
    have hnl:news'.length=k * size:=hS.newsLen
    split at h
    ·
     cases hs
     split at h
     ·
      rename_i hk
      cases h
      subst hk
      refine Sim.same hr ?_ .sliceNil
      rcases hS.kind with ⟨e',hk⟩ | hk <;>
       simp [Builtin.append_,run_underlying hut,run_underlying hk,sizeOf,typeInfo,hi,hS.len,his,hS.cells]
     ·
      rename_i hk0
      split at h <;> first | cases h | skip
      rename_i hbig
      split at h <;> first | cases h | skip
      rename_i hbig2
      subst his;subst hib
      have hold:(Builtin.firstCells i.size 0 (.slice none 0 0)).run P w.drew=.ok (([]:List Value)).toArray w.drew:=run_firstCells_none w.drew i.size 0 0 0
      have hrun:=run_append_grow_src (P:=P) w t tx ty e i z hut hi hiz none 0 0 [] hold x' k news' hS (by omega) (by omega) (growslice_fits (by omega) (by rw [Nat.zero_add];exact hbig))
      have hge:=grownCap_ge w (0+k) 0 e
      have hg:qA w (w.drew.alloc (.cells (([]++news').toArray++Builtin.zeroCells z.cells (grownCap w (0+k) 0 e - (0+k))) e)) (.cells (news'++(Builtin.zeroCells z.cells (grownCap w (0+k) 0 e - (0+k))).toList).toArray e (0,0)):=by
       have hc:(([]++news').toArray++Builtin.zeroCells z.cells (grownCap w (0+k) 0 e - (0+k)))=(news'++(Builtin.zeroCells z.cells (grownCap w (0+k) 0 e - (0+k))).toList).toArray:=by
        apply Array.ext';simp
       rw [hc]
       exact qA.da w _
      obtain ⟨L,l1,l2,l3,l4,hrel⟩:=hr.new (esz:=i.size) hln hg (.inl rfl)
      refine ⟨_,_,m.add H.next L,hrun,?_,Mp.yU (hr.fresh _ (Nat.le_refl _)),hrel⟩
      have hlim:L.lim=grownCap w (0+k) 0 e * i.size:=by
       have hzl:(Builtin.zeroCells z.cells (grownCap w (0+k) 0 e - (0+k))).toList.length=(grownCap w (0+k) 0 e - (0+k)) * z.cells.size:=by rw [Array.length_toList,size_zeroCells]
       rw [l3,hzl,hzs,hnl,← Nat.add_mul]
       congr 1;omega
      have:=VR.xZ (n:=k) (c:=grownCap w (0+k) 0 e) (Mp.add_same m H.next L) l2 (by omega) (by rw [l4,hlim];exact Nat.le_refl _)
      rw [l1] at this
      rw [show 0+k=k by omega] at this ⊢
      exact this
    ·
     rename_i r o n c
     split at h
     ·
      rename_i cs own esz hg
      split at h <;> first | cases h | skip
      rename_i hes
      split at h <;> first | cases h | skip
      rename_i hle
      split at h <;> first | cases h | skip
      rename_i hbig
      split at h <;> first | cases h | skip
      rename_i hbig2
      split at h <;> first | cases h | skip
      rename_i hone
      split at h <;> first | cases h | skip
      rename_i G anc hap
      subst esz
      obtain ⟨anc0,rfl,hX⟩:=J7 hap
      have hsv:∃ L,m r=some L∧((∃ c',s'=.slice (some ⟨L.blk,L.shift+o,none⟩) n c'∧n≤c'∧L.shift+o+c' * L.esz≤L.lim)∨(n=0∧∃ a,s'=.slice (some a) 0 0∧L.shift+o≤L.lim∧a.block=L.blk)):=by
       cases hs with
       | slice hm h1 h2=>exact ⟨_,hm,.inl ⟨_,rfl,h1,h2⟩⟩
       | slice0 hm h1 ha=>exact ⟨_,hm,.inr ⟨rfl,_,rfl,h1,ha⟩⟩
      obtain ⟨L,hm,hsv⟩:=hsv
      have hL:L.esz=size:=(hr.obj r L _ hm hg).1
      obtain ⟨olds',hlo,hra⟩:=hr.range hm hg hle
      have hol:olds'.length=n * size:=by rw [← hlo.1];simp;omega
      subst his;subst hib
      have grow:∀ (base:Option Addr) (cap:Nat),(Builtin.firstCells i.size n (.slice base n cap)).run P w.drew=.ok olds'.toArray w.drew→cap < n+k →
        (Builtin.append_ #[t,tx] ty #[.slice base n cap,x']).run P w=.ok (.slice (some ⟨w.heap.size,0,none⟩) (n+k) (grownCap w (n+k) cap e)) (w.drew.alloc (.cells ((olds'++news').toArray++Builtin.zeroCells z.cells (grownCap w (n+k) cap e - (n+k))) e)) :=
       fun base cap hold hcap=>run_append_grow_src (P:=P) w t tx ty e i z hut hi hiz base n cap olds' hold x' k news' hS hcap (by omega) (growslice_fits hcap hbig)
      have growSim:∀ (base:Option Addr) (cap:Nat),(Builtin.firstCells i.size n (.slice base n cap)).run P w.drew=.ok olds'.toArray w.drew→cap < n+k→s'=.slice base n cap →
        Sim P B w0 m (G.push (.cells ((cs.drop o).take (n * i.size)++news) (.own anc) i.size)) w (Builtin.append_ #[t,tx] ty #[s',x']) (.slice (some ⟨H.next,0,none⟩) (n+k) (n+k)):=by
       intro base cap hold hcap hs'
       subst hs'
       have hge:=grownCap_ge w (n+k) cap e
       have hg1:qA w (w.drew.alloc (.cells ((olds'++news').toArray++Builtin.zeroCells z.cells (grownCap w (n+k) cap e - (n+k))) e)) (.cells ((olds'++news')++(Builtin.zeroCells z.cells (grownCap w (n+k) cap e - (n+k))).toList).toArray e (0,0)):=by
        have hc:((olds'++news').toArray++Builtin.zeroCells z.cells (grownCap w (n+k) cap e - (n+k)))=((olds'++news')++(Builtin.zeroCells z.cells (grownCap w (n+k) cap e - (n+k))).toList).toArray:=by
         apply Array.ext';simp
        rw [hc]
        exact qA.da w _
       obtain ⟨L2,l1,l2,l3,l4,hrel⟩:=(hr.leave hg hX).new (own:=.own anc) (esz:=i.size) (hlo.append hln) hg1 (.inl rfl)
       rw [hX.next] at hrel
       refine ⟨_,_,m.add H.next L2,grow base cap hold hcap,?_,Mp.yU (hr.fresh _ (Nat.le_refl _)),hrel⟩
       have hlim:L2.lim=grownCap w (n+k) cap e * i.size:=by
        have hzl:(Builtin.zeroCells z.cells (grownCap w (n+k) cap e - (n+k))).toList.length=(grownCap w (n+k) cap e - (n+k)) * z.cells.size:=by rw [Array.length_toList,size_zeroCells]
        rw [l3,hzl,hzs,List.length_append,hol,hnl,← Nat.add_mul,← Nat.add_mul]
        congr 1;omega
       have:=VR.xZ (n:=n+k) (c:=grownCap w (n+k) cap e) (Mp.add_same m H.next L2) l2 (by omega) (by rw [l4,hlim];exact Nat.le_refl _)
       rw [l1] at this
       exact this
      rcases hsv with ⟨c',hs',h1,h2⟩ | ⟨hn0,a,hs',h1,hab⟩
      ·
       by_cases hroom:n+k≤c'
       ·
        have hmul:(n+k) * i.size≤c' * i.size:=Nat.mul_le_mul_right _ hroom
        rw [Nat.add_mul] at hmul
        rw [hL] at h2
        obtain ⟨ht,hrel⟩:=hr.moved (o:=o) (n:=n * i.size) hm hg hX hle hln (by have:=hln.1;omega)
        have hrun:=run_append_room_src (P:=P) w t tx ty e i hut hi L.blk (L.shift+o) n c' x' k news' hS hroom (fun j hj=>(ht j hj).1) (fun j hj=>(ht j hj).2)
        subst hs'
        refine ⟨_,_,_,hrun,?_,Mp.yU (hr.fresh _ (Nat.le_refl _)),hrel⟩
        have:=VR.slice (o:=0) (n:=n+k) (c:=c') (Mp.add_same m H.next ⟨L.blk,L.shift+o,L.lim,i.size⟩) hroom (by dsimp only;omega)
        exact this
       ·
        exact growSim _ c' (by rw [← hs'] ;subst hs';exact WQ hol hra) (by omega) hs'
      ·
       subst hn0
       by_cases hk0:k=0
       ·
        subst hk0
        have hnil:news'=[]:=by
         have:=hS.newsLen;simp at this;exact this
        have hnil2:news=[]:=by
         have:=hln.1;rw [hnil] at this;simpa using this
        subst hnil;subst hnil2
        rw [Nat.zero_mul] at hX
        obtain ⟨ht,hrel⟩:=hr.moved (o:=o) (n:=0) (news:=[]) (news':=[]) hm hg hX (by omega) LR.nil (by simpa using h1)
        subst hs'
        refine ⟨.slice (some a) 0 0,w,_,?_,?_,Mp.yU (hr.fresh _ (Nat.le_refl _)),by simpa [World.setCells] using hrel⟩
        ·
         have hst:(storeCells (a.add 0) []).run P w=.ok () w:=rfl
         rcases hS.kind with ⟨e',hk⟩ | hk <;>
          simp [Builtin.append_,run_underlying hut,run_underlying hk,sizeOf,typeInfo,hi,hS.len,hS.cells,hst]
        ·
         exact .slice0 (Mp.add_same m H.next ⟨L.blk,L.shift+o,L.lim,i.size⟩) (by dsimp only;omega) hab
       ·
        have hnil:olds'=[]:=by simpa using hol
        refine growSim (some a) 0 ?_ (by omega) hs'
        rw [hnil]
        have:=run_firstCells_some (P:=P) w.drew i.size 0 a 0 0 [] (by simp) (fun j u hj=>by simp at hj)
        exact this
     ·
      cases h
    ·
     cases h
   ·
    cases h
  ·
   cases h
 ·
  cases h
theorem aaG {t tx ty:TypeId} {d d' s s' v:Value} (hr:Rel B w0 m H w) (h:Jq P t tx d s H=some (v,H')) (hd:VR m d d') (hs:VR m s s') :
  Sim P B w0 m H' w (Builtin.copy_ #[t,tx] ty #[d',s']) v:=by
 unfold Jq at h
 split at h
 ·
  rename_i e he
  have hut:=yB he
  split at h
  ·
   rename_i size hsz
   split at h
   ·
    rename_i dd dn dc ss sn sc
    obtain ⟨da',dc',rfl⟩:=hd.slice'
    obtain ⟨sa',sc',rfl⟩:=hs.slice'
    split at h
    ·
     rename_i h0
     cases h
     refine Sim.same hr (v':=goInt 0) ?_ (.int _ _)
     have hfc:(Builtin.firstCells size 0 (.slice sa' sn sc')).run P w=.ok #[] w:=by
      cases sa' with
      | none=>rfl
      | some a=>simp [Builtin.firstCells,loadCells,loadCellsFrom]
     have hst:∀ a:Addr,(storeCells a []).run P w=.ok () w:=fun a=>rfl
     cases da' <;> simp [Builtin.copy_,run_underlying hut,Builtin.lenOf,h0,wC hsz,hfc,hst]
    ·
     rename_i h0
     split at h
     ·
      rename_i r o
      split at h
      ·
       rename_i cs anc esz news hg hc
       split at h <;> first | cases h | skip
       rename_i hle
       split at h <;> first | cases h | skip
       rename_i hone
       have hmin:0 < Nat.min sn dn:=by omega
       have hdpos:dn≠0:=by intro e;rw [e] at hmin;simp at hmin
       obtain ⟨hlen,cs',hl,hh⟩:=hr.cells hc hs (fun hp k a c e=>by
        cases e
        by_cases hk:0 < sn
        ·
         exact hk
        ·
         have:sn=0:=by omega
         rw [this] at hmin;simp at hmin)
       cases hd with
       | @slice _ _ L _ c hm h1 h2 =>
        obtain ⟨ht,hrel⟩:=hr.store (o:=o) hm hg hl (by omega)
        have hone':=Wv hl hone
        have hst:=run_storeCells_cells (P:=P) L.blk (L.shift+o) cs' 0 w (fun j hj=>by simpa using (ht j hj).1) (fun j hj=>by simpa using (ht j hj).2) hone'
        simp only [Nat.add_zero] at hst
        refine ⟨goInt (Nat.min sn dn),_,m,?_,.int _ _,Mp.le_refl m,hrel⟩
        have hlen':cs'.length=Nat.min sn dn * size:=by rw [← hl.1];exact hlen
        rcases hh with ⟨ad,k,c2,hsv,hcell⟩ | ⟨hsv,rfl⟩
        ·
         cases hsv
         have hload:=run_loadCells_list (P:=P) w ad cs' hcell
         rw [hlen'] at hload
         simp [Builtin.copy_,run_underlying hut,Builtin.lenOf,wC hsz,Builtin.firstCells,hload,hst]
        ·
         cases hsv
         simp at hmin
       | slice0 hm h1 ha=>omega
      ·
       cases h
     ·
      cases h
   ·
    cases h
  ·
   cases h
 ·
  cases h
theorem acp (z:Array Value) (n:Nat) (h0:0 < z.size):(Builtin.zeroCells z n).toList=zl z.toList n:=by
 apply List.ext_getElem?
 intro i
 unfold Builtin.zeroCells zl
 simp only [Array.toList_map,Array.toList_range,List.getElem?_map,Array.length_toList]
 by_cases hi:i < n * z.size
 ·
  rw [List.getElem?_range hi]
  have hlt:i % z.size < z.size:=Nat.mod_lt _ h0
  simp [getElem!_def,hlt]
 ·
  rw [List.getElem?_eq_none (by simp;omega)]
  rfl
theorem Vb {t ty:TypeId} {x x' v:Value} (hr:Rel B w0 m H w) (h:qC P t x H=some (v,H')) (hx:VR m x x') :
  Sim P B w0 m H' w (Builtin.clear_ #[t] ty #[x']) v:=by
 unfold qC at h
 split at h
 ·
  rename_i e n c he
  cases h
  cases hx
  refine Sim.same hr (v':=.tuple #[]) ?_ .nores
  simp [Builtin.clear_,run_underlying (yB he)]
 ·
  rename_i e r o n c he
  have hut:=yB he
  split at h
  ·
   rename_i h0
   cases h
   subst h0
   obtain ⟨a',c',rfl⟩:=hx.slice'
   refine Sim.same hr (v':=.tuple #[]) ?_ .nores
   cases a' <;> simp [Builtin.clear_,run_underlying hut]
  ·
   rename_i h0
   split at h
   ·
    rename_i size z cs anc esz hsz hz hg
    split at h <;> first | cases h | skip
    rename_i hgz
    split at h <;> first | cases h | skip
    rename_i hzs
    split at h <;> first | cases h | skip
    rename_i hone
    split at h <;> first | cases h | skip
    rename_i hpos
    split at h <;> first | cases h | skip
    rename_i hle
    have hzpos:0 < z.cells.toList.length:=by simpa [hzs] using hpos
    have hll:(zl z.cells.toList n).length=n * size:=by rw [Ym];simp [hzs]
    have hl:LR m (zl z.cells.toList n) (zl z.cells.toList n):=LR.ql (XQ (jU hgz) (.inr hzpos) n)
    cases hx with
    | @slice _ _ L _ c hm h1 h2 =>
     obtain ⟨ht,hrel⟩:=hr.store (o:=o) hm hg hl (by omega)
     have hone':=Wv hl (XQ hone (.inr hzpos) n)
     have hst:=run_storeCells_cells (P:=P) L.blk (L.shift+o) (zl z.cells.toList n) 0 w (fun j hj=>by simpa using (ht j hj).1) (fun j hj=>by simpa using (ht j hj).2) hone'
     simp only [Nat.add_zero] at hst
     refine ⟨.tuple #[],_,m,?_,.nores,Mp.le_refl m,hrel⟩
     obtain ⟨n',rfl⟩:∃ n',n=n'+1:=⟨n - 1,by omega⟩
     simp [Builtin.clear_,run_underlying hut,yP hz,acp z.cells _ (by omega),hst]
    | slice0 hm h1 ha=>omega
   ·
    cases h
 ·
  cases h
theorem ab6 {t ty:TypeId} {x x' v:Value} (hr:Rel B w0 m H w) (h:YI P t x H=some (v,H')) (hx:VR m x x') :
  Sim P B w0 m H' w (Builtin.len_ #[t] ty #[x']) v:=by
 unfold YI at h
 split at h
 ·
  rename_i s hu
  cases h;cases hx
  exact Sim.same hr (v':=goInt s.size) (by simp [Builtin.len_,run_underlying hu]) (.int _ _)
 ·
  rename_i n e hu
  cases h
  exact Sim.same hr (v':=goInt n) (by simp [Builtin.len_,run_underlying hu]) (.int _ _)
 ·
  rename_i e a n c hu
  cases h
  obtain ⟨a',c',rfl⟩:=hx.slice'
  exact Sim.same hr (v':=goInt n) (by simp [Builtin.len_,run_underlying hu]) (.int _ _)
 ·
  rename_i k e hu
  cases h;cases hx
  exact Sim.same hr (v':=goInt 0) (by simp [Builtin.len_,run_underlying hu]) (.int _ _)
 ·
  rename_i k e r hu
  split at h
  ·
   rename_i es c hg
   cases h
   cases hx with
   | @map _ L hm =>
    obtain ⟨es',h1,h2⟩:=hr.map hm hg
    refine Sim.same hr (v':=goInt es'.size) (by simp [Builtin.len_,run_underlying hu,kK h1]) ?_
    have:=h2.1
    simp only [Array.length_toList] at this
    rw [this]
    exact .int _ _
  ·
   cases h
 ·
  cases h
theorem WB {α:Type} {x:Array α} {a b:α} (h:x.toList=[a,b]):x=#[a,b]:=by
 apply Array.ext';rw [h]
theorem Wu {α:Type} {x:Array α} {a:α} (h:x.toList=[a]):x=#[a]:=by
 apply Array.ext';rw [h]
theorem LR.two {a b:Value} {l:List Value} (h:LR m [a,b] l):∃ a' b',l=[a',b']∧VR m a a'∧VR m b b':=by
 have hl:=h.1
 match l,hl with
 | [x,y],_=>exact ⟨x,y,rfl,h.head,h.tail.head⟩
theorem LR.one {a:Value} {l:List Value} (h:LR m [a] l):∃ a',l=[a']∧VR m a a':=by
 have hl:=h.1
 match l,hl with
 | [x],_=>exact ⟨x,rfl,h.head⟩
end
end Go.Abs
namespace Go.Abs
open Go.RowKit
def zD (T:List Value):Operand→Value
 | .tmp t=>T.getD t zh
 | .const v=>v
 | .global _=>zh
 | .func f=>.func (.func f) #[] #[]
def wS:Operand→Bool
 | .tmp _=>true
 | .const v=>ground v
 | .global _=>false
 | .func _=>true
def aa0 (o:Oper):Bool:=o.op.operands.toList.all wS
def jG (P:Program) (call:FuncId→List Value→M Value) (T:List Value) (o:Oper):M Value:=fun H =>
 if aa0 o then
  match o.op with
  | .call c=>match c.callee with
   | .value f=>match zD T f with
    | .func (.func g) first captured=>call g (first.toList++c.args.toList.map (zD T)++captured.toList) H
    | _=>none
   | .builtin b=>yD P b c.argTypes o.type (c.args.toList.map (zD T)) H
   | _=>none
  | _=>aOp P (zD T) o H
 else none
section
variable {P:Program} {B:Nat} {w0:World} {m:Mp} {H H':zx} {w:World}
theorem zW {T:List Value} {a:Act} (hT:LR m T a.tmps.toList) {x:Operand} (hx:wS x=true):VR m (zD T x) (a.eval x):=by
 cases x with
 | tmp t =>
  have:=hT.2 t
  simpa [zD,Act.eval,List.getD_eq_getElem?_getD,Array.getD_eq_getD_getElem?] using this
 | const v=>exact jD hx
 | global g=>cases hx
 | func f =>
  have:=@AR.empty m
  exact .func _ rfl rfl this.2 this.2
def xw (P:Program) (B:Nat) (w0:World) (m:Mp) (H':zx) (w:World) (s:Sem Next) (v:Value):Prop :=
 ∃ r w' m',s.run P w=.ok r w'∧((∃ v',r=.value v'∧VR m' v v')∨(r=.skip∧v=zh))∧m.le m'∧Rel B w0 m' H' w'
theorem xw.value {s:Sem Value} {v:Value} (h:Sim P B w0 m H' w s v):xw P B w0 m H' w (do pure (.value (← s))) v:=by
 obtain ⟨v',w',m',h1,h2,h3,h4⟩:=h
 exact ⟨.value v',w',m',by simp [h1],.inl ⟨v',rfl,h2⟩,h3,h4⟩
theorem xw.now {v v':Value} (hr:Rel B w0 m H w) (h:VR m v v'):xw P B w0 m H w (pure (.value v')) v :=
 ⟨.value v',w,m,rfl,.inl ⟨v',rfl,h⟩,Mp.le_refl m,hr⟩
theorem xw.unit {s:Sem Unit} {v:Value} (h:v=zh∧∃ w',s.run P w=.ok () w'∧Rel B w0 m H' w'):xw P B w0 m H' w (do s;pure .skip) v:=by
 obtain ⟨h0,w',h1,h2⟩:=h
 exact ⟨.skip,w',m,by simp [h1],.inr ⟨rfl,h0⟩,Mp.le_refl m,h2⟩
theorem LR.map {T:List Value} {a:Act} (hT:LR m T a.tmps.toList):∀ {l:List Operand},l.all wS=true→LR m (l.map (zD T)) (l.map a.eval):=by
 intro l
 induction l with
 | nil=>intro _;exact .nil
 | cons x l ih =>
  intro h
  simp only [List.all_cons,Bool.and_eq_true] at h
  exact .cons (zW hT h.1) (ih h.2)
theorem PR.map {T:List Value} {a:Act} (hT:LR m T a.tmps.toList) {l:List (Nat×Operand)} (h:(l.map (·.2)).all wS=true) :
  PR m (l.map fun p=>(p.1,zD T p.2)) (l.map fun p=>(p.1,a.eval p.2)):=by
 refine ⟨by simp [List.map_map,Function.comp_def],?_⟩
 have:=LR.map hT h
 simpa [List.map_map,Function.comp_def] using this
theorem X8 {T:List Value} {a:Act} (hT:LR m T a.tmps.toList) {x:Option Operand} (h:x.toList.all wS=true) :
  x.map (zD T)=none∧x.map a.eval=none∨∃ v v',x.map (zD T)=some v∧x.map a.eval=some v'∧VR m v v':=by
 cases x with
 | none=>exact .inl ⟨rfl,rfl⟩
 | some x=>exact .inr ⟨_,_,rfl,rfl,zW hT (by simpa using h)⟩
theorem Qw {b:Builtin} {ts:Array TypeId} {ty:TypeId} {consts:Array Bool} {args:List Value} {args':Array Value} {v:Value} (hr:Rel B w0 m H w)
  (h:yD P b ts ty args H=some (v,H')) (ha:LR m args args'.toList):xw P B w0 m H' w (builtin b ts ty consts args') v:=by
 unfold yD at h
 split at h
 ·
  split at h
  ·
   rename_i t x hts
   obtain ⟨x',hx',hvr⟩:=ha.one
   rw [Wu hts,Wu hx']
   exact xw.value (ab6 hr h hvr)
  ·
   cases h
 ·
  split at h
  ·
   rename_i t tx s x hts
   obtain ⟨s',x',hx',h1,h2⟩:=ha.two
   rw [WB hts,WB hx']
   exact xw.value (KQ hr h h1 h2)
  ·
   cases h
 ·
  split at h
  ·
   rename_i t tx s x hts
   obtain ⟨s',x',hx',h1,h2⟩:=ha.two
   rw [WB hts,WB hx']
   exact xw.value (aaG hr h h1 h2)
  ·
   cases h
 ·
  split at h
  ·
   rename_i t x hts
   obtain ⟨x',hx',hvr⟩:=ha.one
   rw [Wu hts,Wu hx']
   exact xw.value (Vb hr h hvr)
  ·
   cases h
 ·
  exact xw.value (wM hr h ha (fun e=>by rw [← Array.toArray_toList (xs:=args'),e]))
 ·
  exact xw.value (wM hr h ha (fun e=>by rw [← Array.toArray_toList (xs:=args'),e]))
 ·
  cases h
theorem abz {o:Oper} {T:List Value} {a:Act} {v:Value} (hr:Rel B w0 m H w) (hT:LR m T a.tmps.toList) (hok:aa0 o=true) (h:aOp P (zD T) o H=some (v,H')) :
  xw P B w0 m H' w (execOp a.eval o) v:=by
 obtain ⟨dst,op,type,pos,after,guard⟩:=o
 unfold aa0 at hok
 unfold aOp at h
 cases op <;> simp only [Op.operands,List.all_cons,List.all_nil,Bool.and_true,Bool.and_eq_true,List.all_append,Array.toList_append,List.toList_toArray] at hok h <;> (try (cases h;done))
 case move x=>cases h;exact .now hr (zW hT hok)
 case assign x=>cases h;exact .now hr (zW hT hok)
 case pick c x y =>
  obtain ⟨h1,h2,h3⟩:=hok
  have hc:=zW hT h1
  unfold Yk at h
  split at h
  ·
   rename_i t ht
   cases h
   rw [ht] at hc
   have hc':a.eval c=.bool t:=by
    generalize a.eval c=u at hc
    cases hc;rfl
   refine ⟨.value (if t then a.eval x else a.eval y),w,m,?_,.inl ⟨_,rfl,?_⟩,Mp.le_refl m,hr⟩
   ·
    simp [execOp,asBool,hc']
   ·
    cases t
    ·
     exact zW hT h3
    ·
     exact zW hT h2
  ·
   cases h
 case alloc e=>exact .value (VG hr h)
 case box e x=>exact .value (acr e hr h (zW hT hok))
 case build t parts =>
  refine .value (aag hr h ?_)
  have:=PR.map hT (l:=parts.toList) (by simpa using hok)
  simpa using this
 case buildSlice t len parts =>
  refine .value (Jp hr h ?_)
  have:=PR.map hT (l:=parts.toList) (by simpa using hok)
  simpa using this
 case load t x=>exact .value (QJ hr h (zW hT hok))
 case store t p x=>exact .unit (aam hr h (zW hT hok.1) (zW hT hok.2))
 case nilCheck x =>
  obtain ⟨h1,h2,ad,h3⟩:=Yf h (zW hT hok)
  subst h1;subst h2
  have:=zW hT hok
  refine ⟨.value (a.eval x),w,m,?_,.inl ⟨_,rfl,this⟩,Mp.le_refl m,hr⟩
  simp [execOp,h3]
 case binOp op t x y yt=>exact .value (sim_bin x y hr h (zW hT hok.1) (zW hT hok.2))
 case unOp op t x=>exact .value (adi hr h (zW hT hok))
 case convert s d x=>exact .value (aa3 hr h (zW hT hok))
 case makeFunc fn first captured =>
  cases h
  refine .value (.same hr (v':=.func fn (first.map a.eval) (captured.map a.eval)) rfl ?_)
  have h1:=(LR.map hT hok.1).toArray
  have h2:=(LR.map hT hok.2).toArray
  have e1:(first.toList.map a.eval).toArray=first.map a.eval:=by apply Array.ext';simp
  have e2:(captured.toList.map a.eval).toArray=captured.map a.eval:=by apply Array.ext';simp
  rw [e1] at h1;rw [e2] at h2
  exact .func fn h1.1 h2.1 h1.2 h2.2
 case makeMap t r=>exact .value (Qc hr h (fun e=>by cases r <;> simp_all))
 case makeSlice t l c=>exact .value (Wq hr h (zW hT hok.1) (zW hT hok.2))
 case slice t x lo hi mx =>
  cases mx with
  | some y=>cases h
  | none =>
   simp only [Option.toArray_none,List.all_nil,Array.toList_append,List.all_append,Bool.and_eq_true,Option.toList_toArray,List.all_cons,Bool.and_true] at hok
   exact .value (X3 hr h (zW hT (by simpa using hok.1.1.1)) (X8 hT (by simpa using hok.1.1.2)) (X8 hT (by simpa using hok.1.2)))
 case fieldAddr s x f=>exact .value (WA hr h (zW hT hok))
 case field t x f=>exact .value (Xu hr h (zW hT hok))
 case indexAddr t x i=>exact .value (Wl hr h (zW hT hok.1) (zW hT hok.2))
 case index t x i=>exact .value (Vy hr h (zW hT hok.1) (zW hT hok.2))
 case lookup t x i ok=>exact .value (sim_lookup hr h (zW hT hok.1) (zW hT hok.2))
 case mapUpdate t x k y=>exact .unit (WY hr h (zW hT hok.1) (zW hT hok.2.1) (zW hT hok.2.2))
 case extract t i=>exact .value (Qr hr h (zW hT hok))
 case call c =>
  cases hb:c.callee with
  | builtin b =>
   simp only [hb] at h
   have hargs:c.args.toList.all wS=true:=by
    have:c.operands.toList.all wS=true:=hok
    simp only [Call.operands,hb,Array.toList_append,List.all_append,Bool.and_eq_true] at this
    exact this.2
   have:=Qw (consts:=c.args.map fun | .const _=>true | _=>false) hr h (args':=c.args.map a.eval) (by simpa using LR.map hT hargs)
   simp only [execOp,resolve,hb,invoke,pure_bind]
   exact this
  | value f=>simp only [hb] at h;cases h
  | invoke r n=>simp only [hb] at h;cases h
def ZN (P:Program) (B:Nat) (w0:World) (call:FuncId→List Value→M Value):Prop :=
 ∀ (g:FuncId) (args:List Value) (H:zx) (v:Value) (H':zx),call g args H=some (v,H')→∀ (m:Mp) (w:World) (args':List Value),LR m args args'→Rel B w0 m H w →
  (callFunc g args'.toArray).run P w=.ok (.enter g args'.toArray) w ∧
  Calls P g args'.toArray w fun e w'=>∃ v' m',e=.returned v'∧VR m' v v'∧m.le m'∧Rel B w0 m' H' w'
theorem Vr {call:FuncId→List Value→M Value} (hc:ZN P B w0 call) {o:Oper} {T:List Value} {a:Act} {v:Value} (hr:Rel B w0 m H w) (hT:LR m T a.tmps.toList)
  (h:jG P call T o H=some (v,H')) {K:Act→World→Prop} {Q:Exit→Act→World→Prop}
  (hK:∀ v' w' m',VR m' v v'→m.le m'→Rel B w0 m' H' w'→K (a.put o.dst v') w'):o.wp P a w K Q:=by
 unfold jG at h
 split at h
 ·
  rename_i hok
  have plain:xw P B w0 m H' w (execOp a.eval o) v→o.wp P a w K Q:=by
   rintro ⟨r,w',m',h1,h2,h3,h4⟩
   unfold Oper.wp
   rw [h1]
   rcases h2 with ⟨v',rfl,h2⟩ | ⟨rfl,rfl⟩
   ·
    exact hK v' w' m' h2 h3 h4
   ·
    exact hK zh w' m' VR.zh h3 h4
  split at h
  ·
   rename_i c hop
   have hoc:c.operands.toList.all wS=true:=by
    have:=hok;unfold aa0 at this;rw [hop] at this;exact this
   split at h
   ·
    rename_i f hf
    have hoa:wS f=true∧c.args.toList.all wS=true:=by
     simp only [Call.operands,hf,Array.toList_append,List.all_append,Bool.and_eq_true,List.all_cons,List.all_nil,Bool.and_true,List.toList_toArray] at hoc
     exact hoc
    split at h
    ·
     rename_i g first captured hev
     have hfv:=zW hT hoa.1
     rw [hev] at hfv
     have hargs:=LR.map hT hoa.2
     generalize hfe:a.eval f=fv at hfv
     cases hfv with
     | func fn hx hcc hx' hc' =>
      rename_i first' captured'
      have hall:LR m (first.toList++c.args.toList.map (zD T)++captured.toList) (first'.toList++c.args.toList.map a.eval++captured'.toList) :=
       ((AR.toList ⟨hx,hx'⟩).append hargs).append (AR.toList ⟨hcc,hc'⟩)
      obtain ⟨h1,h2⟩:=hc g _ H v H' h m w _ hall hr
      have earr:(first'.toList++c.args.toList.map a.eval++captured'.toList).toArray=first'++c.args.map a.eval++captured':=by
       apply Array.ext';simp
      rw [earr] at h1 h2
      unfold Oper.wp
      have:(execOp a.eval o).run P w=.ok (.enter g (first'++c.args.map a.eval++captured')) w:=by
       unfold execOp
       rw [hop]
       simp only [resolve,hf,hfe,Deferred.ofValue,pure_bind,invoke]
       exact h1
      rw [this]
      refine h2.mono ?_
      rintro e w' ⟨v',m',rfl,hv,hm,hrel⟩
      exact hK v' w' m' hv hm hrel
    ·
     cases h
   ·
    rename_i b hb
    refine plain (abz (T:=T) hr hT hok ?_)
    unfold aOp
    rw [hop]
    simp only [hb]
    exact h
   ·
    cases h
  ·
   exact plain (abz hr hT hok h)
 ·
  cases h
end
end Go.Abs
namespace Go.Abs
open Go.RowKit
def xY (T:List Value) (d:Option Tmp) (v:Value):List Value :=
 match d with
 | some d=>T.set d v
 | none=>T
def ynd (ops:Array Oper) (T:List Value) (j:Nat):Option Bool :=
 match ((ops[j]?).bind (·.dst)).bind (T[·]?) with
 | some (.bool b)=>some b
 | _=>none
def YX (P:Program) (call:FuncId→List Value→M Value) (ops:Array Oper):List Oper→List Value→zx→Option (List Value×zx)
 | [],T,H=>some (T,H)
 | o::rest,T,H =>
  if Region.wanted o (ynd ops T) then
   match jG P call T o H with
   | some (v,H')=>YX P call ops rest (xY T o.dst v) H'
   | none=>none
  else YX P call ops rest (xY T o.dst zh) H
section
variable {P:Program} {B:Nat} {w0:World} {m:Mp} {H H':zx} {w:World}
theorem LR.put {T:List Value} {a:Act} (hT:LR m T a.tmps.toList) (d:Option Tmp) {v v':Value} (hv:VR m v v'):LR m (xY T d v) (a.put d v').tmps.toList:=by
 cases d with
 | none=>exact hT
 | some d=>simpa [xY,Act.put] using hT.set d hv
theorem aby {ops:Array Oper} {T:List Value} {a:Act} (hT:LR m T a.tmps.toList) (j:Nat):yielded ops a.tmps j=ynd ops T j:=by
 unfold yielded ynd
 cases hd:(ops[j]?).bind (·.dst) with
 | none=>rfl
 | some d =>
  simp only [Option.bind_some]
  have:=hT.2 d
  have e:T.length=a.tmps.size:=by simpa using hT.1
  by_cases hlt:d < T.length
  ·
   have hlt':d < a.tmps.size:=by rw [← e];exact hlt
   simp only [List.getD_eq_getElem?_getD,Array.getElem?_toList,List.getElem?_eq_getElem hlt,Array.getElem?_eq_getElem hlt',Option.getD_some] at this
   rw [List.getElem?_eq_getElem hlt,Array.getElem?_eq_getElem hlt']
   generalize T[d]=u at *
   generalize a.tmps[d]=u' at *
   cases this <;> rfl
  ·
   have hlt':¬ d < a.tmps.size:=by rw [← e];exact hlt
   rw [List.getElem?_eq_none (Nat.le_of_not_lt hlt),Array.getElem?_eq_none (Nat.le_of_not_lt hlt')]
def Post (B:Nat) (w0:World) (m:Mp) (T':List Value) (H':zx) (a':Act) (w':World):Prop :=
 ∃ m',m.le m'∧LR m' T' a'.tmps.toList∧a'.defers=[]∧Rel B w0 m' H' w'
theorem acL {call:FuncId→List Value→M Value} (hc:ZN P B w0 call) {ops:Array Oper} {Q:Exit→Act→World→Prop}:∀ (l:List Oper) (T T':List Value) (H H':zx),
  YX P call ops l T H=some (T',H')→∀ (m:Mp) (a:Act) (w:World),LR m T a.tmps.toList→a.defers=[]→Rel B w0 m H w →
  (∀ a' w',Post B w0 m T' H' a' w'→Q .normal a' w')→wpList P ops Q l a w:=by
 intro l
 induction l with
 | nil =>
  intro T T' H H' h m a w hT hd hr hQ
  simp only [YX,Option.some.injEq,Prod.mk.injEq] at h
  obtain ⟨rfl,rfl⟩:=h
  exact wpList_nil (hQ a w ⟨m,Mp.le_refl m,hT,hd,hr⟩)
 | cons o rest ih =>
  intro T T' H H' h m a w hT hd hr hQ
  simp only [YX] at h
  unfold wpList
  have hy:Region.wanted o (yielded ops a.tmps)=Region.wanted o (ynd ops T):=by
   unfold Region.wanted
   cases o.guard with
   | none=>rfl
   | some g=>simp only [aby hT]
  rw [hy]
  split at h
  ·
   rename_i hw
   rw [if_pos hw]
   split at h
   ·
    rename_i v H1 hs
    refine .inl (Vr hc hr hT hs ?_)
    intro v' w' m' hv hm hr'
    refine ih _ _ _ _ h m' _ w' ((hT.mono hm).put o.dst hv) ?_ hr' ?_
    ·
     cases o.dst <;> exact hd
    ·
     rintro a' w'' ⟨m2,h1,h2,h3,h4⟩
     exact hQ a' w'' ⟨m2,Mp.le_trans hm h1,h2,h3,h4⟩
   ·
    cases h
  ·
   rename_i hw
   rw [if_neg hw]
   refine ih _ _ _ _ h m _ w (hT.put o.dst VR.zh) ?_ hr hQ
   cases o.dst <;> exact hd
theorem Xa {call:FuncId→List Value→M Value} (hc:ZN P B w0 call) {id:Nat} {ops:Array Oper} {T T':List Value} {Q:Exit→Act→World→Prop} {a:Act}
  (h:YX P call ops ops.toList T H=some (T',H')) (hT:LR m T a.tmps.toList) (hd:a.defers=[]) (hr:Rel B w0 m H w) (hQ:∀ a' w',Post B w0 m T' H' a' w'→Q .normal a' w') :
  (Code.region id ops false).wp P Q a w:=wp_region_list (acL hc _ _ _ _ _ h m a w hT hd hr hQ)
end
end Go.Abs
namespace Go.Abs
open Go.RowKit
def qU (P:Program) (o:Oper):Bool :=
 match o.op with
 | .move _ | .assign _ | .pick .. | .build .. | .load .. | .nilCheck _ | .binOp .. | .unOp .. | .makeFunc .. | .slice .. | .fieldAddr .. | .field .. | .indexAddr .. | .index .. | .lookup .. | .extract ..=>false
 | .convert _ d _=>match P.underlying d with
  | some (.slice _)=>true
  | _=>false
 | .call c=>match c.callee with
  | .builtin .len | .builtin .min | .builtin .max=>false
  | _=>true
 | _=>true
def Jy (acc:List Nat) (l:List Edge):Nat:=l.foldl (fun s e=>if Region.binds .any e then s ||| 2 ^ e.on ||| acc.getD e.on 0 else s) 0
def masks:List Oper→List Nat→List Nat
 | [],acc=>acc
 | o::os,acc=>masks os (acc++[Jy acc o.after.toList])
def pre (M:List Nat) (i j:Nat):Bool:=(M.getD i 0).testBit j
def Qs (l:List Oper):Bool:=(List.range l.length).all fun i=>match l[i]? with
 | some o=>o.after.toList.all fun e=>!Region.binds .any e || decide (e.on < i)
 | none=>true
def ab3 (P:Program) (ops:Array Oper) (M:List Nat) (l:List Oper):Bool:=(List.range l.length).all fun i=>(List.range i).all fun j =>
 pre M i j || (match l[i]?,l[j]? with
  | some oi,some oj=>Oper.apart ops oj oi && !(qU P oj && qU P oi)
  | _,_=>true)
def Yw (P:Program) (ops:Array Oper):Bool:=Qs ops.toList && ab3 P ops (masks ops.toList []) ops.toList
def Xr:Nat→Value→Value→Bool
 | _,.bool a,.bool b=>a == b
 | _,.int j a,.int k b=>decide (j=k) && decide (a=b)
 | _,.string a,.string b=>decide (a.data.toList=b.data.toList)
 | _,.pointer a,.pointer b=>decide (a=b)
 | _,.slice a n c,.slice b k d=>decide (a=b) && decide (n=k) && decide (c=d)
 | _,.map a,.map b=>decide (a=b)
 | _,.nilFunc,.nilFunc=>true
 | d+1,.agg a,.agg b=>decide (a.toList.length=b.toList.length) && (a.toList.zip b.toList).all fun p=>Xr d p.1 p.2
 | _,_,_=>false
theorem acJ:∀ (d:Nat) (a b:Value),Xr d a b=true→a=b:=by
 intro d
 induction d with
 | zero =>
  intro a b h
  cases a <;> cases b <;> simp only [Xr,Bool.and_eq_true,decide_eq_true_eq,beq_iff_eq,Bool.false_eq_true] at h <;> first | (rw [h];done) | (rw [h.1,h.2];done) | (rw [h.1.1,h.1.2,h.2];done) | rfl | skip
  rw [ByteArray.ext (Array.toList_inj.mp h)]
 | succ d ih =>
  intro a b h
  cases a <;> cases b <;> simp only [Xr,Bool.and_eq_true,decide_eq_true_eq,beq_iff_eq,Bool.false_eq_true] at h <;> first | (rw [h];done) | (rw [h.1,h.2];done) | (rw [h.1.1,h.1.2,h.2];done) | rfl | skip
  ·
   rw [ByteArray.ext (Array.toList_inj.mp h)]
  ·
   rename_i a b
   obtain ⟨h1,h2⟩:=h
   have:a.toList=b.toList:=by
    apply List.ext_getElem h1
    intro i hi hi'
    refine ih _ _ (List.all_eq_true.1 h2 (a.toList[i],b.toList[i]) ?_)
    exact List.mem_iff_getElem.2 ⟨i,by simp only [List.length_zip];omega,by simp⟩
   rw [Array.toList_inj.mp this]
def wO (P:Program) (call:FuncId→List Value→M Value) (ops:Array Oper):List Oper→List Value→zx→Option (List (List Value×zx×Value)×List Value×zx)
 | [],T,H=>some ([],T,H)
 | o::rest,T,H =>
  if Region.wanted o (ynd ops T) then
   match jG P call T o H with
   | some (v,H')=>match wO P call ops rest (xY T o.dst v) H' with
    | some (tr,T2,H2)=>some ((T,H,v)::tr,T2,H2)
    | none=>none
   | none=>none
  else match wO P call ops rest (xY T o.dst zh) H with
   | some (tr,T2,H2)=>some ((T,H,zh)::tr,T2,H2)
   | none=>none
def recheck (P:Program) (T:List Value) (o:Oper) (v:Value) (G:zx):Bool :=
 match aOp P (zD T) o G with
 | some (v',_)=>Xr 3 v' v
 | none=>false
def X9 (P:Program) (ops:Array Oper) (M:List Nat) (l:List Oper) (tr:List (List Value×zx×Value)) (Hs:List zx) (i:Nat):Bool :=
 match l[i]?,tr[i]? with
 | some o,some (T,_,v) =>
  if qU P o || !Region.wanted o (ynd ops T) then true
  else (List.range l.length).all fun j=>match l[j]? with
   | some oj=>if qU P oj && !(pre M i j || pre M j i) then (match Hs[if j < i then j else j+1]? with
     | some G=>recheck P T o v G
     | none=>false) else true
   | none=>true
 | _,_=>false
def qM (P:Program) (call:FuncId→List Value→M Value) (ops:Array Oper) (T:List Value) (H:zx):Option (List Value×zx) :=
 if Yw P ops then
  match wO P call ops ops.toList T H with
  | some (tr,T',H') =>
   if (List.range ops.toList.length).all (X9 P ops (masks ops.toList []) ops.toList tr (tr.map (·.2.1)++[H'])) then some (T',H') else none
  | none=>none
 else none
section
variable {P:Program} {B:Nat} {w0:World} {m:Mp} {H H':zx} {w:World}
theorem wF {args:List Value} {s:Sem Value} {v:Value} (h:jq P args s H=some (v,H')):H'=H:=by
 unfold jq at h
 (repeat' split at h) <;> first | (cases h;done) | (cases h;rfl)
theorem KI {t:TypeId} {x v:Value} {lo hi:Option Value} (h:yg P t x lo hi H=some (v,H')):H'=H:=by
 unfold yg at h
 split at h
 ·
  exact wF h
 ·
  (repeat' split at h) <;> first | (cases h;done) | (cases h;rfl)
 ·
  cases h
theorem Z7 {o:Oper} {ρ:Operand→Value} {v:Value} (hn:qU P o=false) (h:aOp P ρ o H=some (v,H')):H'=H:=by
 obtain ⟨dst,op,type,pos,after,guard⟩:=o
 unfold aOp at h
 unfold qU at hn
 cases op <;> simp only at hn h <;> first | (cases hn;done) | (cases h;done) | skip
 case move=>cases h;rfl
 case assign=>cases h;rfl
 case pick=>unfold Yk at h;split at h <;> first | (cases h;done) | (cases h;rfl)
 case build=>unfold wH at h;(repeat' split at h) <;> first | (cases h;done) | (cases h;rfl)
 case load=>unfold wu at h;(repeat' split at h) <;> first | (cases h;done) | (cases h;rfl)
 case nilCheck=>unfold yG at h;(repeat' split at h) <;> first | (cases h;done) | (cases h;rfl)
 case binOp=>unfold kS at h;(repeat' split at h) <;> first | exact wF h | (cases h;done) | (cases h;rfl)
 case unOp=>exact wF h
 case convert s d x =>
  unfold jS at h
  split at h
  ·
   (repeat' split at h) <;> first | (cases h;done) | (cases h;rfl)
  ·
   split at h
   ·
    rename_i e hs hd;simp [hd] at hn
   ·
    exact wF h
  ·
   exact wF h
 case makeFunc=>cases h;rfl
 case slice t x lo hi mx =>
  cases mx with
  | some y=>cases h
  | none =>
   exact KI h
 case fieldAddr=>unfold jH at h;(repeat' split at h) <;> first | (cases h;done) | (cases h;rfl)
 case field=>unfold qN at h;(repeat' split at h) <;> first | (cases h;done) | (cases h;rfl)
 case indexAddr=>unfold jk at h;(repeat' split at h) <;> first | (cases h;done) | (cases h;rfl)
 case index =>
  unfold qh at h
  split at h
  ·
   (repeat' split at h) <;> first | (cases h;done) | (cases h;rfl)
  ·
   exact wF h
  ·
   cases h
 case lookup t x k ok =>
  unfold jw at h
  (repeat' split at h) <;> first | (cases h;done) | (cases h;rfl)
 case extract=>unfold zG at h;(repeat' split at h) <;> first | (cases h;done) | (cases h;rfl)
 case call c =>
  cases hb:c.callee with
  | builtin b =>
   simp only [hb] at h hn
   unfold yD at h
   split at h <;> first | (cases h;done) | (cases hn;done) | skip
   ·
    split at h
    ·
     unfold YI at h;(repeat' split at h) <;> first | (cases h;done) | (cases h;rfl)
    ·
     cases h
   ·
    exact wF h
   ·
    exact wF h
  | value f=>simp only [hb] at h;cases h
  | invoke r n=>simp only [hb] at h;cases h
theorem xW {call:FuncId→List Value→M Value} {o:Oper} {T:List Value} (hn:qU P o=false) (G:zx):jG P call T o G=if aa0 o then aOp P (zD T) o G else none:=by
 unfold jG
 split
 ·
  cases hop:o.op <;> simp only
  rename_i c
  unfold qU at hn
  rw [hop] at hn
  simp only at hn
  cases hb:c.callee with
  | builtin b=>simp only [aOp,hop,hb]
  | value f=>simp only [hb] at hn;cases hn
  | invoke r n=>simp only [hb] at hn;cases hn
 ·
  rfl
theorem Xg (acc:List Nat) (l:List Edge) (s j:Nat) :
  (l.foldl (fun s e=>if Region.binds .any e then s ||| 2 ^ e.on ||| acc.getD e.on 0 else s) s).testBit j=true ↔
   s.testBit j=true∨∃ e ∈ l,Region.binds .any e=true∧(e.on=j∨(acc.getD e.on 0).testBit j=true):=by
 induction l generalizing s with
 | nil=>simp
 | cons e l ih =>
  rw [List.foldl_cons,ih]
  by_cases hb:Region.binds .any e=true
  ·
   rw [if_pos hb]
   simp only [Nat.testBit_or,Nat.testBit_two_pow,Bool.or_eq_true,decide_eq_true_eq,List.mem_cons]
   constructor
   ·
    rintro (((h | h) | h) | ⟨e',he',h⟩)
    ·
     exact .inl h
    ·
     exact .inr ⟨e,.inl rfl,hb,.inl h⟩
    ·
     exact .inr ⟨e,.inl rfl,hb,.inr h⟩
    ·
     exact .inr ⟨e',.inr he',h⟩
   ·
    rintro (h | ⟨e',rfl | he',h1,h2⟩)
    ·
     exact .inl (.inl (.inl h))
    ·
     rcases h2 with h2 | h2
     ·
      exact .inl (.inl (.inr h2))
     ·
      exact .inl (.inr h2)
    ·
     exact .inr ⟨e',he',h1,h2⟩
  ·
   rw [if_neg hb]
   simp only [List.mem_cons]
   constructor
   ·
    rintro (h | ⟨e',he',h⟩)
    ·
     exact .inl h
    ·
     exact .inr ⟨e',.inr he',h⟩
   ·
    rintro (h | ⟨e',rfl | he',h1,h2⟩)
    ·
     exact .inl h
    ·
     exact absurd h1 hb
    ·
     exact .inr ⟨e',he',h1,h2⟩
theorem JO:∀ (l:List Oper) (acc:List Nat),(masks l acc).length=acc.length+l.length∧(∀ i,i < acc.length→(masks l acc).getD i 0=acc.getD i 0) ∧
  ∀ i o,l[i]?=some o→(masks l acc).getD (acc.length+i) 0=Jy ((masks l acc).take (acc.length+i)) o.after.toList:=by
 intro l
 induction l with
 | nil=>intro acc;exact ⟨rfl,fun _ _=>rfl,fun i o h=>by simp at h⟩
 | cons o os ih =>
  intro acc
  obtain ⟨h1,h2,h3⟩:=ih (acc++[Jy acc o.after.toList])
  simp only [masks]
  refine ⟨by rw [h1];simp;omega,fun i hi=>?_,fun i o' ho=>?_⟩
  ·
   rw [h2 i (by simp;omega)]
   simp [List.getD_eq_getElem?_getD,List.getElem?_append_left hi]
  ·
   cases i with
   | zero =>
    simp at ho
    subst ho
    rw [Nat.add_zero,h2 acc.length (by simp)]
    have htake:(masks os (acc++[Jy acc o.after.toList])).take acc.length=acc:=by
     apply List.ext_getElem?
     intro k
     rw [List.getElem?_take]
     split
     ·
      rename_i hk
      have:=h2 k (by simp;omega)
      have hk2:k < (masks os (acc++[Jy acc o.after.toList])).length:=by rw [h1];simp;omega
      simp only [List.getD_eq_getElem?_getD,List.getElem?_eq_getElem hk2,Option.getD_some,List.getElem?_append_left hk,List.getElem?_eq_getElem hk] at this
      rw [List.getElem?_eq_getElem hk2,List.getElem?_eq_getElem hk,this]
     ·
      rename_i hk
      rw [List.getElem?_eq_none (by omega)]
    rw [htake]
    simp [List.getD_eq_getElem?_getD]
   | succ i =>
    have:=h3 i o' (by simpa using ho)
    simp only [List.length_append,List.length_singleton] at this
    rw [show acc.length+(i+1)=acc.length+1+i by omega]
    exact this
theorem Qe {l:List Oper} (he:Qs l=true) {i j:Nat} {o:Oper} (ho:l[i]?=some o) :
  pre (masks l []) i j=true ↔ ∃ e ∈ o.after,Region.binds .any e=true∧(e.on=j∨pre (masks l []) e.on j=true):=by
 obtain ⟨h1,h2,h3⟩:=JO l []
 have hi:i < l.length:=(List.getElem?_eq_some_iff.1 ho).1
 have:=h3 i o ho
 simp only [List.length_nil,Nat.zero_add] at this
 unfold pre
 rw [this]
 unfold Jy
 rw [Xg]
 simp only [Nat.zero_testBit,Bool.false_eq_true,false_or]
 have hlt:∀ e ∈ o.after,Region.binds .any e=true→e.on < i:=by
  intro e hm hb
  have hh:=List.all_eq_true.1 he i (List.mem_range.2 hi)
  rw [ho] at hh
  have:=List.all_eq_true.1 hh e (by simpa using hm)
  simpa [hb] using this
 have htk:∀ k,k < i→((masks l []).take i).getD k 0=(masks l []).getD k 0:=by
  intro k hk
  simp [List.getD_eq_getElem?_getD,List.getElem?_take,hk]
 constructor
 ·
  rintro ⟨e,hm,hb,h⟩
  have hm':e ∈ o.after:=by simpa using hm
  refine ⟨e,hm',hb,?_⟩
  rw [htk _ (hlt e hm' hb)] at h
  exact h
 ·
  rintro ⟨e,hm,hb,h⟩
  refine ⟨e,by simpa using hm,hb,?_⟩
  rw [htk _ (hlt e hm hb)]
  exact h
theorem Zn {l:List Oper} (he:Qs l=true):∀ (i j:Nat),pre (masks l []) i j=true→j < i:=by
 intro i
 induction i using Nat.strongRecOn with
 | _ i ih =>
  intro j h
  cases ho:l[i]? with
  | none =>
   obtain ⟨h1,_,_⟩:=JO l []
   have:(masks l []).getD i 0=0:=by
    rw [List.getD_eq_getElem?_getD,List.getElem?_eq_none]
    ·
     rfl
    ·
     rw [h1];simp;exact List.getElem?_eq_none_iff.1 ho
   unfold pre at h
   rw [this] at h
   simp at h
  | some o =>
   obtain ⟨e,hm,hb,h⟩:=(Qe he ho).1 h
   have hi:i < l.length:=(List.getElem?_eq_some_iff.1 ho).1
   have hlt:e.on < i:=by
    have hh:=List.all_eq_true.1 he i (List.mem_range.2 hi)
    rw [ho] at hh
    have:=List.all_eq_true.1 hh e (by simpa using hm)
    simpa [hb] using this
   rcases h with rfl | h
   ·
    exact hlt
   ·
    have:=ih e.on hlt j h;omega
end
end Go.Abs
namespace Go.Abs
open Go.RowKit
def cur (L:Nat→Bool) (dst:Nat→Option Tmp) (vs:Nat→Value) (T:List Value):Nat→Nat→Value
 | 0,t=>T.getD t zh
 | k+1,t=>if L k=true∧dst k=some t∧t < T.length then vs k else cur L dst vs T k t
def hcur (L ch:Nat→Bool) (Hs:Nat→zx):Nat→zx
 | 0=>Hs 0
 | k+1=>if L k=true∧ch k=true then Hs (k+1) else hcur L ch Hs k
def xC (l:List Oper) (k:Nat):Option Tmp:=(l[k]?).bind (·.dst)
def kZ (P:Program) (l:List Oper) (k:Nat):Bool:=match l[k]? with
 | some o=>qU P o
 | none=>false
structure Tr (P:Program) (call:FuncId→List Value→M Value) (ops:Array Oper) (l:List Oper) (T:List Value) (H:zx) (Ts:Nat→List Value) (Hs:Nat→zx) (vs:Nat→Value):Prop where
 t0:Ts 0=T
 h0:Hs 0=H
 stepT:∀ i o,l[i]?=some o→Ts (i+1)=xY (Ts i) o.dst (vs i)
 stepH:∀ i o,l[i]?=some o→if Region.wanted o (ynd ops (Ts i))=true then jG P call (Ts i) o (Hs i)=some (vs i,Hs (i+1)) else vs i=zh∧Hs (i+1)=Hs i
section
variable {P:Program} {B:Nat} {w0:World} {m:Mp} {H H':zx} {w:World}
def aat (tr:List (List Value×zx×Value)) (T':List Value) (i:Nat):List Value:=match tr[i]? with
 | some e=>e.1
 | none=>T'
def Xq (tr:List (List Value×zx×Value)) (H':zx) (i:Nat):zx:=match tr[i]? with
 | some e=>e.2.1
 | none=>H'
def acO (tr:List (List Value×zx×Value)) (i:Nat):Value:=match tr[i]? with
 | some e=>e.2.2
 | none=>zh
theorem aa9 {call:FuncId→List Value→M Value} {ops:Array Oper}:∀ (l:List Oper) (T:List Value) (H:zx) (tr) (T':List Value) (H':zx),wO P call ops l T H=some (tr,T',H') →
  tr.length=l.length∧Tr P call ops l T H (aat tr T') (Xq tr H') (acO tr):=by
 intro l
 induction l with
 | nil =>
  intro T H tr T' H' h
  simp only [wO,Option.some.injEq,Prod.mk.injEq] at h
  obtain ⟨rfl,rfl,rfl⟩:=h
  exact ⟨rfl,rfl,rfl,fun i o h=>by simp at h,fun i o h=>by simp at h⟩
 | cons o rest ih =>
  intro T H tr T' H' h
  simp only [wO] at h
  have fin:∀ (v:Value) (H1:zx) (tr':List (List Value×zx×Value)),wO P call ops rest (xY T o.dst v) H1=some (tr',T',H') →
    (if Region.wanted o (ynd ops T)=true then jG P call T o H=some (v,H1) else v=zh∧H1=H)→tr=(T,H,v)::tr' →
    tr.length=(o::rest).length∧Tr P call ops (o::rest) T H (aat tr T') (Xq tr H') (acO tr):=by
   intro v H1 tr' htr hst he
   obtain ⟨h1,h2⟩:=ih _ _ _ _ _ htr
   subst he
   have e1:aat tr' T' 0=xY T o.dst v:=h2.t0
   have e2:Xq tr' H' 0=H1:=h2.h0
   have s1:∀ i,aat ((T,H,v)::tr') T' (i+1)=aat tr' T' i:=fun i=>by simp [aat]
   have s2:∀ i,Xq ((T,H,v)::tr') H' (i+1)=Xq tr' H' i:=fun i=>by simp [Xq]
   have s3:∀ i,acO ((T,H,v)::tr') (i+1)=acO tr' i:=fun i=>by simp [acO]
   refine ⟨by simp [h1],rfl,rfl,?_,?_⟩
   ·
    intro i o' ho
    cases i with
    | zero=>simp at ho;subst ho;rw [s1,e1];rfl
    | succ i=>rw [s1,s1,s3];exact h2.stepT i o' (by simpa using ho)
   ·
    intro i o' ho
    cases i with
    | zero=>simp at ho;subst ho;rw [s2,e2];exact hst
    | succ i=>rw [s1,s2,s2,s3];exact h2.stepH i o' (by simpa using ho)
  split at h
  ·
   rename_i hw
   split at h
   ·
    rename_i v H1 hs
    split at h
    ·
     rename_i tr' T2 H2 htr
     simp only [Option.some.injEq,Prod.mk.injEq] at h
     obtain ⟨h1,rfl,rfl⟩:=h
     exact fin v H1 tr' htr (by rw [if_pos hw];exact hs) h1.symm
    ·
     cases h
   ·
    cases h
  ·
   rename_i hw
   split at h
   ·
    rename_i tr' T2 H2 htr
    simp only [Option.some.injEq,Prod.mk.injEq] at h
    obtain ⟨h1,rfl,rfl⟩:=h
    exact fin zh H tr' htr (by rw [if_neg hw];exact ⟨rfl,rfl⟩) h1.symm
   ·
    cases h
theorem Y4 (T:List Value) (d:Option Tmp) (v:Value):(xY T d v).length=T.length:=by cases d <;> simp [xY]
section tr
variable {call:FuncId→List Value→M Value} {ops:Array Oper} {l:List Oper} {T:List Value} {Ts:Nat→List Value} {Hs:Nat→zx} {vs:Nat→Value}
theorem Tr.len (h:Tr P call ops l T H Ts Hs vs):∀ k,k≤l.length→(Ts k).length=T.length:=by
 intro k
 induction k with
 | zero=>intro _;rw [h.t0]
 | succ k ih =>
  intro hk
  have ho:l[k]?=some l[k]:=List.getElem?_eq_getElem (by omega)
  rw [h.stepT k _ ho,Y4,ih (by omega)]
theorem Tr.ade (h:Tr P call ops l T H Ts Hs vs):∀ k,k≤l.length→∀ t,cur (fun _=>true) (xC l) vs T k t=(Ts k).getD t zh:=by
 intro k
 induction k with
 | zero=>intro _ t;rw [h.t0];rfl
 | succ k ih =>
  intro hk t
  have ho:l[k]?=some l[k]:=List.getElem?_eq_getElem (by omega)
  have hd:xC l k=l[k].dst:=by simp [xC,ho]
  have hl:=h.len k (by omega)
  rw [cur,h.stepT k _ ho,ih (by omega),hd]
  cases hdd:l[k].dst with
  | none=>simp [xY]
  | some d =>
   simp only [xY,Option.some.injEq,true_and]
   by_cases hdt:d=t∧t < T.length
   ·
    rw [if_pos hdt]
    obtain ⟨rfl,hlt⟩:=hdt
    have hlt2:d < (Ts k).length:=by rw [hl];exact hlt
    rw [List.getD_eq_getElem?_getD,List.getElem?_set]
    simp only [if_true]
    rw [if_pos hlt2];rfl
   ·
    rw [if_neg hdt]
    rw [List.getD_eq_getElem?_getD,List.getD_eq_getElem?_getD,List.getElem?_set]
    by_cases e:d=t
    ·
     subst e
     have hge:¬ d < T.length:=fun hh=>hdt ⟨rfl,hh⟩
     have hge2:¬ d < (Ts k).length:=by rw [hl];exact hge
     rw [if_pos rfl,if_neg hge2,List.getElem?_eq_none (Nat.le_of_not_lt hge2)]
    ·
     rw [if_neg e]
theorem Tr.same (h:Tr P call ops l T H Ts Hs vs) {k:Nat} (hk:k < l.length) (hc:kZ P l k=false):Hs (k+1)=Hs k:=by
 have ho:l[k]?=some l[k]:=List.getElem?_eq_getElem hk
 have hn:qU P l[k]=false:=by simpa [kZ,ho] using hc
 have:=h.stepH k _ ho
 split at this
 ·
  rw [xW hn] at this
  split at this
  ·
   exact Z7 hn this
  ·
   cases this
 ·
  exact this.2
theorem Tr.KW (h:Tr P call ops l T H Ts Hs vs):∀ k,k≤l.length→hcur (fun _=>true) (kZ P l) Hs k=Hs k:=by
 intro k
 induction k with
 | zero=>intro _;rfl
 | succ k ih =>
  intro hk
  rw [hcur,ih (by omega)]
  by_cases hc:kZ P l k=true
  ·
   rw [if_pos ⟨rfl,hc⟩]
  ·
   rw [if_neg (fun hh=>hc hh.2),h.same (by omega) (by simpa using hc)]
end tr
theorem ZY {L:Nat→Bool} {dst:Nat→Option Tmp} {vs:Nat→Value} {T:List Value} {n j t:Nat} (hj:j≤n) (h1:∀ k,k < j→dst k=some t→L k=true)
  (h2:∀ k,j≤k→k < n→dst k=some t→L k=false):cur L dst vs T n t=cur (fun _=>true) dst vs T j t:=by
 have a1:∀ k,k≤j→cur L dst vs T k t=cur (fun _=>true) dst vs T k t:=by
  intro k
  induction k with
  | zero=>intro _;rfl
  | succ k ih =>
   intro hk
   rw [cur,cur,ih (by omega)]
   by_cases hc:dst k=some t∧t < T.length
   ·
    rw [if_pos ⟨h1 k (by omega) hc.1,hc⟩,if_pos ⟨rfl,hc⟩]
   ·
    rw [if_neg (fun hh=>hc hh.2),if_neg (fun hh=>hc hh.2)]
 have a2:∀ d,j+d≤n→cur L dst vs T (j+d) t=cur L dst vs T j t:=by
  intro d
  induction d with
  | zero=>intro _;rfl
  | succ d ih =>
   intro hd
   rw [← Nat.add_assoc,cur,ih (by omega),if_neg]
   rintro ⟨hL,hdst,_⟩
   rw [h2 (j+d) (by omega) (by omega) hdst] at hL
   cases hL
 have:=a2 (n - j) (by omega)
 rw [show j+(n - j)=n by omega] at this
 rw [this,a1 j (Nat.le_refl _)]
theorem yR {L ch:Nat→Bool} {Hs:Nat→zx} {n j:Nat} (hj:j≤n) (h1:∀ k,k < j→ch k=true→L k=true)
  (h2:∀ k,j≤k→k < n→ch k=true→L k=false):hcur L ch Hs n=hcur (fun _=>true) ch Hs j:=by
 have a1:∀ k,k≤j→hcur L ch Hs k=hcur (fun _=>true) ch Hs k:=by
  intro k
  induction k with
  | zero=>intro _;rfl
  | succ k ih =>
   intro hk
   rw [hcur,hcur,ih (by omega)]
   by_cases hc:ch k=true
   ·
    rw [if_pos ⟨h1 k (by omega) hc,hc⟩,if_pos ⟨rfl,hc⟩]
   ·
    rw [if_neg (fun hh=>hc hh.2),if_neg (fun hh=>hc hh.2)]
 have a2:∀ d,j+d≤n→hcur L ch Hs (j+d)=hcur L ch Hs j:=by
  intro d
  induction d with
  | zero=>intro _;rfl
  | succ d ih =>
   intro hd
   rw [← Nat.add_assoc,hcur,ih (by omega),if_neg]
   rintro ⟨hL,hc⟩
   rw [h2 (j+d) (by omega) (by omega) hc] at hL
   cases hL
 have:=a2 (n - j) (by omega)
 rw [show j+(n - j)=n by omega] at this
 rw [this,a1 j (Nat.le_refl _)]
theorem V7 {L L':Nat→Bool} {dst:Nat→Option Tmp} {vs:Nat→Value} {T:List Value} {j t:Nat} (hL:∀ k,k≠j→L' k=L k) (hd:dst j≠some t):∀ n,cur L' dst vs T n t=cur L dst vs T n t:=by
 intro n
 induction n with
 | zero=>rfl
 | succ k ih =>
  rw [cur,cur,ih]
  by_cases hk:k=j
  ·
   subst hk;rw [if_neg (fun hh=>hd hh.2.1),if_neg (fun hh=>hd hh.2.1)]
  ·
   rw [hL k hk]
theorem Xe {L L' ch:Nat→Bool} {Hs:Nat→zx} {j:Nat} (hL:∀ k,k≠j→L' k=L k) (hd:ch j=false):∀ n,hcur L' ch Hs n=hcur L ch Hs n:=by
 intro n
 induction n with
 | zero=>rfl
 | succ k ih =>
  rw [hcur,hcur,ih]
  by_cases hk:k=j
  ·
   subst hk;rw [hd];simp
  ·
   rw [hL k hk]
theorem Zf {p:Nat→Prop} (n:Nat) (h:∃ k,k < n∧p k):∃ k,k < n∧p k∧∀ k',k' < k→¬ p k':=by
 obtain ⟨k,hk,hp⟩:=h
 induction k using Nat.strongRecOn with
 | _ k ih =>
  by_cases hx:∃ k',k' < k∧p k'
  ·
   obtain ⟨k',h1,h2⟩:=hx
   exact ih k' h1 (by omega) h2
  ·
   exact ⟨k,hk,hp,fun k' h1 h2=>hx ⟨k',h1,h2⟩⟩
theorem Qv {p:Nat→Prop} (n:Nat) (h:∃ k,k < n∧p k):∃ k,k < n∧p k∧∀ k',k < k'→k' < n→¬ p k':=by
 induction n with
 | zero=>obtain ⟨k,hk,_⟩:=h;omega
 | succ n ih =>
  by_cases hp:p n
  ·
   exact ⟨n,by omega,hp,fun k' h1 h2=>by omega⟩
  ·
   obtain ⟨k,hk,hpk⟩:=h
   have hkn:k≠n:=fun e=>hp (e ▸ hpk)
   obtain ⟨k2,h1,h2,h3⟩:=ih ⟨k,by omega,hpk⟩
   exact ⟨k2,by omega,h2,fun k' a b=>by
    by_cases e:k'=n
    ·
     subst e;exact hp
    ·
     exact h3 k' a (by omega)⟩
theorem Ky {call:FuncId→List Value→M Value} {o:Oper} {T T2:List Value} (h:∀ x ∈ o.op.operands.toList,zD T x=zD T2 x):jG P call T o=jG P call T2 o:=by
 have hmap:∀ l:List Operand,(∀ x ∈ l,x ∈ o.op.operands.toList)→l.map (zD T)=l.map (zD T2):=fun l hl=>List.map_congr_left fun x hx=>h x (hl x hx)
 have hop:aOp P (zD T) o=aOp P (zD T2) o:=by
  obtain ⟨dst,op,type,pos,after,guard⟩:=o
  unfold aOp
  cases op <;> simp only [Op.operands] at h hmap ⊢
  case move x=>rw [h x (by simp)]
  case assign x=>rw [h x (by simp)]
  case pick c a b=>rw [h c (by simp),h a (by simp),h b (by simp)]
  case box e x=>rw [h x (by simp)]
  case build t parts =>
   have:parts.toList.map (fun p=>(p.1,zD T p.2))=parts.toList.map (fun p=>(p.1,zD T2 p.2)):=List.map_congr_left fun p hp=>by
    rw [h p.2 (by simp;exact ⟨p.1,by simpa using hp⟩)]
   rw [this]
  case buildSlice t len parts =>
   have:parts.toList.map (fun p=>(p.1,zD T p.2))=parts.toList.map (fun p=>(p.1,zD T2 p.2)):=List.map_congr_left fun p hp=>by
    rw [h p.2 (by simp;exact ⟨p.1,by simpa using hp⟩)]
   rw [this]
  case load t x=>rw [h x (by simp)]
  case store t p x=>rw [h p (by simp),h x (by simp)]
  case nilCheck x=>rw [h x (by simp)]
  case binOp op t x y yt=>rw [h x (by simp),h y (by simp)]
  case unOp op t x=>rw [h x (by simp)]
  case convert s d x=>rw [h x (by simp)]
  case makeFunc fn first captured =>
   rw [hmap first.toList (fun x hx=>by simp at hx ⊢;exact .inl hx),hmap captured.toList (fun x hx=>by simp at hx ⊢;exact .inr hx)]
  case makeMap t r =>
   cases r with
   | none=>rfl
   | some x=>simp only [Option.map_some];rw [h x (by simp)]
  case makeSlice t l c=>rw [h l (by simp),h c (by simp)]
  case slice t x lo hi mx =>
   cases mx with
   | some y=>rfl
   | none =>
    simp only
    have e1:lo.map (zD T)=lo.map (zD T2):=by
     cases lo with
     | none=>rfl
     | some y=>simp only [Option.map_some];rw [h y (by simp)]
    have e2:hi.map (zD T)=hi.map (zD T2):=by
     cases hi with
     | none=>rfl
     | some y=>simp only [Option.map_some];rw [h y (by simp)]
    rw [h x (by simp),e1,e2]
  case fieldAddr s x f=>rw [h x (by simp)]
  case field t x f=>rw [h x (by simp)]
  case indexAddr t x i=>rw [h x (by simp),h i (by simp)]
  case index t x i=>rw [h x (by simp),h i (by simp)]
  case lookup t x i ok=>rw [h x (by simp),h i (by simp)]
  case mapUpdate t x k v=>rw [h x (by simp),h k (by simp),h v (by simp)]
  case extract t i=>rw [h t (by simp)]
  case call c =>
   cases hb:c.callee with
   | builtin b=>simp only;rw [hmap c.args.toList (fun x hx=>by simp [Call.operands] at hx ⊢;exact .inr hx)]
   | value f=>rfl
   | invoke r n=>rfl
 funext G
 unfold jG
 rw [hop]
 split
 ·
  cases hopp:o.op <;> simp only
  rename_i c
  rw [hopp] at h hmap
  simp only [Op.operands] at h hmap
  have hargs:=hmap c.args.toList (fun x hx=>by simp [Call.operands] at hx ⊢;exact .inr hx)
  cases hb:c.callee with
  | builtin b=>simp only [hargs]
  | value f =>
   simp only [hargs]
   rw [h f (by simp [Call.operands,hb])]
  | invoke r n=>rfl
 ·
  rfl
end
end Go.Abs
namespace Go.Abs
open Go.RowKit
section
variable {P:Program} {B:Nat} {w0:World} {m:Mp} {H H':zx} {w:World}
theorem count_set {l:List Bool} {i:Nat} (h:l[i]?=some false):(l.set i true).count false+1=l.count false:=by
 induction l generalizing i with
 | nil=>simp at h
 | cons b l ih =>
  cases i with
  | zero=>simp at h;subst h;simp
  | succ i =>
   simp at h
   have:=ih (i:=i) (by simpa using h)
   simp only [List.set_cons_succ,List.count_cons]
   omega
theorem KX {l:List Bool} (h:l.count false=0) {i:Nat} (hi:i < l.length):l[i]?=some true:=by
 have:false ∉ l:=List.count_eq_zero.1 h
 rw [List.getElem?_eq_getElem hi]
 cases hb:l[i] with
 | true=>rfl
 | false=>exact absurd (hb ▸ List.getElem_mem hi) this
structure ad8 (P:Program) (B:Nat) (w0:World) (m:Mp) (l:List Oper) (T:List Value) (Hs:Nat→zx) (vs:Nat→Value) (listed:Array Bool) (a:Act) (w:World):Prop where
 size:listed.size=l.length
 down:∀ i j,listed.getD i false=true→pre (masks l []) i j=true→listed.getD j false=true
 state:∃ m',m.le m'∧a.tmps.size=T.length∧(∀ t,VR m' (cur (fun k=>listed.getD k false) (xC l) vs T l.length t) (a.tmps.getD t zh))∧a.defers=[] ∧
  Rel B w0 m' (hcur (fun k=>listed.getD k false) (kZ P l) Hs l.length) w
theorem JG {listed:Array Bool} {i:Nat} (h:listed.getD i true=false):i < listed.size∧listed.getD i false=false:=by
 by_cases hi:i < listed.size
 ·
  refine ⟨hi,?_⟩
  simp [Array.getD_eq_getD_getElem?,hi] at h ⊢
  exact h
 ·
  simp [Array.getD_eq_getD_getElem?,Array.getElem?_eq_none (Nat.le_of_not_lt hi)] at h
theorem XI {call:FuncId→List Value→M Value} (hc:ZN P B w0 call) {ops:Array Oper} {T:List Value} {Ts:Nat→List Value} {Hs:Nat→zx} {vs:Nat→Value}
  (htr:Tr P call ops ops.toList T H Ts Hs vs) (hdraw:Yw P ops=true)
  (hchk:∀ i o,ops.toList[i]?=some o→qU P o=false→Region.wanted o (ynd ops (Ts i))=true→∀ k,k < ops.toList.length→kZ P ops.toList k=true→pre (masks ops.toList []) i k=false→pre (masks ops.toList []) k i=false →
   ∃ v' G',aOp P (zD (Ts i)) o (Hs (if k < i then k else k+1))=some (v',G')∧v'=vs i)
  {Q:Exit→Act→World→Prop} (hQ:∀ a' w',Post B w0 m (Ts ops.toList.length) (Hs ops.toList.length) a' w'→Q .normal a' w') :
  ∀ (fuel:Nat) (listed:Array Bool) (a:Act) (w:World),ad8 P B w0 m ops.toList T Hs vs listed a w→listed.toList.count false=fuel→wpAny P .any ops Q fuel listed a w:=by
 simp only [Yw,Bool.and_eq_true] at hdraw
 obtain ⟨hedge,hpairs⟩:=hdraw
 have hn:ops.toList.length=ops.size:=Array.length_toList
 generalize hl:ops.toList=l at *
 have hget:∀ i:Nat,ops[i]?=l[i]?:=fun i=>by rw [← hl];simp
 have fin:∀ (listed:Array Bool) (a:Act) (w:World),ad8 P B w0 m l T Hs vs listed a w→(∀ i,i < l.length→listed.getD i false=true)→Q .normal a w:=by
  intro listed a w hI hall
  obtain ⟨m',hm,hsz,hvr,hd,hrel⟩:=hI.state
  refine hQ a w ⟨m',hm,⟨by rw [htr.len _ (Nat.le_refl _)];simp [hsz],fun t=>?_⟩,hd,?_⟩
  ·
   have:=hvr t
   rw [ZY (Nat.le_refl _) (fun k hk _=>hall k hk) (fun k h1 h2=>by omega),htr.ade _ (Nat.le_refl _)] at this
   simpa [List.getD_eq_getElem?_getD,Array.getD_eq_getD_getElem?] using this
  ·
   rw [yR (Nat.le_refl _) (fun k hk _=>hall k hk) (fun k h1 h2=>by omega),htr.KW _ (Nat.le_refl _)] at hrel
   exact hrel
 have pairs:∀ x y ox oy,l[x]?=some ox→l[y]?=some oy→x≠y→pre (masks l []) x y=false→pre (masks l []) y x=false →
   (∀ d,ox.dst=some d→d ∉ oy.looksAt ops)∧(∀ d,ox.dst=some d→oy.dst≠some d)∧¬ (qU P ox=true∧qU P oy=true):=by
  have half:∀ i j oi oj,l[i]?=some oi→l[j]?=some oj→j < i→pre (masks l []) i j=false→Oper.apart ops oj oi=true∧¬ (qU P oj=true∧qU P oi=true):=by
   intro i j oi oj hi hj hji hp
   have hil:i < l.length:=(List.getElem?_eq_some_iff.1 hi).1
   have:=List.all_eq_true.1 (List.all_eq_true.1 hpairs i (List.mem_range.2 hil)) j (List.mem_range.2 hji)
   rw [hp,hi,hj] at this
   simp only [Bool.false_or,Bool.and_eq_true,Bool.not_eq_true',Bool.and_eq_false_iff] at this
   refine ⟨this.1,fun ⟨h1,h2⟩=>?_⟩
   rcases this.2 with h | h
   ·
    rw [h1] at h;cases h
   ·
    rw [h2] at h;cases h
  intro x y ox oy hx hy hne h1 h2
  rcases Nat.lt_or_gt_of_ne hne with hlt | hgt
  ·
   obtain ⟨ha,hb⟩:=half y x oy ox hy hx hlt h2
   obtain ⟨a1,a2,a3⟩:=Oper.apart_spec ha
   exact ⟨a1,a2,hb⟩
  ·
   obtain ⟨ha,hb⟩:=half x y ox oy hx hy hgt h1
   obtain ⟨a1,a2,a3⟩:=Oper.apart_spec ha
   exact ⟨a3,fun d hd e=>a2 d e hd,fun ⟨p,q⟩=>hb ⟨q,p⟩⟩
 intro fuel
 induction fuel with
 | zero =>
  intro listed a w hI hcnt
  have hall:∀ i,i < l.length→listed.getD i false=true:=by
   intro i hi
   have:=KX hcnt (i:=i) (by simpa [hI.size] using hi)
   simp at this
   simp [Array.getD_eq_getD_getElem?,this]
  refine ⟨?_,fin listed a w hI hall⟩
  rw [List.eq_nil_iff_forall_not_mem]
  intro j hj
  obtain ⟨h1,_⟩:=mem_ready.1 hj
  obtain ⟨h2,h3⟩:=JG h1
  rw [hall j (by rw [← hI.size];exact h2)] at h3
  cases h3
 | succ fuel ih =>
  intro listed a w hI hcnt
  refine ⟨fun hnil=>?_,fun j hj=>?_⟩
  ·
   exfalso
   have hex:∃ i,i < l.length∧listed.getD i false=false:=by
    have:false ∈ listed.toList:=List.count_pos_iff.1 (by omega)
    obtain ⟨i,hi,hb⟩:=List.mem_iff_getElem.1 this
    refine ⟨i,by rw [← hI.size];simpa using hi,?_⟩
    simp at hb hi
    simp [Array.getD_eq_getD_getElem?,hi,hb]
   obtain ⟨i,hi,hp,hmin⟩:=Zf _ hex
   have ho:l[i]?=some l[i]:=List.getElem?_eq_getElem hi
   have hmem:i ∈ Region.ready .any ops listed:=by
    refine mem_ready.2 ⟨?_,l[i],by rw [hget];exact ho,fun e he hb=>?_⟩
    ·
     have:i < listed.size:=by rw [hI.size];exact hi
     simp [Array.getD_eq_getD_getElem?,this] at hp ⊢
     exact hp
    ·
     have hlt:e.on < i:=Zn hedge i e.on ((Qe hedge ho).2 ⟨e,he,hb,.inl rfl⟩)
     have:=hmin e.on hlt
     simpa using this
   rw [hnil] at hmem
   cases hmem
  ·
   obtain ⟨h1,o,ho,hpre⟩:=mem_ready.1 hj
   obtain ⟨hjs,hjf⟩:=JG h1
   rw [hget] at ho
   have hjl:j < l.length:=(List.getElem?_eq_some_iff.1 ho).1
   obtain ⟨m',hm,hsz,hvr,hd,hrel⟩:=hI.state
   have predsL:∀ i,pre (masks l []) j i=true→listed.getD i false=true:=by
    intro i hp
    obtain ⟨e,he,hb,h⟩:=(Qe hedge ho).1 hp
    rcases h with rfl | h
    ·
     exact hpre e he hb
    ·
     exact hI.down e.on i (hpre e he hb) h
   have succsN:∀ i,pre (masks l []) i j=true→listed.getD i false=false:=by
    intro i hp
    cases hh:listed.getD i false with
    | false=>rfl
    | true=>rw [hI.down i j hh hp] at hjf;cases hjf
   have hdj:xC l j=o.dst:=by simp [xC,ho]
   have hcj:kZ P l j=qU P o:=by simp [kZ,ho]
   have writers:∀ k t,k < l.length→k≠j→xC l k=some t→(t ∈ o.looksAt ops∨o.dst=some t)→(k < j→listed.getD k false=true)∧(j < k→listed.getD k false=false):=by
    intro k t hk hkj hdk hor
    have hok:l[k]?=some l[k]:=List.getElem?_eq_getElem hk
    have hdk':l[k].dst=some t:=by simpa [xC,hok] using hdk
    have comp:pre (masks l []) j k=true∨pre (masks l []) k j=true:=by
     cases e1:pre (masks l []) j k with
     | true=>exact .inl rfl
     | false =>
      cases e2:pre (masks l []) k j with
      | true=>exact .inr rfl
      | false =>
       obtain ⟨p1,p2,_⟩:=pairs k j _ _ hok ho hkj e2 e1
       rcases hor with h | h
       ·
        exact absurd h (p1 t hdk')
       ·
        exact absurd h (p2 t hdk')
    constructor
    ·
     intro hlt
     rcases comp with c | c
     ·
      exact predsL k c
     ·
      have:=Zn hedge k j c;omega
    ·
     intro hlt
     rcases comp with c | c
     ·
      have:=Zn hedge j k c;omega
     ·
      exact succsN k c
   have hTl:∀ t,((List.range T.length).map (cur (fun k=>listed.getD k false) (xC l) vs T l.length)).getD t zh=cur (fun k=>listed.getD k false) (xC l) vs T l.length t:=by
    intro t
    by_cases ht:t < T.length
    ·
     simp [List.getD_eq_getElem?_getD,ht]
    ·
     have hz:∀ n,cur (fun k=>listed.getD k false) (xC l) vs T n t=zh:=by
      intro n
      induction n with
      | zero=>simp [cur,List.getD_eq_getElem?_getD,List.getElem?_eq_none (Nat.le_of_not_lt ht)]
      | succ n ihn=>rw [cur,if_neg (fun hh=>ht hh.2.2),ihn]
     rw [hz,List.getD_eq_getElem?_getD,List.getElem?_eq_none (by simp;omega)]
     rfl
   generalize hTc:(List.range T.length).map (cur (fun k=>listed.getD k false) (xC l) vs T l.length)=Tc at hTl
   have hTclen:Tc.length=T.length:=by rw [← hTc];simp
   have hLR:LR m' Tc a.tmps.toList:=by
    refine ⟨by rw [hTclen];simp [hsz],fun t=>?_⟩
    rw [hTl]
    simpa [List.getD_eq_getElem?_getD,Array.getD_eq_getD_getElem?] using hvr t
   have hlook:∀ t,t ∈ o.looksAt ops→Tc.getD t zh=(Ts j).getD t zh:=by
    intro t ht
    rw [hTl,← htr.ade j (by omega)]
    refine ZY (by omega) (fun k hk hdk=>(writers k t (by omega) (by omega) hdk (.inl ht)).1 hk) (fun k hk1 hk2 hdk=>?_)
    by_cases e:k=j
    ·
     subst e;exact hjf
    ·
     exact (writers k t hk2 e hdk (.inl ht)).2 (by omega)
   have hTslen:(Ts j).length=T.length:=htr.len j (by omega)
   have hevs:∀ x ∈ o.op.operands.toList,zD Tc x=zD (Ts j) x:=by
    intro x hx
    cases x with
    | tmp t=>exact hlook t (List.mem_append_left _ (List.mem_filterMap.2 ⟨.tmp t,hx,rfl⟩))
    | const v=>rfl
    | global g=>rfl
    | func f=>rfl
   have hstep:jG P call Tc o=jG P call (Ts j) o:=Ky hevs
   have hwant:Region.wanted o (yielded ops a.tmps)=Region.wanted o (ynd ops (Ts j)):=by
    unfold Region.wanted
    cases hg:o.guard with
    | none=>rfl
    | some gw =>
     obtain ⟨g,wv⟩:=gw
     simp only [aby hLR]
     have:ynd ops Tc g=ynd ops (Ts j) g:=by
      unfold ynd
      cases hdg:(ops[g]?).bind (·.dst) with
      | none=>rfl
      | some d =>
       have hmem:d ∈ o.looksAt ops:=List.mem_append_right _ (by rw [hg];simp [hdg])
       have:=hlook d hmem
       simp only [Option.bind_some]
       by_cases hdl:d < T.length
       ·
        have a1:d < Tc.length:=by rw [hTclen];exact hdl
        have a2:d < (Ts j).length:=by rw [hTslen];exact hdl
        simp only [List.getD_eq_getElem?_getD,List.getElem?_eq_getElem a1,List.getElem?_eq_getElem a2,Option.getD_some] at this ⊢
        rw [this]
       ·
        rw [List.getElem?_eq_none (by rw [hTclen];exact Nat.le_of_not_lt hdl),List.getElem?_eq_none (by rw [hTslen];exact Nat.le_of_not_lt hdl)]
     rw [this]
   have hL':∀ k,k≠j→(listed.setIfInBounds j true).getD k false=listed.getD k false:=fun k hk=>getD_set_ne false (fun e=>hk e.symm)
   have hLj:(listed.setIfInBounds j true).getD j false=true:=by simp [Array.getD_eq_getD_getElem?,hjs]
   have hcnt':(listed.setIfInBounds j true).toList.count false=fuel:=by
    have hb:listed.toList[j]?=some false:=by
     simp only [Array.getElem?_toList,Array.getElem?_eq_getElem hjs]
     simp [Array.getD_eq_getD_getElem?,hjs] at hjf
     rw [hjf]
    have:=count_set hb
    rw [Array.toList_setIfInBounds]
    omega
   have next:∀ (v':Value) (m2:Mp) (w2:World),VR m2 (vs j) v'→m'.le m2→Rel B w0 m2 (hcur (fun k=>(listed.setIfInBounds j true).getD k false) (kZ P l) Hs l.length) w2 →
     wpAny P .any ops Q fuel (listed.setIfInBounds j true) (a.put o.dst v') w2:=by
    intro v' m2 w2 hv hm2 hrel2
    refine ih _ _ _ ⟨by simpa using hI.size,?_,m2,Mp.le_trans hm hm2,?_,?_,?_,hrel2⟩ hcnt'
    ·
     intro i k hi hp
     by_cases hij:i=j
     ·
      subst hij
      have hk:=predsL k hp
      by_cases hki:k=i
      ·
       subst hki;exact hLj
      ·
       rw [hL' k hki];exact hk
     ·
      rw [hL' i hij] at hi
      have hk:=hI.down i k hi hp
      by_cases hkj:k=j
      ·
       subst hkj;exact hLj
      ·
       rw [hL' k hkj];exact hk
    ·
     cases hdo:o.dst with
     | none=>exact hsz
     | some d=>simpa [Act.put] using hsz
    ·
     intro t
     by_cases hdt:o.dst=some t
     ·
      by_cases ht:t < T.length
      ·
       have e1:cur (fun k=>(listed.setIfInBounds j true).getD k false) (xC l) vs T l.length t=vs j:=by
        rw [ZY (j:=j+1) (by omega)]
        ·
         rw [cur,if_pos ⟨rfl,by rw [hdj];exact hdt,ht⟩]
        ·
         intro k hk hdk
         by_cases e:k=j
         ·
          subst e;exact hLj
         ·
          rw [hL' k e];exact (writers k t (by omega) e hdk (.inr hdt)).1 (by omega)
        ·
         intro k hk1 hk2 hdk
         rw [hL' k (by omega)];exact (writers k t hk2 (by omega) hdk (.inr hdt)).2 (by omega)
       rw [e1,hdt]
       have hts:t < a.tmps.size:=by rw [hsz];exact ht
       have:(a.put (some t) v').tmps.getD t zh=v':=by simp [Act.put,Array.getD_eq_getD_getElem?,hts]
       rw [this];exact hv
      ·
       have hz:∀ n,cur (fun k=>(listed.setIfInBounds j true).getD k false) (xC l) vs T n t=zh:=by
        intro n
        induction n with
        | zero=>simp [cur,List.getD_eq_getElem?_getD,List.getElem?_eq_none (Nat.le_of_not_lt ht)]
        | succ n ihn=>rw [cur,if_neg (fun hh=>ht hh.2.2),ihn]
       rw [hz]
       have hsize:(a.put o.dst v').tmps.size=a.tmps.size:=by cases o.dst <;> simp [Act.put]
       have:(a.put o.dst v').tmps.getD t zh=zh:=by
        rw [Array.getD_eq_getD_getElem?,Array.getElem?_eq_none (by rw [hsize,hsz];exact Nat.le_of_not_lt ht)];rfl
       rw [this];exact VR.zh
     ·
      rw [V7 hL' (by rw [hdj];exact hdt)]
      have:(a.put o.dst v').tmps.getD t zh=a.tmps.getD t zh:=by
       cases hdo:o.dst with
       | none=>rfl
       | some d =>
        have hne:d≠t:=fun e=>hdt (by rw [hdo,e])
        simp [Act.put,Array.getD_eq_getD_getElem?,Array.getElem?_setIfInBounds_ne hne]
      rw [this]
      exact (hvr t).mono hm2
    ·
     cases o.dst <;> exact hd
   have chOrd:qU P o=true→∀ k,k < l.length→k≠j→kZ P l k=true→(k < j→listed.getD k false=true)∧(j < k→listed.getD k false=false):=by
    intro hco k hk hkj hck
    have hok:l[k]?=some l[k]:=List.getElem?_eq_getElem hk
    have hck':qU P l[k]=true:=by simpa [kZ,hok] using hck
    have comp:pre (masks l []) j k=true∨pre (masks l []) k j=true:=by
     cases e1:pre (masks l []) j k with
     | true=>exact .inl rfl
     | false =>
      cases e2:pre (masks l []) k j with
      | true=>exact .inr rfl
      | false=>exact absurd ⟨hck',hco⟩ (pairs k j _ _ hok ho hkj e2 e1).2.2
    constructor
    ·
     intro hlt
     rcases comp with c | c
     ·
      exact predsL k c
     ·
      have:=Zn hedge k j c;omega
    ·
     intro hlt
     rcases comp with c | c
     ·
      have:=Zn hedge j k c;omega
     ·
      exact succsN k c
   have hNow:qU P o=true→hcur (fun k=>listed.getD k false) (kZ P l) Hs l.length=Hs j:=by
    intro hco
    rw [← htr.KW j (by omega)]
    refine yR (by omega) (fun k hk hck=>(chOrd hco k (by omega) (by omega) hck).1 hk) (fun k h1 h2 hck=>?_)
    by_cases e:k=j
    ·
     subst e;exact hjf
    ·
     exact (chOrd hco k h2 e hck).2 (by omega)
   have hThen:qU P o=true→hcur (fun k=>(listed.setIfInBounds j true).getD k false) (kZ P l) Hs l.length=Hs (j+1):=by
    intro hco
    rw [← htr.KW (j+1) (by omega)]
    refine yR (by omega) (fun k hk hck=>?_) (fun k h1 h2 hck=>?_)
    ·
     by_cases e:k=j
     ·
      subst e;exact hLj
     ·
      rw [hL' k e];exact (chOrd hco k (by omega) e hck).1 (by omega)
    ·
     rw [hL' k (by omega)];exact (chOrd hco k h2 (by omega) hck).2 (by omega)
   have hStill:qU P o=false→hcur (fun k=>(listed.setIfInBounds j true).getD k false) (kZ P l) Hs l.length=hcur (fun k=>listed.getD k false) (kZ P l) Hs l.length :=
    fun hco=>Xe hL' (by rw [hcj];exact hco) _
   have hH:=htr.stepH j o ho
   unfold wpOp
   rw [hget,ho]
   simp only []
   rw [hwant]
   split
   ·
    rename_i hw
    rw [if_pos hw] at hH
    have hst:∃ G',jG P call Tc o (hcur (fun k=>listed.getD k false) (kZ P l) Hs l.length)=some (vs j,G')∧G'=hcur (fun k=>(listed.setIfInBounds j true).getD k false) (kZ P l) Hs l.length:=by
     rw [hstep]
     cases hco:qU P o with
     | true=>rw [hNow hco,hThen hco];exact ⟨_,hH,rfl⟩
     | false =>
      rw [hStill hco]
      have hok:aa0 o=true:=by
       rw [xW hco] at hH
       split at hH
       ·
        rename_i h;exact h
       ·
        cases hH
      rw [xW hco,if_pos hok] at hH
      rw [xW hco,if_pos hok]
      have viaChk:∀ k,k < l.length→kZ P l k=true→pre (masks l []) j k=false→pre (masks l []) k j=false→hcur (fun k=>listed.getD k false) (kZ P l) Hs l.length=Hs (if k < j then k else k+1) →
        ∃ G',aOp P (zD (Ts j)) o (hcur (fun k=>listed.getD k false) (kZ P l) Hs l.length)=some (vs j,G')∧G'=hcur (fun k=>listed.getD k false) (kZ P l) Hs l.length:=by
       intro k hk hck p1 p2 he
       obtain ⟨v',G',hv,rfl⟩:=hchk j o ho hco hw k hk hck p1 p2
       rw [← he] at hv
       exact ⟨G',hv,Z7 hco hv⟩
      have down2:∀ k k',k < l.length→k' < k→kZ P l k=true→kZ P l k'=true→listed.getD k false=true→listed.getD k' false=true:=by
       intro k k' hk hlt hck hck' hLk
       have hok1:l[k]?=some l[k]:=List.getElem?_eq_getElem hk
       have hok2:l[k']?=some l[k']:=List.getElem?_eq_getElem (by omega)
       cases e1:pre (masks l []) k k' with
       | true=>exact hI.down k k' hLk e1
       | false =>
        have e2:pre (masks l []) k' k=false:=by
         cases e2:pre (masks l []) k' k with
         | false=>rfl
         | true=>have:=Zn hedge k' k e2;omega
        exact absurd ⟨by simpa [kZ,hok1] using hck,by simpa [kZ,hok2] using hck'⟩ (pairs k k' _ _ hok1 hok2 (by omega) e1 e2).2.2
      by_cases hA:∃ k,k < j∧(kZ P l k=true∧listed.getD k false=false)
      ·
       obtain ⟨k,hkj,⟨hck,hLk⟩,hmin⟩:=Zf j hA
       have he:hcur (fun k=>listed.getD k false) (kZ P l) Hs l.length=Hs k:=by
        rw [← htr.KW k (by omega)]
        refine yR (by omega) (fun k' hk' hck'=>?_) (fun k' h1 h2 hck'=>?_)
        ·
         cases hh:listed.getD k' false with
         | true=>rfl
         | false=>exact absurd ⟨hck',hh⟩ (hmin k' hk')
        ·
         by_cases e:k'=k
         ·
          subst e;exact hLk
         ·
          cases hh:listed.getD k' false with
          | false=>rfl
          | true=>rw [down2 k' k h2 (by omega) hck' hck hh] at hLk;cases hLk
       refine viaChk k (by omega) hck ?_ ?_ (by rw [if_pos hkj];exact he)
       ·
        cases e:pre (masks l []) j k with
        | false=>rfl
        | true=>rw [predsL k e] at hLk;cases hLk
       ·
        cases e:pre (masks l []) k j with
        | false=>rfl
        | true=>have:=Zn hedge k j e;omega
      ·
       by_cases hB:∃ k,k < l.length∧(j < k∧kZ P l k=true∧listed.getD k false=true)
       ·
        obtain ⟨k,hk,⟨hjk,hck,hLk⟩,hmax⟩:=Qv _ hB
        have he:hcur (fun k=>listed.getD k false) (kZ P l) Hs l.length=Hs (k+1):=by
         rw [← htr.KW (k+1) (by omega)]
         refine yR (by omega) (fun k' hk' hck'=>?_) (fun k' h1 h2 hck'=>?_)
         ·
          by_cases e:k'=k
          ·
           subst e;exact hLk
          ·
           exact down2 k k' hk (by omega) hck hck' hLk
         ·
          cases hh:listed.getD k' false with
          | false=>rfl
          | true=>exact absurd ⟨by omega,hck',hh⟩ (hmax k' (by omega) h2)
        refine viaChk k hk hck ?_ ?_ (by rw [if_neg (by omega)];exact he)
        ·
         cases e:pre (masks l []) j k with
         | false=>rfl
         | true=>have:=Zn hedge j k e;omega
        ·
         cases e:pre (masks l []) k j with
         | false=>rfl
         | true=>rw [succsN k e] at hLk;cases hLk
       ·
        have he:hcur (fun k=>listed.getD k false) (kZ P l) Hs l.length=Hs j:=by
         rw [← htr.KW j (by omega)]
         refine yR (by omega) (fun k hk hck=>?_) (fun k h1 h2 hck=>?_)
         ·
          cases hh:listed.getD k false with
          | true=>rfl
          | false=>exact absurd ⟨k,hk,hck,hh⟩ hA
         ·
          by_cases e:k=j
          ·
           subst e;exact hjf
          ·
           cases hh:listed.getD k false with
           | false=>rfl
           | true=>exact absurd ⟨k,h2,by omega,hck,hh⟩ hB
        rw [he]
        exact ⟨_,hH,Z7 hco hH⟩
    obtain ⟨G',hst,hG'⟩:=hst
    refine .inl (Vr hc hrel hLR hst ?_)
    intro v' w2 m2 hv hm2 hrel2
    exact next v' m2 w2 hv hm2 (by rw [← hG'];exact hrel2)
   ·
    rename_i hw
    rw [if_neg hw] at hH
    refine next zh m' w (by rw [hH.1];exact VR.zh) (Mp.le_refl m') ?_
    cases hco:qU P o with
    | true=>rw [hThen hco,hH.2,← hNow hco];exact hrel
    | false=>rw [hStill hco];exact hrel
theorem VP {call:FuncId→List Value→M Value} (hc:ZN P B w0 call) (hmix:P.follows .mixedOrders=true) {id:Nat} {ops:Array Oper} {T T':List Value} {Q:Exit→Act→World→Prop} {a:Act}
  (h:qM P call ops T H=some (T',H')) (hT:LR m T a.tmps.toList) (hd:a.defers=[]) (hr:Rel B w0 m H w) (hQ:∀ a' w',Post B w0 m T' H' a' w'→Q .normal a' w') :
  (Code.region id ops true).wp P Q a w:=by
 unfold qM at h
 split at h
 ·
  rename_i hdraw
  split at h
  ·
   rename_i tr T2 H2 htr
   split at h
   ·
    rename_i hall
    simp only [Option.some.injEq,Prod.mk.injEq] at h
    obtain ⟨rfl,rfl⟩:=h
    obtain ⟨hlen,hTr⟩:=aa9 _ _ _ _ _ _ htr
    have e1:aat tr T2 ops.toList.length=T2:=by unfold aat;rw [List.getElem?_eq_none (by omega)]
    have e2:Xq tr H2 ops.toList.length=H2:=by unfold Xq;rw [List.getElem?_eq_none (by omega)]
    refine wp_region_any hmix (XI (m:=m) hc hTr hdraw ?_ (fun a' w' hp=>hQ a' w' (by rw [e1,e2] at hp;exact hp)) ops.size _ a _ ?_ ?_)
    ·
     intro i o ho hco hw k hk hck p1 p2
     have hil:i < ops.toList.length:=(List.getElem?_eq_some_iff.1 ho).1
     have hone:=List.all_eq_true.1 hall i (List.mem_range.2 hil)
     unfold X9 at hone
     have hti:tr[i]?=some tr[i]:=List.getElem?_eq_getElem (by omega)
     rw [ho,hti] at hone
     have hTi:aat tr T2 i=tr[i].1:=by simp [aat,hti]
     rw [hTi] at hw ⊢
     simp only [hco,hw,Bool.not_true,Bool.or_self,Bool.false_eq_true,if_false] at hone
     have hk2:=List.all_eq_true.1 hone k (List.mem_range.2 hk)
     have hok:ops.toList[k]?=some ops.toList[k]:=List.getElem?_eq_getElem hk
     have hck':qU P ops.toList[k]=true:=by simpa [kZ,hok] using hck
     rw [hok] at hk2
     simp only [hck',p1,p2,Bool.or_self,Bool.not_false,Bool.and_self,if_true] at hk2
     have hHs:(tr.map (·.2.1)++[H2])[if k < i then k else k+1]?=some (Xq tr H2 (if k < i then k else k+1)):=by
      generalize hq:(if k < i then k else k+1)=q
      have hq2:q≤tr.length:=by rw [← hq];split <;> omega
      by_cases hqt:q < tr.length
      ·
       rw [List.getElem?_append_left (by simpa using hqt)]
       simp [Xq,List.getElem?_eq_getElem hqt]
      ·
       have:q=tr.length:=by omega
       subst this
       rw [List.getElem?_append_right (by simp)]
       simp [Xq]
     rw [hHs] at hk2
     simp only at hk2
     unfold recheck at hk2
     split at hk2
     ·
      rename_i v' G' hv
      refine ⟨v',G',hv,?_⟩
      rw [acJ _ _ _ hk2]
      simp [acO,hti]
     ·
      cases hk2
    ·
     have hf:∀ k,(Array.replicate ops.size false).getD k false=false:=fun k=>by
      simp only [Array.getD_eq_getD_getElem?,Array.getElem?_replicate]
      split <;> rfl
     refine ⟨by simp,(fun i j hi=>by rw [hf] at hi;cases hi),m,Mp.le_refl m,by have:=hT.1;simp at this;omega,fun t=>?_,hd,?_⟩
     ·
      have hz:∀ n,cur (fun k=>(Array.replicate ops.size false).getD k false) (xC ops.toList) (acO tr) T n t=T.getD t zh:=by
       intro n
       induction n with
       | zero=>rfl
       | succ n ihn=>rw [cur,if_neg (fun hh=>by rw [hf] at hh;cases hh.1),ihn]
      rw [hz]
      have:=hT.2 t
      simpa [List.getD_eq_getElem?_getD,Array.getD_eq_getD_getElem?] using this
     ·
      have hz:∀ n,hcur (fun k=>(Array.replicate ops.size false).getD k false) (kZ P ops.toList) (Xq tr H2) n=H:=by
       intro n
       induction n with
       | zero=>exact hTr.h0
       | succ n ihn=>rw [hcur,if_neg (fun hh=>by rw [hf] at hh;cases hh.1),ihn]
      rw [hz]
      exact hr.draw _
    ·
     simp [List.count_replicate]
   ·
    cases h
  ·
   cases h
 ·
  cases h
end
end Go.Abs
namespace Go.Abs
open Go.RowKit
inductive AEx where
 | normal
 | exit (id:Nat)
 | ret
def AEx.out:AEx→Exit
 | .normal=>.normal
 | .exit id=>.exit id
 | .ret=>.ret
abbrev St:=Option (AEx×List Value×zx)
def wG:Nat→(List Value→zx→St)→List Value→zx→St
 | 0,_,_,_=>none
 | n+1,f,T,H=>match f T H with
  | some (.normal,T1,H1)=>wG n f T1 H1
  | r=>r
def wX (P:Program) (call:FuncId→List Value→M Value) (fuel:Nat):Code→List Value→zx→St
 | .skip,T,H=>some (.normal,T,H)
 | .region _ ops false,T,H=>match YX P call ops ops.toList T H with
  | some (T1,H1)=>some (.normal,T1,H1)
  | none=>none
 | .region _ ops true,T,H=>match qM P call ops T H with
  | some (T1,H1)=>some (.normal,T1,H1)
  | none=>none
 | .seq x y,T,H=>match wX P call fuel x T H with
  | some (.normal,T1,H1)=>wX P call fuel y T1 H1
  | r=>r
 | .cond c x y,T,H=>if wS c then
   match zD T c with
   | .bool true=>wX P call fuel x T H
   | .bool false=>wX P call fuel y T H
   | _=>none
  else none
 | .block id c,T,H=>match wX P call fuel c T H with
  | some (.exit id',T1,H1)=>if id'=id then some (.normal,T1,H1) else some (.exit id',T1,H1)
  | r=>r
 | .loop c,T,H=>wG fuel (wX P call fuel c) T H
 | .exit id,T,H=>some (.exit id,T,H)
 | .ret,T,H=>some (.ret,T,H)
 | _,_,_=>none
def qj (P:Program) (T:List Value) (H:zx):List ResultVar→Option (List Value)
 | []=>some []
 | .tmp t::r=>match qj P T H r with
  | some l=>some (T.getD t zh::l)
  | none=>none
 | .cell a t::r=>match wu P t (T.getD a zh) H,qj P T H r with
  | some (v,_),some l=>some (v::l)
  | _,_=>none
def aa5 (P:Program) (fn:Func) (T:List Value):M Value:=fun H =>
 match qj P T H fn.results.toList with
 | some [v]=>some (v,H)
 | some l=>some (.tuple l.toArray,H)
 | none=>none
def qx (P:Program):Nat→FuncId→List Value→M Value
 | 0,_,_=>fun _=>none
 | n+1,f,args=>fun H =>
  match P.funcs[f]? with
  | some fn =>
   if fn.name= "runtime.NumGoroutine" then none else
   match fn.body with
   | some c=>match wX P (qx P n) n c (args++List.replicate (fn.ntmps - args.length) zh) H with
    | some (.normal,T,H')=>aa5 P fn T H'
    | some (.ret,T,H')=>aa5 P fn T H'
    | _=>none
   | none=>none
  | none=>none
section
variable {P:Program} {B:Nat} {w0:World} {m:Mp} {H H':zx} {w:World}
theorem aa6 {call:FuncId→List Value→M Value} (hc:ZN P B w0 call) (hmix:P.follows .mixedOrders=true) (fuel:Nat):∀ (c:Code) (T:List Value) (H:zx) (e:AEx) (T':List Value) (H':zx),
  wX P call fuel c T H=some (e,T',H')→∀ (m:Mp) (a:Act) (w:World),LR m T a.tmps.toList→a.defers=[]→Rel B w0 m H w →
  ∀ Q:Exit→Act→World→Prop,(∀ a' w',Post B w0 m T' H' a' w'→Q e.out a' w')→c.wp P Q a w:=by
 intro c
 induction c with
 | skip =>
  intro T H e T' H' h m a w hT hd hr Q hQ
  simp only [wX,Option.some.injEq,Prod.mk.injEq] at h
  obtain ⟨rfl,rfl,rfl⟩:=h
  exact wp_skip (hQ a w ⟨m,Mp.le_refl m,hT,hd,hr⟩)
 | region id ops draw =>
  intro T H e T' H' h m a w hT hd hr Q hQ
  cases draw with
  | false =>
   simp only [wX] at h
   split at h
   ·
    rename_i T1 H1 h1
    simp only [Option.some.injEq,Prod.mk.injEq] at h
    obtain ⟨rfl,rfl,rfl⟩:=h
    exact Xa hc h1 hT hd hr hQ
   ·
    cases h
  | true =>
   simp only [wX] at h
   split at h
   ·
    rename_i T1 H1 h1
    simp only [Option.some.injEq,Prod.mk.injEq] at h
    obtain ⟨rfl,rfl,rfl⟩:=h
    exact VP hc hmix h1 hT hd hr hQ
   ·
    cases h
 | seq x y ihx ihy =>
  intro T H e T' H' h m a w hT hd hr Q hQ
  simp only [wX] at h
  split at h
  ·
   rename_i T1 H1 h1
   refine wp_seq (ihx _ _ _ _ _ h1 m a w hT hd hr _ ?_)
   rintro a' w' ⟨m1,hm1,hT1,hd1,hr1⟩
   refine ihy _ _ _ _ _ h m1 a' w' hT1 hd1 hr1 Q ?_
   rintro a2 w2 ⟨m2,hm2,hT2,hd2,hr2⟩
   exact hQ a2 w2 ⟨m2,Mp.le_trans hm1 hm2,hT2,hd2,hr2⟩
  ·
   rename_i hne
   refine wp_seq (ihx _ _ _ _ _ h m a w hT hd hr _ ?_)
   intro a' w' hp
   cases e with
   | normal=>exact absurd h (hne _ _)
   | exit id=>exact hQ a' w' hp
   | ret=>exact hQ a' w' hp
 | cond c x y ihx ihy =>
  intro T H e T' H' h m a w hT hd hr Q hQ
  simp only [wX] at h
  split at h
  ·
   rename_i hok
   have hv:=zW hT hok
   split at h
   ·
    rename_i hb
    rw [hb] at hv
    exact wp_cond_true (by generalize a.eval c=u at hv;cases hv;rfl) (ihx _ _ _ _ _ h m a w hT hd hr Q hQ)
   ·
    rename_i hb
    rw [hb] at hv
    exact wp_cond_false (by generalize a.eval c=u at hv;cases hv;rfl) (ihy _ _ _ _ _ h m a w hT hd hr Q hQ)
   ·
    cases h
  ·
   cases h
 | block id c ih =>
  intro T H e T' H' h m a w hT hd hr Q hQ
  simp only [wX] at h
  split at h
  ·
   rename_i id' T1 H1 h1
   refine wp_block (ih _ _ _ _ _ h1 m a w hT hd hr _ ?_)
   intro a' w' hp
   split at h
   ·
    rename_i hid
    simp only [Option.some.injEq,Prod.mk.injEq] at h
    obtain ⟨rfl,rfl,rfl⟩:=h
    subst hid
    simp only [AEx.out,Exit.inBlock,if_true]
    exact hQ a' w' hp
   ·
    rename_i hid
    simp only [Option.some.injEq,Prod.mk.injEq] at h
    obtain ⟨rfl,rfl,rfl⟩:=h
    simp only [AEx.out,Exit.inBlock,hid,if_false]
    exact hQ a' w' hp
  ·
   rename_i hne
   refine wp_block (ih _ _ _ _ _ h m a w hT hd hr _ ?_)
   intro a' w' hp
   cases e with
   | exit id'=>exact absurd h (hne _ _ _)
   | normal=>exact hQ a' w' hp
   | ret=>exact hQ a' w' hp
 | loop c ih =>
  intro T H e T' H' h m a w hT hd hr Q hQ
  simp only [wX] at h
  refine wp_loop_ghost (fun n a w=>∃ T1 H1 m1,m.le m1∧wG n (wX P call fuel c) T1 H1=some (e,T',H')∧LR m1 T1 a.tmps.toList∧a.defers=[]∧Rel B w0 m1 H1 w) fuel
   ⟨T,H,m,Mp.le_refl m,h,hT,hd,hr⟩ ?_
  rintro n a1 w1 ⟨T1,H1,m1,hm1,h1,hT1,hd1,hr1⟩
  cases n with
  | zero=>simp only [wG] at h1;cases h1
  | succ n =>
   simp only [wG] at h1
   split at h1
   ·
    rename_i T2 H2 h2
    refine ih _ _ _ _ _ h2 m1 a1 w1 hT1 hd1 hr1 _ ?_
    rintro a2 w2 ⟨m2,hm2,hT2,hd2,hr2⟩
    exact ⟨n,by omega,T2,H2,m2,Mp.le_trans hm1 hm2,h1,hT2,hd2,hr2⟩
   ·
    rename_i hne
    refine ih _ _ _ _ _ h1 m1 a1 w1 hT1 hd1 hr1 _ ?_
    rintro a2 w2 ⟨m2,hm2,hT2,hd2,hr2⟩
    cases e with
    | normal=>exact absurd h1 (hne _ _)
    | exit id=>exact hQ a2 w2 ⟨m2,Mp.le_trans hm1 hm2,hT2,hd2,hr2⟩
    | ret=>exact hQ a2 w2 ⟨m2,Mp.le_trans hm1 hm2,hT2,hd2,hr2⟩
 | exit id =>
  intro T H e T' H' h m a w hT hd hr Q hQ
  simp only [wX,Option.some.injEq,Prod.mk.injEq] at h
  obtain ⟨rfl,rfl,rfl⟩:=h
  exact wp_exit (hQ a w ⟨m,Mp.le_refl m,hT,hd,hr⟩)
 | ret =>
  intro T H e T' H' h m a w hT hd hr Q hQ
  simp only [wX,Option.some.injEq,Prod.mk.injEq] at h
  obtain ⟨rfl,rfl,rfl⟩:=h
  exact wp_ret (hQ a w ⟨m,Mp.le_refl m,hT,hd,hr⟩)
 | _ =>
  intro T H e T' H' h
  simp only [wX] at h
  cases h
theorem aaq {t:TypeId} {p p' v:Value} (hr:Rel B w0 m H w) (h:wu P t p H=some (v,H')) (hp:VR m p p'):∃ v',(Instr.loadAt t p').run P w=.ok v' w∧VR m v v':=by
 unfold wu at h
 split at h
 ·
  rename_i r o
  cases hp with
  | @ptr _ _ L hm =>
   split at h
   ·
    rename_i cs own esz hg
    split at h
    ·
     rename_i ha
     split at h
     ·
      rename_i n hsz
      split at h
      ·
       rename_i hn
       cases h
       obtain ⟨cs',hl,hra⟩:=hr.range hm hg hn
       obtain ⟨d,hd,hd2⟩:=vO ha
       have hlen:cs'.length=n:=by rw [← hl.1];simp;omega
       have:=hl.toArray
       exact ⟨_,run_loadAt_mid w L.blk (L.shift+o) t cs' d hra hd hd2 (by rw [hlen];exact hsz),.agg this.1 this.2⟩
      ·
       cases h
     ·
      cases h
    ·
     rename_i ha
     split at h
     ·
      rename_i u hu
      cases h
      obtain ⟨v',hc,hv⟩:=hr.cell hm hg hu
      refine ⟨v',?_,hv⟩
      simp only [Instr.loadAt,Instr.sureAddr,Sem.run_bind,Sem.run_pure,Result.andThen_ok,loadVar,xG ha w,Bool.false_eq_true,if_false,Sem.run_ite,run_load,hc]
     ·
      cases h
    ·
     cases h
   ·
    cases h
 ·
  cases h
theorem Vg {T:List Value} {tmps:Array Value} (hT:LR m T tmps.toList) (hr:Rel B w0 m H w):∀ (l:List ResultVar) (vs:List Value),qj P T H l=some vs →
  ∃ vs',(l.mapM fun | .tmp t=>pure (tmps.getD t zh) | .cell a t=>do loadVar t (← asAddr (tmps.getD a zh)):Sem (List Value)).run P w=.ok vs' w∧LR m vs vs':=by
 have hg:∀ t,VR m (T.getD t zh) (tmps.getD t zh):=fun t=>by simpa [List.getD_eq_getElem?_getD,Array.getD_eq_getD_getElem?] using hT.2 t
 intro l
 induction l with
 | nil=>intro vs h;simp only [qj,Option.some.injEq] at h;subst h;exact ⟨[],rfl,.nil⟩
 | cons r l ih =>
  intro vs h
  cases r with
  | tmp t =>
   simp only [qj] at h
   split at h
   ·
    rename_i l2 h2
    cases h
    obtain ⟨vs',h3,h4⟩:=ih _ h2
    refine ⟨tmps.getD t zh::vs',?_,.cons (hg t) h4⟩
    simp only [List.mapM_cons,Sem.run_bind,Sem.run_pure,Result.andThen_ok,h3]
   ·
    cases h
  | cell a t =>
   simp only [qj] at h
   split at h
   ·
    rename_i v H2 l2 hl h2
    cases h
    obtain ⟨vs',h3,h4⟩:=ih _ h2
    have hp:=hg a
    have hs:H2=H:=by
     unfold wu at hl
     (repeat' split at hl) <;> first | (cases hl;done) | (cases hl;rfl)
    obtain ⟨v',w',m',h5,h6,h7,h8⟩:=QJ hr hl hp
    unfold wu at hl
    split at hl
    ·
     rename_i r o hto
     rw [hto] at hp
     generalize hpe:tmps.getD a zh=pv at hp h5
     cases hp with
     | @ptr _ _ L hm =>
      have hw:∃ v',(loadVar t ⟨L.blk,L.shift+o,none⟩).run P w=.ok v' w∧VR m v v':=by
       obtain ⟨v2,hv2,hvr2⟩:∃ v2,(Instr.loadAt t (.pointer (some ⟨L.blk,L.shift+o,none⟩))).run P w=.ok v2 w∧VR m v v2:=by
        have hl2:wu P t (.pointer (some ⟨r,o,none⟩)) H=some (v,H2):=by unfold wu;exact hl
        exact aaq hr hl2 (.ptr hm)
       refine ⟨v2,?_,hvr2⟩
       simpa [Instr.loadAt,Instr.sureAddr] using hv2
      obtain ⟨v2,hv2,hvr2⟩:=hw
      refine ⟨v2::vs',?_,.cons hvr2 h4⟩
      have has:(asAddr (tmps.getD a zh)).run P w=.ok ⟨L.blk,L.shift+o,none⟩ w:=by rw [hpe];rfl
      simp only [List.mapM_cons,Sem.run_bind,has,Sem.run_pure,Result.andThen_ok,hv2,h3]
    ·
     cases hl
   ·
    cases h
theorem abg {fn:Func} {T:List Value} {tmps:Array Value} {v:Value} (hT:LR m T tmps.toList) (hr:Rel B w0 m H w) (h:aa5 P fn T H=some (v,H')) :
  H'=H∧∃ v',(results fn tmps).run P w=.ok v' w∧VR m v v':=by
 have hmap:∀ vs':List Value,(fn.results.toList.mapM fun | .tmp t=>pure (tmps.getD t zh) | .cell a t=>do loadVar t (← asAddr (tmps.getD a zh)):Sem (List Value)).run P w=.ok vs' w →
   (results fn tmps).run P w=.ok (if h:vs'.toArray.size=1 then vs'.toArray[0] else .tuple vs'.toArray) w:=by
  intro vs' hv
  unfold results
  rw [← Array.toArray_toList (xs:=fn.results)]
  simp only [Sem.run_bind,List.mapM_toArray,Sem.run_map]
  refine (congrArg (fun r=>(Result.andThen r fun a w'=>Result.ok a.toArray w').andThen fun (a:Array Value) w'=>Sem.run P (pure (if h:a.size=1 then a[0] else Value.tuple a)) w') hv).trans ?_
  rfl
 unfold aa5 at h
 split at h
 ·
  rename_i v1 hv
  cases h
  obtain ⟨vs',h1,h2⟩:=Vg hT hr _ _ hv
  obtain ⟨v',rfl,hvr⟩:=h2.one
  exact ⟨rfl,v',by rw [hmap _ h1];rfl,hvr⟩
 ·
  rename_i l hne hv
  cases h
  obtain ⟨vs',h1,h2⟩:=Vg hT hr _ _ hv
  refine ⟨rfl,.tuple vs'.toArray,?_,?_⟩
  ·
   rw [hmap _ h1,dif_neg]
   intro hs
   have hl:l.length=1:=by rw [h2.1];simpa using hs
   match l,hl with
   | [x],_=>exact hne x rfl
  ·
   have:=h2.toArray
   exact .tuple this.1 this.2
 ·
  cases h
theorem call_ok (hmix : P.follows .mixedOrders = true) : ∀ n, ZN P B w0 (qx P n) := by
  intro n
  induction n with
  | zero => intro g args H v H' h; simp only [qx] at h; cases h
  | succ n ih =>
    intro g args H v H' h m w args' ha hr
    simp only [qx] at h
    split at h
    · rename_i fn hfn
      split at h
      · cases h
      · rename_i hname
        split at h
        · rename_i c hbody
          refine ⟨?_, ?_⟩
          · have hne : (fn.name == "runtime.NumGoroutine") = false := by simpa using hname
            have hnn : fn.body.isNone = false := by rw [hbody]; rfl
            simp only [callFunc, Sem.run_bind, run_program, Result.andThen_ok, hfn, hne, hnn, Bool.false_eq_true, if_false, Sem.run_pure]
          · have main : ∀ (e : AEx) (T : List Value) (H1 : zx), wX P (qx P n) n c (args ++ List.replicate (fn.ntmps - args.length) zh) H = some (e, T, H1) → (e = .normal ∨ e = .ret) → aa5 P fn T H1 = some (v, H') →
                Calls P g args'.toArray w fun e w' => ∃ v' m', e = .returned v' ∧ VR m' v v' ∧ m.le m' ∧ Rel B w0 m' H' w' := by
              intro e T H1 hcode he hres
              refine calls_of_wp hfn hbody ?_
              refine aa6 ih hmix n c _ _ _ _ _ hcode m _ w ?_ rfl hr _ ?_
              · have hl : args'.toArray.size = args.length := by simp [ha.1]
                rw [hl]
                simp only [Array.toList_append, List.toList_toArray, Array.toList_replicate]
                exact ha.append ⟨rfl, fun i => by
                  by_cases hi : i < fn.ntmps - args.length
                  · simp [List.getD_eq_getElem?_getD, hi]; exact VR.zh
                  · simp [List.getD_eq_getElem?_getD, List.getElem?_replicate, hi]; exact VR.zh⟩
              · rintro a' w' ⟨m1, hm1, hT1, hd1, hr1⟩
                obtain ⟨rfl, v', hrun, hvr⟩ := abg hT1 hr1 hres
                rcases he with rfl | rfl
                · exact ⟨hd1, v', hrun, v', m1, rfl, hvr, hm1, hr1⟩
                · exact ⟨hd1, v', hrun, v', m1, rfl, hvr, hm1, hr1⟩
            split at h
            · rename_i T H1 hcode; exact main _ _ _ hcode (.inl rfl) h
            · rename_i T H1 hcode; exact main _ _ _ hcode (.inr rfl) h
            · cases h
        · cases h
    · cases h
end
end Go.Abs
namespace Go.Abs
open Go.RowKit
inductive Ty where
 | int (k:IntKind)
 | bool
 | str
 | slc (bytes:Nat) (e:Ty)
 | pair (a b:Ty)
 | unit
def Ty.Val:Ty→Type
 | .int _=>Int
 | .bool=>Bool
 | .str=>ByteArray
 | .slc _ e=>Option (List e.Val)
 | .pair a b=>a.Val×b.Val
 | .unit=>Unit
def Ty.sz:Ty→Nat
 | .int _=>1
 | .bool=>1
 | .str=>1
 | .slc _ _=>1
 | .pair a b=>a.sz+b.sz
 | .unit=>0
def Ty.Good:(t:Ty)→t.Val→Prop
 | .int k,n=>(Lit.int k n).wf=true
 | .bool,_=>True
 | .str,s=>s.size≤140737488351232
 | .slc bytes e,l=>match l with
  | none=>True
  | some l=>l.length * bytes≤140737488351232∧l.length≤9223372036854775807∧∀ x ∈ l,e.Good x
 | .pair a b,(x,y)=>a.Good x∧b.Good y
 | .unit,_=>True
def jv {α:Type} (f:α→zx→List Value×zx):List α→zx→List Value×zx
 | [],H=>([],H)
 | x::l,H=>((f x H).1++(jv f l (f x H).2).1,(jv f l (f x H).2).2)
def Ty.place:(t:Ty)→t.Val→zx→List Value×zx
 | .int k,n,H=>([.int k n],H)
 | .bool,b,H=>([.bool b],H)
 | .str,s,H=>([.string s],H)
 | .slc _ e,l,H=>match l with
  | none=>([.slice none 0 0],H)
  | some []=>([.slice (some ⟨0,0,some 0⟩) 0 0],H)
  | some (x::l)=>([.slice (some ⟨(jv e.place (x::l) H).2.next,0,none⟩) (l.length+1) (l.length+1)],
    (jv e.place (x::l) H).2.push (.cells (jv e.place (x::l) H).1 .ro e.sz))
 | .pair a b,(x,y),H=>((a.place x H).1++(b.place y (a.place x H).2).1,(b.place y (a.place x H).2).2)
 | .unit,_,H=>([],H)
def ac2 (P:Program) (g:TypeId→Option Ty):List Field→Nat→Option Ty
 | [],_=>some .unit
 | f::fs,off=>match g f.type,ac2 P g fs (off+P.cellsOf f.type) with
  | some c,some r=>if f.offset=off∧P.cellsOf f.type=c.sz then some (.pair c r) else none
  | _,_=>none
def chain:Nat→Ty→Ty
 | 0,_=>.unit
 | n+1,c=>.pair c (chain n c)
def abW (P:Program):Nat→TypeId→Option Ty
 | 0,_=>none
 | n+1,t=>match P.underlying t with
  | some (.int k)=>some (.int k)
  | some .bool=>some .bool
  | some .string=>some .str
  | some (.slice e)=>match abW P n e with
   | some c=>if P.cellsOf e=c.sz∧0 < c.sz then some (.slc (P.bytesOf e) c) else none
   | none=>none
  | some (.struct fs)=>match ac2 P (abW P n) fs.toList 0 with
   | some c=>if P.cellsOf t=c.sz then some c else none
   | none=>none
  | some (.array k e)=>match abW P n e with
   | some c=>if P.cellsOf e=c.sz∧P.cellsOf t=k * c.sz then some (chain k c) else none
   | none=>none
  | _=>none
section
variable {P:Program} {B:Nat} {w0:World} {m:Mp} {H H':zx} {w:World}
theorem Rel.ac8 {cs:List Value} {esz:Nat} {L:Loc} (hr:Rel B w0 m H w) (hL:L.esz=esz) (hlt:L.blk < B) (ho:KU m w L (.cells cs .ro esz)) :
  Rel B w0 (m.add H.next L) (H.push (.cells cs .ro esz)) w:=by
 have hle:m.le (m.add H.next L):=Mp.yU (hr.fresh _ (Nat.le_refl _))
 refine ⟨hr.below,hr.base,?_,?_,?_,?_,?_⟩
 ·
  intro r L' o' hm hg
  rw [zx.zQ] at hg
  by_cases e:r=H.next
  ·
   subst e;rw [Mp.add_same] at hm;rw [if_pos rfl] at hg;cases hm;cases hg;exact ho.mono hle
  ·
   rw [Mp.je e] at hm;rw [if_neg e] at hg;exact (hr.obj r L' o' hm hg).mono hle
 ·
  intro r L' hm
  by_cases e:r=H.next
  ·
   subst e;rw [Mp.add_same] at hm;cases hm;have:=hr.base;omega
  ·
   rw [Mp.je e] at hm;exact hr.lt r L' hm
 ·
  intro r L' o' hm hg hw
  rw [zx.zQ] at hg
  by_cases e:r=H.next
  ·
   subst e;rw [if_pos rfl] at hg;cases hg;cases hw
  ·
   rw [Mp.je e] at hm;rw [if_neg e] at hg;exact hr.own r L' o' hm hg hw
 ·
  intro r r' L1 L2 o1 o2 hne h1 h2 g1 g2 hw ha hbk
  rw [zx.zQ] at g1 g2
  by_cases e1:r=H.next
  ·
   rw [if_pos e1] at g1;cases g1;cases hw
  ·
   rw [Mp.je e1] at h1;rw [if_neg e1] at g1
   by_cases e2:r'=H.next
   ·
    subst e2;rw [Mp.add_same] at h2;cases h2
    have:=hr.own r L1 o1 h1 g1 hw
    omega
   ·
    rw [Mp.je e2] at h2;rw [if_neg e2] at g2
    exact hr.apart r r' L1 L2 o1 o2 hne h1 h2 g1 g2 hw ha hbk
 ·
  intro r hr'
  simp only [zx.xM] at hr'
  rw [Mp.je (by omega)]
  exact hr.fresh r (by omega)
def Opens (P:Program) (w:World) (c:Ty) (x:c.Val) (cs:List Value):Prop :=
 ∀ (B:Nat) (w0:World) (m:Mp) (H:zx),w.heap.size≤B→Rel B w0 m H w→∃ m',m.le m'∧Rel B w0 m' (c.place x H).2 w∧LR m' (c.place x H).1 cs
theorem mapM_some {α β:Type} {f:α→Option β}:∀ (l:List α) (r:List β),l.mapM f=some r→r.length=l.length∧∀ (i:Nat) (a:α),l[i]?=some a→∃ b,r[i]?=some b∧f a=some b:=by
 intro l
 induction l with
 | nil=>intro r h;simp at h;subst h;exact ⟨rfl,fun i a h=>by simp at h⟩
 | cons x l ih =>
  intro r h
  simp only [List.mapM_cons] at h
  cases hx:f x with
  | none=>simp [hx] at h
  | some y =>
   cases hl:l.mapM f with
   | none=>simp [hx,hl] at h
   | some r' =>
    simp [hx,hl] at h
    subst h
    obtain ⟨h1,h2⟩:=ih r' hl
    refine ⟨by simp [h1],fun i a hi=>?_⟩
    cases i with
    | zero=>simp at hi;subst hi;exact ⟨y,rfl,hx⟩
    | succ i=>simpa using h2 i a (by simpa using hi)
theorem kL {β:Type} {f:Nat→Option β} {n:Nat} {r:List β} (h:(List.range n).mapM f=some r):r.length=n∧∀ i,i < n→∃ b,r[i]?=some b∧f i=some b:=by
 obtain ⟨h1,h2⟩:=mapM_some _ _ h
 exact ⟨by simpa using h1,fun i hi=>h2 i i (by simp [hi])⟩
theorem kG {a:Addr} {n:Nat} {cs:List Value} (h:w.cells? 0 a n=some cs):cs.length=n∧∀ (j:Nat) (v:Value),cs[j]?=some v→w.cell? (a.add j)=some v:=by
 unfold World.cells? at h
 rw [if_pos (Nat.zero_le _)] at h
 obtain ⟨h1,h2⟩:=kL h
 refine ⟨h1,fun j v hj=>?_⟩
 have hlt:j < n:=by rw [← h1];exact (List.getElem?_eq_some_iff.1 hj).1
 obtain ⟨b,hb,hc⟩:=h2 j hlt
 rw [hj] at hb;cases hb;exact hc
theorem ach {c:Ty}:∀ (css:List (List Value)) ,(∀ cs ∈ css,∃ x:c.Val,c.Good x∧Opens P w c x cs) →
  ∃ xs:List c.Val,xs.length=css.length∧(∀ x ∈ xs,c.Good x)∧∀ (B:Nat) (w0:World) (m:Mp) (H:zx),w.heap.size≤B→Rel B w0 m H w →
   ∃ m',m.le m'∧Rel B w0 m' (jv c.place xs H).2 w∧LR m' (jv c.place xs H).1 css.flatten:=by
 intro css
 induction css with
 | nil=>intro _;exact ⟨[],rfl,(fun _ h=>by cases h),fun B w0 m H _ hr=>⟨m,Mp.le_refl m,hr,LR.nil⟩⟩
 | cons cs css ih =>
  intro h
  obtain ⟨x,hg,hx⟩:=h cs (by simp)
  obtain ⟨xs,h1,h2,h3⟩:=ih (fun cs' hcs=>h cs' (by simp [hcs]))
  refine ⟨x::xs,by simp [h1],fun y hy=>?_,fun B w0 m H hB hr=>?_⟩
  ·
   rcases List.mem_cons.1 hy with rfl | hy
   ·
    exact hg
   ·
    exact h2 y hy
  ·
   obtain ⟨m1,hm1,hr1,hl1⟩:=hx B w0 m H hB hr
   obtain ⟨m2,hm2,hr2,hl2⟩:=h3 B w0 m1 _ hB hr1
   exact ⟨m2,Mp.le_trans hm1 hm2,hr2,(hl1.mono hm2).append hl2⟩
theorem flat_get {css:List (List Value)} {n:Nat} (h:∀ cs ∈ css,cs.length=n) (hn:0 < n) (j:Nat):css.flatten[j]?=(css[j / n]?).bind (·[j % n]?):=by
 induction css generalizing j with
 | nil=>simp
 | cons cs css ih =>
  have hl:=h cs (by simp)
  rw [List.flatten_cons]
  by_cases hj:j < n
  ·
   rw [List.getElem?_append_left (by omega),Nat.div_eq_of_lt hj,Nat.mod_eq_of_lt hj]
   rfl
  ·
   rw [List.getElem?_append_right (by omega),hl,ih (fun cs' hcs=>h cs' (by simp [hcs]))]
   have e1:j / n=(j - n) / n+1:=by rw [Nat.div_eq_sub_div hn (by omega)]
   have e2:j % n=(j - n) % n:=by rw [Nat.mod_eq_sub_mod (by omega)]
   rw [e1,e2,List.getElem?_cons_succ]
theorem flat_length {css:List (List Value)} {n:Nat} (h:∀ cs ∈ css,cs.length=n):css.flatten.length=css.length * n:=by
 induction css with
 | nil=>simp
 | cons cs css ih =>
  rw [List.flatten_cons,List.length_append,h cs (by simp),ih (fun cs' hcs=>h cs' (by simp [hcs])),List.length_cons,Nat.add_mul];omega
section
variable {X:Type} {enc:TypeId×Value→X}
theorem open_slice {t e:TypeId} {c:Ty} {fuel:Nat} {a:Addr} {len cap:Nat} {d:DataW X} {ps:List MemPlace} (hu:P.underlying t=some (.slice e)) (hs:P.cellsOf e=c.sz) (hp:0 < c.sz)
  (ih:∀ (cs:List Value) (d:DataW X) (ps:List MemPlace),DataW.trod enc P w 0 (fun _=>true) true fuel e cs=some (d,ps)→(∀ y ∈ d.weights P e,y≤reachBytes)→∃ x:c.Val,c.Good x∧Opens P w c x cs)
  (h:DataW.trod enc P w 0 (fun _=>true) true (fuel+1) t [.slice (some a) len cap]=some (d,ps)) (hw:∀ y ∈ d.weights P t,y≤reachBytes) :
  ∃ x:(Ty.slc (P.bytesOf e) c).Val,(Ty.slc (P.bytesOf e) c).Good x∧Opens P w (Ty.slc (P.bytesOf e) c) x [.slice (some a) len cap]:=by
 simp only [DataW.trod,hu] at h
 split at h
 ·
  rename_i hc
  obtain ⟨_,hlc,hcm⟩:=hc
  cases he:(List.range len).mapM (fun i=>(w.cells? 0 (a.add (i * P.cellsOf e)) (P.cellsOf e)).bind (DataW.trod enc P w 0 (fun _=>true) true fuel e)) with
  | none=>simp [he] at h
  | some elems =>
   simp only [he,Option.bind_some,if_true] at h
   cases hrest:(List.range (cap - len)).mapM (fun j=>(w.cells? 0 (a.add ((len+j) * P.cellsOf e)) (P.cellsOf e)).bind (DataW.trod enc P w 0 (fun _=>true) true fuel e)) with
   | none=>simp [hrest] at h
   | some rest =>
    simp only [hrest,Option.map_some,Option.some.injEq,Prod.mk.injEq] at h
    obtain ⟨hd,_⟩:=h
    obtain ⟨he1,he2⟩:=kL he
    obtain ⟨hr1,hr2⟩:=kL hrest
    rw [hs] at he2 hr2
    subst hd
    simp only [DataW.weights,hu,List.mem_cons,List.mem_append] at hw
    have hwl:=hw _ (.inl rfl)
    simp only [List.length_map] at hwl
    have hbyt:len * P.bytesOf e≤140737488351232:=by
     have e1:len * P.bytesOf e≤(elems.length+rest.length) * P.bytesOf e:=Nat.mul_le_mul_right _ (by omega)
     have e2:reachBytes=140737488351232:=rfl
     omega
    have hmax:len≤9223372036854775807:=by have:=hcm;simp only [maxLen] at this;omega
    have hcell:∀ i,i < len→∃ ci di pi,w.cells? 0 (a.add (i * c.sz)) c.sz=some ci∧DataW.trod enc P w 0 (fun _=>true) true fuel e ci=some (di,pi)∧di ∈ elems.map (·.1):=by
     intro i hi
     obtain ⟨b,hb,hf⟩:=he2 i hi
     cases hcs:w.cells? 0 (a.add (i * c.sz)) c.sz with
     | none=>simp [hcs] at hf
     | some ci =>
      simp only [hcs,Option.bind_some] at hf
      exact ⟨ci,b.1,b.2,rfl,hf,List.mem_map.2 ⟨b,List.mem_of_getElem? hb,rfl⟩⟩
    have hcap:∀ i,i < cap→∃ ci,w.cells? 0 (a.add (i * c.sz)) c.sz=some ci:=by
     intro i hi
     by_cases hil:i < len
     ·
      obtain ⟨ci,_,_,h1,_⟩:=hcell i hil;exact ⟨ci,h1⟩
     ·
      obtain ⟨b,hb,hf⟩:=hr2 (i - len) (by omega)
      rw [show len+(i - len)=i by omega] at hf
      cases hcs:w.cells? 0 (a.add (i * c.sz)) c.sz with
      | none=>simp [hcs] at hf
      | some ci=>exact ⟨ci,rfl⟩
    have wAll:∀ (l:List (DataW X)) (d:DataW X),d ∈ l→∀ y ∈ d.weights P e,y ∈ DataW.weightsAll P e l:=by
     intro l
     induction l with
     | nil=>intro d hd;cases hd
     | cons d0 l ihl =>
      intro d hd y hy
      simp only [DataW.weightsAll,List.mem_append]
      rcases List.mem_cons.1 hd with rfl | hd
      ·
       exact .inl hy
      ·
       exact .inr (ihl d hd y hy)
    have hopen:∀ i,i < len→∃ ci,w.cells? 0 (a.add (i * c.sz)) c.sz=some ci∧∃ x:c.Val,c.Good x∧Opens P w c x ci:=by
     intro i hi
     obtain ⟨ci,di,pi,h1,h2,h3⟩:=hcell i hi
     exact ⟨ci,h1,ih ci di pi h2 (fun y hy=>hw y (.inr (.inl (wAll _ _ h3 y hy))))⟩
    cases len with
    | zero =>
     refine ⟨some [],⟨by simp,by simp,(fun _ h=>by cases h)⟩,fun B w0 m H hB hr=>⟨m,Mp.le_refl m,hr,LR.cons (.sliceE a cap) LR.nil⟩⟩
    | succ n =>
     obtain ⟨css,hcl,hcss⟩:∃ css:List (List Value),css.length=n+1∧∀ (i:Nat) (ci:List Value),css[i]?=some ci→w.cells? 0 (a.add (i * c.sz)) c.sz=some ci∧∃ x:c.Val,c.Good x∧Opens P w c x ci:=by
      have hb:∀ k,k≤n+1→∃ css:List (List Value),css.length=k∧∀ (i:Nat) (ci:List Value),css[i]?=some ci→w.cells? 0 (a.add (i * c.sz)) c.sz=some ci∧∃ x:c.Val,c.Good x∧Opens P w c x ci:=by
       intro k
       induction k with
       | zero=>intro _;exact ⟨[],rfl,fun i ci h=>by simp at h⟩
       | succ k ihk =>
        intro hk
        obtain ⟨css,h1,h2⟩:=ihk (by omega)
        obtain ⟨ci,h3,h4⟩:=hopen k (by omega)
        refine ⟨css++[ci],by simp [h1],fun i ci' hi=>?_⟩
        by_cases hik:i < k
        ·
         rw [List.getElem?_append_left (by omega)] at hi;exact h2 i ci' hi
        ·
         rw [List.getElem?_append_right (by omega)] at hi
         have:i=k:=by
          cases hh:i - css.length with
          | zero=>omega
          | succ q=>rw [hh] at hi;simp at hi
         subst this
         rw [h1,Nat.sub_self] at hi
         simp at hi
         subst hi
         exact ⟨h3,h4⟩
      exact hb (n+1) (Nat.le_refl _)
     obtain ⟨xs,hx1,hx2,hx3⟩:=ach css (fun cs hcs=>by
      obtain ⟨i,hi,rfl⟩:=List.mem_iff_getElem.1 hcs
      exact (hcss i _ (List.getElem?_eq_getElem hi)).2)
     have hlens:∀ cs ∈ css,cs.length=c.sz:=fun cs hcs=>by
      obtain ⟨i,hi,rfl⟩:=List.mem_iff_getElem.1 hcs
      exact (kG (hcss i _ (List.getElem?_eq_getElem hi)).1).1
     have hspot:a.spot=none:=by
      obtain ⟨ci,h1⟩:=hcap 0 (by omega)
      obtain ⟨h2,h3⟩:=kG h1
      have:=h3 0 ci[0] (List.getElem?_eq_getElem (by omega))
      simp only [Nat.zero_mul,Addr.add,if_true] at this
      unfold World.cell? at this
      cases hsp:a.spot with
      | none=>rfl
      | some q=>rw [hsp] at this;split at this <;> simp at this
     obtain ⟨ab,ao,asp⟩:=a
     simp only at hspot
     subst hspot
     have hcl2:∀ k,k < cap * c.sz→∃ v,w.cell? ⟨ab,ao+k,none⟩=some v:=by
      intro k hk
      have hdm:=Nat.div_add_mod k c.sz
      have hkd:k / c.sz < cap:=by rw [Nat.div_lt_iff_lt_mul hp];exact hk
      obtain ⟨ci,h1⟩:=hcap (k / c.sz) hkd
      obtain ⟨h2,h3⟩:=kG h1
      have hmod:k % c.sz < c.sz:=Nat.mod_lt _ hp
      have:=h3 (k % c.sz) ci[k % c.sz] (List.getElem?_eq_getElem (by omega))
      rw [Addr.add_mid,Addr.add_mid,Nat.add_assoc,Nat.mul_comm (k / c.sz),hdm] at this
      exact ⟨_,this⟩
     have hval:∀ (k:Nat) (v:Value),css.flatten[k]?=some v→w.cell? ⟨ab,ao+k,none⟩=some v:=by
      intro k v hk
      rw [flat_get hlens hp] at hk
      cases hq:css[k / c.sz]? with
      | none=>simp [hq] at hk
      | some ci =>
       simp only [hq,Option.bind_some] at hk
       obtain ⟨h2,h3⟩:=kG (hcss _ _ hq).1
       have:=h3 _ _ hk
       rw [Addr.add_mid,Addr.add_mid,Nat.add_assoc,Nat.mul_comm (k / c.sz),Nat.div_add_mod] at this
       exact this
     have hcapos:0 < cap * c.sz:=Nat.mul_pos (by omega) hp
     obtain ⟨cc,et,fr,hblk⟩:∃ cc et fr,w.heap[ab]?=some (.cells cc et fr):=by
      obtain ⟨v,hv⟩:=hcl2 0 hcapos
      unfold World.cell? at hv
      split at hv
      ·
       rename_i c1 e1 f1 hh;exact ⟨c1,e1,f1,hh⟩
      ·
       cases hv
     have hsize:ao+cap * c.sz≤cc.size:=by
      obtain ⟨v,hv⟩:=hcl2 (cap * c.sz - 1) (by omega)
      rw [vS hblk] at hv
      have:=(Array.getElem?_eq_some_iff.1 hv).1
      omega
     have hab:ab < w.heap.size:=(Array.getElem?_eq_some_iff.1 hblk).1
     have hxl:xs.length=n+1:=by rw [hx1,hcl]
     obtain ⟨x0,xs',rfl⟩:∃ x0 xs',xs=x0::xs':=by cases xs with
      | nil=>simp at hxl
      | cons x0 xs'=>exact ⟨x0,xs',rfl⟩
     have hxl':xs'.length=n:=by simpa using hxl
     refine ⟨some (x0::xs'),⟨by rw [hxl];exact hbyt,by rw [hxl];exact hmax,hx2⟩,fun B w0 m H hB hr=>?_⟩
     obtain ⟨m1,hm1,hr1,hl1⟩:=hx3 B w0 m H hB hr
     have hplen:(jv c.place (x0::xs') H).1.length=(n+1) * c.sz:=by rw [hl1.1,flat_length hlens,hcl]
     have hmul:(n+1) * c.sz≤cap * c.sz:=Nat.mul_le_mul_right _ hlc
     have hO:KU m1 w ⟨ab,ao,ao+cap * c.sz,c.sz⟩ (.cells (jv c.place (x0::xs') H).1 .ro c.sz):=by
      refine ⟨rfl,cc,et,fr,hblk,?_,hsize,fun j v hj=>?_,fun h=>by cases h⟩
      ·
       dsimp only;rw [hplen];omega
      ·
       obtain ⟨v',hv',hvr⟩:=hl1.get hj
       refine ⟨v',?_,hvr⟩
       rw [← vS hblk]
       exact hval j v' hv'
     have hr2:=hr1.ac8 rfl (show ab < B by omega) hO
     refine ⟨_,Mp.le_trans hm1 (Mp.yU (hr1.fresh _ (Nat.le_refl _))),hr2,LR.cons ?_ LR.nil⟩
     have:=VR.slice (o:=0) (n:=n+1) (c:=cap) (Mp.add_same m1 (jv c.place (x0::xs') H).2.next ⟨ab,ao,ao+cap * c.sz,c.sz⟩) hlc (by dsimp only;omega)
     rw [hxl']
     exact this
 ·
  cases h
end
end
end Go.Abs
namespace Go.Abs
open Go.RowKit
section
variable {P:Program} {B:Nat} {w0:World} {m:Mp} {H H':zx} {w:World}
variable {X:Type} {enc:TypeId×Value→X}
def Wx (P:Program) (w:World) (enc:TypeId×Value→X) (e:TypeId) (c:Ty):Prop :=
 ∀ (fuel:Nat) (cs:List Value) (d:DataW X) (ps:List MemPlace),DataW.trod enc P w 0 (fun _=>true) true fuel e cs=some (d,ps)→(∀ y ∈ d.weights P e,y≤reachBytes)→∃ x:c.Val,c.Good x∧Opens P w c x cs
theorem Opens.length {c:Ty} {x:c.Val} {cs:List Value} (h:Opens P w c x cs):∀ (H:zx),(c.place x H).1.length=cs.length∨True:=fun _=>.inr True.intro
theorem Ql {g:TypeId→Option Ty} {fuel:Nat} (hg:∀ t c,g t=some c→Wx P w enc t c):∀ (fs:List Field) (off:Nat) (c:Ty) (cs:List Value) (xs:List (DataW X×List MemPlace)),
  ac2 P g fs off=some c→(fs.mapM fun f=>DataW.trod enc P w 0 (fun _=>true) true fuel f.type ((cs.drop f.offset).take (P.cellsOf f.type)))=some xs →
  (∀ y ∈ DataW.weightsEach P (fs.map (·.type)) (xs.map (·.1)),y≤reachBytes)→cs.length=off+c.sz→∃ x:c.Val,c.Good x∧Opens P w c x (cs.drop off):=by
 intro fs
 induction fs with
 | nil =>
  intro off c cs xs h hm hw hl
  simp only [ac2,Option.some.injEq] at h
  subst h
  have:cs.drop off=[]:=List.drop_eq_nil_of_le (by simp only [Ty.sz] at hl;omega)
  rw [this]
  exact ⟨(),True.intro,fun B w0 m H _ hr=>⟨m,Mp.le_refl m,hr,LR.nil⟩⟩
 | cons f fs ih =>
  intro off c cs xs h hm hw hl
  simp only [ac2] at h
  split at h
  ·
   rename_i c1 r hc1 hr
   split at h
   ·
    rename_i hcond
    obtain ⟨hoff,hsz⟩:=hcond
    cases h
    simp only [List.mapM_cons] at hm
    cases h1:DataW.trod enc P w 0 (fun _=>true) true fuel f.type ((cs.drop f.offset).take (P.cellsOf f.type)) with
    | none=>simp [h1] at hm
    | some dp =>
     obtain ⟨d,p⟩:=dp
     cases h2:(fs.mapM fun f=>DataW.trod enc P w 0 (fun _=>true) true fuel f.type ((cs.drop f.offset).take (P.cellsOf f.type))) with
     | none=>simp [h1,h2] at hm
     | some xs' =>
      simp [h1,h2] at hm
      subst hm
      simp only [List.map_cons,DataW.weightsEach,List.mem_append] at hw
      simp only [Ty.sz] at hl
      obtain ⟨x,hx1,hx2⟩:=hg _ _ hc1 fuel _ d p h1 (fun y hy=>hw y (.inl hy))
      obtain ⟨y,hy1,hy2⟩:=ih (off+P.cellsOf f.type) r cs xs' hr h2 (fun y hy=>hw y (.inr hy)) (by omega)
      refine ⟨(x,y),⟨hx1,hy1⟩,fun B w0 m H hB hr=>?_⟩
      obtain ⟨m1,hm1,hr1,hl1⟩:=hx2 B w0 m H hB hr
      obtain ⟨m2,hm2,hr2,hl2⟩:=hy2 B w0 m1 _ hB hr1
      refine ⟨m2,Mp.le_trans hm1 hm2,hr2,?_⟩
      have:=(hl1.mono hm2).append hl2
      rw [hoff,← List.drop_drop,List.take_append_drop] at this
      exact this
   ·
    cases h
  ·
   cases h
theorem Xo {c:Ty} {e:TypeId} {fuel:Nat} (hg:Wx P w enc e c) (hsz:P.cellsOf e=c.sz):∀ (n k:Nat) (cs:List Value) (ds:List (DataW X)),
  (∀ i,i < n→∃ d p,ds[i]?=some d∧DataW.trod enc P w 0 (fun _=>true) true fuel e ((cs.drop ((k+i) * P.cellsOf e)).take (P.cellsOf e))=some (d,p)) →
  (∀ d ∈ ds,∀ y ∈ d.weights P e,y≤reachBytes)→cs.length=(k+n) * P.cellsOf e→∃ x:(chain n c).Val,(chain n c).Good x∧Opens P w (chain n c) x (cs.drop (k * P.cellsOf e)):=by
 intro n
 induction n with
 | zero =>
  intro k cs ds h hw hl
  have:cs.drop (k * P.cellsOf e)=[]:=List.drop_eq_nil_of_le (by rw [hl];exact Nat.le_refl _)
  rw [this]
  exact ⟨(),True.intro,fun B w0 m H _ hr=>⟨m,Mp.le_refl m,hr,LR.nil⟩⟩
 | succ n ih =>
  intro k cs ds h hw hl
  obtain ⟨d,p,hd,ht⟩:=h 0 (by omega)
  rw [Nat.add_zero] at ht
  obtain ⟨x,hx1,hx2⟩:=hg fuel _ d p ht (hw d (List.mem_of_getElem? hd))
  obtain ⟨y,hy1,hy2⟩:=ih (k+1) cs (ds.drop 1) (fun i hi=>by
   obtain ⟨d',p',h1,h2⟩:=h (i+1) (by omega)
   refine ⟨d',p',by rw [List.getElem?_drop,Nat.add_comm 1 i];exact h1,?_⟩
   rw [show k+1+i=k+(i+1) by omega];exact h2) (fun d hd=>hw d (List.mem_of_mem_drop hd)) (by rw [hl];congr 1;omega)
  refine ⟨(x,y),⟨hx1,hy1⟩,fun B w0 m H hB hr=>?_⟩
  obtain ⟨m1,hm1,hr1,hl1⟩:=hx2 B w0 m H hB hr
  obtain ⟨m2,hm2,hr2,hl2⟩:=hy2 B w0 m1 _ hB hr1
  refine ⟨m2,Mp.le_trans hm1 hm2,hr2,?_⟩
  have:=(hl1.mono hm2).append hl2
  rw [show (k+1) * P.cellsOf e=k * P.cellsOf e+P.cellsOf e by rw [Nat.add_mul,Nat.one_mul],← List.drop_drop,List.take_append_drop] at this
  exact this
theorem trod_int {t:TypeId} {k:IntKind} {fuel:Nat} {cs:List Value} {d:DataW X} {ps:List MemPlace} (hu:P.underlying t=some (.int k)) (h:DataW.trod enc P w 0 (fun _=>true) true (fuel+1) t cs=some (d,ps)) :
  ∃ n,cs=[.int k n]∧(Lit.int k n).wf=true:=by
 simp only [DataW.trod,hu] at h
 split at h
 all_goals first
  | (cases h;done)
  | (rename_i hh;cases hh;done)
  | skip
 rename_i hh
 cases hh
 split at h
 ·
  rename_i hc;exact ⟨_,by rw [hc.1],hc.2⟩
 ·
  cases h
theorem trod_bool {t:TypeId} {fuel:Nat} {cs:List Value} {d:DataW X} {ps:List MemPlace} (hu:P.underlying t=some .bool) (h:DataW.trod enc P w 0 (fun _=>true) true (fuel+1) t cs=some (d,ps)) :
  ∃ b,cs=[.bool b]:=by
 simp only [DataW.trod,hu] at h
 split at h
 all_goals first
  | (cases h;done)
  | (rename_i hh;cases hh;done)
  | skip
 exact ⟨_,rfl⟩
theorem aaX {t:TypeId} {fuel:Nat} {cs:List Value} {d:DataW X} {ps:List MemPlace} (hu:P.underlying t=some .string) (h:DataW.trod enc P w 0 (fun _=>true) true (fuel+1) t cs=some (d,ps)) :
  ∃ s,cs=[.string s]∧d=.lit (.string s.data.toList):=by
 simp only [DataW.trod,hu] at h
 split at h
 all_goals first
  | (cases h;done)
  | (rename_i hh;cases hh;done)
  | skip
 split at h
 ·
  cases h;exact ⟨_,rfl,rfl⟩
 ·
  cases h
theorem trod_slice {t e:TypeId} {fuel:Nat} {cs:List Value} {d:DataW X} {ps:List MemPlace} (hu:P.underlying t=some (.slice e)) (h:DataW.trod enc P w 0 (fun _=>true) true (fuel+1) t cs=some (d,ps)) :
  cs=[.slice none 0 0]∨∃ a len cap,cs=[.slice (some a) len cap]:=by
 simp only [DataW.trod,hu] at h
 split at h
 all_goals first
  | (cases h;done)
  | (rename_i hh;cases hh;done)
  | skip
 ·
  exact .inl rfl
 ·
  exact .inr ⟨_,_,_,rfl⟩
theorem trod_struct {t:TypeId} {fs:Array Field} {fuel:Nat} {cs:List Value} {d:DataW X} {ps:List MemPlace} (hu:P.underlying t=some (.struct fs)) (h:DataW.trod enc P w 0 (fun _=>true) true (fuel+1) t cs=some (d,ps)) :
  cs.length=P.cellsOf t∧∃ xs,(fs.toList.mapM fun f=>DataW.trod enc P w 0 (fun _=>true) true fuel f.type ((cs.drop f.offset).take (P.cellsOf f.type)))=some xs∧d=.agg (xs.map (·.1)):=by
 simp only [DataW.trod,hu] at h
 split at h
 ·
  rename_i hl
  refine ⟨hl,?_⟩
  rw [Option.map_eq_some_iff] at h
  obtain ⟨xs,hxs,he⟩:=h
  cases he
  exact ⟨xs,hxs,rfl⟩
 ·
  cases h
theorem trod_array {t e:TypeId} {k:Nat} {fuel:Nat} {cs:List Value} {d:DataW X} {ps:List MemPlace} (hu:P.underlying t=some (.array k e)) (h:DataW.trod enc P w 0 (fun _=>true) true (fuel+1) t cs=some (d,ps)) :
  cs.length=P.cellsOf t∧∃ xs,((List.range k).mapM fun i=>DataW.trod enc P w 0 (fun _=>true) true fuel e ((cs.drop (i * P.cellsOf e)).take (P.cellsOf e)))=some xs∧d=.agg (xs.map (·.1)):=by
 simp only [DataW.trod,hu] at h
 split at h
 ·
  rename_i hl
  refine ⟨hl,?_⟩
  rw [Option.map_eq_some_iff] at h
  obtain ⟨xs,hxs,he⟩:=h
  cases he
  exact ⟨xs,hxs,rfl⟩
 ·
  cases h
theorem weightsAll_mem {e:TypeId}:∀ (l:List (DataW X)) (d:DataW X),d ∈ l→∀ y ∈ d.weights P e,y ∈ DataW.weightsAll P e l:=by
 intro l
 induction l with
 | nil=>intro d hd;cases hd
 | cons d0 l ihl =>
  intro d hd y hy
  simp only [DataW.weightsAll,List.mem_append]
  rcases List.mem_cons.1 hd with rfl | hd
  ·
   exact .inl hy
  ·
   exact .inr (ihl d hd y hy)
theorem acD:∀ (n:Nat) (t:TypeId) (c:Ty),abW P n t=some c→Wx P w enc t c:=by
 intro n
 induction n with
 | zero=>intro t c h;cases h
 | succ n ih =>
  intro t c h fuel cs d ps htr hw
  cases fuel with
  | zero=>simp [DataW.trod] at htr
  | succ fuel =>
   simp only [abW] at h
   split at h
   ·
    rename_i k hu
    cases h
    obtain ⟨n1,rfl,h1⟩:=trod_int hu htr
    exact ⟨n1,h1,fun B w0 m H _ hr=>⟨m,Mp.le_refl m,hr,LR.cons (.int _ _) LR.nil⟩⟩
   ·
    rename_i hu
    cases h
    obtain ⟨b1,rfl⟩:=trod_bool hu htr
    exact ⟨b1,True.intro,fun B w0 m H _ hr=>⟨m,Mp.le_refl m,hr,LR.cons (.bool _) LR.nil⟩⟩
   ·
    rename_i hu
    cases h
    obtain ⟨s1,rfl,rfl⟩:=aaX hu htr
    refine ⟨s1,?_,fun B w0 m H _ hr=>⟨m,Mp.le_refl m,hr,LR.cons (.string _) LR.nil⟩⟩
    have:=hw s1.data.toList.length (by simp [DataW.weights])
    rw [Array.length_toList] at this
    exact this
   ·
    rename_i e hu
    split at h
    ·
     rename_i ce hce
     split at h
     ·
      rename_i hcond
      cases h
      rcases trod_slice hu htr with rfl | ⟨a,len,cap,rfl⟩
      ·
       exact ⟨none,True.intro,fun B w0 m H _ hr=>⟨m,Mp.le_refl m,hr,LR.cons .sliceNil LR.nil⟩⟩
      ·
       exact open_slice hu hcond.1 hcond.2 (fun cs d ps h hw=>ih e ce hce fuel cs d ps h hw) htr hw
     ·
      cases h
    ·
     cases h
   ·
    rename_i fs hu
    split at h
    ·
     rename_i c1 hc1
     split at h
     ·
      rename_i hsz
      cases h
      obtain ⟨hl,xs,hxs,rfl⟩:=trod_struct hu htr
      have:=Ql (fun t c h=>ih t c h) fs.toList 0 c cs xs hc1 hxs (fun y hy=>hw y (by simp only [DataW.weights,hu];exact hy)) (by rw [hl,hsz];omega)
      simpa using this
     ·
      cases h
    ·
     cases h
   ·
    rename_i k e hu
    split at h
    ·
     rename_i ce hce
     split at h
     ·
      rename_i hcond
      cases h
      obtain ⟨hl,xs,hxs,rfl⟩:=trod_array hu htr
      obtain ⟨hx1,hx2⟩:=kL hxs
      have:=Xo (ih e ce hce) hcond.1 k 0 cs (xs.map (·.1)) (fun i hi=>by
       obtain ⟨b,hb,hf⟩:=hx2 i hi
       refine ⟨b.1,b.2,by simp [hb],?_⟩
       rw [Nat.zero_add];exact hf) (fun d hd y hy=>hw y (by simp only [DataW.weights,hu];exact weightsAll_mem _ d hd y hy)) (by rw [hl,hcond.2,hcond.1,Nat.zero_add])
      simpa using this
     ·
      cases h
    ·
     cases h
   ·
    cases h
end
end Go.Abs
namespace Go.Abs
open Go.RowKit
def Jw (P:Program) (n:Nat):List TypeId→Option (List (Bool×Ty))
 | []=>some []
 | t::ts=>match abW P n t,Jw P n ts with
  | some c,some cs=>some ((match P.underlying t with | some (.struct _)=>true | some (.array _ _)=>true | _=>false,c)::cs)
  | _,_=>none
def Args:List (Bool×Ty)→Type
 | []=>Unit
 | (_,c)::l=>c.Val×Args l
def Args.Good:(l:List (Bool×Ty))→Args l→Prop
 | [],_=>True
 | (_,c)::l,(x,xs)=>c.Good x∧Args.Good l xs
def qR (b:Bool) (cs:List Value):Value:=if b then .agg cs.toArray else cs.headD zh
def Args.place:(l:List (Bool×Ty))→Args l→zx→List Value×zx
 | [],_,H=>([],H)
 | (b,c)::l,(x,xs),H=>(qR b (c.place x H).1::(Args.place l xs (c.place x H).2).1,(Args.place l xs (c.place x H).2).2)
section
variable {P:Program} {b0:Nat} {W:World} {X:Type} {enc:TypeId×Value→X}
theorem kF (l:List Value):l.headD zh=l.getD 0 zh:=by cases l <;> rfl
theorem XD {m:Mp} {b:Bool} {cs cs':List Value} (h:LR m cs cs'):VR m (qR b cs) (qR b cs'):=by
 unfold qR
 split
 ·
  exact .agg (by simp [h.1]) (fun i=>by have:=h.2 i;simpa [List.getD_eq_getElem?_getD,Array.getD_eq_getD_getElem?] using this)
 ·
  rw [kF,kF];exact h.2 0
theorem Qa {n:Nat} {t:TypeId} {c:Ty} {v:Value} (hc:abW P n t=some c) (hv:Value.okWide P W .any b0 t v) {d:DataW X} {ps:List MemPlace} {fuel:Nat}
  (h:DataW.trod enc P W 0 (fun _=>true) true fuel t v.cells.toList=some (d,ps)) :
  v=qR (match P.underlying t with | some (.struct _)=>true | some (.array _ _)=>true | _=>false) v.cells.toList:=by
 cases n with
 | zero=>cases hc
 | succ n =>
  cases fuel with
  | zero=>simp [DataW.trod] at h
  | succ fuel =>
  simp only [abW] at hc
  split at hc
  ·
   rename_i k hu
   obtain ⟨n1,rfl⟩:=WideShapes.okWide_int hu hv
   simp [hu,qR,Value.cells]
  ·
   rename_i hu
   obtain ⟨b,rfl⟩:=WideShapes.okWide_bool hu hv
   simp [hu,qR,Value.cells]
  ·
   rename_i hu
   obtain ⟨s,rfl⟩:=WideShapes.okWide_string hu hv
   simp [hu,qR,Value.cells]
  ·
   rename_i e hu
   obtain ⟨a,len,cap,rfl⟩:=WideShapes.okWide_slice hu hv
   simp [hu,qR,Value.cells]
  ·
   rename_i fs hu
   simp only [Value.okWide,hu] at hv
   obtain ⟨cs,rfl,_⟩:=hv
   simp [hu,qR,Value.cells]
  ·
   rename_i k e hu
   simp only [Value.okWide,hu] at hv
   obtain ⟨cs,rfl,_⟩:=hv
   simp [hu,qR,Value.cells]
  ·
   cases hc
theorem X5 {n:Nat}:∀ (ts:List TypeId) (cs:List (Bool×Ty)) (vs:List Value) (ds:List (DataW X)) (ps:List MemPlace),Jw P n ts=some cs →
  DataW.TrodAll enc P W 0 (fun _=>true) true ts vs ds ps→(∀ (j:Nat) t v,ts[j]?=some t→vs[j]?=some v→Value.okWide P W .any b0 t v) →
  (∀ y ∈ DataW.weightsEach P ts ds,y≤reachBytes) →
  ∃ x:Args cs,Args.Good cs x∧∀ (B:Nat) (w0:World) (m:Mp) (H:zx),W.heap.size≤B→Rel B w0 m H W→∃ m',m.le m'∧Rel B w0 m' (Args.place cs x H).2 W∧LR m' (Args.place cs x H).1 vs:=by
 intro ts
 induction ts with
 | nil =>
  intro cs vs ds ps h hA hv hw
  simp only [Jw,Option.some.injEq] at h
  subst h
  obtain ⟨rfl,rfl,rfl⟩:=ChangeShapes.trodAll_nil hA
  exact ⟨(),True.intro,fun B w0 m H _ hr=>⟨m,Mp.le_refl m,hr,LR.nil⟩⟩
 | cons t ts ih =>
  intro cs vs ds ps h hA hv hw
  simp only [Jw] at h
  split at h
  ·
   rename_i c cs' hc hcs
   cases h
   obtain ⟨v,vs',d,ds',p,q,rfl,rfl,rfl,h1,h2⟩:=ChangeShapes.trodAll_cons hA
   simp only [DataW.weightsEach,List.mem_append] at hw
   obtain ⟨fuel,hf⟩:=h1
   have hv0:=hv 0 t v rfl rfl
   obtain ⟨x,hx1,hx2⟩:=acD n t c hc fuel _ d p hf (fun y hy=>hw y (.inl hy))
   obtain ⟨xs,hy1,hy2⟩:=ih cs' vs' ds' q hcs h2 (fun j t' v' ht hv'=>hv (j+1) t' v' ht hv') (fun y hy=>hw y (.inr hy))
   refine ⟨(x,xs),⟨hx1,hy1⟩,fun B w0 m H hB hr=>?_⟩
   obtain ⟨m1,hm1,hr1,hl1⟩:=hx2 B w0 m H hB hr
   obtain ⟨m2,hm2,hr2,hl2⟩:=hy2 B w0 m1 _ hB hr1
   refine ⟨m2,Mp.le_trans hm1 hm2,hr2,LR.cons ?_ hl2⟩
   have:=XD (b:=(match P.underlying t with | some (.struct _)=>true | some (.array _ _)=>true | _=>false)) (hl1.mono hm2)
   rw [← Qa hc hv0 hf] at this
   exact this
  ·
   cases h
theorem XM (W:World):Rel W.heap.size W (fun _=>none) zx.empty W :=
 ⟨Below.refl _ _,Nat.le_refl _,fun r L o h=>(by cases h),fun r L h=>(by cases h),fun r L o h=>(by cases h),fun r r' L L' o o' _ h=>(by cases h),fun r _=>rfl⟩
theorem Vm (hmix:P.follows .mixedOrders=true) {n:Nat} {ts:List TypeId} {cs:List (Bool×Ty)} (hts:Jw P n ts=some cs) {f:FuncId}
  (hlaw:∀ x:Args cs,Args.Good cs x→∃ k,(qx P k f (Args.place cs x zx.empty).1 (Args.place cs x zx.empty).2).map (·.1)=some (.bool true))
  {args:Array Value} {ds:List (DataW X)} {ps:List MemPlace} (hA:DataW.TrodAll enc P W 0 (fun _=>true) true ts args.toList ds ps)
  (hv:∀ (j:Nat) t v,ts[j]?=some t→args[j]?=some v→Value.okWide P W .any b0 t v) (hsz:(DataW.weightsEach P ts ds).all (·≤reachBytes)=true) :
  Calls P f args W fun e W'=>e=.returned (.bool true)∧Below W.heap.size W W':=by
 obtain ⟨x,hx1,hx2⟩:=X5 ts cs args.toList ds ps hts hA (fun j t v h1 h2=>hv j t v h1 (by simpa using h2)) (fun y hy=>by simpa using List.all_eq_true.1 hsz y hy)
 obtain ⟨m,hm,hr,hl⟩:=hx2 W.heap.size W (fun _=>none) zx.empty (Nat.le_refl _) (XM W)
 obtain ⟨k,hk⟩:=hlaw x hx1
 obtain ⟨⟨v,H'⟩,hc,hv⟩:=Option.map_eq_some_iff.1 hk
 have hv':v=.bool true:=hv
 subst hv'
 have:=(call_ok (P:=P) (B:=W.heap.size) (w0:=W) hmix k f _ _ _ _ hc m W args.toList hl hr).2
 rw [show args.toList.toArray=args by simp] at this
 refine this.mono fun e w' ⟨v',m',he,hvr,_,hr'⟩=>⟨?_,hr'.below⟩
 cases hvr
 exact he
theorem aaR (hl:laidOutB P=true) {W':World} (hb:Below W.heap.size W W'):∀ (ts:List TypeId) (vs:List Value) (ds:List (DataW X)) (ps:List MemPlace),
  (ts.all fun t=>P.readableRec t && decide (t < P.types.size))=true →
  DataW.TrodAll enc P W 0 (fun _=>true) true ts vs ds ps→DataW.TrodAll enc P W' 0 (fun b=>decide (b < W.heap.size)) true ts vs ds ps:=by
 intro ts
 induction ts with
 | nil=>intro vs ds ps _ h;obtain ⟨rfl,rfl,rfl⟩:=ChangeShapes.trodAll_nil h;exact rfl
 | cons t ts ih =>
  intro vs ds ps ht h
  obtain ⟨v,vs',d,ds',p,q,rfl,rfl,rfl,h1,h2⟩:=ChangeShapes.trodAll_cons h
  simp only [List.all_cons,Bool.and_eq_true,decide_eq_true_eq] at ht
  refine trodAll_cons_mk (Below.trod hl ht.1.1 ht.1.2 h1 hb ?_) (ih vs' ds' q (by simpa using ht.2) h2)
  obtain ⟨m,hm⟩:=h1
  exact DataW.trod_lt m _ _ _ hm
end
end Go.Abs
