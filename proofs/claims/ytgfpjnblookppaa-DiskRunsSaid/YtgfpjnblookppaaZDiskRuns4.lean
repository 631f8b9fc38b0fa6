/-
The law DiskRuns returns true for every input, and leaves it as it was; no condition. Part 4 of 4 of the texts (put together by a program: own names are short, what isn't needed is left out).
-/
import Derived.Test.YtgfpjnblookppaaZDiskRuns3
import Derived.Test.YtgfpjnblookppaaChecked
import Derived.KernelRfl
import Derived.Test.YtgfpjnblookppaaRows
import Derived.WalkKit
import Derived.ProofKit
import Derived.OpenShut
import Derived.ShutString
import Derived.ChangeOld
import Derived.Below
import Derived.SizedLaws
import Derived.Carry
set_option linter.unusedVariables false
set_option linter.unusedSimpArgs false
set_option maxRecDepth 100000
open Go renaming undef → zh
open Go.Proofs.Try renaming prog → zi
open Nat renaming reduceEqDiff → zk
open Int renaming reduceEq → zn
open Int renaming reduceLT → zo
open Int renaming reduceLE → zq
namespace Go.Proofs.Ytgfpjnblookppaa
open Go.Abs
def xO (S:zx) (q:Nat) (a:Option Addr) (data:List UInt8):Prop :=
 (a=none∧data=[])∨∃ r anc rest,a=some ⟨r,0,none⟩∧S.get r=some (.cells (data.flatMap cb++rest) (.own anc) 1)∧q < r∧r < S.next∧∀ a ∈ anc,q < a∧a < r
def Old (q:Nat) (S S1:zx):Prop:=∀ k,k < q→S1.get k=S.get k
theorem Old.refl (q:Nat) (S:zx):Old q S S:=fun _ _=>rfl
theorem Old.trans {q:Nat} {S S1 S2:zx} (h:Old q S S1) (k:Old q S1 S2):Old q S S2:=fun i hi=>(k i hi).trans (h i hi)
theorem Old.set {q r:Nat} {S S1:zx} (h:Old q S S1) (hr:q≤r) (o:wU):Old q S (S1.set r o):=fun i hi=>by rw [zx.zW,if_neg (by omega)];exact h i hi
structure Dk (S:zx) (q:Nat) (data:List UInt8) (sy room:Int):Prop where
 lt:q < S.next
 len:data.length≤65536
 sy0:0≤sy
 syl:sy≤data.length
 rm0:0≤room
 rml:room≤65536
 cell:∃ a,S.get q=some (.cells [.slice a data.length data.length,.int .i64 sy,.int .i64 room] (.own []) 0)∧xO S q a data
theorem Dk.ext {S S1:zx} {q:Nat} {data:List UInt8} {sy room:Int} (h:Dk S q data sy room) (k:Ext S S1):Dk S1 q data sy room:=by
 obtain ⟨a,h1,h2⟩:=h.cell
 refine ⟨Nat.lt_of_lt_of_le h.lt k.1,h.len,h.sy0,h.syl,h.rm0,h.rml,a,by rw [k.2 q h.lt];exact h1,?_⟩
 rcases h2 with h2 | ⟨r,anc,rest,h3,h4,h5,h6,h7⟩
 ·
  exact .inl h2
 ·
  exact .inr ⟨r,anc,rest,h3,by rw [k.2 r h6];exact h4,h5,Nat.lt_of_lt_of_le h6 k.1,h7⟩
theorem Dk.put {S:zx} {q:Nat} {data data':List UInt8} {sy room sy' room':Int} {a:Option Addr} (h:Dk S q data sy room) (hd:xO S q a data') (h0:data'.length≤65536) (h1:0≤sy') (h2:sy'≤data'.length) (h3:0≤room') (h4:room'≤65536) {cs:List Value} (hc:cs=[.slice a data'.length data'.length,.int .i64 sy',.int .i64 room']) :
  Dk (S.set q (.cells cs (.own []) 0)) q data' sy' room':=by
 subst hc
 refine ⟨by simpa using h.lt,h0,h1,h2,h3,h4,a,by rw [zx.zW,if_pos rfl],?_⟩
 rcases hd with hd | ⟨r,anc,rest,k1,k2,k3,k4,k5⟩
 ·
  exact .inl hd
 ·
  exact .inr ⟨r,anc,rest,k1,by rw [zx.zW,if_neg (by omega)];exact k2,k3,by simpa using k4,k5⟩
theorem xO.take {S:zx} {q:Nat} {a:Option Addr} {data:List UInt8} (h:xO S q a data) (n:Nat):xO S q a (data.take n):=by
 rcases h with ⟨h1,h2⟩ | ⟨r,anc,rest,k1,k2,k3,k4,k5⟩
 ·
  exact .inl ⟨h1,by rw [h2,List.take_nil]⟩
 ·
  refine .inr ⟨r,anc,(data.drop n).flatMap cb++rest,k1,?_,k3,k4,k5⟩
  rw [k2,← List.append_assoc,← List.flatMap_append,List.take_append_drop]
def roomOf (room:Int) (n:Nat):Int:=if room - n > 0 then room - n else 0
section
variable {S:zx} {q:Nat} {data:List UInt8} {sy room:Int}
theorem zM.v (h:Dk S q data sy room):jf zi O zM.id [.pointer (some ⟨q,0,none⟩)] S=some (.int .i64 (roomOf room data.length),S):=by
 obtain ⟨T,hTe⟩:∃ T,T=(.pointer (some ⟨q,0,none⟩)::zh::zh::zh::zh::zh::zh::zh::zh::zh::zh::zh::zh::zh::[]):=⟨_,rfl⟩
 have hr:zI zi O true zM.code T S=zI zi O true zM.code T S:=rfl
 obtain ⟨a,h1,h2⟩:=h.cell
 have l1:=wM (t:=3) (o:=0+2) h1 Zl rfl
 have l2:=qN (t:=27) (o:=0+0) h1 wH rfl
 have ln:=fun S=>kV jh a data.length data.length S
 have b1:=h.rm0;have b2:=h.rml;have b3:=h.len
 have w1:IntKind.i64.wrap (room - data.length)=room - data.length:=wrap_i64 (by omega) (by omega)
 conv at hr =>
  rhs
  rw [hTe]
  simp only [zM.code,zM.rs,zSs,reduceIte,zk,zn,zo,zq,jO,jU,qR,l1,l2,ln,goInt,w1,adz]
 rw [hTe] at hr
 exact zM.runs hr (.inr rfl)
theorem zT.v (h:Dk S q data sy room):jf zi O zT.id [.pointer (some ⟨q,0,none⟩)] S=some (.int .i64 sy,S):=by
 obtain ⟨T,hTe⟩:∃ T,T=(.pointer (some ⟨q,0,none⟩)::zh::zh::zh::zh::zh::zh::[]):=⟨_,rfl⟩
 have hr:zI zi O false zT.code T S=zI zi O false zT.code T S:=rfl
 obtain ⟨a,h1,h2⟩:=h.cell
 have l1:=wM (t:=3) (o:=0+1) h1 Zl rfl
 conv at hr =>
  rhs
  rw [hTe]
  simp only [zT.code,zT.rs,zSs,reduceIte,zk,zn,zo,zq,jO,yZ,l1]
 rw [hTe] at hr
 exact zT.runs hr (.inr rfl)
theorem zO.v {r:Int} (h:Dk S q data sy room):∃ v S1,jf zi O zO.id [.pointer (some ⟨q,0,none⟩),.int .i64 r] S=some (v,S1)∧Dk S1 q data sy (max 0 (min r 65536))∧Old q S S1:=by
 obtain ⟨T,hTe⟩:∃ T,T=(.pointer (some ⟨q,0,none⟩)::.int .i64 r::zh::zh::zh::zh::zh::zh::zh::zh::[]):=⟨_,rfl⟩
 have hr:zI zi O false zO.code T S=zI zi O false zO.code T S:=rfl
 obtain ⟨a,h1,h2⟩:=h.cell
 have s1:=fun x:Int=>wX (P:=zi) (t:=3) (o:=0+2) (x:=.int .i64 x) h1 Xf rfl rfl (by simp)
 conv at hr =>
  rhs
  rw [hTe]
  simp only [zO.code,zO.rs,zSs,reduceIte,zk,zn,zo,zq,jO,qR,aea,adz,s1]
 rw [hTe] at hr
 have hrun:=zO.runs hr (.inl rfl)
 refine ⟨_,_,hrun,?_⟩
 have e:∀ x:Int,(if (if (65536:Int) < x then 65536 else x) > 0 then (if (65536:Int) < x then 65536 else x) else 0)=max 0 (min x 65536):=by intro x;split <;> omega
 rw [e]
 exact ⟨h.put h2 h.len h.sy0 h.syl (by omega) (by omega) rfl,(Old.refl q S).set (Nat.le_refl _) _⟩
end
end Go.Proofs.Ytgfpjnblookppaa
namespace Go.Proofs.Ytgfpjnblookppaa
open Go.Abs
section
variable {S:zx} {q:Nat} {data:List UInt8} {sy room:Int}
theorem jo.v {r:Int} (S:zx):∃ S1,jf zi O jo.id [.int .i64 r] S=some (.pointer (some ⟨S.next,0,none⟩),S1)∧Dk S1 S.next [] 0 (max 0 (min r 65536))∧Old S.next S S1:=by
 obtain ⟨T,hTe⟩:∃ T,T=(.int .i64 r::zh::zh::zh::zh::zh::zh::zh::zh::zh::[]):=⟨_,rfl⟩
 have hr:zI zi O false jo.code T S=zI zi O false jo.code T S:=rfl
 have h0:Dk (S.push (.cells [.slice none 0 0,.int .i64 0,.int .i64 0] (.own []) 0)) S.next [] 0 0 :=
  ⟨by simp,by simp,by omega,by simp,by omega,by omega,none,by rw [zx.zS,if_pos rfl];rfl,.inl ⟨rfl,rfl⟩⟩
 obtain ⟨v,S1,e1,d1,o1⟩:=zO.v (r:=r) h0
 have bx:Yq (.agg [.slice none 0 0,.int .i64 0,.int .i64 0].toArray) S=some (.pointer (some ⟨S.next,0,none⟩),S.push (.cells [.slice none 0 0,.int .i64 0,.int .i64 0] (.own []) 0)):=rfl
 conv at hr =>
  rhs
  rw [hTe]
  simp only [jo.code,jo.rs,zSs,reduceIte,zk,zn,zo,zq,YE,bx,e1]
 rw [hTe] at hr
 exact ⟨_,jo.runs hr (.inr rfl),d1,fun k hk=>(o1 k hk).trans (by rw [zx.zS,if_neg (by omega)])⟩
theorem wC (l:List UInt8):(l.flatMap cb).length=l.length:=by rw [kF Yz,Nat.mul_one]
theorem QW (l:List UInt8):(l.flatMap cb).all (·.oneCell')=true:=by rw [List.all_flatMap,List.all_eq_true];exact fun x _=>rfl
theorem aei (l:List UInt8):(l.flatMap cb).all sg=true:=by rw [List.all_flatMap,List.all_eq_true];exact fun x _=>rfl
def Nin (S:zx) (a:Option Addr) (p:Nat):Prop:=∀ r cs anc e,a=some ⟨r,0,none⟩→S.get r=some (.cells cs (.own anc) e)→p≠r∧p ∉ anc
theorem Nin.none {S:zx} {p:Nat}:Nin S none p:=fun _ _ _ _ h=>by cases h
theorem Nin.new {S:zx} {p r e:Nat} {cs:List Value} {anc:List Nat} (hg:S.get r=some (.cells cs (.own anc) e)) (h:p≠r) (h2:p ∉ anc):Nin S (some ⟨r,0,Option.none⟩) p:=fun r' cs' anc' e' h3 h4=>by
 simp only [Option.some.injEq,Addr.mk.injEq,and_true] at h3
 subst h3
 rw [hg] at h4
 cases h4
 exact ⟨h,h2⟩
theorem xO.Q8 {a:Option Addr} {x:Value} {b:List UInt8} (hd:xO S q a data) (hq:q < S.next) (hsrc:Zp zi 27 1 x S=some (b.length,b.flatMap cb)) (hl:data.length+b.length≤65536) :
  ∃ a' S1,wO zi true 27 27 (.slice a data.length data.length) x S=some (.slice a' (data++b).length (data++b).length,S1)∧xO S1 q a' (data++b)∧S1.get q=S.get q∧q < S1.next∧Old q S S1∧(∀ p,p < S.next→(∀ r,a=some ⟨r,0,none⟩→r < p)→S1.get p=S.get p)∧(a'=none∨a'=some ⟨S.next,0,none⟩)∧S.next≤S1.next∧∀ p,p < S.next→Nin S a p→S1.get p=S.get p∧Nin S1 a' p:=by
 rcases hd with ⟨rfl,rfl⟩ | ⟨r,anc,rest,rfl,k2,k3,k4,k5⟩
 ·
  have e1:=Xm (t:=27) (tx:=27) (S:=S) jh yE Zw rfl ZE (by decide) hsrc (by simp at hl;omega) (by simp at hl;omega)
  by_cases h0:b.length=0
  ·
   have hb:b=[]:=List.length_eq_zero_iff.1 h0
   subst hb
   exact ⟨none,S,e1,.inl ⟨rfl,rfl⟩,rfl,hq,Old.refl _ _,fun _ _ _=>rfl,.inl rfl,Nat.le_refl _,fun _ _ _=>⟨rfl,Nin.none⟩⟩
  ·
   rw [if_neg h0,if_neg h0] at e1
   refine ⟨some ⟨S.next,0,none⟩,_,e1,.inr ⟨S.next,[],[],rfl,?_,by omega,by simp,by simp⟩,?_,by simp;omega,fun k hk=>by rw [zx.zS,if_neg (by omega)],fun p hp _=>by rw [zx.zS,if_neg (by omega)],.inr rfl,by simp,fun p hp _=>⟨by rw [zx.zS,if_neg (by omega)],Nin.new (by rw [zx.zS,if_pos rfl]) (by omega) (by simp)⟩⟩
   ·
    rw [zx.zS,if_pos rfl,List.append_nil,List.nil_append]
   ·
    rw [zx.zS,if_neg (by omega)]
 ·
  have hlen:(data.flatMap cb).length=data.length:=wC data
  have htk:((data.flatMap cb++rest).drop 0).take (data.length * 1)=data.flatMap cb:=by
   rw [List.drop_zero,Nat.mul_one,← hlen,List.take_left]
  have e1:=WA (hp:=true) (t:=27) (tx:=27) (o:=0) (n:=data.length) (c:=data.length) jh yE Zw rfl ZE (by decide) hsrc k2 (by rw [List.length_append,hlen];omega) (by omega) (by omega) (by rw [htk];exact QW data)
  rw [htk,← List.length_append] at e1
  by_cases h0:0+data.length * 1=(data.flatMap cb++rest).length
  ·
   rw [if_pos h0] at e1
   refine ⟨some ⟨S.next,0,none⟩,_,e1,.inr ⟨S.next,_,[],rfl,by rw [zx.zS,zx.wS,if_pos rfl,List.append_nil,List.flatMap_append],by omega,by simp,?_⟩,?_,by simp;omega,fun k hk=>by rw [zx.zS,zx.wS,if_neg (by omega),zx.zW,if_neg (by omega)],fun p hp hr=>by have:=hr r rfl;rw [zx.zS,zx.wS,if_neg (by omega),zx.zW,if_neg (by omega)],.inr rfl,by simp,fun p hp hn=>by
    obtain ⟨h1,h2⟩:=hn r _ _ _ rfl k2
    refine ⟨by rw [zx.zS,zx.wS,if_neg (by omega),zx.zW,if_neg h1],Nin.new (by rw [zx.zS,zx.wS,if_pos rfl]) (by omega) ?_⟩
    split
    ·
     simp
    ·
     intro h;rcases List.mem_cons.1 h with h | h
     ·
      exact h1 h
     ·
      exact h2 h⟩
   ·
    split
    ·
     simp
    ·
     intro x h;rcases List.mem_cons.1 h with h | h
     ·
      omega
     ·
      have:=k5 x h;omega
   ·
    rw [zx.zS,zx.wS,if_neg (by omega),zx.zW,if_neg (by omega)]
  ·
   rw [if_neg h0] at e1
   refine ⟨some ⟨S.next,0,none⟩,_,e1,.inr ⟨S.next,[],[],rfl,by rw [zx.zS,zx.wS,zx.qy,if_pos rfl,List.append_nil,List.flatMap_append],by omega,by simp,by simp⟩,?_,by simp;omega,fun k hk=>by rw [zx.zS,zx.wS,zx.qy,if_neg (by omega),zx.zW,if_neg (by omega),zx.yN,if_neg (fun h=>by have:=k5 k h;omega)],fun p hp hr=>by have:=hr r rfl;rw [zx.zS,zx.wS,zx.qy,if_neg (by omega),zx.zW,if_neg (by omega),zx.yN,if_neg (fun h=>by have:=k5 p h;omega)],.inr rfl,by simp,fun p hp hn=>by
    obtain ⟨h1,h2⟩:=hn r _ _ _ rfl k2
    exact ⟨by rw [zx.zS,zx.wS,zx.qy,if_neg (by omega),zx.zW,if_neg h1,zx.yN,if_neg h2],Nin.new (by rw [zx.zS,zx.wS,zx.qy,if_pos rfl]) (by omega) (by simp)⟩⟩
   rw [zx.zS,zx.wS,zx.qy,if_neg (by omega),zx.zW,if_neg (by omega),zx.yN,if_neg (fun h=>by have:=k5 q h;omega)]
theorem xO.append {a:Option Addr} {k:Nat} {b:List UInt8} (hd:xO S q a data) (hq:q < S.next) (hk:Okl k b) (hl:data.length+b.length≤65536) :
  ∃ a' S1,wO zi true 27 27 (.slice a data.length data.length) (by_ k b) S=some (.slice a' (data++b).length (data++b).length,S1)∧xO S1 q a' (data++b)∧S1.get q=S.get q∧q < S1.next∧Old q S S1∧∀ p,p < S.next→(∀ r,a=some ⟨r,0,none⟩→r < p)→S1.get p=S.get p:=by
 obtain ⟨a',S1,h1,h2,h3,h4,h5,h6,_⟩:=hd.Q8 hq (QO jh hk.okv (by rw [wC,Nat.mul_one]) (QW b)) hl
 exact ⟨a',S1,h1,h2,h3,h4,h5,h6⟩
theorem xO.slice {a:Option Addr} {dr:Bool} (hd:xO S q a data) {hi:Int} (h0:0≤hi) (h1:hi≤data.length) (hdr:dr=false) :
  ∃ a',wQ zi dr 27 (.slice a data.length data.length) none (some (.int .i64 hi)) S=some (.slice a' (data.take hi.toNat).length (data.take hi.toNat).length,S)∧xO S q a' (data.take hi.toNat)∧a'=a:=by
 have hd0:=hd
 rcases hd with ⟨rfl,rfl⟩ | ⟨r,anc,rest,rfl,k2,k3,k4,k5⟩
 ·
  have h1:hi≤0:=h1
  refine ⟨none,?_,hd0.take _,rfl⟩
  rw [List.take_nil]
  exact aaz jh yE (l:=0) (h:=hi) rfl rfl (by omega) h0 h1
 ·
  refine ⟨some ⟨r,0,none⟩,?_,hd0.take _,rfl⟩
  have:=Vk (P:=zi) (t:=27) (o:=0) (n:=data.length) (c:=data.length) (lo:=none) (hi:=some (.int .i64 hi)) (l:=0) (h:=hi) hdr k2 jh yE rfl rfl (by omega) h0 h1
  rw [this]
  have e:hi.toNat - Int.toNat 0=(data.take hi.toNat).length:=by rw [List.length_take];omega
  rw [e]
  rfl
theorem zD.v (h:Dk S q data sy room):jf zi O 14 [.pointer (some ⟨q,0,none⟩)] S=some (by_ 2 data,S):=by
 rw [abo (q:=J5) rfl]
 obtain ⟨a,h1,h2⟩:=h.cell
 have hlt:=h.lt
 have hb:=h.len
 rcases h2 with ⟨rfl,rfl⟩ | ⟨r,anc,rest,rfl,k2,k3,k4,k5⟩
 ·
  simp only [J5,h1,if_pos hlt]
  rfl
 ·
  have hlen:(data.flatMap cb).length=data.length:=wC data
  have htk:(data.flatMap cb++rest).take data.length=data.flatMap cb:=by rw [← hlen,List.take_left]
  simp only [J5,h1,if_pos hlt,k2,htk,aei,if_true,if_pos k4]
  rw [if_pos (by rw [List.length_append,hlen];omega),if_pos (by omega)]
  rfl
end
end Go.Proofs.Ytgfpjnblookppaa
namespace Go.Abs
open Go.RowKit
theorem adA {b:Nat} {e:Ty} {α:Type} (f:α→List Value) (Q:α→Prop) (h:∀ x,e.Good x→∃ y,e.ZV x=f y∧Q y) (hf:∀ y,(f y).length=e.sz) (x:(Ty.slc b e).Val) (hg:(Ty.slc b e).Good x) :
  ∃ k l,Okl k l∧k≠2∧(Ty.slc b e).ZV x=[vs f e.sz k l]∧l.length * b≤140737488351232∧∀ y ∈ l,Q y:=by
 match x,hg with
 | none,_=>exact ⟨0,[],Okl.none,by decide,rfl,by simp,fun y hy=>by cases hy⟩
 | some xs,hg =>
  obtain ⟨h1,h2,h3⟩:=hg
  have key:∀ xs:List e.Val,(∀ n ∈ xs,e.Good n)→∃ l:List α,xs.flatMap e.ZV=l.flatMap f∧l.length=xs.length∧∀ y ∈ l,Q y:=by
   intro xs
   induction xs with
   | nil=>intro _;exact ⟨[],rfl,rfl,fun y hy=>by cases hy⟩
   | cons n xs ih =>
    intro hn
    obtain ⟨y,hy,hq⟩:=h n (hn n (by simp))
    obtain ⟨l,k1,k2,k3⟩:=ih (fun m hm=>hn m (by simp [hm]))
    refine ⟨y::l,by rw [List.flatMap_cons,List.flatMap_cons,hy,k1],by simp [k2],fun z hz=>?_⟩
    rcases List.mem_cons.1 hz with rfl | hz
    ·
     exact hq
    ·
     exact k3 z hz
  obtain ⟨l,k1,k2,k3⟩:=key xs h3
  refine ⟨1,l,Okl.read,by decide,?_,by rw [k2];exact h1,k3⟩
  show [SL 1 e.sz (List.length xs) (List.flatMap e.ZV xs)]=[_]
  unfold vs
  rw [sv1,k1,k2]
theorem xB {cs xs:List Value} (h:cs.length=xs.length):splice cs 0 xs=xs:=by
 unfold splice
 rw [List.take_zero,List.nil_append,Nat.zero_add,← h,List.drop_length,List.append_nil]
theorem adI {k e n:Nat} {cs:List Value}:(sv k e n cs).oneCell'=true:=by unfold sv;split <;> rfl
theorem VT {α:Type} {f:α→List Value} {e k:Nat} {l:List α}:(vs f e k l).oneCell'=true:=adI
theorem acy {k:IntKind} {n:Int}:(Value.int k n).oneCell'=true:=rfl
theorem YR {P:Program} {t:TypeId} {z xs:List Value} {x:Value} (S:zx) (hx:x.cells.toList=xs) (hs:qc P t=some z.length) (hl:xs.length=z.length) (h1:xs.all (·.oneCell')=true) :
  ∃ S2,jD P t (.pointer (some ⟨S.next,0,none⟩)) x (S.push (.cells z (.own []) 0))=some (zh,S2)∧S2.get S.next=some (.cells xs (.own []) 0)∧Ext S S2∧S.next < S2.next:=by
 have hg:(S.push (.cells z (.own []) 0)).get S.next=some (.cells z (.own []) 0):=by rw [zx.zS,if_pos rfl]
 refine ⟨_,wX hg hs (by rw [← Array.length_toList,hx,hl]) (by rw [hx];exact h1) (by simp),?_,(Ext.push S _).set (Nat.le_refl _) _,by simp [zx.kills]⟩
 rw [zx.zW,if_pos rfl,hx,xB hl.symm]
theorem vO {P:Program} {t:TypeId} {q o n:Nat} {cs:List Value} {e:Nat} {x:Value} {S S0:zx} (hg:S.get q=some (.cells cs (.own []) e)) (hs:qc P t=some n) (hn:x.cells.size=n) (h1:x.cells.toList.all (·.oneCell')=true) (hle:o+n≤cs.length) (hE:Ext S0 S) (hq:S0.next≤q) :
  ∃ S2,jD P t (.pointer (some ⟨q,o,none⟩)) x S=some (zh,S2)∧S2.get q=some (.cells (splice cs o x.cells.toList) (.own []) e)∧Ext S0 S2∧S2.next=S.next∧∀ k,k≠q→S2.get k=S.get k:=by
 exact ⟨_,wX hg hs hn h1 hle,by rw [zx.zW,if_pos rfl],hE.set hq _,by simp [zx.kills],fun k hk=>by rw [zx.zW,if_neg hk];rfl⟩
theorem adM (x:Value) (S:zx):∃ S2,Yq x S=some (.pointer (some ⟨S.next,0,none⟩),S2)∧S2.get S.next=some (.cells x.cells.toList (.own []) 0)∧Ext S S2∧S.next < S2.next :=
 ⟨_,rfl,by rw [zx.zS,if_pos rfl],Ext.push _ _,by simp⟩
end Go.Abs
namespace Go.Proofs.Ytgfpjnblookppaa
open Go.Abs
theorem bb0 (S:zx):jR zi 27 0 [] S=some (by_ 2 [],S):=by rw [YC];rfl
structure Tb where
 k:Nat
 b:List UInt8
structure Tb.Ok (t:Tb):Prop where
 okl:Okl t.k t.b
 ne:t.k≠2
 le:t.b.length≤140737488351232
def fB (t:Tb):List Value:=[by_ t.k t.b]
theorem aed (x:(Ty.slc 1 (.int .u8)).Val) (hg:(Ty.slc 1 (.int .u8)).Good x):∃ t:Tb,(Ty.slc 1 (.int .u8)).ZV x=fB t∧t.Ok:=by
 obtain ⟨k,l,h1,h2,h3,h4⟩:=aa8 x hg
 exact ⟨⟨k,l⟩,h3,h1,h2,h4⟩
end Go.Proofs.Ytgfpjnblookppaa
namespace Go.Proofs.Ytgfpjnblookppaa
open Go.Abs
theorem adw {t:TypeId} {a b:List UInt8} {S:zx}:vG zi .neq t (.string ⟨a.toArray⟩) (.string ⟨b.toArray⟩) S=some (.bool (!decide (a=b)),S):=by rw [Xu]
end Go.Proofs.Ytgfpjnblookppaa
namespace Go.Proofs.Ytgfpjnblookppaa
open Go.Abs
theorem kH.v:∃ S1,jf zi O 9 [] zx.empty=some (.bool true,S1):=by
 have h:(qo zi O 20 9 [] zx.empty).map (·.1)=some (.bool true):=by kernel_rfl
 cases hc:qo zi O 20 9 [] zx.empty with
 | none=>rw [hc] at h;cases h
 | some r =>
  obtain ⟨v,S1⟩:=r
  rw [hc] at h
  cases h
  exact ⟨S1,abm hc⟩
theorem QS (q:Nat) (S:zx):qU zi .eql 24 (.pointer (some ⟨q,0,none⟩)) (.pointer none) S=some (.bool false,S):=by kernel_rfl
theorem Ku (q:Nat) (S:zx):qU zi .neq 24 (.pointer (some ⟨q,0,none⟩)) (.pointer none) S=some (.bool true,S):=by kernel_rfl
end Go.Proofs.Ytgfpjnblookppaa
namespace Go.Proofs.Ytgfpjnblookppaa
open Go.Abs
section
variable {S:zx} {q:Nat} {data:List UInt8} {sy room:Int}
def ZQ (S:zx) (q p:Nat):Prop:=∃ a n c rest own e,S.get q=some (.cells (.slice a n c::rest) own e)∧Nin S a p
theorem ZQ.empty {p:Nat} (h:Dk S q [] sy room) (hn:∀ a,S.get q=some (.cells [.slice a 0 0,.int .i64 sy,.int .i64 room] (.own []) 0)→a=none):ZQ S q p:=by
 obtain ⟨a,h1,_⟩:=h.cell
 have:=hn a h1
 subst this
 exact ⟨_,_,_,_,_,_,h1,Nin.none⟩
theorem xO.at {a:Option Addr} {r:Nat} (h:xO S q a data) (ha:a=some ⟨r,0,none⟩):q < r∧r < S.next∧∃ cs anc,S.get r=some (.cells cs (.own anc) 1)∧∀ x ∈ anc,x < r:=by
 rcases h with ⟨d1,_⟩ | ⟨r',anc,_,j1,j2,j3,j4,j5⟩
 ·
  rw [d1] at ha;cases ha
 ·
  rw [j1] at ha
  simp only [Option.some.injEq,Addr.mk.injEq,and_true] at ha
  subst ha
  exact ⟨j3,j4,_,_,j2,fun x hx=>(j5 x hx).2⟩
theorem ZQ.ext {p:Nat} {S1:zx} (h:ZQ S q p) (hD:Dk S q data sy room) (k:Ext S S1):ZQ S1 q p:=by
 obtain ⟨a0,h1,h2⟩:=hD.cell
 obtain ⟨a,n,c,rest,own,e,g,m⟩:=h
 rw [h1] at g
 cases g
 refine ⟨_,_,_,_,_,_,by rw [k.2 q hD.lt];exact h1,fun r cs anc e hr hg=>?_⟩
 rw [k.2 r (h2.at hr).2.1] at hg
 exact m r cs anc e hr hg
theorem ZQ.fresh {p:Nat} {S1:zx} (hD:Dk S q data sy room) (k:Ext S S1) (hp:S.next≤p):ZQ S1 q p:=by
 obtain ⟨a0,h1,h2⟩:=hD.cell
 refine ⟨_,_,_,_,_,_,by rw [k.2 q hD.lt];exact h1,fun r cs anc e hr hg=>?_⟩
 obtain ⟨k1,k2,cs',anc',k3,k4⟩:=h2.at hr
 rw [k.2 r k2,k3] at hg
 cases hg
 exact ⟨by omega,fun hx=>by have:=k4 _ hx;omega⟩
theorem Dk.off {p:Nat} (h:Dk S q data sy room) (hn:ZQ S q p) (hp:p≠q) (o:wU):Dk (S.set p o) q data sy room:=by
 obtain ⟨a,h1,h2⟩:=h.cell
 obtain ⟨a0,n,c,rest,own,e,g,m⟩:=hn
 rw [h1] at g
 cases g
 refine ⟨by simpa using h.lt,h.len,h.sy0,h.syl,h.rm0,h.rml,a,by rw [zx.zW,if_neg (fun e=>hp e.symm)];exact h1,?_⟩
 rcases h2 with h2 | ⟨r,anc,rest,h3,h4,h5,h6,h7⟩
 ·
  exact .inl h2
 ·
  subst h3
  exact .inr ⟨r,anc,rest,rfl,by rw [zx.zW,if_neg (fun e=>(m r _ _ _ rfl h4).1 e.symm)];exact h4,h5,by simpa using h6,h7⟩
theorem ZQ.off {p j:Nat} (h:ZQ S q j) (hD:Dk S q data sy room) (hn:ZQ S q p) (hp:p≠q) (o:wU):ZQ (S.set p o) q j:=by
 obtain ⟨a1,h1,h2⟩:=hD.cell
 obtain ⟨a0,_,_,_,_,_,g0,m0⟩:=hn
 obtain ⟨a,n,c,rest,own,e,g,m⟩:=h
 rw [h1] at g g0
 cases g
 cases g0
 refine ⟨_,_,_,_,_,_,by rw [zx.zW,if_neg (fun e=>hp e.symm)];exact h1,fun r cs anc e hr hg=>?_⟩
 obtain ⟨k1,k2,cs',anc',k3,k4⟩:=h2.at hr
 rw [zx.zW,if_neg (fun e=>(m0 r _ _ _ hr k3).1 e.symm)] at hg
 exact m r cs anc e hr hg
theorem zH.vm {p:Nat} {b:List UInt8} {own:Own} (h:Dk S q data sy room) (hp:S.get p=some (.cells (b.flatMap cb++[]) own 1)) (hqp:q < p) (hps:p < S.next) (hn:ZQ S q p) (hb:b.length≤140737488355328):∃ S1,jf zi O zH.id [.pointer (some ⟨q,0,none⟩),.slice (some ⟨p,0,none⟩) b.length b.length] S=some (.int .i64 (if roomOf room data.length < b.length then 41 else 0),S1) ∧
  Dk S1 q (if roomOf room data.length < b.length then data else data++b) sy room∧Old q S S1∧S.next≤S1.next∧∀ j,j < S.next→j≠q→ZQ S q j→S1.get j=S.get j∧ZQ S1 q j:=by
 obtain ⟨T,hTe⟩:∃ T,T=(.pointer (some ⟨q,0,none⟩)::.slice (some ⟨p,0,none⟩) b.length b.length::zh::zh::zh::zh::zh::zh::zh::zh::zh::zh::zh::zh::zh::zh::zh::zh::zh::[]):=⟨_,rfl⟩
 have hr:zI zi O true zH.code T S=zI zi O true zH.code T S:=rfl
 have c1:=zM.v h
 have ln:=fun S=>kV jh (some ⟨p,0,none⟩) b.length b.length S
 by_cases h1:roomOf room data.length < b.length
 ·
  conv at hr =>
   rhs
   rw [hTe]
   simp only [zH.code,zH.rs,zSs,reduceIte,zk,zn,zo,zq,ln,goInt,c1,h1]
  rw [hTe] at hr
  have hrun:=zH.runs hr (.inr rfl)
  rw [if_pos h1,if_pos h1]
  exact ⟨_,hrun,h,Old.refl _ _,Nat.le_refl _,fun _ _ _ hn=>⟨rfl,hn⟩⟩
 ·
  obtain ⟨a,h3,h4⟩:=h.cell
  have l2:=qN (t:=27) (o:=0+0) h3 wH rfl
  have hle:data.length+b.length≤65536:=by
   have b1:=h.rml;have b2:=h.len
   unfold roomOf at h1
   split at h1 <;> omega
  have e:((b.flatMap cb++[]).drop 0).take (b.length * 1)=b.flatMap cb:=by
   rw [List.drop_zero,List.append_nil,Nat.mul_one,← wC b,List.take_length]
  have src:=VF (P:=zi) (e:=1) (o:=0) (m:=b.length) (c:=b.length) jh hp (by rw [List.append_nil,wC];omega) (by rw [e];exact QW b)
  rw [e] at src
  obtain ⟨a',S1,e1,d1,g1,n1,o1,w1,na,nx,nn⟩:=h4.Q8 h.lt src hle
  have h5:=g1.trans h3
  have s1:=wX (P:=zi) (t:=27) (o:=0+0) (x:=.slice a' (data++b).length (data++b).length) h5 Zm rfl rfl (by simp)
  conv at hr =>
   rhs
   rw [hTe]
   simp only [zH.code,zH.rs,zSs,reduceIte,zk,zn,zo,zq,ln,goInt,c1,h1,jO,jU,l2,e1,s1]
  rw [hTe] at hr
  have hrun:=zH.runs hr (.inr rfl)
  rw [if_neg h1,if_neg h1]
  refine ⟨_,hrun,⟨n1,by simpa using hle,h.sy0,?_,h.rm0,h.rml,a',by rw [zx.zW,if_pos rfl];rfl,?_⟩,o1.set (Nat.le_refl _) _,by simpa using nx,fun j hj hjq hnj=>?_⟩
  ·
   have:=h.syl;rw [List.length_append];omega
  ·
   rcases d1 with d1 | ⟨r,anc,rest,j1,j2,j3,j4,j5⟩
   ·
    exact .inl d1
   ·
    exact .inr ⟨r,anc,rest,j1,by show ((S1.kills []).set q _).get r=_;rw [zx.zW,if_neg (by omega)];exact j2,j3,by simpa using j4,j5⟩
  ·
   obtain ⟨a0,_,_,_,_,_,g0,m0⟩:=hnj
   rw [h3] at g0
   cases g0
   obtain ⟨k1,k2⟩:=nn j hj m0
   refine ⟨by rw [zx.zW,if_neg hjq];exact k1,a',_,_,_,_,_,by rw [zx.zW,if_pos rfl];rfl,fun r cs anc e hr hg=>?_⟩
   have hrq:r≠q:=by
    rcases d1 with ⟨d1,_⟩ | ⟨r',_,_,j1,_,j3,_,_⟩
    ·
     rw [d1] at hr;cases hr
    ·
     rw [j1] at hr
     simp only [Option.some.injEq,Addr.mk.injEq,and_true] at hr
     omega
   rw [zx.zW,if_neg hrq] at hg
   exact k2 r cs anc e hr hg
end
end Go.Proofs.Ytgfpjnblookppaa
namespace Go.Proofs.Ytgfpjnblookppaa
open Go.Abs
def Only (q:Nat) (S S1:zx):Prop:=S1.next=S.next∧(∀ k,k≠q→S1.get k=S.get k)∧∀ a n c rest own e,S1.get q=some (.cells (.slice a n c::rest) own e)→∃ n' c' rest' own' e',S.get q=some (.cells (.slice a n' c'::rest') own' e')
theorem Only.of {q n c e n2 c2 e2:Nat} {a:Option Addr} {rest rest2:List Value} {own own2:Own} {S:zx} (h:S.get q=some (.cells (.slice a n c::rest) own e)):Only q S (S.set q (.cells (.slice a n2 c2::rest2) own2 e2)):=by
 refine ⟨rfl,fun k hk=>by rw [zx.zW,if_neg hk],fun a' n' c' rest' own' e' hg=>?_⟩
 rw [zx.zW,if_pos rfl] at hg
 cases hg
 exact ⟨_,_,_,_,_,h⟩
theorem Only.trans {q:Nat} {S S1 S2:zx} (h:Only q S S1) (k:Only q S1 S2):Only q S S2:=⟨k.1.trans h.1,fun i hi=>(k.2.1 i hi).trans (h.2.1 i hi),fun a n c rest own e hg=>by
 obtain ⟨_,_,_,_,_,h2⟩:=k.2.2 a n c rest own e hg
 exact h.2.2 _ _ _ _ _ _ h2⟩
theorem ZQ.only {S S1:zx} {q p:Nat} {data data1:List UInt8} {sy room sy1 room1:Int} (h:ZQ S q p) (o:Only q S S1) (hD:Dk S q data sy room) (hD1:Dk S1 q data1 sy1 room1):ZQ S1 q p:=by
 obtain ⟨a1,g1,dd1⟩:=hD1.cell
 obtain ⟨_,_,_,_,_,g0⟩:=o.2.2 _ _ _ _ _ _ g1
 obtain ⟨a,n,c,rest,own,e,g,m⟩:=h
 rw [g0] at g
 cases g
 refine ⟨_,_,_,_,_,_,g1,fun r cs anc e hr hg=>?_⟩
 have hrq:=(dd1.at hr).1
 rw [o.2.1 r (by omega)] at hg
 exact m r cs anc e hr hg
section
variable {S:zx} {q:Nat} {data:List UInt8} {sy room:Int}
theorem zZ.o (h:Dk S q data sy room):∃ v S1,jf zi O zZ.id [.pointer (some ⟨q,0,none⟩)] S=some (v,S1)∧Dk S1 q data data.length room∧Only q S S1:=by
 obtain ⟨T,hTe⟩:∃ T,T=(.pointer (some ⟨q,0,none⟩)::zh::zh::zh::zh::zh::zh::zh::zh::zh::[]):=⟨_,rfl⟩
 have hr:zI zi O false zZ.code T S=zI zi O false zZ.code T S:=rfl
 obtain ⟨a,h1,h2⟩:=h.cell
 have l2:=qN (t:=27) (o:=0+0) h1 wH rfl
 have ln:=fun S=>kV jh a data.length data.length S
 have s1:=wX (P:=zi) (t:=3) (o:=0+1) (x:=.int .i64 data.length) h1 Xf rfl rfl (by simp)
 conv at hr =>
  rhs
  rw [hTe]
  simp only [zZ.code,zZ.rs,zSs,reduceIte,zk,zn,zo,zq,jO,jU,yZ,l2,ln,goInt,s1]
 rw [hTe] at hr
 have hrun:=zZ.runs hr (.inl rfl)
 exact ⟨_,_,hrun,h.put h2 h.len (by omega) (by omega) h.rm0 h.rml rfl,Only.of h1⟩
theorem zO.o {r:Int} (h:Dk S q data sy room):∃ v S1,jf zi O zO.id [.pointer (some ⟨q,0,none⟩),.int .i64 r] S=some (v,S1)∧Dk S1 q data sy (max 0 (min r 65536))∧Only q S S1:=by
 obtain ⟨T,hTe⟩:∃ T,T=(.pointer (some ⟨q,0,none⟩)::.int .i64 r::zh::zh::zh::zh::zh::zh::zh::zh::[]):=⟨_,rfl⟩
 have hr:zI zi O false zO.code T S=zI zi O false zO.code T S:=rfl
 obtain ⟨a,h1,h2⟩:=h.cell
 have s1:=fun x:Int=>wX (P:=zi) (t:=3) (o:=0+2) (x:=.int .i64 x) h1 Xf rfl rfl (by simp)
 conv at hr =>
  rhs
  rw [hTe]
  simp only [zO.code,zO.rs,zSs,reduceIte,zk,zn,zo,zq,jO,qR,aea,adz,s1]
 rw [hTe] at hr
 have hrun:=zO.runs hr (.inl rfl)
 refine ⟨_,_,hrun,?_⟩
 have e:∀ x:Int,(if (if (65536:Int) < x then 65536 else x) > 0 then (if (65536:Int) < x then 65536 else x) else 0)=max 0 (min x 65536):=by intro x;split <;> omega
 rw [e]
 exact ⟨h.put h2 h.len h.sy0 h.syl (by omega) (by omega) rfl,Only.of h1⟩
theorem zL.o {keep:Int} (h:Dk S q data sy room) (hk:-9223372036854775808≤keep∧keep < 9223372036854775808):∃ v S1,jf zi O zL.id [.pointer (some ⟨q,0,none⟩),.int .i64 keep] S=some (v,S1) ∧
  Dk S1 q (data.take (sy+max 0 (min keep (data.length - sy))).toNat) (data.take (sy+max 0 (min keep (data.length - sy))).toNat).length room∧Only q S S1:=by
 obtain ⟨T,hTe⟩:∃ T,T=(.pointer (some ⟨q,0,none⟩)::.int .i64 keep::zh::zh::zh::zh::zh::zh::zh::zh::zh::zh::zh::zh::zh::zh::zh::zh::zh::zh::zh::zh::zh::zh::zh::zh::zh::zh::zh::zh::zh::zh::[]):=⟨_,rfl⟩
 have hr:zI zi O false zL.code T S=zI zi O false zL.code T S:=rfl
 obtain ⟨a,h1,h2⟩:=h.cell
 have b1:=h.sy0;have b2:=h.syl;have b3:=h.len
 have l1:=wM (t:=3) (o:=0+1) h1 Zl rfl
 have l2:=qN (t:=27) (o:=0+0) h1 wH rfl
 have ln:=fun S=>kV jh a data.length data.length S
 have w1:IntKind.i64.wrap (data.length - sy)=data.length - sy:=wrap_i64 (by omega) (by omega)
 have e1:(if (data.length:Int) - sy < keep then (data.length:Int) - sy else keep)=min keep (data.length - sy):=by split <;> omega
 have e2:(if min keep (data.length - sy) > 0 then min keep (data.length - sy) else 0)=max 0 (min keep (data.length - sy)):=by split <;> omega
 have w2:IntKind.i64.wrap (sy+max 0 (min keep (data.length - sy)))=sy+max 0 (min keep (data.length - sy)):=wrap_i64 (by omega) (by omega)
 obtain ⟨a',s1,d1,ea⟩:=h2.slice (dr:=false) (hi:=sy+max 0 (min keep (data.length - sy))) (by omega) (by omega) rfl
 generalize hm:sy+max 0 (min keep (data.length - sy))=m at *
 have s2:=wX (P:=zi) (t:=27) (o:=0+0) (x:=.slice a' (data.take m.toNat).length (data.take m.toNat).length) h1 Zm rfl rfl (by simp)
 have hle:(data.take m.toNat).length≤65536:=by rw [List.length_take];omega
 have d2:=h.put d1 (sy':=0) (room':=room) hle (by omega) (by omega) h.rm0 h.rml rfl
 have hsl:sy≤((data.take m.toNat).length:Int):=by rw [List.length_take];omega
 have d3:=h.put d1 (sy':=sy) (room':=room) hle h.sy0 hsl h.rm0 h.rml rfl
 obtain ⟨v,S1,e3,d4,o4⟩:=zZ.o d3
 have e3:jf zi O 13 [Value.pointer (some ⟨q,0,none⟩)] ((S.kills []).set q (.cells (splice [.slice a data.length data.length,.int .i64 sy,.int .i64 room] (0+0) (Value.slice a' (data.take m.toNat).length (data.take m.toNat).length).cells.toList) (.own []) 0))=some (v,S1):=e3
 conv at hr =>
  rhs
  rw [hTe]
  simp only [zL.code,zL.rs,zSs,reduceIte,zk,zn,zo,zq,jO,jU,yZ,l1,l2,ln,goInt,w1,aea,adz,e1,e2,w2,hm,s1,s2,e3]
 rw [hTe] at hr
 have hrun:=zL.runs hr (.inl rfl)
 exact ⟨_,_,hrun,d4,by subst ea;exact (Only.of (S:=S) (n2:=(data.take m.toNat).length) (c2:=(data.take m.toNat).length) h1).trans o4⟩
theorem zK.o {n:Int} (h:Dk S q data sy room) (hk:-9223372036854775808≤n∧n < 9223372036854775808):∃ v S1,jf zi O zK.id [.pointer (some ⟨q,0,none⟩),.int .i64 n] S=some (v,S1) ∧
  Dk S1 q (data.take (max 0 (min n data.length)).toNat) (min sy (data.take (max 0 (min n data.length)).toNat).length) room∧Only q S S1:=by
 obtain ⟨T,hTe⟩:∃ T,T=(.pointer (some ⟨q,0,none⟩)::.int .i64 n::zh::zh::zh::zh::zh::zh::zh::zh::zh::zh::zh::zh::zh::zh::zh::zh::zh::zh::zh::zh::zh::zh::zh::zh::zh::zh::zh::zh::zh::zh::zh::[]):=⟨_,rfl⟩
 have hr:zI zi O false zK.code T S=zI zi O false zK.code T S:=rfl
 obtain ⟨a,h1,h2⟩:=h.cell
 have b1:=h.sy0;have b2:=h.syl;have b3:=h.len
 have l1:=wM (t:=3) (o:=0+1) h1 Zl rfl
 have l2:=qN (t:=27) (o:=0+0) h1 wH rfl
 have ln:=fun a n S=>kV jh a n n S
 have e1:(if (data.length:Int) < n then (data.length:Int) else n)=min n data.length:=by split <;> omega
 have e2:(if min n (data.length:Int) > 0 then min n (data.length:Int) else 0)=max 0 (min n data.length):=by split <;> omega
 obtain ⟨a',s1,d1,ea⟩:=h2.slice (dr:=false) (hi:=max 0 (min n data.length)) (by omega) (by omega) rfl
 generalize hm:max 0 (min n (data.length:Int))=m at *
 have s2:=wX (P:=zi) (t:=27) (o:=0+0) (x:=.slice a' (data.take m.toNat).length (data.take m.toNat).length) h1 Zm rfl rfl (by simp)
 have hle:(data.take m.toNat).length≤65536:=by rw [List.length_take];omega
 have g2:((S.kills []).set q (.cells (splice [.slice a data.length data.length,.int .i64 sy,.int .i64 room] (0+0) (Value.slice a' (data.take m.toNat).length (data.take m.toNat).length).cells.toList) (.own []) 0)).get q =
   some (.cells [.slice a' (data.take m.toNat).length (data.take m.toNat).length,.int .i64 sy,.int .i64 room] (.own []) 0):=by rw [zx.zW,if_pos rfl];rfl
 have l3:=wM (t:=3) (o:=0+1) g2 Zl rfl
 have l4:=qN (t:=27) (o:=0+0) g2 wH rfl
 have s3:=fun x:Int=>wX (P:=zi) (t:=3) (o:=0+1) (x:=.int .i64 x) g2 Xf rfl rfl (by simp)
 have e3:(if ((data.take m.toNat).length:Int) < sy then ((data.take m.toNat).length:Int) else sy)=min sy (data.take m.toNat).length:=by split <;> omega
 have d2:=h.put d1 (sy':=0) (room':=room) hle (by omega) (by omega) h.rm0 h.rml rfl
 conv at hr =>
  rhs
  rw [hTe]
  simp only [zK.code,zK.rs,zSs,reduceIte,zk,zn,zo,zq,jO,jU,yZ,l1,l2,ln,goInt,aea,adz,e1,e2,hm,s1,s2,l3,l4,e3,s3]
 rw [hTe] at hr
 have hrun:=zK.runs hr (.inl rfl)
 refine ⟨_,_,hrun,?_⟩
 obtain ⟨a2,q1,q2⟩:=d2.cell
 refine ⟨⟨by simpa using h.lt,hle,by omega,by omega,h.rm0,h.rml,a',by rw [zx.zW,if_pos rfl];rfl,?_⟩,by subst ea;exact (Only.of h1).trans (Only.of g2)⟩
 rcases d1 with d1 | ⟨r,anc,rest,j1,j2,j3,j4,j5⟩
 ·
  exact .inl d1
 ·
  exact .inr ⟨r,anc,rest,j1,by show (((S.kills []).set q _).set q _).get r=_;rw [zx.zW,if_neg (by omega),zx.zW,if_neg (by omega)];exact j2,j3,by simpa using j4,j5⟩
end
end Go.Proofs.Ytgfpjnblookppaa
namespace Go.Proofs.Ytgfpjnblookppaa
open Go.Abs
abbrev zB.id:FuncId:=17
noncomputable def zB.code:Code:=(.seq (.region 0 (reg Try.f17 0) false) (.seq (.region 1 (reg Try.f17 1) false) (.seq (.seq (.region 2 (reg Try.f17 2) false) (.cond (.tmp 8) (.region 3 (reg Try.f17 3) false) Code.skip)) (.seq (.seq (.region 4 (reg Try.f17 4) false) (.cond (.tmp 11) (.region 5 (reg Try.f17 5) false) Code.skip)) (.seq (.region 6 (reg Try.f17 6) false) Code.ret)))))
theorem zB.body:Try.f17.body=some zB.code:=by kernel_rfl
variable (i b k l m n o p q r c d f g:Value) (S:zx)
theorem zB.r0 :jC zi ⟨false,false,false⟩ (jf zi O) (reg Try.f17 0) (reg Try.f17 0).toList ([i,b,k,l,m,n,o,p,q,r,c,d,f,g]) S =
  (zV (Yq (dem i) S) (fun t j=>zV (y8 zi 40 j) (fun s u=>some ([i,b,t,l,s,n,o,p,q,r,c,d,f,g],u)) ()) ()):=by
 kernel_rfl
theorem zB.r1 :jC zi ⟨false,false,false⟩ (jf zi O) (reg Try.f17 1) (reg Try.f17 1).toList ([i,b,k,l,m,n,o,p,q,r,c,d,f,g]) S =
  (zV (zG zi 40 k 2 S) (fun s j=>zV (jD zi 3 s (dem (dem b)) j) (fun v u=>some ([i,b,k,l,m,dem b,s,p,q,r,c,d,f,g],u)) ()) ()):=by
 kernel_rfl
theorem zB.r2 :jC zi ⟨false,false,false⟩ (jf zi O) (reg Try.f17 2) (reg Try.f17 2).toList ([i,b,k,l,m,n,o,p,q,r,c,d,f,g]) S =
  (zV (qU zi BinOp.lss 3 (dem b) (.int .i64 0) S) (fun s j=>some ([i,b,k,l,m,n,o,dem b,s,r,c,d,f,g],j)) ()):=by
 kernel_rfl
theorem zB.r3 :jC zi ⟨false,false,false⟩ (jf zi O) (reg Try.f17 3) (reg Try.f17 3).toList ([i,b,k,l,m,n,o,p,q,r,c,d,f,g]) S =
  (zV (zG zi 40 k 2 S) (fun t j=>zV (jD zi 3 t (.int .i64 0) j) (fun s u=>some ([i,b,k,l,m,n,o,p,q,t,c,d,f,g],u)) ()) ()):=by
 kernel_rfl
theorem zB.r4 :jC zi ⟨false,false,false⟩ (jf zi O) (reg Try.f17 4) (reg Try.f17 4).toList ([i,b,k,l,m,n,o,p,q,r,c,d,f,g]) S =
  (zV (qU zi BinOp.gtr 3 (dem b) (.int .i64 65536) S) (fun s j=>some ([i,b,k,l,m,n,o,p,q,r,dem b,s,f,g],j)) ()):=by
 kernel_rfl
theorem zB.r5 :jC zi ⟨false,false,false⟩ (jf zi O) (reg Try.f17 5) (reg Try.f17 5).toList ([i,b,k,l,m,n,o,p,q,r,c,d,f,g]) S =
  (zV (zG zi 40 k 2 S) (fun t j=>zV (jD zi 3 t (.int .i64 65536) j) (fun s u=>some ([i,b,k,l,m,n,o,p,q,r,c,d,t,g],u)) ()) ()):=by
 kernel_rfl
theorem zB.r6 :jC zi ⟨false,false,false⟩ (jf zi O) (reg Try.f17 6) (reg Try.f17 6).toList ([i,b,k,l,m,n,o,p,q,r,c,d,f,g]) S =
  (zV (je zi false 40 k S) (fun t j=>zV (jD zi 40 m (dem t) j) (fun s u=>some ([i,b,k,l,m,n,o,p,q,r,c,d,f,t],u)) ()) ()):=by
 kernel_rfl
theorem zB.rs:type_of% (aeC @zB.r0 (aeC @zB.r1 (aeC @zB.r2 (aeC @zB.r3 (aeC @zB.r4 (aeC @zB.r5 (@zB.r6))))))):=aeC @zB.r0 (aeC @zB.r1 (aeC @zB.r2 (aeC @zB.r3 (aeC @zB.r4 (aeC @zB.r5 (@zB.r6))))))
theorem zB.runs {i b:Value} {S j:zx} {e:AEx} {T:List Value} (h:zI zi O false zB.code ([i,b,zh,zh,zh,zh,zh,zh,zh,zh,zh,zh,zh,zh]) zx.empty=some (e,T,j)) (he:e=.normal∨e=.ret) {w0:Value} (c0:je zi false 40 (T.getD 4 zh) j=some (w0,j)) (hca:[i,b].all (jc 16)=true) (hcv:jc 16 (w0)=true):jf zi O 17 [i,b] S=some (w0,S) :=
 ku rfl rfl Try.func17 (by decide) zB.body (by exact h) he (yL (a:=w0) ((show zX zi T j Try.f17.results.toList=zX zi T j [(ResultVar.cell 4 40)] from by kernel_rfl).trans (by simp only [zX,c0])) (by kernel_rfl)) hca hcv
end Go.Proofs.Ytgfpjnblookppaa
namespace Go.Proofs.Ytgfpjnblookppaa
open Go.Abs
abbrev zC.id:FuncId:=18
noncomputable def zC.code:Code:=(.seq (.region 0 (reg Try.f18 0) false) (.seq (.seq (.region 1 (reg Try.f18 1) false) (.cond (.tmp 11) (.seq (.region 2 (reg Try.f18 2) false) Code.ret) Code.skip)) (.seq (.region 3 (reg Try.f18 3) false) (.seq (.region 4 (reg Try.f18 4) false) (.seq (.region 5 (reg Try.f18 5) false) Code.ret)))))
theorem zC.body:Try.f18.body=some zC.code:=by kernel_rfl
variable (b a r u s A t v w x c d f g i j k l m n o p:Value) (S:zx)
theorem zC.r0 :jC zi ⟨false,false,false⟩ (jf zi O) (reg Try.f18 0) (reg Try.f18 0).toList ([b,a,r,u,s,A,t,v,w,x,c,d,f,g,i,j,k,l,m,n,o,p]) S =
  (zV (Yq (dem b) S) (fun z q=>zV (y8 zi 40 q) (fun B y=>some ([b,a,z,u,B,.int .i64 0,t,v,w,x,c,d,f,g,i,j,k,l,m,n,o,p],y)) ()) ()):=by
 kernel_rfl
theorem zC.r1 :jC zi ⟨false,false,false⟩ (jf zi O) (reg Try.f18 1) (reg Try.f18 1).toList ([b,a,r,u,s,A,t,v,w,x,c,d,f,g,i,j,k,l,m,n,o,p]) S =
  (zV (vK zi 27 (dem a) S) (fun B q=>zV (je zi false 40 r q) (fun C y=>zV ((jf zi O) 24 [(dem C)] y) (fun D E=>zV (qU zi BinOp.gtr 3 B D E) (fun G F=>some ([b,a,r,u,s,A,t,dem a,B,C,D,G,f,g,i,j,k,l,m,n,o,p],F)) ()) ()) ()) ()):=by
 kernel_rfl
theorem zC.r2 :jC zi ⟨false,false,false⟩ (jf zi O) (reg Try.f18 2) (reg Try.f18 2).toList ([b,a,r,u,s,A,t,v,w,x,c,d,f,g,i,j,k,l,m,n,o,p]) S =
  (zV (je zi false 40 r S) (fun z q=>zV (jD zi 40 s (dem z) q) (fun B y=>some ([b,a,r,u,s,.int .i64 41,t,v,w,x,c,d,z,g,i,j,k,l,m,n,o,p],y)) ()) ()):=by
 kernel_rfl
theorem zC.r3 :jC zi ⟨false,false,false⟩ (jf zi O) (reg Try.f18 3) (reg Try.f18 3).toList ([b,a,r,u,s,A,t,v,w,x,c,d,f,g,i,j,k,l,m,n,o,p]) S =
  (zV (jR zi 27 0 [] S) (fun z q=>zV (zG zi 40 r 0 q) (fun B y=>zV (je zi false 27 B y) (fun C E=>zV (yw zi 27 27 z C E) (fun D F=>some ([b,a,r,u,s,A,D,v,w,x,c,d,f,dem z,B,C,dem D,l,m,n,o,p],F)) ()) ()) ()) ()):=by
 kernel_rfl
theorem zC.r4 :jC zi ⟨false,false,false⟩ (jf zi O) (reg Try.f18 4) (reg Try.f18 4).toList ([b,a,r,u,s,A,t,v,w,x,c,d,f,g,i,j,k,l,m,n,o,p]) S =
  (zV (yw zi 27 27 t (dem a) S) (fun C q=>zV (zG zi 40 r 0 q) (fun D y=>zV (jD zi 27 D (dem C) y) (fun G E=>some ([b,a,r,u,s,A,dem t,v,w,x,c,d,f,g,i,j,k,dem t,dem a,C,D,p],E)) ()) ()) ()):=by
 kernel_rfl
theorem zC.r5 :jC zi ⟨false,false,false⟩ (jf zi O) (reg Try.f18 5) (reg Try.f18 5).toList ([b,a,r,u,s,A,t,v,w,x,c,d,f,g,i,j,k,l,m,n,o,p]) S =
  (zV (je zi false 40 r S) (fun z q=>zV (jD zi 40 s (dem z) q) (fun B y=>some ([b,a,r,u,s,.int .i64 0,t,v,w,x,c,d,f,g,i,j,k,l,m,n,o,z],y)) ()) ()):=by
 kernel_rfl
theorem zC.rs:type_of% (aeC @zC.r0 (aeC @zC.r1 (aeC @zC.r2 (aeC @zC.r3 (aeC @zC.r4 (@zC.r5)))))):=aeC @zC.r0 (aeC @zC.r1 (aeC @zC.r2 (aeC @zC.r3 (aeC @zC.r4 (@zC.r5)))))
theorem zC.runs {b a:Value} {S q:zx} {e:AEx} {T:List Value} (h:zI zi O false zC.code ([b,a,zh,zh,zh,zh,zh,zh,zh,zh,zh,zh,zh,zh,zh,zh,zh,zh,zh,zh,zh,zh]) zx.empty=some (e,T,q)) (he:e=.normal∨e=.ret) {w0:Value} (c0:je zi false 40 (T.getD 4 zh) q=some (w0,q)) (h0:yh (w0)=true) (h1:yh (T.getD 5 zh)=true) (hca:[b,a].all (jc 16)=true) (hcv:jc 16 (Value.tuple #[w0,T.getD 5 zh])=true):jf zi O 18 [b,a] S=some (Value.tuple #[w0,T.getD 5 zh],S) :=
 ku rfl rfl Try.func18 (by decide) zC.body (by exact h) he ((aar ((show zX zi T q Try.f18.results.toList=zX zi T q [(ResultVar.cell 4 40),(ResultVar.tmp 5)] from by kernel_rfl).trans (by simp only [zX,c0])) (by kernel_rfl) (by simp only [List.all_cons,List.all_nil,h0,h1,Bool.and_true])).trans rfl) hca hcv
end Go.Proofs.Ytgfpjnblookppaa
namespace Go.Proofs.Ytgfpjnblookppaa
open Go.Abs
abbrev zJ.id:FuncId:=19
noncomputable def zJ.code:Code:=(.seq (.region 0 (reg Try.f19 0) false) (.seq (.region 1 (reg Try.f19 1) false) (.seq (.region 2 (reg Try.f19 2) false) Code.ret)))
theorem zJ.body:Try.f19.body=some zJ.code:=by kernel_rfl
variable (b d g i j k l m:Value) (S:zx)
theorem zJ.r0 :jC zi ⟨false,false,false⟩ (jf zi O) (reg Try.f19 0) (reg Try.f19 0).toList ([b,d,g,i,j,k,l,m]) S =
  (zV (Yq (dem b) S) (fun f c=>zV (y8 zi 40 c) (fun n o=>some ([b,f,n,i,j,k,l,m],o)) ()) ()):=by
 kernel_rfl
theorem zJ.r1 :jC zi ⟨false,false,false⟩ (jf zi O) (reg Try.f19 1) (reg Try.f19 1).toList ([b,d,g,i,j,k,l,m]) S =
  (zV (zG zi 40 d 0 S) (fun f c=>zV (je zi false 27 f c) (fun n o=>zV (vK zi 27 n o) (fun p r=>zV (zG zi 40 d 1 r) (fun q s=>zV (jD zi 3 q (dem p) s) (fun u t=>some ([b,d,g,f,n,p,q,m],t)) ()) ()) ()) ()) ()):=by
 kernel_rfl
theorem zJ.r2 :jC zi ⟨false,false,false⟩ (jf zi O) (reg Try.f19 2) (reg Try.f19 2).toList ([b,d,g,i,j,k,l,m]) S =
  (zV (je zi false 40 d S) (fun f c=>zV (jD zi 40 g (dem f) c) (fun n o=>some ([b,d,g,i,j,k,l,f],o)) ()) ()):=by
 kernel_rfl
theorem zJ.rs:type_of% (aeC @zJ.r0 (aeC @zJ.r1 (@zJ.r2))):=aeC @zJ.r0 (aeC @zJ.r1 (@zJ.r2))
theorem zJ.runs {b:Value} {S c:zx} {e:AEx} {T:List Value} (h:zI zi O false zJ.code ([b,zh,zh,zh,zh,zh,zh,zh]) zx.empty=some (e,T,c)) (he:e=.normal∨e=.ret) {w0:Value} (c0:je zi false 40 (T.getD 2 zh) c=some (w0,c)) (hca:[b].all (jc 16)=true) (hcv:jc 16 (w0)=true):jf zi O 19 [b] S=some (w0,S) :=
 ku rfl rfl Try.func19 (by decide) zJ.body (by exact h) he (yL (a:=w0) ((show zX zi T c Try.f19.results.toList=zX zi T c [(ResultVar.cell 2 40)] from by kernel_rfl).trans (by simp only [zX,c0])) (by kernel_rfl)) hca hcv
end Go.Proofs.Ytgfpjnblookppaa
namespace Go.Proofs.Ytgfpjnblookppaa
open Go.Abs
abbrev zA.id:FuncId:=20
noncomputable def zA.yx:Code:=(.seq (.seq (.region 3 (reg Try.f20 3) false) (.cond (.tmp 28) Code.skip (.exit 0))) (.seq (.block 1 (.region 5 (reg Try.f20 5) false)) (.region 4 (reg Try.f20 4) false)))
noncomputable def zA.code:Code:=(.seq (.region 0 (reg Try.f20 0) false) (.seq (.region 1 (reg Try.f20 1) false) (.seq (.seq (.region 2 (reg Try.f20 2) false) (.block 0 (.loop zA.yx))) (.seq (.region 6 (reg Try.f20 6) false) Code.ret))))
theorem zA.body:Try.f20.body=some zA.code:=by kernel_rfl
theorem zA.eta {T:List Value} (h:T.length=44):T=[T.getD 0 zh,T.getD 1 zh,T.getD 2 zh,T.getD 3 zh,T.getD 4 zh,T.getD 5 zh,T.getD 6 zh,T.getD 7 zh,T.getD 8 zh,T.getD 9 zh,T.getD 10 zh,T.getD 11 zh,T.getD 12 zh,T.getD 13 zh,T.getD 14 zh,T.getD 15 zh,T.getD 16 zh,T.getD 17 zh,T.getD 18 zh,T.getD 19 zh,T.getD 20 zh,T.getD 21 zh,T.getD 22 zh,T.getD 23 zh,T.getD 24 zh,T.getD 25 zh,T.getD 26 zh,T.getD 27 zh,T.getD 28 zh,T.getD 29 zh,T.getD 30 zh,T.getD 31 zh,T.getD 32 zh,T.getD 33 zh,T.getD 34 zh,T.getD 35 zh,T.getD 36 zh,T.getD 37 zh,T.getD 38 zh,T.getD 39 zh,T.getD 40 zh,T.getD 41 zh,T.getD 42 zh,T.getD 43 zh]:=(JB T 44 h).trans (by kernel_rfl)
variable (V W b Y Z X c x7 x8 x9 d f g i k l m n o p q r s t u w x y z A B C D E F G H I J K L M N P:Value) (S:zx)
theorem zA.r0 :jC zi ⟨false,false,false⟩ (jf zi O) (reg Try.f20 0) (reg Try.f20 0).toList ([V,W,b,Y,Z,X,c,x7,x8,x9,d,f,g,i,k,l,m,n,o,p,q,r,s,t,u,w,x,y,z,A,B,C,D,E,F,G,H,I,J,K,L,M,N,P]) S =
  (zV (Yq (dem V) S) (fun v0 Q=>zV (y8 zi 40 Q) (fun R S2=>some ([V,W,v0,Y,R,X,c,x7,x8,x9,d,f,g,i,k,l,m,n,o,p,q,r,s,t,u,w,x,y,z,A,B,C,D,E,F,G,H,I,J,K,L,M,N,P],S2)) ()) ()):=by
 kernel_rfl
theorem zA.r1 :jC zi ⟨false,false,false⟩ (jf zi O) (reg Try.f20 1) (reg Try.f20 1).toList ([V,W,b,Y,Z,X,c,x7,x8,x9,d,f,g,i,k,l,m,n,o,p,q,r,s,t,u,w,x,y,z,A,B,C,D,E,F,G,H,I,J,K,L,M,N,P]) S =
  (zV (jR zi 27 0 [] S) (fun v0 Q=>zV (zG zi 40 b 0 Q) (fun R S2=>zV (je zi false 27 R S2) (fun v2 S3=>zV (zG zi 40 b 1 S3) (fun v3 S4=>zV (je zi false 3 v3 S4) (fun U S5=>zV (wQ zi false 27 v2 none (some U) S5) (fun v5 S6=>zV (yw zi 27 27 v0 v5 S6) (fun v6 S7=>some ([V,W,b,Y,Z,v6,c,dem v0,R,v2,v3,U,v5,dem v6,k,l,m,n,o,p,q,r,s,t,u,w,x,y,z,A,B,C,D,E,F,G,H,I,J,K,L,M,N,P],S7)) ()) ()) ()) ()) ()) ()) ()):=by
 kernel_rfl
theorem zA.r2 :jC zi ⟨false,false,false⟩ (jf zi O) (reg Try.f20 2) (reg Try.f20 2).toList ([V,W,b,Y,Z,X,c,x7,x8,x9,d,f,g,i,k,l,m,n,o,p,q,r,s,t,u,w,x,y,z,A,B,C,D,E,F,G,H,I,J,K,L,M,N,P]) S =
  (zV (zG zi 40 b 1 S) (fun v0 Q=>zV (je zi false 3 v0 Q) (fun R S2=>some ([V,W,b,Y,Z,X,R,x7,x8,x9,d,f,g,i,v0,dem R,m,n,o,p,q,r,s,t,u,w,x,y,z,A,B,C,D,E,F,G,H,I,J,K,L,M,N,P],S2)) ()) ()):=by
 kernel_rfl
theorem zA.r3 :jC zi ⟨false,false,false⟩ (jf zi O) (reg Try.f20 3) (reg Try.f20 3).toList ([V,W,b,Y,Z,X,c,x7,x8,x9,d,f,g,i,k,l,m,n,o,p,q,r,s,t,u,w,x,y,z,A,B,C,D,E,F,G,H,I,J,K,L,M,N,P]) S =
  (zV (zG zi 40 b 0 S) (fun R Q=>zV (je zi false 27 R Q) (fun v2 S2=>zV (vK zi 27 v2 S2) (fun v3 S3=>zV (qU zi BinOp.lss 3 (dem c) v3 S3) (fun U S4=>gdK (dem U) true (ret c) S4 (fun v6 S5=>gdK (dem U) true (zG zi 40 b 1) S5 (fun v7 S6=>gdK (dem U) true (je zi false 3 v7) S6 (fun v8 S7=>gdK (dem U) true (qU zi BinOp.sub 3 (dem v6) v8) S7 (fun v9 S8=>gdK (dem U) true (ret W) S8 (fun a0 S9=>gdK (dem U) true (qU zi BinOp.lss 3 v9 (dem a0)) S9 (fun a1 a2=>zV (JH (dem U) a1 (Value.bool false) a2) (fun a3 a4=>some ([V,W,b,Y,Z,X,c,x7,x8,x9,d,f,g,i,k,l,dem c,R,v2,v3,U,dem U,dem v6,v7,v8,v9,dem a0,a1,a3,A,B,C,D,E,F,G,H,I,J,K,L,M,N,P],a4)) ()) ()) ()) ()) ()) ()) ()) ()) ()) ()) ()):=by
 refine sP Try.f20 3 0 (v:=c) ?_
 refine sD Try.f20 3 1 (fun R Q=>?_)
 refine sD Try.f20 3 2 (fun v2 S2=>?_)
 refine sD Try.f20 3 3 (fun v3 S3=>?_)
 refine sD Try.f20 3 4 (fun U S4=>?_)
 refine sP Try.f20 3 5 (v:=U) ?_
 refine sG Try.f20 3 6 (j:=5) (fun v6 S5=>?_)
 refine sG Try.f20 3 7 (j:=5) (fun v7 S6=>?_)
 refine sG Try.f20 3 8 (j:=5) (fun v8 S7=>?_)
 refine sG Try.f20 3 9 (j:=5) (fun v9 S8=>?_)
 refine sG Try.f20 3 10 (j:=5) (fun a0 S9=>?_)
 refine sG Try.f20 3 11 (j:=5) (fun a1 a2=>?_)
 refine sD Try.f20 3 12 (fun a3 a4=>?_)
 kernel_rfl
theorem zA.r5 :jC zi ⟨false,false,false⟩ (jf zi O) (reg Try.f20 5) (reg Try.f20 5).toList ([V,W,b,Y,Z,X,c,x7,x8,x9,d,f,g,i,k,l,m,n,o,p,q,r,s,t,u,w,x,y,z,A,B,C,D,E,F,G,H,I,J,K,L,M,N,P]) S =
  (zV (zG zi 40 b 0 S) (fun R Q=>zV (je zi false 27 R Q) (fun v2 S2=>zV (jy zi 27 v2 (dem c) S2) (fun U S3=>zV (je zi false 5 U S3) (fun v5 S4=>zV (jR zi 27 1 [(0,v5)] S4) (fun v6 S5=>zV (yw zi 27 27 X v6 S5) (fun v7 S6=>some ([V,W,b,Y,Z,v7,c,x7,x8,x9,d,f,g,i,k,l,m,n,o,p,q,r,s,t,u,w,x,y,z,A,B,dem X,R,v2,dem c,U,v5,v6,dem v7,K,L,M,N,P],S6)) ()) ()) ()) ()) ()) ()):=by
 kernel_rfl
theorem zA.r4 :jC zi ⟨false,false,false⟩ (jf zi O) (reg Try.f20 4) (reg Try.f20 4).toList ([V,W,b,Y,Z,X,c,x7,x8,x9,d,f,g,i,k,l,m,n,o,p,q,r,s,t,u,w,x,y,z,A,B,C,D,E,F,G,H,I,J,K,L,M,N,P]) S =
  (zV (qU zi BinOp.add 3 (dem c) (.int .i64 1) S) (fun R Q=>some ([V,W,b,Y,Z,X,R,x7,x8,x9,d,f,g,i,k,l,m,n,o,p,q,r,s,t,u,w,x,y,z,dem c,dem R,C,D,E,F,G,H,I,J,K,L,M,N,P],Q)) ()):=by
 kernel_rfl
theorem zA.r6 :jC zi ⟨false,false,false⟩ (jf zi O) (reg Try.f20 6) (reg Try.f20 6).toList ([V,W,b,Y,Z,X,c,x7,x8,x9,d,f,g,i,k,l,m,n,o,p,q,r,s,t,u,w,x,y,z,A,B,C,D,E,F,G,H,I,J,K,L,M,N,P]) S =
  (zV (zG zi 40 b 2 S) (fun R Q=>zV (je zi false 3 R Q) (fun v2 S2=>zV (yH zi 40 [(0,(dem (dem X))),(2,(dem v2))] S2) (fun v3 S3=>zV ((jf zi O) 19 [(dem v3)] S3) (fun U S4=>zV (jD zi 40 Z (dem U) S4) (fun v5 S5=>some ([V,W,b,Y,Z,X,c,x7,x8,x9,d,f,g,i,k,l,m,n,o,p,q,r,s,t,u,w,x,y,z,A,B,C,D,E,F,G,H,I,J,dem X,R,v2,v3,U],S5)) ()) ()) ()) ()) ()):=by
 kernel_rfl
theorem zA.rs:type_of% (aeC @zA.r0 (aeC @zA.r1 (aeC @zA.r2 (aeC @zA.r3 (aeC @zA.r5 (aeC @zA.r4 (@zA.r6))))))):=aeC @zA.r0 (aeC @zA.r1 (aeC @zA.r2 (aeC @zA.r3 (aeC @zA.r5 (aeC @zA.r4 (@zA.r6))))))
theorem zA.runs {V W:Value} {S Q:zx} {e:AEx} {T:List Value} (h:zI zi O false zA.code ([V,W,zh,zh,zh,zh,zh,zh,zh,zh,zh,zh,zh,zh,zh,zh,zh,zh,zh,zh,zh,zh,zh,zh,zh,zh,zh,zh,zh,zh,zh,zh,zh,zh,zh,zh,zh,zh,zh,zh,zh,zh,zh,zh]) zx.empty=some (e,T,Q)) (he:e=.normal∨e=.ret) {w0:Value} (c0:je zi false 40 (T.getD 4 zh) Q=some (w0,Q)) (hca:[V,W].all (jc 16)=true) (hcv:jc 16 (w0)=true):jf zi O 20 [V,W] S=some (w0,S) :=
 ku rfl rfl Try.func20 (by decide) zA.body (by exact h) he (yL (a:=w0) ((show zX zi T Q Try.f20.results.toList=zX zi T Q [(ResultVar.cell 4 40)] from by kernel_rfl).trans (by simp only [zX,c0])) (by kernel_rfl)) hca hcv
end Go.Proofs.Ytgfpjnblookppaa
namespace Go.Proofs.Ytgfpjnblookppaa
open Go.Abs
abbrev zF.id:FuncId:=24
noncomputable def zF.code:Code:=(.seq (.region 0 (reg Try.f24 0) false) (.seq (.seq (.region 1 (reg Try.f24 1) false) (.cond (.tmp 8) (.seq (.region 2 (reg Try.f24 2) false) Code.ret) Code.skip)) (.seq (.region 3 (reg Try.f24 3) false) Code.ret)))
theorem zF.body:Try.f24.body=some zF.code:=by kernel_rfl
variable (b c t l m n o p q r d f g i j:Value) (S:zx)
theorem zF.r0 :jC zi ⟨false,false,false⟩ (jf zi O) (reg Try.f24 0) (reg Try.f24 0).toList ([b,c,t,l,m,n,o,p,q,r,d,f,g,i,j]) S =
  (zV (Yq (dem b) S) (fun s k=>some ([b,s,.int .i64 0,l,m,n,o,p,q,r,d,f,g,i,j],k)) ()):=by
 kernel_rfl
theorem zF.r1 :jC zi ⟨false,false,false⟩ (jf zi O) (reg Try.f24 1) (reg Try.f24 1).toList ([b,c,t,l,m,n,o,p,q,r,d,f,g,i,j]) S =
  (zV (zG zi 40 c 0 S) (fun s k=>zV (je zi false 27 s k) (fun u z=>zV (vK zi 27 u z) (fun v A=>zV (zG zi 40 c 2 A) (fun w B=>zV (je zi false 3 w B) (fun x C=>zV (qU zi BinOp.gtr 3 v x C) (fun y D=>some ([b,c,t,s,u,v,w,x,y,r,d,f,g,i,j],D)) ()) ()) ()) ()) ()) ()):=by
 kernel_rfl
theorem zF.r2 :jC zi ⟨false,false,false⟩ (jf zi O) (reg Try.f24 2) (reg Try.f24 2).toList ([b,c,t,l,m,n,o,p,q,r,d,f,g,i,j]) S =
  ( some ([b,c,.int .i64 0,l,m,n,o,p,q,r,d,f,g,i,j],S)):=by
 kernel_rfl
theorem zF.r3 :jC zi ⟨false,false,false⟩ (jf zi O) (reg Try.f24 3) (reg Try.f24 3).toList ([b,c,t,l,m,n,o,p,q,r,d,f,g,i,j]) S =
  (zV (zG zi 40 c 2 S) (fun s k=>zV (je zi false 3 s k) (fun u z=>zV (zG zi 40 c 0 z) (fun v A=>zV (je zi false 27 v A) (fun w B=>zV (vK zi 27 w B) (fun x C=>zV (qU zi BinOp.sub 3 u x C) (fun y D=>some ([b,c,y,l,m,n,o,p,q,s,u,v,w,x,dem y],D)) ()) ()) ()) ()) ()) ()):=by
 kernel_rfl
theorem zF.rs:type_of% (aeC @zF.r0 (aeC @zF.r1 (aeC @zF.r2 (@zF.r3)))):=aeC @zF.r0 (aeC @zF.r1 (aeC @zF.r2 (@zF.r3)))
theorem zF.runs {b:Value} {S k:zx} {e:AEx} {T:List Value} (h:zI zi O false zF.code ([b,zh,zh,zh,zh,zh,zh,zh,zh,zh,zh,zh,zh,zh,zh]) zx.empty=some (e,T,k)) (he:e=.normal∨e=.ret) (hca:[b].all (jc 16)=true) (hcv:jc 16 (T.getD 2 zh)=true):jf zi O 24 [b] S=some (T.getD 2 zh,S) :=
 ku rfl rfl Try.func24 (by decide) zF.body (by exact h) he (yL (a:=T.getD 2 zh) ((show zX zi T k Try.f24.results.toList=zX zi T k [(ResultVar.tmp 2)] from by kernel_rfl).trans (by simp only [zX])) (by kernel_rfl)) hca hcv
end Go.Proofs.Ytgfpjnblookppaa
namespace Go.Proofs.Ytgfpjnblookppaa
open Go.Abs
abbrev zy.id:FuncId:=23
noncomputable def zy.yx:Code:=(.seq (.seq (.region 3 (reg Try.f23 3) false) (.cond (.tmp 17) Code.skip (.exit 0))) (.seq (.block 1 (.region 5 (reg Try.f23 5) false)) (.region 4 (reg Try.f23 4) false)))
noncomputable def zy.code:Code:=(.seq (.region 0 (reg Try.f23 0) false) (.seq (.region 1 (reg Try.f23 1) false) (.seq (.seq (.region 2 (reg Try.f23 2) false) (.block 0 (.loop zy.yx))) (.seq (.region 6 (reg Try.f23 6) false) (.seq (.seq (.region 7 (reg Try.f23 7) false) (.cond (.tmp 34) (.region 8 (reg Try.f23 8) false) Code.skip)) (.seq (.region 9 (reg Try.f23 9) false) Code.ret))))))
theorem zy.body:Try.f23.body=some zy.code:=by kernel_rfl
theorem zy.eta {T:List Value} (h:T.length=39):T=[T.getD 0 zh,T.getD 1 zh,T.getD 2 zh,T.getD 3 zh,T.getD 4 zh,T.getD 5 zh,T.getD 6 zh,T.getD 7 zh,T.getD 8 zh,T.getD 9 zh,T.getD 10 zh,T.getD 11 zh,T.getD 12 zh,T.getD 13 zh,T.getD 14 zh,T.getD 15 zh,T.getD 16 zh,T.getD 17 zh,T.getD 18 zh,T.getD 19 zh,T.getD 20 zh,T.getD 21 zh,T.getD 22 zh,T.getD 23 zh,T.getD 24 zh,T.getD 25 zh,T.getD 26 zh,T.getD 27 zh,T.getD 28 zh,T.getD 29 zh,T.getD 30 zh,T.getD 31 zh,T.getD 32 zh,T.getD 33 zh,T.getD 34 zh,T.getD 35 zh,T.getD 36 zh,T.getD 37 zh,T.getD 38 zh]:=(JB T 39 h).trans (by kernel_rfl)
variable (K L M Q R I J U V W b c d f g i k l m n o p q r s t u w x y z A B C D E F G H:Value) (S:zx)
theorem zy.r0 :jC zi ⟨false,false,false⟩ (jf zi O) (reg Try.f23 0) (reg Try.f23 0).toList ([K,L,M,Q,R,I,J,U,V,W,b,c,d,f,g,i,k,l,m,n,o,p,q,r,s,t,u,w,x,y,z,A,B,C,D,E,F,G,H]) S =
  (zV (Yq (dem K) S) (fun Z N=>zV (y8 zi 40 N) (fun P X=>some ([K,L,Z,Q,P,I,J,U,V,W,b,c,d,f,g,i,k,l,m,n,o,p,q,r,s,t,u,w,x,y,z,A,B,C,D,E,F,G,H],X)) ()) ()):=by
 kernel_rfl
theorem zy.r1 :jC zi ⟨false,false,false⟩ (jf zi O) (reg Try.f23 1) (reg Try.f23 1).toList ([K,L,M,Q,R,I,J,U,V,W,b,c,d,f,g,i,k,l,m,n,o,p,q,r,s,t,u,w,x,y,z,A,B,C,D,E,F,G,H]) S =
  (zV (jR zi 27 0 [] S) (fun Z N=>some ([K,L,M,Q,R,Z,J,dem Z,V,W,b,c,d,f,g,i,k,l,m,n,o,p,q,r,s,t,u,w,x,y,z,A,B,C,D,E,F,G,H],N)) ()):=by
 kernel_rfl
theorem zy.r2 :jC zi ⟨false,false,false⟩ (jf zi O) (reg Try.f23 2) (reg Try.f23 2).toList ([K,L,M,Q,R,I,J,U,V,W,b,c,d,f,g,i,k,l,m,n,o,p,q,r,s,t,u,w,x,y,z,A,B,C,D,E,F,G,H]) S =
  ( some ([K,L,M,Q,R,I,.int .i64 0,U,V,W,b,c,d,f,g,i,k,l,m,n,o,p,q,r,s,t,u,w,x,y,z,A,B,C,D,E,F,G,H],S)):=by
 kernel_rfl
theorem zy.r3 :jC zi ⟨false,false,false⟩ (jf zi O) (reg Try.f23 3) (reg Try.f23 3).toList ([K,L,M,Q,R,I,J,U,V,W,b,c,d,f,g,i,k,l,m,n,o,p,q,r,s,t,u,w,x,y,z,A,B,C,D,E,F,G,H]) S =
  (zV (zG zi 40 M 0 S) (fun P N=>zV (je zi false 27 P N) (fun v2 X=>zV (vK zi 27 v2 X) (fun v3 S3=>zV (qU zi BinOp.lss 3 (dem J) v3 S3) (fun Y S4=>gdK (dem Y) true (ret J) S4 (fun v6 S5=>gdK (dem Y) true (ret L) S5 (fun v7 S6=>gdK (dem Y) true (qU zi BinOp.lss 3 (dem v6) (dem v7)) S6 (fun v8 S7=>zV (JH (dem Y) v8 (Value.bool false) S7) (fun v9 S8=>some ([K,L,M,Q,R,I,J,U,dem J,P,v2,v3,Y,dem Y,dem v6,dem v7,v8,v9,m,n,o,p,q,r,s,t,u,w,x,y,z,A,B,C,D,E,F,G,H],S8)) ()) ()) ()) ()) ()) ()) ()) ()):=by
 refine sP Try.f23 3 0 (v:=J) ?_
 refine sD Try.f23 3 1 (fun P N=>?_)
 refine sD Try.f23 3 2 (fun v2 X=>?_)
 refine sD Try.f23 3 3 (fun v3 S3=>?_)
 refine sD Try.f23 3 4 (fun Y S4=>?_)
 refine sP Try.f23 3 5 (v:=Y) ?_
 refine sG Try.f23 3 6 (j:=5) (fun v6 S5=>?_)
 refine sG Try.f23 3 7 (j:=5) (fun v7 S6=>?_)
 refine sG Try.f23 3 8 (j:=5) (fun v8 S7=>?_)
 refine sD Try.f23 3 9 (fun v9 S8=>?_)
 kernel_rfl
theorem zy.r5 :jC zi ⟨false,false,false⟩ (jf zi O) (reg Try.f23 5) (reg Try.f23 5).toList ([K,L,M,Q,R,I,J,U,V,W,b,c,d,f,g,i,k,l,m,n,o,p,q,r,s,t,u,w,x,y,z,A,B,C,D,E,F,G,H]) S =
  (zV (zG zi 40 M 0 S) (fun P N=>zV (je zi false 27 P N) (fun v2 X=>zV (jy zi 27 v2 (dem J) X) (fun Y S3=>zV (je zi false 5 Y S3) (fun v5 S4=>zV (jR zi 27 1 [(0,v5)] S4) (fun v6 S5=>zV (yw zi 27 27 I v6 S5) (fun v7 S6=>some ([K,L,M,Q,R,v7,J,U,V,W,b,c,d,f,g,i,k,l,m,n,dem I,P,v2,dem J,Y,v5,v6,dem v7,x,y,z,A,B,C,D,E,F,G,H],S6)) ()) ()) ()) ()) ()) ()):=by
 kernel_rfl
theorem zy.r4 :jC zi ⟨false,false,false⟩ (jf zi O) (reg Try.f23 4) (reg Try.f23 4).toList ([K,L,M,Q,R,I,J,U,V,W,b,c,d,f,g,i,k,l,m,n,o,p,q,r,s,t,u,w,x,y,z,A,B,C,D,E,F,G,H]) S =
  (zV (qU zi BinOp.add 3 (dem J) (.int .i64 1) S) (fun P N=>some ([K,L,M,Q,R,I,P,U,V,W,b,c,d,f,g,i,k,l,dem J,dem P,o,p,q,r,s,t,u,w,x,y,z,A,B,C,D,E,F,G,H],N)) ()):=by
 kernel_rfl
theorem zy.r6 :jC zi ⟨false,false,false⟩ (jf zi O) (reg Try.f23 6) (reg Try.f23 6).toList ([K,L,M,Q,R,I,J,U,V,W,b,c,d,f,g,i,k,l,m,n,o,p,q,r,s,t,u,w,x,y,z,A,B,C,D,E,F,G,H]) S =
  (zV (zG zi 40 M 0 S) (fun P N=>zV (jD zi 27 P (dem (dem I)) N) (fun v2 X=>some ([K,L,M,Q,R,I,J,U,V,W,b,c,d,f,g,i,k,l,m,n,o,p,q,r,s,t,u,w,dem I,P,z,A,B,C,D,E,F,G,H],X)) ()) ()):=by
 kernel_rfl
theorem zy.r7 :jC zi ⟨false,false,false⟩ (jf zi O) (reg Try.f23 7) (reg Try.f23 7).toList ([K,L,M,Q,R,I,J,U,V,W,b,c,d,f,g,i,k,l,m,n,o,p,q,r,s,t,u,w,x,y,z,A,B,C,D,E,F,G,H]) S =
  (zV (zG zi 40 M 1 S) (fun Z N=>zV (je zi false 3 Z N) (fun P X=>zV (vK zi 27 (dem I) X) (fun v3 S3=>zV (qU zi BinOp.gtr 3 P v3 S3) (fun Y S4=>some ([K,L,M,Q,R,I,J,U,V,W,b,c,d,f,g,i,k,l,m,n,o,p,q,r,s,t,u,w,x,y,Z,P,dem I,v3,Y,E,F,G,H],S4)) ()) ()) ()) ()):=by
 kernel_rfl
theorem zy.r8 :jC zi ⟨false,false,false⟩ (jf zi O) (reg Try.f23 8) (reg Try.f23 8).toList ([K,L,M,Q,R,I,J,U,V,W,b,c,d,f,g,i,k,l,m,n,o,p,q,r,s,t,u,w,x,y,z,A,B,C,D,E,F,G,H]) S =
  (zV (vK zi 27 (dem I) S) (fun P N=>zV (zG zi 40 M 1 N) (fun v2 X=>zV (jD zi 3 v2 (dem P) X) (fun v3 S3=>some ([K,L,M,Q,R,I,J,U,V,W,b,c,d,f,g,i,k,l,m,n,o,p,q,r,s,t,u,w,x,y,z,A,B,C,D,dem I,P,v2,H],S3)) ()) ()) ()):=by
 kernel_rfl
theorem zy.r9 :jC zi ⟨false,false,false⟩ (jf zi O) (reg Try.f23 9) (reg Try.f23 9).toList ([K,L,M,Q,R,I,J,U,V,W,b,c,d,f,g,i,k,l,m,n,o,p,q,r,s,t,u,w,x,y,z,A,B,C,D,E,F,G,H]) S =
  (zV (je zi false 40 M S) (fun Z N=>zV (jD zi 40 R (dem Z) N) (fun P X=>some ([K,L,M,Q,R,I,J,U,V,W,b,c,d,f,g,i,k,l,m,n,o,p,q,r,s,t,u,w,x,y,z,A,B,C,D,E,F,G,Z],X)) ()) ()):=by
 kernel_rfl
theorem zy.rs:type_of% (aeC @zy.r0 (aeC @zy.r1 (aeC @zy.r2 (aeC @zy.r3 (aeC @zy.r5 (aeC @zy.r4 (aeC @zy.r6 (aeC @zy.r7 (aeC @zy.r8 (@zy.r9)))))))))):=aeC @zy.r0 (aeC @zy.r1 (aeC @zy.r2 (aeC @zy.r3 (aeC @zy.r5 (aeC @zy.r4 (aeC @zy.r6 (aeC @zy.r7 (aeC @zy.r8 (@zy.r9)))))))))
theorem zy.runs {K L:Value} {S N:zx} {e:AEx} {T:List Value} (h:zI zi O false zy.code ([K,L,zh,zh,zh,zh,zh,zh,zh,zh,zh,zh,zh,zh,zh,zh,zh,zh,zh,zh,zh,zh,zh,zh,zh,zh,zh,zh,zh,zh,zh,zh,zh,zh,zh,zh,zh,zh,zh]) zx.empty=some (e,T,N)) (he:e=.normal∨e=.ret) {w0:Value} (c0:je zi false 40 (T.getD 4 zh) N=some (w0,N)) (hca:[K,L].all (jc 16)=true) (hcv:jc 16 (w0)=true):jf zi O 23 [K,L] S=some (w0,S) :=
 ku rfl rfl Try.func23 (by decide) zy.body (by exact h) he (yL (a:=w0) ((show zX zi T N Try.f23.results.toList=zX zi T N [(ResultVar.cell 4 40)] from by kernel_rfl).trans (by simp only [zX,c0])) (by kernel_rfl)) hca hcv
end Go.Proofs.Ytgfpjnblookppaa
namespace Go.Proofs.Ytgfpjnblookppaa
open Go.Abs
structure DV where
 k:Nat
 data:List UInt8
 sy:Int
 room:Int
structure DV.Ok (d:DV):Prop where
 okl:Okl d.k d.data
 ne:d.k≠2
 len:d.data.length≤65536
 sy0:0≤d.sy
 syl:d.sy≤d.data.length
 rm0:0≤d.room
 rml:d.room≤65536
def fDV (d:DV):List Value:=[by_ d.k d.data,.int .i64 d.sy,.int .i64 d.room]
abbrev dvv (d:DV):Value:=.agg [by_ d.k d.data,Value.int .i64 d.sy,.int .i64 d.room].toArray
abbrev dv0:DV:=⟨0,[],0,0⟩
theorem adJ:dv0.Ok:=⟨Okl.none,by decide,by decide,by decide,by decide,by decide,by decide⟩
theorem y5 {d:DV} {n:Nat} (h:d.k≤2):jc (n+6) (dvv d)=true:=by
 show [by_ d.k d.data,Value.int .i64 d.sy,.int .i64 d.room].all (jc (n+5))=true
 have h2:jc (n+5) (by_ d.k d.data)=true:=KC (d:=n) h
 simp only [List.all_cons,List.all_nil,h2,Bool.true_and];rfl
theorem Vu (d:DV):(fDV d).all (·.oneCell')=true:=by
 simp only [fDV,List.all_cons,List.all_nil,VT,Bool.true_and];rfl
structure Two (H:zx) (d u:DV):Prop where
 g0:H.get 0=some (.cells (fDV d) (.own []) 0)
 g1:H.get 1=some (.cells (fDV u) (.own []) 0)
 ext:Ext zx.empty H
theorem Jo (d:DV):∃ H1 H2,Yq (dvv d) zx.empty=some (.pointer (some ⟨0,0,none⟩),H1)∧y8 zi 40 H1=some (.pointer (some ⟨1,0,none⟩),H2)∧Two H2 d dv0:=by
 refine ⟨_,_,rfl,by kernel_rfl,⟨?_,?_,((Ext.push _ (.cells (fDV d) (.own []) 0)).trans (Ext.push _ (.cells (fDV dv0) (.own []) 0)))⟩⟩
 ·
  kernel_rfl
 ·
  kernel_rfl
section
variable {H:zx} {d u:DV}
theorem Two.l0 (h:Two H d u) (hk:d.k≠2):je zi false 27 (.pointer (some ⟨0,0+0,none⟩)) H=some (by_ d.k d.data,H):=by
 rw [vU (o:=0+0) (v:=by_ d.k d.data) h.g0 wH rfl (fun l h=>by have h:sv _ 1 _ _=Value.agg l:=h;unfold sv at h;split at h <;> cases h),YA,if_neg hk]
theorem Two.l1 (h:Two H d u):je zi false 3 (.pointer (some ⟨0,0+1,none⟩)) H=some (.int .i64 d.sy,H):=wM (o:=0+1) h.g0 Zl rfl
theorem Two.l2 (h:Two H d u):je zi false 3 (.pointer (some ⟨0,0+2,none⟩)) H=some (.int .i64 d.room,H):=wM (o:=0+2) h.g0 Zl rfl
theorem qA {q:Nat} {own:Own} {e:Nat} (h:H.get q=some (.cells (fDV d) own e)) (hk:d.k≠2):je zi false 40 (.pointer (some ⟨q,0,none⟩)) H=some (dvv d,H):=by
 rw [kT h,Q7,Q7,ac2,if_neg hk]
theorem Two.s0 (h:Two H d u) (j:Nat) (x:List UInt8):∃ H1,jD zi 27 (.pointer (some ⟨0,0+0,none⟩)) (by_ j x) H=some (zh,H1)∧Two H1 { d with k:=j,data:=x } u:=by
 obtain ⟨H1,a1,a2,a3,a4,a5⟩:=vO (P:=zi) (t:=27) (x:=by_ j x) (o:=0+0) (n:=1) h.g0 Zm (by rw [ZW];rfl) (by rw [ZW];simp [VT]) (by simp [fDV]) h.ext (Nat.le_refl _)
 refine ⟨H1,a1,⟨?_,(a5 1 (by decide)).trans h.g1,a3⟩⟩
 rw [a2,ZW];rfl
theorem Two.s1 (h:Two H d u) (n:Int):∃ H1,jD zi 3 (.pointer (some ⟨0,0+1,none⟩)) (.int .i64 n) H=some (zh,H1)∧Two H1 { d with sy:=n } u:=by
 obtain ⟨H1,a1,a2,a3,a4,a5⟩:=vO (P:=zi) (t:=3) (x:=.int .i64 n) (o:=0+1) (n:=1) h.g0 Xf rfl rfl (by simp [fDV]) h.ext (Nat.le_refl _)
 exact ⟨H1,a1,⟨a2,(a5 1 (by decide)).trans h.g1,a3⟩⟩
theorem Two.s2 (h:Two H d u) (n:Int):∃ H1,jD zi 3 (.pointer (some ⟨0,0+2,none⟩)) (.int .i64 n) H=some (zh,H1)∧Two H1 { d with room:=n } u:=by
 obtain ⟨H1,a1,a2,a3,a4,a5⟩:=vO (P:=zi) (t:=3) (x:=.int .i64 n) (o:=0+2) (n:=1) h.g0 Xf rfl rfl (by simp [fDV]) h.ext (Nat.le_refl _)
 exact ⟨H1,a1,⟨a2,(a5 1 (by decide)).trans h.g1,a3⟩⟩
theorem Two.out (h:Two H d u) (w:DV):∃ H1,jD zi 40 (.pointer (some ⟨1,0,none⟩)) (dvv w) H=some (zh,H1)∧Two H1 d w:=by
 obtain ⟨H1,a1,a2,a3,a4,a5⟩:=vO (P:=zi) (t:=40) (x:=dvv w) (o:=0) (n:=3) h.g1 wE (by rw [yK];rfl) (by rw [yK,List.toList_toArray];exact Vu w) (by simp [fDV]) h.ext (Nat.zero_le _)
 refine ⟨H1,a1,⟨(a5 0 (by decide)).trans h.g0,?_,a3⟩⟩
 rw [a2,yK,List.toList_toArray,xB (by rfl)];rfl
end
theorem xu {d:DV} (h:d.k≤2) {l:List Value} (hl:l.all (jc 16)=true):(dvv d::l).all (jc 16)=true:=by
 rw [List.all_cons,y5 (n:=10) h,hl];rfl
theorem zF.v {d:DV} (hd:d.Ok) (S:zx):jf zi O zF.id [dvv d] S=some (.int .i64 (roomOf d.room d.data.length),S):=by
 obtain ⟨H1,b1,b2,b3,b4⟩:=adM (dvv d) zx.empty
 have b2:H1.get 0=some (.cells (fDV d) (.own []) 0):=b2
 have b1:Yq (dvv d) zx.empty=some (.pointer (some ⟨0,0,none⟩),H1):=b1
 have l0:je zi false 27 (.pointer (some ⟨0,0+0,none⟩)) H1=some (by_ d.k d.data,H1):=by
  rw [vU (o:=0+0) (v:=by_ d.k d.data) b2 wH rfl (fun l h=>by have h:sv _ 1 _ _=Value.agg l:=h;unfold sv at h;split at h <;> cases h),YA,if_neg hd.ne]
 have l2:je zi false 3 (.pointer (some ⟨0,0+2,none⟩)) H1=some (.int .i64 d.room,H1):=wM (o:=0+2) b2 Zl rfl
 have ln:=fun S=>ZH (S:=S) hd.okl
 obtain ⟨T,hTe⟩:∃ T,T=(dvv d::zh::zh::zh::zh::zh::zh::zh::zh::zh::zh::zh::zh::zh::zh::[]):=⟨_,rfl⟩
 have hr:zI zi O false zF.code T zx.empty=zI zi O false zF.code T zx.empty:=rfl
 have k2:=hd.okl.le
 have c1:=hd.len;have c2:=hd.rm0;have c3:=hd.rml
 by_cases h:(d.data.length:Int) > d.room
 ·
  have e:roomOf d.room d.data.length=0:=by unfold roomOf;rw [if_neg (by omega)]
  rw [e]
  conv at hr =>
   rhs
   rw [hTe]
   simp only [zF.code,zF.rs,zSs,reduceIte,zk,zn,zo,zq,b1,zQ,jm,l0,l2,ln,goInt,h]
  rw [hTe] at hr
  exact zF.runs hr (.inr rfl) (xu k2 rfl) rfl
 ·
  have e:roomOf d.room d.data.length=d.room - d.data.length:=by unfold roomOf;split <;> omega
  have w:IntKind.i64.wrap (d.room - d.data.length)=d.room - d.data.length:=wrap_i64 (by omega) (by omega)
  rw [e]
  conv at hr =>
   rhs
   rw [hTe]
   simp only [zF.code,zF.rs,zSs,reduceIte,zk,zn,zo,zq,b1,zQ,jm,l0,l2,ln,goInt,h,w]
  rw [hTe] at hr
  exact zF.runs hr (.inr rfl) (xu k2 rfl) rfl
theorem zB.v {d:DV} (hd:d.Ok) (n:Int) (S:zx):jf zi O zB.id [dvv d,.int .i64 n] S=some (dvv { d with room:=max 0 (min n 65536) },S):=by
 obtain ⟨H1,H2,b1,b2,t2⟩:=Jo d
 obtain ⟨H3,b3,t3⟩:=t2.s2 n
 obtain ⟨T,hTe⟩:∃ T,T=(dvv d::.int .i64 n::zh::zh::zh::zh::zh::zh::zh::zh::zh::zh::zh::zh::[]):=⟨_,rfl⟩
 have hr:zI zi O false zB.code T zx.empty=zI zi O false zB.code T zx.empty:=rfl
 have k2:=hd.okl.le
 by_cases h0:n < 0
 ·
  have e:max 0 (min n 65536)=0:=by omega
  have h6:¬ n > 65536:=by omega
  rw [e]
  obtain ⟨H4,b4,t4⟩:=t3.s2 0
  have l4:=qA t4.g0 hd.ne
  obtain ⟨H5,b5,t5⟩:=t4.out { d with room:=0 }
  conv at hr =>
   rhs
   rw [hTe]
   simp only [zB.code,zB.rs,zSs,reduceIte,zk,zn,zo,zq,b1,b2,jm,b3,h0,h6,b4,l4,b5,if_neg hd.ne]
  rw [hTe] at hr
  exact zB.runs hr (.inr rfl) (qA t5.g1 hd.ne) (xu k2 rfl) (y5 (n:=10) k2)
 by_cases h6:n > 65536
 ·
  have e:max 0 (min n 65536)=65536:=by omega
  rw [e]
  obtain ⟨H4,b4,t4⟩:=t3.s2 65536
  have l4:=qA t4.g0 hd.ne
  obtain ⟨H5,b5,t5⟩:=t4.out { d with room:=65536 }
  conv at hr =>
   rhs
   rw [hTe]
   simp only [zB.code,zB.rs,zSs,reduceIte,zk,zn,zo,zq,b1,b2,jm,b3,h0,h6,b4,l4,b5,if_neg hd.ne]
  rw [hTe] at hr
  exact zB.runs hr (.inr rfl) (qA t5.g1 hd.ne) (xu k2 rfl) (y5 (n:=10) k2)
 ·
  have e:max 0 (min n 65536)=n:=by omega
  rw [e]
  have l4:=qA t3.g0 hd.ne
  obtain ⟨H5,b5,t5⟩:=t3.out { d with room:=n }
  conv at hr =>
   rhs
   rw [hTe]
   simp only [zB.code,zB.rs,zSs,reduceIte,zk,zn,zo,zq,b1,b2,jm,b3,h0,h6,l4,b5,if_neg hd.ne]
  rw [hTe] at hr
  exact zB.runs hr (.inr rfl) (qA t5.g1 hd.ne) (xu k2 rfl) (y5 (n:=10) k2)
theorem zJ.v {d:DV} (hd:d.Ok) (S:zx):jf zi O zJ.id [dvv d] S=some (dvv { d with sy:=d.data.length },S):=by
 obtain ⟨H1,H2,b1,b2,t2⟩:=Jo d
 obtain ⟨H3,b3,t3⟩:=t2.s1 d.data.length
 have l0:=t2.l0 hd.ne
 have ln:=fun S=>ZH (S:=S) hd.okl
 have l4:=qA t3.g0 hd.ne
 obtain ⟨H5,b5,t5⟩:=t3.out { d with sy:=d.data.length }
 obtain ⟨T,hTe⟩:∃ T,T=(dvv d::zh::zh::zh::zh::zh::zh::zh::[]):=⟨_,rfl⟩
 have hr:zI zi O false zJ.code T zx.empty=zI zi O false zJ.code T zx.empty:=rfl
 have k2:=hd.okl.le
 conv at hr =>
  rhs
  rw [hTe]
  simp only [zJ.code,zJ.rs,zSs,reduceIte,zk,zn,zo,zq,b1,b2,zQ,ji,l0,ln,goInt,b3,l4,b5,if_neg hd.ne]
 rw [hTe] at hr
 exact zJ.runs hr (.inr rfl) (qA t5.g1 hd.ne) (xu k2 rfl) (y5 (n:=10) k2)
theorem zC.v {d:DV} (hd:d.Ok) {k:Nat} {b:List UInt8} (hk:Okl k b) (k2:k≠2) (hb:b.length≤140737488351232) (S:zx):∃ j,(Okl j (if roomOf d.room d.data.length < b.length then d.data else d.data++b)∧j≠2)∧jf zi O zC.id [dvv d,by_ k b] S=some (.tuple #[dvv ⟨j,if roomOf d.room d.data.length < b.length then d.data else d.data++b,d.sy,d.room⟩,.int .i64 (if roomOf d.room d.data.length < b.length then 41 else 0)],S):=by
 obtain ⟨H1,H2,b1,b2,t2⟩:=Jo d
 have ld:=qA t2.g0 hd.ne
 have l0:=t2.l0 hd.ne
 have c1:=fun S=>zF.v hd S
 have ln:=fun S=>ZH (S:=S) hk
 obtain ⟨T,hTe⟩:∃ T,T=(dvv d::by_ k b::zh::zh::zh::zh::zh::zh::zh::zh::zh::zh::zh::zh::zh::zh::zh::zh::zh::zh::zh::zh::[]):=⟨_,rfl⟩
 have hr:zI zi O false zC.code T zx.empty=zI zi O false zC.code T zx.empty:=rfl
 have q2:=hd.okl.le
 have ck:[by_ k b].all (jc 16)=true:=all1 (KC (k:=k) hk.le)
 by_cases h:roomOf d.room d.data.length < (b.length:Int)
 ·
  rw [if_pos h,if_pos h]
  have h':(b.length:Int) > roomOf d.room d.data.length:=h
  obtain ⟨H5,b5,t5⟩:=t2.out d
  refine ⟨d.k,⟨hd.okl,hd.ne⟩,?_⟩
  conv at hr =>
   rhs
   rw [hTe]
   simp only [zC.code,zC.rs,zSs,reduceIte,zk,zn,zo,zq,b1,b2,ld,if_neg hd.ne,if_neg k2,ln,goInt,c1,h',b5]
  rw [hTe] at hr
  exact zC.runs hr (.inr rfl) (qA t5.g1 hd.ne) rfl rfl (xu q2 ck) (by
   show [dvv d,Value.int .i64 41].all (jc 15)=true
   rw [List.all_cons,y5 (n:=9) q2];rfl)
 ·
  rw [if_neg h,if_neg h]
  have h':¬ (b.length:Int) > roomOf d.room d.data.length:=h
  have hle:d.data.length+b.length≤65536:=by
   have c2:=hd.rml;have c3:=hd.len
   unfold roomOf at h
   split at h <;> omega
  have a1:∀ S,yw zi 27 27 (by_ 2 []) (by_ d.k d.data) S=some (by_ 2 d.data,S):=fun S=>Vs hd.okl (by omega)
  have a2:∀ S,yw zi 27 27 (by_ 2 d.data) (by_ k b) S=some (by_ 2 (d.data++b),S):=fun S=>by
   rw [vT Okl.own (by decide) hk (by omega),if_neg (fun h=>by omega)]
  obtain ⟨H3,b3,t3⟩:=t2.s0 1 (d.data++b)
  have l4:=qA t3.g0 (by show (1:Nat)≠2;decide)
  obtain ⟨H5,b5,t5⟩:=t3.out { d with k:=1,data:=d.data++b }
  refine ⟨1,⟨Okl.read,by decide⟩,?_⟩
  conv at hr =>
   rhs
   rw [hTe]
   simp only [zC.code,zC.rs,zSs,reduceIte,zk,zn,zo,zq,b1,b2,ld,if_neg hd.ne,if_neg k2,ln,goInt,c1,h',bb0,zQ,l0,a1,a2,aec,b3,l4,b5]
  rw [hTe] at hr
  exact zC.runs hr (.inr rfl) (qA t5.g1 (by show (1:Nat)≠2;decide)) rfl rfl (xu q2 ck) (by
   show [dvv { d with k:=1,data:=d.data++b },Value.int .i64 0].all (jc 15)=true
   rw [List.all_cons,y5 (n:=9) (by show (1:Nat)≤2;decide)];rfl)
end Go.Proofs.Ytgfpjnblookppaa
namespace Go.Proofs.Ytgfpjnblookppaa
open Go.Abs
theorem YM {l:List UInt8} {i:Nat} (h:i < l.length):l.take i++[l[i]]=l.take (i+1):=by rw [List.take_succ_eq_append_getElem h]
theorem ab9 (x:UInt8) (S:zx):jR zi 27 1 [(0,.int .u8 x.toNat)] S=some (by_ 2 [x],S):=by rw [YZ];rfl
section
variable {d u:DV} {H:zx}
theorem QB (hd:d.Ok) {keep:Int} (t:Two H d u):∀ (n i:Nat) {T:List Value} {r:St},n=d.data.length - i→qH (zI zi O false zA.yx) T H=r→T.length=44→T.getD 1 zh=.int .i64 keep→T.getD 2 zh=.pointer (some ⟨0,0,none⟩)→T.getD 5 zh=by_ 2 (d.data.take i)→T.getD 6 zh=.int .i64 i→d.sy≤i→(i:Int)≤d.sy+max 0 (min keep (d.data.length - d.sy)) →
  ∃ T',r=some (.exit 0,T',H)∧T'.length=44∧T'.getD 2 zh=.pointer (some ⟨0,0,none⟩)∧T'.getD 4 zh=T.getD 4 zh∧T'.getD 5 zh=by_ 2 (d.data.take (d.sy+max 0 (min keep (d.data.length - d.sy))).toNat):=by
 have z1:=hd.len;have z2:=hd.sy0;have z3:=hd.syl
 have l0:=t.l0 hd.ne
 have l1:=t.l1
 have ln:=fun S=>ZH (S:=S) hd.okl
 intro n
 induction n with
 | zero =>
  intro i T r hn hL hT h1 h2 h5 h6 hs hE
  have hTe:=zA.eta hT
  rw [h1,h2,h5,h6] at hTe
  have hr:zI zi O false zA.yx T H=zI zi O false zA.yx T H:=rfl
  have hd1:¬ (i:Int) < (d.data.length:Int):=by omega
  have e:(d.sy+max 0 (min keep (d.data.length - d.sy))).toNat=i:=by omega
  conv at hr =>
   rhs
   rw [hTe]
   simp only [zA.yx,zA.code,zA.rs,zSs,reduceIte,zk,zn,zo,zq,zQ,l0,ln,goInt,hd1]
  refine ⟨_,hL.symm.trans (yT hr (by simp)),rfl,rfl,rfl,?_⟩
  rw [e];rfl
 | succ n ih =>
  intro i T r hn hL hT h1 h2 h5 h6 hs hE
  have hTe:=zA.eta hT
  rw [h1,h2,h5,h6] at hTe
  have hr:zI zi O false zA.yx T H=zI zi O false zA.yx T H:=rfl
  have hd1:(i:Int) < (d.data.length:Int):=by omega
  have w1:IntKind.i64.wrap ((i:Int) - d.sy)=(i:Int) - d.sy:=wrap_i64 (by omega) (by omega)
  by_cases hk:(i:Int) - d.sy < keep
  ·
   have at1:=fun S=>adK (S:=S) (ki:=.i64) (i:=(i:Int)) hd.okl (by omega) hd1
   have lt:i < d.data.length:=by omega
   have at2:∀ S,jy zi 27 (by_ d.k d.data) (.int .i64 i) S=some (EP [.int .u8 (d.data[i]).toNat],S):=at1
   have ap:∀ S,yw zi 27 27 (by_ 2 (d.data.take i)) (by_ 2 [d.data[i]]) S=some (by_ 2 (d.data.take (i+1)),S):=fun S=>by
    rw [vT Okl.own (by decide) Okl.own (by simp;omega),if_neg (fun h=>by omega),YM lt]
   have wi:IntKind.i64.wrap ((i:Int)+1)=((i+1:Nat):Int):=by rw [wrap_i64 (by omega) (by omega)];omega
   conv at hr =>
    rhs
    rw [hTe]
    simp only [zA.yx,zA.code,zA.rs,zSs,reduceIte,zk,zn,zo,zq,zQ,ji,l0,l1,ln,goInt,hd1,w1,hk,at2,XW,ab9,ap,wi]
   have hs2:=(qV hr).symm.trans hL
   obtain ⟨T',q1,q2,q3,q4,q5⟩:=ih (i+1) (by omega) hs2 rfl rfl rfl rfl rfl (by omega) (by omega)
   exact ⟨T',q1,q2,q3,q4,q5⟩
  ·
   have e:(d.sy+max 0 (min keep (d.data.length - d.sy))).toNat=i:=by omega
   conv at hr =>
    rhs
    rw [hTe]
    simp only [zA.yx,zA.code,zA.rs,zSs,reduceIte,zk,zn,zo,zq,zQ,ji,l0,l1,ln,goInt,hd1,w1,hk]
   refine ⟨_,hL.symm.trans (yT hr (by simp)),rfl,rfl,rfl,?_⟩
   rw [e];rfl
end
theorem zA.v {d:DV} (hd:d.Ok) {keep:Int} (S:zx):jf zi O zA.id [dvv d,.int .i64 keep] S =
  some (dvv ⟨1,d.data.take (d.sy+max 0 (min keep (d.data.length - d.sy))).toNat,(d.data.take (d.sy+max 0 (min keep (d.data.length - d.sy))).toNat).length,d.room⟩,S):=by
 have z1:=hd.len;have z2:=hd.sy0;have z3:=hd.syl
 obtain ⟨H1,H2,b1,b2,t2⟩:=Jo d
 have l0:=t2.l0 hd.ne
 have l1:=t2.l1
 have l2:=t2.l2
 have sl:∀ S,wQ zi false 27 (by_ d.k d.data) none (some (.int .i64 d.sy)) S=some (by_ (if d.k=2 then 1 else d.k) (d.data.take d.sy.toNat),S):=fun S=>by
  rw [Zt]
  rw [abz (i:=0) (j:=d.sy) hd.okl rfl rfl (by omega) (by omega) (by omega)]
  simp
 have q2:=hd.okl.le
 have cp:∀ S,yw zi 27 27 (by_ 2 []) (by_ (if d.k=2 then 1 else d.k) (d.data.take d.sy.toNat)) S=some (by_ 2 (d.data.take d.sy.toNat),S):=fun S=>by
  rw [if_neg hd.ne]
  refine Vs ?_ (by rw [List.length_take];omega)
  exact ⟨hd.okl.le,fun h=>by rw [hd.okl.nil h];simp⟩
 obtain ⟨T,hTe⟩:∃ T,T=(dvv d::.int .i64 keep::zh::zh::zh::zh::zh::zh::zh::zh::zh::zh::zh::zh::zh::zh::zh::zh::zh::zh::zh::zh::zh::zh::zh::zh::zh::zh::zh::zh::zh::zh::zh::zh::zh::zh::zh::zh::zh::zh::zh::zh::zh::zh::[]):=⟨_,rfl⟩
 have hr:zI zi O false zA.code T zx.empty=zI zi O false zA.code T zx.empty:=rfl
 conv at hr =>
  rhs
  rw [hTe]
  simp only [zA.code,zA.rs,zSs,reduceIte,zk,zn,zo,zq,b1,b2,bb0,zQ,ji,l0,l1,sl,cp]
 generalize hL:qH (zI zi O false zA.yx) _ _=r at hr
 have hsy:((d.sy.toNat:Nat):Int)=d.sy:=by omega
 obtain ⟨T',p1,p2,p3,p4,p5⟩:=QB hd (keep:=keep) t2 _ d.sy.toNat rfl hL rfl rfl rfl rfl (by rw [hsy];rfl) (by omega) (by omega)
 have p4:T'.getD 4 zh=.pointer (some ⟨1,0,none⟩):=p4
 subst p1
 have hTe2:=zA.eta p2
 rw [p3,p4,p5] at hTe2
 have hEl:(d.data.take (d.sy+max 0 (min keep (d.data.length - d.sy))).toNat).length≤65536:=by rw [List.length_take];omega
 generalize d.data.take (d.sy+max 0 (min keep (d.data.length - d.sy))).toNat=E at hTe2 hEl
 have bd:∀ S,yH zi 40 [(0,by_ 1 E),(2,.int .i64 d.room)] S=some (dvv ⟨1,E,0,d.room⟩,S):=fun S=>qQ ZW aaF S
 have ok:DV.Ok ⟨1,E,0,d.room⟩:=⟨Okl.read,by show (1:Nat)≠2;decide,hEl,by show (0:Int)≤0;decide,by show (0:Int)≤(E.length:Int);omega,hd.rm0,hd.rml⟩
 have sy:=fun S=>zJ.v ok S
 obtain ⟨H5,b5,t5⟩:=t2.out ⟨1,E,E.length,d.room⟩
 conv at hr =>
  rhs
  simp only [zSs,reduceIte,zk,zn,zo,zq]
  rw [hTe2]
  simp only [zA.code,zA.rs,zSs,reduceIte,zk,zn,zo,zq,jm,l2,aec,bd,sy,b5]
 rw [hTe] at hr
 exact zA.runs hr (.inr rfl) (qA t5.g1 (by show (1:Nat)≠2;decide)) (xu q2 rfl) (y5 (n:=10) (by show (1:Nat)≤2;decide))
section
variable {d u:DV} {H:zx}
theorem XV (hd:d.Ok) {n0:Int} (t:Two H d u):∀ (n i:Nat) {T:List Value} {r:St},n=d.data.length - i→qH (zI zi O false zy.yx) T H=r→T.length=39→T.getD 1 zh=.int .i64 n0→T.getD 2 zh=.pointer (some ⟨0,0,none⟩)→T.getD 5 zh=by_ 2 (d.data.take i)→T.getD 6 zh=.int .i64 i→(i:Int)≤max 0 (min n0 d.data.length) →
  ∃ T',r=some (.exit 0,T',H)∧T'.length=39∧T'.getD 2 zh=.pointer (some ⟨0,0,none⟩)∧T'.getD 4 zh=T.getD 4 zh∧T'.getD 5 zh=by_ 2 (d.data.take (max 0 (min n0 (d.data.length:Int))).toNat):=by
 have z1:=hd.len;have z2:=hd.sy0;have z3:=hd.syl
 have l0:=t.l0 hd.ne
 have ln:=fun S=>ZH (S:=S) hd.okl
 intro n
 induction n with
 | zero =>
  intro i T r hn hL hT h1 h2 h5 h6 hE
  have hTe:=zy.eta hT
  rw [h1,h2,h5,h6] at hTe
  have hr:zI zi O false zy.yx T H=zI zi O false zy.yx T H:=rfl
  have hd1:¬ (i:Int) < (d.data.length:Int):=by omega
  have e:(max 0 (min n0 (d.data.length:Int))).toNat=i:=by omega
  conv at hr =>
   rhs
   rw [hTe]
   simp only [zy.yx,zy.code,zy.rs,zSs,reduceIte,zk,zn,zo,zq,zQ,l0,ln,goInt,hd1]
  refine ⟨_,hL.symm.trans (yT hr (by simp)),rfl,rfl,rfl,?_⟩
  rw [e];rfl
 | succ n ih =>
  intro i T r hn hL hT h1 h2 h5 h6 hE
  have hTe:=zy.eta hT
  rw [h1,h2,h5,h6] at hTe
  have hr:zI zi O false zy.yx T H=zI zi O false zy.yx T H:=rfl
  have hd1:(i:Int) < (d.data.length:Int):=by omega
  by_cases hk:(i:Int) < n0
  ·
   have at1:=fun S=>adK (S:=S) (ki:=.i64) (i:=(i:Int)) hd.okl (by omega) hd1
   have lt:i < d.data.length:=by omega
   have at2:∀ S,jy zi 27 (by_ d.k d.data) (.int .i64 i) S=some (EP [.int .u8 (d.data[i]).toNat],S):=at1
   have ap:∀ S,yw zi 27 27 (by_ 2 (d.data.take i)) (by_ 2 [d.data[i]]) S=some (by_ 2 (d.data.take (i+1)),S):=fun S=>by
    rw [vT Okl.own (by decide) Okl.own (by simp;omega),if_neg (fun h=>by omega),YM lt]
   have wi:IntKind.i64.wrap ((i:Int)+1)=((i+1:Nat):Int):=by rw [wrap_i64 (by omega) (by omega)];omega
   conv at hr =>
    rhs
    rw [hTe]
    simp only [zy.yx,zy.code,zy.rs,zSs,reduceIte,zk,zn,zo,zq,zQ,l0,ln,goInt,hd1,hk,at2,XW,ab9,ap,wi]
   have hs2:=(qV hr).symm.trans hL
   obtain ⟨T',q1,q2,q3,q4,q5⟩:=ih (i+1) (by omega) hs2 rfl rfl rfl rfl rfl (by omega)
   exact ⟨T',q1,q2,q3,q4,q5⟩
  ·
   have e:(max 0 (min n0 (d.data.length:Int))).toNat=i:=by omega
   conv at hr =>
    rhs
    rw [hTe]
    simp only [zy.yx,zy.code,zy.rs,zSs,reduceIte,zk,zn,zo,zq,zQ,l0,ln,goInt,hd1,hk]
   refine ⟨_,hL.symm.trans (yT hr (by simp)),rfl,rfl,rfl,?_⟩
   rw [e];rfl
end
theorem zy.v {d:DV} (hd:d.Ok) {n:Int} (S:zx):jf zi O zy.id [dvv d,.int .i64 n] S =
  some (dvv ⟨1,d.data.take (max 0 (min n (d.data.length:Int))).toNat,min d.sy (max 0 (min n (d.data.length:Int))),d.room⟩,S):=by
 have z1:=hd.len;have z2:=hd.sy0;have z3:=hd.syl
 obtain ⟨H1,H2,b1,b2,t2⟩:=Jo d
 have q2:=hd.okl.le
 obtain ⟨T,hTe⟩:∃ T,T=(dvv d::.int .i64 n::zh::zh::zh::zh::zh::zh::zh::zh::zh::zh::zh::zh::zh::zh::zh::zh::zh::zh::zh::zh::zh::zh::zh::zh::zh::zh::zh::zh::zh::zh::zh::zh::zh::zh::zh::zh::zh::[]):=⟨_,rfl⟩
 have hr:zI zi O false zy.code T zx.empty=zI zi O false zy.code T zx.empty:=rfl
 conv at hr =>
  rhs
  rw [hTe]
  simp only [zy.code,zy.rs,zSs,reduceIte,zk,zn,zo,zq,b1,b2,bb0]
 generalize hL:qH (zI zi O false zy.yx) _ _=r at hr
 obtain ⟨T',p1,p2,p3,p4,p5⟩:=XV hd (n0:=n) t2 _ 0 rfl hL rfl rfl rfl rfl rfl (by omega)
 have p4:T'.getD 4 zh=.pointer (some ⟨1,0,none⟩):=p4
 subst p1
 have hTe2:=zy.eta p2
 rw [p3,p4,p5] at hTe2
 have hEl:((d.data.take (max 0 (min n (d.data.length:Int))).toNat).length:Int)=max 0 (min n (d.data.length:Int)):=by rw [List.length_take];omega
 have hm:max 0 (min n (d.data.length:Int))≤65536:=by omega
 generalize max 0 (min n (d.data.length:Int))=m at hTe2 hEl hm ⊢
 generalize d.data.take m.toNat=E at hTe2 hEl ⊢
 subst hEl
 obtain ⟨H3,b3,t3⟩:=t2.s0 1 E
 have l1:=t3.l1
 have ln:=fun S=>ZH (S:=S) (Okl.own (l:=E))
 by_cases h:d.sy > (E.length:Int)
 ·
  have e:min d.sy (E.length:Int)=E.length:=by omega
  rw [e]
  obtain ⟨H4,b4,t4⟩:=t3.s1 E.length
  have l4:=qA t4.g0 (by show (1:Nat)≠2;decide)
  obtain ⟨H5,b5,t5⟩:=t4.out ⟨1,E,E.length,d.room⟩
  conv at hr =>
   rhs
   simp only [zSs,reduceIte,zk,zn,zo,zq]
   rw [hTe2]
   simp only [zy.code,zy.rs,zSs,reduceIte,zk,zn,zo,zq,zQ,ji,aec,b3,l1,ZH (k:=1) (l:=E) Okl.read,goInt,h,b4,l4,b5]
  rw [hTe] at hr
  exact zy.runs hr (.inr rfl) (qA t5.g1 (by show (1:Nat)≠2;decide)) (xu q2 rfl) (y5 (n:=10) (by show (1:Nat)≤2;decide))
 ·
  have e:min d.sy (E.length:Int)=d.sy:=by omega
  rw [e]
  have l4:=qA t3.g0 (by show (1:Nat)≠2;decide)
  obtain ⟨H5,b5,t5⟩:=t3.out ⟨1,E,d.sy,d.room⟩
  conv at hr =>
   rhs
   simp only [zSs,reduceIte,zk,zn,zo,zq]
   rw [hTe2]
   simp only [zy.code,zy.rs,zSs,reduceIte,zk,zn,zo,zq,zQ,ji,aec,b3,l1,ZH (k:=1) (l:=E) Okl.read,goInt,h,l4,b5]
  rw [hTe] at hr
  exact zy.runs hr (.inr rfl) (qA t5.g1 (by show (1:Nat)≠2;decide)) (xu q2 rfl) (y5 (n:=10) (by show (1:Nat)≤2;decide))
end Go.Proofs.Ytgfpjnblookppaa
namespace Go.Abs
open Go.RowKit
abbrev ms (q n:Nat):Value:=.slice (some ⟨q,0,none⟩) n n
theorem aen {k e n:Nat} {cs:List Value}:vJ (sv k e n cs)=false:=by unfold sv;split <;> rfl
theorem aeh {α:Type} {f:α→List Value} {e k:Nat} {l:List α}:vJ (vs f e k l)=false:=aen
theorem vN {P:Program} {O:Ora} {g:FuncId} {args:List Value} {S:zx} {r:Option (Value×zx)} (h:jf P O g args S=r) (ha:args.all (fun x=>!ZR x)=true):yF (jf P O) g args S=r:=(abl ha).trans h
section
variable {P:Program} {O:Ora} {α:Type} {f:α→List Value} {e q:Nat} {l:List α} {rest:List Value} {anc:List Nat} {S:zx}
end
end Go.Abs
namespace Go.Proofs.Ytgfpjnblookppaa
open Go.Abs
structure aa1 where
 kind:Int
 n:Int
 t:Tb
structure aa1.Ok (a:aa1):Prop where
 t:a.t.Ok
 n:-9223372036854775808≤a.n∧a.n < 9223372036854775808
def fA (a:aa1):List Value:=[.int .i64 a.kind,.int .i64 a.n,by_ a.t.k a.t.b]
theorem adT (a:aa1):(fA a).length=3:=rfl
abbrev adn:Ty:=.pair (.int .i64) (.pair (.int .i64) (.pair (.slc 1 (.int .u8)) .unit))
theorem acH (x:(Ty.slc 40 adn).Val) (hg:(Ty.slc 40 adn).Good x):∃ k l,Okl k l∧k≠2∧(Ty.slc 40 adn).ZV x=[vs fA 3 k l]∧l.length * 40≤140737488351232∧∀ t ∈ l,t.Ok :=
 adA (b:=40) (e:=adn) fA aa1.Ok (fun x hx=>by
  obtain ⟨a,b,c,u⟩:=x
  obtain ⟨h1,h2,h3,_⟩:=hx
  obtain ⟨t,k1,k2⟩:=aed c h3
  refine ⟨⟨a,b,t⟩,?_,k2,ad2 h2⟩
  show [Value.int .i64 a]++([Value.int .i64 b]++((Ty.slc 1 (.int .u8)).ZV c++[]))=_
  rw [k1];rfl) (fun _=>rfl) x hg
theorem JY (S:zx):y8 zi 31 S=some (.pointer (some ⟨S.next,0,none⟩),S.push (.cells [.int .i64 0,.int .i64 0,.slice none 0 0] (.own []) 0)):=by kernel_rfl
theorem ad3 (a:aa1) (hne:a.t.k≠2) (S:zx):∃ S2,jD zi 31 (.pointer (some ⟨S.next,0,none⟩)) (.agg [Value.int .i64 a.kind,.int .i64 a.n,by_ a.t.k a.t.b].toArray) (S.push (.cells [.int .i64 0,.int .i64 0,.slice none 0 0] (.own []) 0))=some (zh,S2) ∧
  S2.get S.next=some (.cells [.int .i64 a.kind,.int .i64 a.n,by_ a.t.k a.t.b] (.own []) 0)∧Ext S S2∧S.next < S2.next :=
 YR S (by rw [yK,List.toList_toArray]) yD rfl (by simp only [List.all_cons,List.all_nil,acy,VT,Bool.and_true])
theorem aaX {q o e:Nat} {cs:List Value} {own:Own} {k:Nat} {l:List UInt8} {S:zx} (h:S.get q=some (.cells cs own e)) (hv:cs[o]?=some (by_ k l)) (hk:k≠2):je zi false 27 (.pointer (some ⟨q,o,none⟩)) S=some (by_ k l,S):=by
 rw [vU h wH hv (fun l h=>by unfold by_ vs sv at h;split at h <;> cases h),YA,if_neg hk]
theorem ad4 (S:zx):y8 zi 40 S=some (.pointer (some ⟨S.next,0,none⟩),S.push (.cells (fDV dv0) (.own []) 0)):=by kernel_rfl
theorem adZ (w:DV) (S:zx):∃ S2,jD zi 40 (.pointer (some ⟨S.next,0,none⟩)) (dvv w) (S.push (.cells (fDV dv0) (.own []) 0))=some (zh,S2)∧S2.get S.next=some (.cells (fDV w) (.own []) 0)∧Ext S S2∧S.next < S2.next :=
 YR S (by rw [yK,List.toList_toArray];rfl) wE rfl (Vu w)
theorem YW {S:zx} {p:Nat} {u:DV} (h:S.get p=some (.cells (fDV u) (.own []) 0)) (w:DV):jD zi 40 (.pointer (some ⟨p,0,none⟩)) (dvv w) S=some (zh,S.set p (.cells (fDV w) (.own []) 0)):=by
 rw [wX (x:=dvv w) (n:=3) h wE (by rw [yK];rfl) (by rw [yK,List.toList_toArray];exact Vu w) (by simp [fDV]),yK,List.toList_toArray];rfl
theorem aax (d:DV):ZR (dvv d)=false:=by
 show [by_ d.k d.data,Value.int .i64 d.sy,.int .i64 d.room].any vJ=false
 simp only [List.any_cons,List.any_nil,aeh,Bool.or_false];rfl
theorem abO {k:Nat} {D:List UInt8} (h:Okl k D) (hl:D.length≤140737488351232) (S:zx):∃ y S0 r S1,jE zi 27 0 [] S=some (y,S0)∧wO zi true 27 27 y (by_ k D) S0=some (ms r D.length,S1)∧S1.get r=some (.cells (D.flatMap cb++[]) (.own []) 1)∧Ext S S1∧S.next≤r∧r < S1.next∧Ext S S0:=by
 have g0:(S.push (.cells [] (.own []) 1)).get S.next=some (.cells [] (.own []) 1):=by rw [zx.zS,if_pos rfl]
 have src:Zp zi 27 1 (by_ k D) (S.push (.cells [] (.own []) 1))=some (D.length,D.flatMap cb):=QO jh h.okv (by rw [wC,Nat.mul_one]) (QW D)
 have e1:=WA (P:=zi) (hp:=true) (t:=27) (tx:=27) (o:=0) (n:=0) (c:=0) jh yE Zw rfl ZE (by decide) src g0 (by simp) (by omega) (by omega) (by rfl)
 rw [if_pos (by rfl),Nat.zero_add] at e1
 refine ⟨_,_,_,_,(by kernel_rfl),e1,?_,((Ext.push S _).set (Nat.le_refl _) _).trans (Ext.push _ _),by simp,by simp,Ext.push S _⟩
 rw [zx.zS,zx.wS,zx.kY,if_pos rfl];simp
namespace diskRuns
def codes:List (Bool×Ty):=[(false,.int .i64),(false,.slc 40 adn)]
theorem coded:Wu zi 9 [3,29]=some codes:=by kernel_rfl
noncomputable def tail:Code:=(.seq (.region 33 (reg Try.f7 33) true) (.cond (.tmp 126) (.seq (.region 34 (reg Try.f7 34) false) .ret) .skip))
theorem kD:zu.WE=(.seq (.region 8 (reg Try.f7 8) false) (.seq (.cond (.tmp 32) .skip (.exit 0)) (.seq (.block 1 (.seq (.region 9 (reg Try.f7 9) false) (.seq (.region 10 (reg Try.f7 10) false) (.seq (.seq (.region 11 (reg Try.f7 11) false) (.block 2 (.seq (.region 12 (reg Try.f7 12) false) (.cond (.tmp 37) (.seq (.region 13 (reg Try.f7 13) false) (.seq (.region 14 (reg Try.f7 14) false) (.seq (.region 15 (reg Try.f7 15) false) (.seq (.region 16 (reg Try.f7 16) false) (.block 3 (.loop zu.yx)))))) (.seq (.region 21 (reg Try.f7 21) false) (.cond (.tmp 65) (.seq (.region 22 (reg Try.f7 22) false) (.region 23 (reg Try.f7 23) false)) (.seq (.region 24 (reg Try.f7 24) false) (.cond (.tmp 71) (.seq (.region 25 (reg Try.f7 25) false) (.region 26 (reg Try.f7 26) false)) (.seq (.region 27 (reg Try.f7 27) false) (.cond (.tmp 81) (.seq (.region 28 (reg Try.f7 28) false) (.region 29 (reg Try.f7 29) false)) (.seq (.region 30 (reg Try.f7 30) false) (.cond (.tmp 91) (.seq (.region 31 (reg Try.f7 31) false) (.region 32 (reg Try.f7 32) false)) .skip)))))))))))) tail)))) (.region 35 (reg Try.f7 35) false)))):=rfl
structure Both (S:zx) (q p:Nat) (k:Nat) (data:List UInt8) (sy room:Int):Prop where
 dk:Dk S q data sy room
 okl:Okl k data
 ne:k≠2
 cell:S.get p=some (.cells (fDV ⟨k,data,sy,room⟩) (.own []) 0)
 lt:p < S.next
 pq:p≠q
 nin:ZQ S q p
theorem Both.ok {S:zx} {q p k:Nat} {data:List UInt8} {sy room:Int} (h:Both S q p k data sy room):DV.Ok ⟨k,data,sy,room⟩:=⟨h.okl,h.ne,h.dk.len,h.dk.sy0,h.dk.syl,h.dk.rm0,h.dk.rml⟩
theorem Both.ext {S S1:zx} {q p k:Nat} {data:List UInt8} {sy room:Int} (h:Both S q p k data sy room) (x:Ext S S1):Both S1 q p k data sy room:=⟨h.dk.ext x,h.okl,h.ne,(x.get _ h.lt).trans h.cell,Nat.lt_of_lt_of_le h.lt x.next,h.pq,h.nin.ext h.dk x⟩
theorem Both.put {S:zx} {q p k:Nat} {data:List UInt8} {sy room:Int} (hD:Dk S q data sy room) (hk:Okl k data) (k2:k≠2) (hn:ZQ S q p) (hp:p≠q) (hl:p < S.next):Both (S.set p (.cells (fDV ⟨k,data,sy,room⟩) (.own []) 0)) q p k data sy room :=
 ⟨hD.off hn hp _,hk,k2,by rw [zx.zW,if_pos rfl],by simpa using hl,hp,hn.off hD hn hp _⟩
section
variable {S:zx} {q p k:Nat} {data:List UInt8} {sy room:Int}
theorem rest (B:Both S q p k data sy room) {T:List Value} {e i:Int} (hT:T.length=128) (h5:T.getD 5 zh=.pointer (some ⟨q,0,none⟩)) (h6:T.getD 6 zh=.pointer (some ⟨p,0,none⟩)) (h9:T.getD 9 zh=.int .i64 e) (h10:T.getD 10 zh=.int .i64 e) (h31:T.getD 31 zh=.int .i64 i) :
  ∃ T1,aby (Zh 1 (zI zi O true tail T S)) (zI zi O true (.region 35 (reg Try.f7 35) false))=some (.normal,T1,S)∧T1.length=128∧T1.getD 5 zh=.pointer (some ⟨q,0,none⟩)∧T1.getD 6 zh=.pointer (some ⟨p,0,none⟩)∧T1.getD 29 zh=T.getD 29 zh∧T1.getD 30 zh=T.getD 30 zh∧T1.getD 31 zh=.int .i64 (IntKind.i64.wrap (i+1)):=by
 have hTe:=zu.eta hT
 rw [h5,h6,h9,h10,h31] at hTe
 have hr:aby (Zh 1 (zI zi O true tail T S)) (zI zi O true (.region 35 (reg Try.f7 35) false))=aby (Zh 1 (zI zi O true tail T S)) (zI zi O true (.region 35 (reg Try.f7 35) false)):=rfl
 have ok:=B.ok
 have c1:=zD.v B.dk
 have c2:yF (jf zi O) 15 [.pointer (some ⟨q,0,none⟩)] S=some (.int .i64 sy,S):=vN (zT.v B.dk) rfl
 have c3:=zM.v B.dk
 have c4:yF (jf zi O) 24 [dvv ⟨k,data,sy,room⟩] S=some (.int .i64 (roomOf room data.length),S):=vN (zF.v ok S) (by simp only [List.all_cons,List.all_nil,aax];rfl)
 have l0:=aaX (o:=0+0) B.cell rfl B.ne
 have l1:=wM (t:=3) (o:=0+1) B.cell Zl rfl
 have lw:=qA B.cell B.ne
 have s1:∀ S,xM zi 27 9 (by_ 2 data) S=some (.string ⟨data.toArray⟩,S):=fun S=>abY Okl.own
 have s2:∀ S,xM zi 27 9 (by_ k data) S=some (.string ⟨data.toArray⟩,S):=fun S=>abY B.okl
 have q0:=vC (o:=0+0) B.cell
 have q1:=vC (o:=0+1) B.cell
 have q2:=vC (o:=0) B.cell
 have okv:∀ {R:Type} (r:Option R) (z:vY r),okK (dvv ⟨k,data,sy,room⟩) r z=r:=fun r z=>acr (by
  show [by_ k data,Value.int .i64 sy,.int .i64 room].all (okq 2)=true
  have h:okq 2 (by_ k data)=true:=by show okq 2 (sv k 1 data.length (data.flatMap cb))=true;unfold sv;split <;> rfl
  simp only [List.all_cons,List.all_nil,h];rfl) r z
 have okb:∀ {R:Type} (j:Nat) (r:Option R) (z:vY r),okK (by_ j data) r z=r:=fun j r z=>acr (by
  show okq 3 (sv j 1 data.length (data.flatMap cb))=true
  unfold sv;split <;> rfl) r z
 conv at hr =>
  rhs
  rw [hTe]
  simp only [tail,zu.code,zu.rs,zSs,reduceIte,zk,zn,zo,zq,c1,c2,c3,c4,zQ,ji,l0,l1,lw,s1,s2,adw,q0,q1,q2,XC,okv,okb,Qx,ne_eq,not_true_eq_false,decide_false,decide_true,decide_not,Bool.not_true]
 exact ⟨_,hr,rfl,rfl,rfl,rfl,rfl,rfl⟩
end
def ad9 (cs:List Value):Prop:=∀ c ∈ cs,∃ m,c=Value.int .u8 m
theorem acZ (D:List UInt8):ad9 (D.flatMap cb++[]):=fun c hc=>by
 rw [List.append_nil,List.mem_flatMap] at hc
 obtain ⟨b,_,h⟩:=hc
 exact ⟨_,List.mem_singleton.1 h⟩
theorem aaZ {cs:List Value} (h:ad9 cs) (o:Nat) (m:Int):ad9 (splice cs o [.int .u8 m]):=fun c hc=>by
 unfold splice at hc
 rcases List.mem_append.1 hc with hc | hc
 ·
  rcases List.mem_append.1 hc with hc | hc
  ·
   exact h c (List.mem_of_mem_take hc)
  ·
   exact ⟨_,List.mem_singleton.1 hc⟩
 ·
  exact h c (List.mem_of_mem_drop hc)
theorem Xa {cs:List Value} {o:Nat} {x:Value} (h:o < cs.length):(splice cs o [x]).length=cs.length:=by
 unfold splice
 simp only [List.length_append,List.length_take,List.length_drop,List.length_cons,List.length_nil]
 omega
def kept (T:List Value):List Value:=[5,6,9,10,29,30,31].map (T.getD · zh)
theorem adt {q p k n j:Nat} {data:List UInt8} {sy room:Int} (hn:n≤140737488351232) (jq:j≠q) (jp:j≠p):∀ (d i:Nat) {T:List Value} {r:St} {S:zx} {cs:List Value},d=n - i→qH (zI zi O true zu.yx) T S=r→T.length=128→T.getD 11 zh=ms j n→T.getD 54 zh=.int .i64 n→T.getD 55 zh=.int .i64 i→i≤n →
  Both S q p k data sy room→ZQ S q j→S.get j=some (.cells cs (.own []) 1)→cs.length=n→ad9 cs →
  ∃ T' S',r=some (.exit 3,T',S')∧T'.length=128∧kept T'=kept T∧Both S' q p k data sy room:=by
 intro d
 induction d with
 | zero =>
  intro i T r S cs hd hL hT h11 h54 h55 hi B N g hcs hI
  have hTe:=zu.eta hT
  rw [h11,h54,h55] at hTe
  have hr:zI zi O true zu.yx T S=zI zi O true zu.yx T S:=rfl
  have d1:¬ (i:Int) < (n:Int):=by omega
  conv at hr =>
   rhs
   rw [hTe]
   simp only [zu.yx,zu.code,zu.rs,zSs,reduceIte,zk,zn,zo,zq,d1]
  exact ⟨_,_,hL.symm.trans (yT hr (by simp)),rfl,rfl,B⟩
 | succ d ih =>
  intro i T r S cs hd hL hT h11 h54 h55 hi B N g hcs hI
  have hTe:=zu.eta hT
  rw [h11,h54,h55] at hTe
  have hr:zI zi O true zu.yx T S=zI zi O true zu.yx T S:=rfl
  have d1:(i:Int) < (n:Int):=by omega
  have ix:∀ S,jy zi 27 (ms j n) (.int .i64 i) S=some (.pointer (some ⟨j,0+i * 1,none⟩),S):=fun S=>by
   rw [acN (o:=0) (n:=n) (c:=n) (q:=j) jh yE (by omega) d1,Int.toNat_natCast]
  have hlt:0+i * 1 < cs.length:=by omega
  obtain ⟨m,hm⟩:=hI _ (List.getElem_mem hlt)
  have l1:=wM (t:=5) (o:=0+i * 1) g VX (by rw [List.getElem?_eq_getElem hlt,hm])
  have s1:=fun w:Int=>wX (P:=zi) (t:=5) (o:=0+i * 1) (x:=.int .u8 w) g yE rfl rfl (by omega)
  have wi:IntKind.i64.wrap ((i:Int)+1)=((i+1:Nat):Int):=by rw [wrap_i64 (by omega) (by omega)];omega
  conv at hr =>
   rhs
   rw [hTe]
   simp only [zu.yx,zu.code,zu.rs,zSs,reduceIte,zk,zn,zo,zq,d1,ix,l1,s1,wi]
  have hs:=(qV hr).symm.trans hL
  obtain ⟨T',S',q1,q2,q3,q4⟩:=ih (i+1) (cs:=splice cs (0+i * 1) [.int .u8 (IntKind.u8.wrap (m+1))]) (by omega) hs rfl rfl rfl rfl (by omega)
   ⟨B.dk.off N jq _,B.okl,B.ne,by rw [zx.zW,if_neg (fun e=>jp e.symm)];exact B.cell,by simpa using B.lt,B.pq,B.nin.off B.dk N jq _⟩ (N.off B.dk N jq _) (by rw [zx.zW,if_pos rfl];rfl) (by rw [← hcs];exact Xa hlt) (aaZ hI _ _)
  exact ⟨T',S',q1,q2,q3,q4⟩
theorem round {q p k1:Nat} {l:List aa1} (hk1:Okl k1 l) (k12:k1≠2) (hl:l.length * 40≤140737488351232) (hg:∀ t ∈ l,t.Ok):∀ (suf pre:List aa1) {T:List Value} {r:St} {S:zx} {k:Nat} {data:List UInt8} {sy room:Int},qH (zI zi O true zu.WE) T S=r→T.length=128 →
  T.getD 5 zh=.pointer (some ⟨q,0,none⟩)→T.getD 6 zh=.pointer (some ⟨p,0,none⟩)→T.getD 29 zh=vs fA 3 k1 l→T.getD 30 zh=.int .i64 l.length→T.getD 31 zh=.int .i64 pre.length→l=pre++suf→Both S q p k data sy room →
  ∃ T' S',r=some (.exit 0,T',S')∧T'.length=128:=by
 intro suf
 induction suf with
 | nil =>
  intro pre T r S k data sy room hL hT h5 h6 h29 h30 h31 hpre B
  have hTe:=zu.eta hT
  rw [h5,h6,h29,h30,h31] at hTe
  have hr:zI zi O true zu.WE T S=zI zi O true zu.WE T S:=rfl
  have d1:¬ (pre.length:Int) < (l.length:Int):=by rw [hpre];simp
  conv at hr =>
   rhs
   rw [hTe]
   simp only [kD,zu.code,zu.rs,zSs,reduceIte,zk,zn,zo,zq,d1]
  exact ⟨_,_,hL.symm.trans (yT hr (by simp)),rfl⟩
 | cons t suf ih =>
  intro pre T r S k data sy room hL hT h5 h6 h29 h30 h31 hpre B
  have hTe:=zu.eta hT
  rw [h5,h6,h29,h30,h31] at hTe
  have hr:zI zi O true zu.WE T S=zI zi O true zu.WE T S:=rfl
  have hll:l.length=pre.length+suf.length+1:=by rw [hpre];simp;omega
  have d1:(pre.length:Int) < (l.length:Int):=by omega
  have ht:=hg t (by rw [hpre];simp)
  have ne:¬ t.t.k=2:=ht.t.ne
  have e1:∀ S,jy zi 29 (vs fA 3 k1 l) (.int .i64 pre.length) S=some (EP [.int .i64 t.kind,.int .i64 t.n,by_ t.t.k t.t.b],S):=fun S=>by
   rw [adH qj yD adT hk1 (by omega) d1,adX hpre];rfl
  have wi:IntKind.i64.wrap ((pre.length:Int)+1)=((pre++[t]).length:Int):=by rw [wrap_i64 (by omega) (by omega)];simp
  obtain ⟨S2,s1,g1,x1,n1⟩:=ad3 t ne S
  have B2:=B.ext x1
  have l0:=wM (t:=3) (o:=0+0) g1 Zl rfl
  have l1:=wM (t:=3) (o:=0+1) g1 Zl rfl
  have l2:=aaX (o:=0+2) g1 rfl ne
  have nh1:∀ d:DV,[dvv d].all (fun x=>!ZR x)=true:=fun d=>by simp only [List.all_cons,List.all_nil,aax];rfl
  have nh2:∀ (d:DV) (n:Int),[dvv d,.int .i64 n].all (fun x=>!ZR x)=true:=fun d n=>by simp only [List.all_cons,List.all_nil,aax];rfl
  have go:∀ {T3:List Value} {S3:zx} {k3:Nat} {data3:List UInt8} {sy3 room3 e:Int},zI zi O true zu.WE T S=aby (Zh 1 (zI zi O true tail T3 S3)) (zI zi O true (.region 35 (reg Try.f7 35) false))→T3.length=128→T3.getD 5 zh=.pointer (some ⟨q,0,none⟩)→T3.getD 6 zh=.pointer (some ⟨p,0,none⟩)→T3.getD 9 zh=.int .i64 e→T3.getD 10 zh=.int .i64 e→T3.getD 29 zh=vs fA 3 k1 l→T3.getD 30 zh=.int .i64 l.length→T3.getD 31 zh=.int .i64 pre.length→Both S3 q p k3 data3 sy3 room3 →
    ∃ T' S',r=some (.exit 0,T',S')∧T'.length=128:=by
   intro T3 S3 k3 data3 sy3 room3 e hr2 f1 f5 f6 f9 f10 f29 f30 f31 B3
   obtain ⟨T1,w1,w2,w3,w4,w5,w6,w7⟩:=rest B3 f1 f5 f6 f9 f10 f31
   have hs:=(qV (hr2.trans w1)).symm.trans hL
   exact ih (pre++[t]) hs w2 w3 w4 (w5.trans f29) (w6.trans f30) (w7.trans (by rw [wi])) (by simp [hpre]) B3
  have fin:∀ {S3:zx} {k3:Nat} {data3:List UInt8} {sy3 room3:Int},Only q S2 S3→Dk S3 q data3 sy3 room3→Okl k3 data3→k3≠2→S3.get p=some (.cells (fDV ⟨k,data,sy,room⟩) (.own []) 0)∧Both (S3.set p (.cells (fDV ⟨k3,data3,sy3,room3⟩) (.own []) 0)) q p k3 data3 sy3 room3:=by
   intro S3 k3 data3 sy3 room3 o D ok3 ne3
   exact ⟨(o.2.1 p B2.pq).trans B2.cell,Both.put D ok3 ne3 (B2.nin.only o B2.dk D) B2.pq (by rw [o.1];exact B2.lt)⟩
  have ok:=B2.ok
  by_cases h0:t.kind=0
  ·
   have e0:=decide_eq_true h0
   obtain ⟨y,Sa,j,S4,a1,a2,a3,a4,a5,a6,a7⟩:=abO ht.t.okl ht.t.le S2
   have B4:=B2.ext a4
   have l2a:=aaX (o:=0+2) ((a7.get _ n1).trans g1) rfl ne
   have N4:ZQ S4 q j:=ZQ.fresh B2.dk a4 a5
   have jq:q < j:=Nat.lt_of_lt_of_le B2.dk.lt a5
   have jp:p < j:=Nat.lt_of_lt_of_le B2.lt a5
   obtain ⟨S5,c1,D5,o5,x5,fr⟩:=zH.vm B4.dk a3 jq a6 N4 (by have:=ht.t.le;omega)
   obtain ⟨gp,Np⟩:=fr p B4.lt B4.pq B4.nin
   obtain ⟨gj,Nj⟩:=fr j a6 (by omega) N4
   have g8:S4.get S.next=some (.cells [.int .i64 t.kind,.int .i64 t.n,by_ t.t.k t.t.b] (.own []) 0):=(a4.get _ n1).trans g1
   have N8:ZQ S4 q S.next:=ZQ.fresh B.dk (x1.trans a4) (Nat.le_refl _)
   obtain ⟨g8',_⟩:=fr S.next (Nat.lt_of_lt_of_le n1 a4.next) (by have:=B.dk.lt;omega) N8
   have cp:=gp.trans B4.cell
   have lw:=qA cp B4.ne
   have l8:=aaX (o:=0+2) (g8'.trans g8) rfl ne
   obtain ⟨k3,hk3,c2⟩:=zC.v B4.ok ht.t.okl ne ht.t.le S5
   have c2:yF (jf zi O) 18 [dvv ⟨k,data,sy,room⟩,by_ t.t.k t.t.b] S5=some (.tuple #[dvv ⟨k3,if roomOf room data.length < t.t.b.length then data else data++t.t.b,sy,room⟩,.int .i64 (if roomOf room data.length < t.t.b.length then 41 else 0)],S5):=vN c2 (by
    have h:ZR (by_ t.t.k t.t.b)=false:=by show ZR (sv t.t.k 1 t.t.b.length (t.t.b.flatMap cb))=false;unfold sv;split <;> rfl
    simp only [List.all_cons,List.all_nil,aax,h];rfl)
   have ok3:Okl k3 (if roomOf room data.length < t.t.b.length then data else data++t.t.b)∧k3≠2:=hk3
   generalize (if roomOf room data.length < (t.t.b.length:Int) then data else data++t.t.b)=data3 at D5 c2 ok3
   generalize (if roomOf room data.length < (t.t.b.length:Int) then (41:Int) else 0)=err at c1 c2
   have s6:=YW cp ⟨k3,data3,sy,room⟩
   have B6:Both (S5.set p (.cells (fDV ⟨k3,data3,sy,room⟩) (.own []) 0)) q p k3 data3 sy room:=Both.put D5 ok3.1 ok3.2 Np B4.pq (Nat.lt_of_lt_of_le B4.lt x5)
   have N6:=Nj.off D5 Np B4.pq (.cells (fDV ⟨k3,data3,sy,room⟩) (.own []) 0)
   have g6:(S5.set p (.cells (fDV ⟨k3,data3,sy,room⟩) (.own []) 0)).get j=some (.cells (t.t.b.flatMap cb++[]) (.own []) 1):=by rw [zx.zW,if_neg (by omega)];exact gj.trans a3
   generalize S5.set p (.cells (fDV ⟨k3,data3,sy,room⟩) (.own []) 0)=S6 at s6 B6 N6 g6
   have ln:=fun S=>kV jh (some ⟨j,0,none⟩) t.t.b.length t.t.b.length S
   conv at hr =>
    rhs
    rw [hTe]
    simp only [kD,zu.code,zu.rs,zSs,reduceIte,zk,zn,zo,zq,d1,e1,jF,JY,s1,jw,kQ,l0,e0,a1,l2a,a2,if_neg ne,c1,lw,l8,c2,s6,ln,goInt,B.ne]
   generalize hL1:qH (zI zi O true zu.yx) _ _=r1 at hr
   obtain ⟨T7,S7,p1,p2,p3,B7⟩:=adt (q:=q) (p:=p) (n:=t.t.b.length) (j:=j) ht.t.le (by omega) (by omega) _ 0 rfl hL1 rfl rfl rfl rfl (Nat.zero_le _) B6 N6 g6 (by rw [List.append_nil,wC]) (acZ _)
   subst p1
   simp only [zSs,reduceIte,zk,zn,zo,zq] at hr
   unfold kept at p3
   simp only [List.map_cons,List.map_nil,List.cons.injEq,and_true] at p3
   obtain ⟨f5,f6,f9,f10,f29,f30,f31⟩:=p3
   exact go hr p2 f5 f6 f9 f10 f29 f30 f31 B7
  have e0:=decide_eq_false h0
  by_cases h1:t.kind=1
  ·
   have dk:=decide_eq_true h1
   obtain ⟨v,S3,c1,D3,o3⟩:=zZ.o B2.dk
   have c1:yF (jf zi O) 13 [.pointer (some ⟨q,0,none⟩)] S2=some (v,S3):=vN c1 rfl
   obtain ⟨gp,B4⟩:=fin o3 D3 B2.okl B2.ne
   have lw:=qA gp B2.ne
   have c2:yF (jf zi O) 19 [dvv ⟨k,data,sy,room⟩] S3=some (dvv ⟨k,data,data.length,room⟩,S3):=vN (zJ.v ok S3) (nh1 _)
   have s6:=YW gp ⟨k,data,data.length,room⟩
   conv at hr =>
    rhs
    rw [hTe]
    simp only [kD,zu.code,zu.rs,zSs,reduceIte,zk,zn,zo,zq,d1,e1,jF,JY,s1,jw,jV,l0,l1,e0,dk,c1,lw,c2,s6,B.ne]
   exact go hr rfl rfl rfl rfl rfl rfl rfl rfl B4
  have e1n:=decide_eq_false h1
  by_cases h2:t.kind=2
  ·
   have dk:=decide_eq_true h2
   obtain ⟨v,S3,c1,D3,o3⟩:=zL.o (keep:=t.n) B2.dk ht.n
   have c1:yF (jf zi O) 16 [.pointer (some ⟨q,0,none⟩),.int .i64 t.n] S2=some (v,S3):=vN c1 rfl
   obtain ⟨gp,B4⟩:=fin o3 D3 (Okl.read (l:=(data.take (sy+max 0 (min t.n (data.length - sy))).toNat))) (by decide)
   have lw:=qA gp B2.ne
   have c2:yF (jf zi O) 20 [dvv ⟨k,data,sy,room⟩,.int .i64 t.n] S3=some (dvv ⟨1,(data.take (sy+max 0 (min t.n (data.length - sy))).toNat),(data.take (sy+max 0 (min t.n (data.length - sy))).toNat).length,room⟩,S3):=vN (zA.v ok S3) (nh2 _ _)
   have s6:=YW gp ⟨1,(data.take (sy+max 0 (min t.n (data.length - sy))).toNat),(data.take (sy+max 0 (min t.n (data.length - sy))).toNat).length,room⟩
   have l1s:=wM (t:=3) (o:=0+1) ((o3.2.1 S.next (by have:=B.dk.lt;omega)).trans g1) Zl rfl
   conv at hr =>
    rhs
    rw [hTe]
    simp only [kD,zu.code,zu.rs,zSs,reduceIte,zk,zn,zo,zq,d1,e1,jF,JY,s1,jw,jV,l0,l1,e0,e1n,dk,c1,lw,l1s,c2,s6,B.ne]
   exact go hr rfl rfl rfl rfl rfl rfl rfl rfl B4
  have e2n:=decide_eq_false h2
  by_cases h3:t.kind=3
  ·
   have dk:=decide_eq_true h3
   obtain ⟨v,S3,c1,D3,o3⟩:=zO.o (r:=t.n) B2.dk
   have c1:yF (jf zi O) 21 [.pointer (some ⟨q,0,none⟩),.int .i64 t.n] S2=some (v,S3):=vN c1 rfl
   obtain ⟨gp,B4⟩:=fin o3 D3 B2.okl B2.ne
   have lw:=qA gp B2.ne
   have c2:yF (jf zi O) 17 [dvv ⟨k,data,sy,room⟩,.int .i64 t.n] S3=some (dvv ⟨k,data,sy,max 0 (min t.n 65536)⟩,S3):=vN (zB.v ok t.n S3) (nh2 _ _)
   have s6:=YW gp ⟨k,data,sy,max 0 (min t.n 65536)⟩
   have l1s:=wM (t:=3) (o:=0+1) ((o3.2.1 S.next (by have:=B.dk.lt;omega)).trans g1) Zl rfl
   conv at hr =>
    rhs
    rw [hTe]
    simp only [kD,zu.code,zu.rs,zSs,reduceIte,zk,zn,zo,zq,d1,e1,jF,JY,s1,jw,jV,l0,l1,e0,e1n,e2n,dk,c1,lw,l1s,c2,s6,B.ne]
   exact go hr rfl rfl rfl rfl rfl rfl rfl rfl B4
  have e3n:=decide_eq_false h3
  by_cases h4:t.kind=4
  ·
   have dk:=decide_eq_true h4
   obtain ⟨v,S3,c1,D3,o3⟩:=zK.o (n:=t.n) B2.dk ht.n
   have hcl:(((data.take (max 0 (min t.n (data.length:Int))).toNat)).length:Int)=max 0 (min t.n (data.length:Int)):=by rw [List.length_take];omega
   rw [hcl] at D3
   have c1:yF (jf zi O) 22 [.pointer (some ⟨q,0,none⟩),.int .i64 t.n] S2=some (v,S3):=vN c1 rfl
   obtain ⟨gp,B4⟩:=fin o3 D3 (Okl.read (l:=(data.take (max 0 (min t.n (data.length:Int))).toNat))) (by decide)
   have lw:=qA gp B2.ne
   have c2:yF (jf zi O) 23 [dvv ⟨k,data,sy,room⟩,.int .i64 t.n] S3=some (dvv ⟨1,(data.take (max 0 (min t.n (data.length:Int))).toNat),min sy (max 0 (min t.n (data.length:Int))),room⟩,S3):=vN (zy.v ok S3) (nh2 _ _)
   have s6:=YW gp ⟨1,(data.take (max 0 (min t.n (data.length:Int))).toNat),min sy (max 0 (min t.n (data.length:Int))),room⟩
   have l1s:=wM (t:=3) (o:=0+1) ((o3.2.1 S.next (by have:=B.dk.lt;omega)).trans g1) Zl rfl
   conv at hr =>
    rhs
    rw [hTe]
    simp only [kD,zu.code,zu.rs,zSs,reduceIte,zk,zn,zo,zq,d1,e1,jF,JY,s1,jw,jV,l0,l1,e0,e1n,e2n,e3n,dk,c1,lw,l1s,c2,s6,B.ne]
   exact go hr rfl rfl rfl rfl rfl rfl rfl rfl B4
  have e4n:=decide_eq_false h4
  conv at hr =>
   rhs
   rw [hTe]
   simp only [kD,zu.code,zu.rs,zSs,reduceIte,zk,zn,zo,zq,d1,e1,jF,JY,s1,jw,l0,e0,e1n,e2n,e3n,e4n]
  exact go hr rfl rfl rfl rfl rfl rfl rfl rfl B2
theorem run {k:Nat} {l:List aa1} {room0:Int} (hk:Okl k l) (k2:k≠2) (hl:l.length * 40≤140737488351232) (hg:∀ t ∈ l,t.Ok):∃ S',jf zi O 7 [.int .i64 room0,vs fA 3 k l] zx.empty=some (.bool true,S'):=by
 obtain ⟨T,hTe⟩:∃ T,T=(.int .i64 room0::vs fA 3 k l::zh::zh::zh::zh::zh::zh::zh::zh::zh::zh::zh::zh::zh::zh::zh::zh::zh::zh::zh::zh::zh::zh::zh::zh::zh::zh::zh::zh::zh::zh::zh::zh::zh::zh::zh::zh::zh::zh::zh::zh::zh::zh::zh::zh::zh::zh::zh::zh::zh::zh::zh::zh::zh::zh::zh::zh::zh::zh::zh::zh::zh::zh::zh::zh::zh::zh::zh::zh::zh::zh::zh::zh::zh::zh::zh::zh::zh::zh::zh::zh::zh::zh::zh::zh::zh::zh::zh::zh::zh::zh::zh::zh::zh::zh::zh::zh::zh::zh::zh::zh::zh::zh::zh::zh::zh::zh::zh::zh::zh::zh::zh::zh::zh::zh::zh::zh::zh::zh::zh::zh::zh::zh::zh::zh::zh::zh::[]):=⟨_,rfl⟩
 have hr:zI zi O true zu.code T zx.empty=zI zi O true zu.code T zx.empty:=rfl
 obtain ⟨S1,c0⟩:=kH.v
 have c0:yF (jf zi O) 9 [] zx.empty=some (.bool true,S1):=vN c0 rfl
 obtain ⟨S2,c1,hD,_⟩:=jo.v (r:=room0) S1
 have c1:yF (jf zi O) 10 [.int .i64 room0] S1=some (.pointer (some ⟨S1.next,0,none⟩),S2):=vN c1 rfl
 have z0:∀ S,yH zi 40 [] S=some (dvv dv0,S):=fun S=>kX S
 have c2:yF (jf zi O) 17 [dvv dv0,.int .i64 room0] S2=some (dvv ⟨0,[],0,max 0 (min room0 65536)⟩,S2):=vN (zB.v adJ room0 S2) (by simp only [List.all_cons,List.all_nil,aax];rfl)
 obtain ⟨S3,s1,g1,x1,n1⟩:=adZ ⟨0,[],0,max 0 (min room0 65536)⟩ S2
 have ln:∀ S,vK zi 29 (vs fA 3 k l) S=some (.int .i64 l.length,S):=fun S=>ab2 qj hk
 have B:Both S3 S1.next S2.next 0 [] 0 (max 0 (min room0 65536)):=⟨hD.ext x1,Okl.none,by decide,g1,n1,by have:=hD.lt;omega,ZQ.fresh hD x1 (Nat.le_refl _)⟩
 by_cases h1:(200:Int) < (l.length:Int)
 ·
  conv at hr =>
   rhs
   rw [hTe]
   simp only [zu.code,zu.rs,zSs,reduceIte,zk,zn,zo,zq,c0,c1,z0,c2,ad4,s1,QS,Ku,if_neg k2,ln,h1]
  rw [hTe] at hr
  exact ⟨_,zu.runs hr (.inr rfl)⟩
 ·
  conv at hr =>
   rhs
   rw [hTe]
   simp only [zu.code,zu.rs,zSs,reduceIte,zk,zn,zo,zq,c0,c1,z0,c2,ad4,s1,QS,Ku,if_neg k2,ln,h1]
  generalize hL:qH (zI zi O true zu.WE) _ _=r at hr
  obtain ⟨T',S',rfl,g2⟩:=round hk k2 hl hg l [] hL rfl rfl rfl rfl rfl rfl rfl B
  have hTe':=zu.eta g2
  conv at hr =>
   rhs
   simp only [zSs,reduceIte,zk,zn,zo,zq]
   rw [hTe']
   simp only [zu.code,zu.rs,zSs,reduceIte,zk,zn,zo,zq]
  rw [hTe] at hr
  exact ⟨_,zu.runs hr (.inr rfl)⟩
theorem law (x:Args codes) (h:Args.Good codes x):∃ k,(qZ zi k 7 (Args.place codes x zx.empty).1 (Args.place codes x zx.empty).2).map (·.1)=some (.bool true):=by
 obtain ⟨a,b,u⟩:=x
 obtain ⟨h1,h2,_⟩:=h
 obtain ⟨k,l,p1,p2,p3,p4,p5⟩:=acH b h2
 obtain ⟨S',e⟩:=run (room0:=a) p1 p2 p4 p5
 refine QA adu (S':=S') ?_
 have e2:Args.ZV codes (a,b,u)=[.int .i64 a,vs fA 3 k l]:=by
  show [kZ false [Value.int .i64 a],kZ false ((Ty.slc 40 adn).ZV b)]=_
  rw [p3];rfl
 rw [e2]
 exact e
end diskRuns
end Go.Proofs.Ytgfpjnblookppaa
namespace Go.Proofs.Ytgfpjnblookppaa.diskRuns
open Go.ChangeShapes Go.WideShapes Go.ChangeAt Go.RowKit Go.Abs
theorem own:ownKnob zi.godebug=none:=by kernel_rfl
theorem laidOut:laidOutB zi=true:=by kernel_rfl
theorem mixes:zi.follows .mixedOrders=true:=by kernel_rfl
set_option maxRecDepth 100000 in
theorem lifted (os:Os) (started:os.Started) (H:Type) (enc:TypeId×Value→H) :
  ReturnsInHanded {} Try.checked os 7 .any (Rows.diskRunsSpec.pre6 enc zi Try.f7 Rows.diskRunsRow.domain false) (Rows.diskRunsSpec.post enc zi Try.f7 false true false false):=by
 refine returnsInHanded_of_change_sized (C:=Try.checked) own started (by kernel_rfl) Try.func7
  (ChangeSpec.witness6 (enc:=enc) (C:=Try.checked) false ⟨#[],#[.int .i64 0,.slice none 0 0],[]⟩ 8 (by kernel_rfl) (by kernel_rfl) (by kernel_rfl) (by kernel_rfl)) ?_
 intro W base args ds gs before hval0 hW hcnd hsz0 _
 have hW':=hW
 obtain ⟨p,q,hA0,hV,rfl,hfz,hnd⟩:=hW
 obtain ⟨rfl,rfl⟩:=trodVars_none hV
 have hsz1:(DataW.weightsEach zi (Try.f7.params.toList++Rows.diskRunsSpec.plain.varTypes zi) (ds++[])).all (·≤reachBytes)=true:=hsz0
 have hval:∀ (j:Nat) t v,Try.f7.params[j]?=some t→args[j]?=some v→Value.okWide zi W .any base t v:=hval0
 have hA1:DataW.TrodAll enc zi W 0 (fun _=>true) true Try.f7.params.toList args.toList ds p:=hA0
 rw [Try.params7] at hA1 hsz1 hval
 have hA:DataW.TrodAll enc zi W 0 (fun _=>true) true [3,29] args.toList ds p:=hA1
 have hsz:(DataW.weightsEach zi [3,29] ds).all (·≤reachBytes)=true:=by rw [List.append_nil ds] at hsz1;exact hsz1
 clear hA0 hA1 hval0 hsz0 hsz1
 have r:=hA
 obtain ⟨v0,vs0,d0,ds0,p0,q0,hargs0,rfl,hp0,h0,r0⟩:=trodAll_cons r
 obtain ⟨v1,vs1,d1,ds1,p1,q1,hargs1,rfl,hp1,h1,r1⟩:=trodAll_cons r0
 obtain ⟨_,rfl,_⟩:=trodAll_nil r1
 refine (VI mixes coded law hA (fun j t v h1 h2=>hval j t v (by rw [List.getElem?_toArray];exact h1) h2) hsz).mono fun e W' ⟨he,bel⟩=>?_
 subst he
 exact ⟨_,rfl,_,_,_,[],_,[],hW',trodAll_mk1 (shut_bool (by kernel_rfl) _),aaY laidOut bel _ _ _ _ (by kernel_rfl) hA,rfl,bel.frame _,fun h=>by cases h⟩
theorem over:Rows.diskRunsRow.holds Try.pinned (OpenSpec.ofChange Rows.diskRunsSpec) :=
 OpenClaim.holds_of_wide 7 Try.f7 rfl rfl rfl rfl rfl rfl rfl ⟨rfl,rfl,rfl,rfl,rfl⟩ rfl rfl rfl rfl rfl (by kernel_rfl) Try.func7 (by kernel_rfl)
  (of_decide_eq_true (by kernel_rfl)) (by unfold Func.isWrapper;first | (rw [if_pos (by decide +kernel)];kernel_rfl) | (rw [if_neg (by decide +kernel)];exact ⟨rfl,rfl⟩))
  (fun os started H enc _=>lifted os started H enc)
theorem proved:Rows.DiskRunsSaid:=over
end Go.Proofs.Ytgfpjnblookppaa.diskRuns
namespace Go.Proofs.Ytgfpjnblookppaa
theorem diskRuns_holds:Rows.DiskRunsSaid:=diskRuns.proved
#print axioms diskRuns_holds
end Go.Proofs.Ytgfpjnblookppaa
