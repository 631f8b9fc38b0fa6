/-
The law MempoolNames returns true for every input, and leaves it as it was; no condition. Part 5 of 5 of the texts (put together by a program: own names are short, what isn't needed is left out).
-/
import Derived.Test.YtacbgjhmkhjpoaaZMempoolNames4
import Derived.Test.YtacbgjhmkhjpoaaChecked
import Derived.KernelRfl
import Derived.Test.YtacbgjhmkhjpoaaRows
import Derived.WalkKit
import Derived.ProofKit
import Derived.OpenShut
import Derived.ShutString
import Derived.ChangeOld
import Derived.Below
import Derived.SizedLaws
import Derived.Carry
set_option linter.unusedVariables false
set_option linter.unusedSimpArgs false
set_option maxRecDepth 100000
open Go renaming undef → zh
open Go.Proofs.Try renaming prog → zi
open Nat renaming reduceEqDiff → zk
open Int renaming reduceEq → zn
open Int renaming reduceLT → zo
open Int renaming reduceLE → zq
namespace Go.Abs
open Go.RowKit
def Fr (fp:List Nat) (S S1:zu):Prop:=S.next≤S1.next∧∀ p,p < S.next→p ∉ fp→S1.get p=S.get p
theorem Fr.refl (fp:List Nat) (S:zu):Fr fp S S:=⟨Nat.le_refl _,fun _ _ _=>rfl⟩
theorem Fr.ext {fp:List Nat} {S S1:zu} (h:Ext S S1):Fr fp S S1:=⟨h.next,fun p hp _=>h.get p hp⟩
theorem Fr.trans {fp fp2:List Nat} {S S1 S2:zu} (h:Fr fp S S1) (k:Fr fp2 S1 S2) (hs:∀ x ∈ fp2,x ∈ fp∨S.next≤x):Fr fp S S2:=⟨Nat.le_trans h.1 k.1,fun p hp hn=>by
 rw [k.2 p (Nat.lt_of_lt_of_le hp h.1) (fun hx=>(hs p hx).elim hn (fun h=>by omega)),h.2 p hp hn]⟩
theorem Fr.set {fp:List Nat} {S S1:zu} (h:Fr fp S S1) {r:Nat} (hr:r ∈ fp∨S.next≤r) (o:jX):Fr fp S (S1.set r o):=⟨h.1,fun p hp hn=>by
 rw [zu.zX,if_neg (fun e=>by subst e;exact hr.elim hn (fun h=>by omega))];exact h.2 p hp hn⟩
theorem Fr.kills {fp:List Nat} {S S1:zu} (h:Fr fp S S1) {l:List Nat} (hl:∀ x ∈ l,x ∈ fp∨S.next≤x):Fr fp S (S1.kills l):=⟨by rw [zu.yZ];exact h.1,fun p hp hn=>by
 rw [zu.wL,if_neg (fun e=>(hl p e).elim hn (fun h=>by omega))];exact h.2 p hp hn⟩
theorem Fr.push {fp:List Nat} {S S1:zu} (h:Fr fp S S1) (o:jX):Fr fp S (S1.push o):=⟨by simp;have:=h.1;omega,fun p hp hn=>by
 rw [zu.zM,if_neg (by have:=h.1;omega)];exact h.2 p hp hn⟩
def Many (S:zu) (x:Nat):Prop:=∀ cs own,S.get x≠some (.cells cs own 0)
def qV {α:Type} (f:α→List Value) (e:Nat) (S:zu) (a:Option Addr) (l:List α) (fp:List Nat):Prop :=
 (a=none∧l=[]∧fp=[])∨∃ r anc rest,a=some ⟨r,0,none⟩∧fp=r::anc∧S.get r=some (.cells (l.flatMap f++rest) (.own anc) e)∧∀ x ∈ fp,x < S.next∧Many S x
theorem JM {A B C D:List Value} {o:Nat} (h:o=A.length) (hl:B.length=C.length):splice (A++(B++D)) o C=A++(C++D):=by
 subst h
 unfold splice
 rw [List.take_left,← hl,List.drop_append,List.drop_eq_nil_of_le (by omega),List.nil_append,show A.length+B.length - A.length=B.length by omega,List.drop_left,List.append_assoc]
section
variable {α:Type} {f:α→List Value} {e:Nat} {S S1:zu} {a:Option Addr} {l:List α} {fp:List Nat}
theorem qV.keep (h:qV f e S a l fp) (hn:S.next≤S1.next) (hk:∀ x ∈ fp,S1.get x=S.get x):qV f e S1 a l fp:=by
 rcases h with h | ⟨r,anc,rest,h1,h2,h3,h4⟩
 ·
  exact .inl h
 ·
  refine .inr ⟨r,anc,rest,h1,h2,by rw [hk r (by rw [h2];simp)];exact h3,fun x hx=>⟨Nat.lt_of_lt_of_le (h4 x hx).1 hn,fun cs own=>by rw [hk x hx];exact (h4 x hx).2 cs own⟩⟩
theorem qV.lt (h:qV f e S a l fp):∀ x ∈ fp,x < S.next:=by
 rcases h with ⟨_,_,rfl⟩ | ⟨r,anc,rest,h1,h2,h3,h4⟩
 ·
  intro x hx;cases hx
 ·
  exact fun x hx=>(h4 x hx).1
theorem qV.many (h:qV f e S a l fp):∀ x ∈ fp,Many S x:=by
 rcases h with ⟨_,_,rfl⟩ | ⟨r,anc,rest,h1,h2,h3,h4⟩
 ·
  intro x hx;cases hx
 ·
  exact fun x hx=>(h4 x hx).2
theorem qV.ext (h:qV f e S a l fp) (k:Ext S S1):qV f e S1 a l fp:=h.keep k.next fun x hx=>k.get x (h.lt x hx)
theorem qV.fr {fp2:List Nat} (h:qV f e S a l fp) (k:Fr fp2 S S1) (hd:∀ x ∈ fp,x ∉ fp2):qV f e S1 a l fp:=h.keep k.1 fun x hx=>k.2 x (h.lt x hx) (hd x hx)
theorem qV.acu (h:qV f e S a l fp) {p:Nat} {cs:List Value} {own:Own} (hp:S.get p=some (.cells cs own 0)):p ∉ fp:=fun hx=>h.many p hx cs own hp
theorem qV.take (h:qV f e S a l fp) (n:Nat):qV f e S a (l.take n) fp:=by
 rcases h with ⟨h1,h2,h3⟩ | ⟨r,anc,rest,h1,h2,h3,h4⟩
 ·
  exact .inl ⟨h1,by rw [h2,List.take_nil],h3⟩
 ·
  refine .inr ⟨r,anc,(l.drop n).flatMap f++rest,h1,h2,?_,h4⟩
  rw [h3,← List.append_assoc,← List.flatMap_append,List.take_append_drop]
theorem WR {x r:Nat} {cs:List Value} {own:Own} (he:e≠0) (h:Many S x):Many (S.set r (.cells cs own e)) x:=fun cs' own'=>by
 rw [zu.zX]
 split
 ·
  intro hx;simp only [Option.some.injEq,jX.cells.injEq] at hx;exact he hx.2.2
 ·
  exact h cs' own'
theorem JA {x:Nat} {l:List Nat} (h:Many S x):Many (S.kills l) x:=fun cs' own'=>by
 rw [zu.wL]
 split
 ·
  intro hx;simp at hx
 ·
  exact h cs' own'
theorem X6 {x:Nat} {cs:List Value} {own:Own} (he:e≠0) (h:Many S x):Many (S.push (.cells cs own e)) x:=fun cs' own'=>by
 rw [zu.zM]
 split
 ·
  intro hx;simp only [Option.some.injEq,jX.cells.injEq] at hx;exact he hx.2.2
 ·
  exact h cs' own'
variable {P:Program} {t te tx:TypeId} {z:Value} {bytes:Nat}
theorem qV.append (u:P.underlying t=some (.slice te)) (us:yV P te=some e) (hz:zeroOf P te=some z) (hzs:z.cells.size=e) (hb:bytesOf P te=some bytes) (hpos:0 < e) (hf:∀ x,(f x).length=e) (h1:∀ x,(f x).all (·.oneCell')=true)
  (hd:qV f e S a l fp) {x:Value} {b:List α} (hsrc:ZO P tx e x S=some (b.length,b.flatMap f)) (hm:(l.length+b.length) * bytes≤140737488355328) (hm2:l.length+b.length≤4611686018427387903) :
  ∃ a' S1 fp',wP P true t tx (.slice a l.length l.length) x S=some (.slice a' (l++b).length (l++b).length,S1)∧qV f e S1 a' (l++b) fp'∧(∀ x ∈ fp',x ∈ fp∨S.next≤x)∧Fr fp S S1:=by
 have hone:∀ l:List α,(l.flatMap f).all (·.oneCell')=true:=by
  intro l
  rw [List.all_flatMap,List.all_eq_true]
  exact fun x _=>h1 x
 have he:e≠0:=by omega
 rcases hd with ⟨rfl,rfl,rfl⟩ | ⟨r,anc,rest,rfl,rfl,k2,k3⟩
 ·
  have e1:=Xi (t:=t) (tx:=tx) (S:=S) u us hz hzs hb hpos hsrc (by simpa using hm) (by simpa using hm2)
  by_cases h0:b.length=0
  ·
   have hb:b=[]:=List.length_eq_zero_iff.1 h0
   subst hb
   exact ⟨none,S,[],e1,.inl ⟨rfl,rfl,rfl⟩,(fun x hx=>by cases hx),Fr.refl _ _⟩
  ·
   rw [if_neg h0,if_neg h0] at e1
   refine ⟨some ⟨S.next,0,none⟩,_,[S.next],e1,.inr ⟨S.next,[],[],rfl,rfl,?_,fun x hx=>?_⟩,(fun x hx=>by simp at hx;omega),(Fr.refl _ _).push _⟩
   ·
    rw [zu.zM,if_pos rfl,List.append_nil,List.nil_append]
   ·
    simp only [List.mem_singleton] at hx
    subst hx
    refine ⟨by simp,fun cs own=>?_⟩
    rw [zu.zM,if_pos rfl]
    intro hx;simp only [Option.some.injEq,jX.cells.injEq] at hx;exact he hx.2.2
 ·
  have hlen:(l.flatMap f).length=l.length * e:=jy hf l
  have htk:((l.flatMap f++rest).drop 0).take (l.length * e)=l.flatMap f:=by rw [List.drop_zero,← hlen,List.take_left]
  have e1:=KW (hp:=true) (t:=t) (tx:=tx) (o:=0) (n:=l.length) (c:=l.length) u us hz hzs hb hpos hsrc k2 (by rw [List.length_append,hlen];omega) hm hm2 (by rw [htk];exact hone l)
  rw [htk,← List.length_append] at e1
  have hnew:∀ {S2:zu} {cs:List Value} {own:Own},Many (S2.push (.cells cs own e)) S2.next:=fun {S2 cs own} cs' own'=>by
   rw [zu.zM,if_pos rfl]
   intro hx;simp only [Option.some.injEq,jX.cells.injEq] at hx;exact he hx.2.2
  by_cases h0:0+l.length * e=(l.flatMap f++rest).length
  ·
   rw [if_pos h0] at e1
   refine ⟨some ⟨S.next,0,none⟩,_,_,e1,.inr ⟨S.next,_,[],rfl,rfl,by rw [zu.zM,zu.qN,if_pos rfl,List.append_nil,List.flatMap_append],fun x hx=>?_⟩,fun x hx=>?_,((Fr.refl _ _).set (.inl (by simp)) _).push _⟩
   ·
    rcases List.mem_cons.1 hx with rfl | hx
    ·
     exact ⟨by simp,hnew (S2:=S.set r (.cells (l.flatMap f++rest) .ro e))⟩
    ·
     have hx:x ∈ r::anc:=by
      split at hx
      ·
       cases hx
      ·
       exact hx
     exact ⟨by have:=(k3 x hx).1;simp;omega,X6 he (WR he (k3 x hx).2)⟩
   ·
    rcases List.mem_cons.1 hx with rfl | hx
    ·
     exact .inr (Nat.le_refl _)
    ·
     left
     split at hx
     ·
      cases hx
     ·
      exact hx
  ·
   rw [if_neg h0] at e1
   refine ⟨some ⟨S.next,0,none⟩,_,[S.next],e1,.inr ⟨S.next,[],[],rfl,rfl,by rw [zu.zM,zu.qN,zu.yZ,if_pos rfl,List.append_nil,List.flatMap_append],fun x hx=>?_⟩,fun x hx=>?_,(((Fr.refl _ _).kills (l:=anc) (fun x hx=>.inl (by simp [hx]))).set (.inl (by simp)) _).push _⟩
   ·
    simp only [List.mem_singleton] at hx
    subst hx
    exact ⟨by simp,by have:=hnew (S2:=(S.kills anc).set r .dead) (cs:=l.flatMap f++b.flatMap f) (own:=.own []);rwa [zu.qN,zu.yZ] at this⟩
   ·
    simp only [List.mem_singleton] at hx
    exact .inr (by omega)
theorem qV.ady (hf:∀ x,(f x).length=e) {x:α} {pre suf:List α} {rest:List Value}:(((pre++x::suf).flatMap f++rest).drop (0+pre.length * e)).take e=f x:=by
 rw [List.flatMap_append,List.flatMap_cons,List.append_assoc,List.append_assoc,Nat.zero_add,← jy hf pre,List.drop_left,← hf x,List.take_left]
theorem qV.load (g:yI P te=some true) (us:yV P te=some e) (hf:∀ x,(f x).length=e) (hdm:∀ x,(f x).map qg=f x) {r:Nat} {own:Own} {x:α} {pre suf:List α} {rest:List Value} (hg:S.get r=some (.cells ((pre++x::suf).flatMap f++rest) own e)) :
  jk P false te (.pointer (some ⟨r,0+pre.length * e,none⟩)) S=some (.agg (f x).toArray,S):=by
 have hle:0+pre.length * e+e≤((pre++x::suf).flatMap f++rest).length:=by
  rw [List.length_append,jy hf,List.length_append,List.length_cons,Nat.add_mul,Nat.add_mul];omega
 rw [QI hg g us hle,ady hf]
 simp only [List.map_toArray,hdm]
theorem qV.put (us:yV P te=some e) (hf:∀ x,(f x).length=e) (h1:∀ x,(f x).all (·.oneCell')=true) (he:e≠0) {r:Nat} {anc:List Nat} {x y:α} {pre suf:List α} {rest:List Value} (hg:S.get r=some (.cells ((pre++x::suf).flatMap f++rest) (.own anc) e))
  (hx:∀ k ∈ r::anc,k < S.next∧Many S k) :
  ∃ S1,xB P te (.pointer (some ⟨r,0+pre.length * e,none⟩)) (.agg (f y).toArray) S=some (zh,S1)∧S1.get r=some (.cells ((pre++y::suf).flatMap f++rest) (.own []) e)∧S1.next=S.next∧Fr (r::anc) S S1∧Many S1 r:=by
 have hle:0+pre.length * e+e≤((pre++x::suf).flatMap f++rest).length:=by
  rw [List.length_append,jy hf,List.length_append,List.length_cons,Nat.add_mul,Nat.add_mul];omega
 have hs:splice ((pre++x::suf).flatMap f++rest) (0+pre.length * e) (f y)=(pre++y::suf).flatMap f++rest:=by
  rw [List.flatMap_append,List.flatMap_cons,List.append_assoc,List.append_assoc,JM (by rw [jy hf,Nat.zero_add]) (by rw [hf,hf]),List.flatMap_append,List.flatMap_cons,List.append_assoc,List.append_assoc]
 have:=xw (P:=P) (t:=te) (o:=0+pre.length * e) (n:=e) (x:=.agg (f y).toArray) hg us (by rw [xP,List.size_toArray,hf]) (by rw [xP];exact h1 y) hle
 refine ⟨_,this,?_,by simp,((Fr.refl _ _).kills (fun k hk=>.inl (by simp [hk]))).set (.inl (by simp)) _,?_⟩
 ·
  rw [zu.zX,if_pos rfl,xP]
  show some (jX.cells (splice _ _ (f y)) _ _)=_
  rw [hs]
 ·
  refine WR he (JA (hx r (by simp)).2)
theorem qV.clear (u:P.underlying t=some (.slice te)) (us:yV P te=some e) (hz:zeroOf P te=some z) (hgz:ground z=true) (hzs:z.cells.size=e) (hz1:z.cells.toList.all (·.oneCell')=true) (hpos:0 < e) (hf:∀ x,(f x).length=e)
  {r:Nat} {anc:List Nat} {pre suf:List α} {rest:List Value} (hg:S.get r=some (.cells ((pre++suf).flatMap f++rest) (.own anc) e)) (hn:suf.length≠0) (hx:∀ k ∈ r::anc,k < S.next∧Many S k) (c:Nat) :
  ∃ S1 rest1,Yo P t (.slice (some ⟨r,0+pre.length * e,none⟩) suf.length c) S=some (zh,S1)∧S1.get r=some (.cells (pre.flatMap f++rest1) (.own []) e)∧S1.next=S.next∧Fr (r::anc) S S1∧Many S1 r:=by
 have hel:wG P t=some te:=by simp only [wG,u]
 have hle:0+pre.length * e+suf.length * e≤((pre++suf).flatMap f++rest).length:=by
  rw [List.length_append,jy hf,List.length_append,Nat.add_mul];omega
 have hs:splice ((pre++suf).flatMap f++rest) (0+pre.length * e) (zl z.cells.toList suf.length)=pre.flatMap f++(zl z.cells.toList suf.length++rest):=by
  rw [List.flatMap_append,List.append_assoc,JM (by rw [jy hf,Nat.zero_add]) (by rw [X5,jy hf,show z.cells.toList.length=e from hzs])]
 refine ⟨(S.kills anc).set r (.cells (splice ((pre++suf).flatMap f++rest) (0+pre.length * e) (zl z.cells.toList suf.length)) (.own []) e),zl z.cells.toList suf.length++rest,?_,by rw [zu.zX,if_pos rfl,hs],by simp,((Fr.refl _ _).kills (fun k hk=>.inl (by simp [hk]))).set (.inl (by simp)) _,WR (by omega) (JA (hx r (by simp)).2)⟩
 simp only [Yo,qC,hel,us,hz,hg]
 rw [if_neg hn,if_pos hgz,if_pos hzs,if_pos hz1,if_pos hpos,if_pos hle]
end
end Go.Abs
namespace Go.Proofs.Ytacbgjhmkhjpoaa
open Go.Abs
abbrev slices_Index.id:FuncId:=36
noncomputable def slices_Index.jm:Code:=(.seq (.region 2 (reg Try.f36 2) false) (.seq (.cond (.tmp 9) Code.skip (.exit 0)) (.seq (.block 1 (.seq (.region 3 (reg Try.f36 3) false) (.seq (.region 4 (reg Try.f36 4) false) (.cond (.tmp 16) (.seq (.region 5 (reg Try.f36 5) false) Code.ret) Code.skip)))) (.region 6 (reg Try.f36 6) false))))
noncomputable def slices_Index.code:Code:=(.seq (.region 0 (reg Try.f36 0) false) (.seq (.seq (.region 1 (reg Try.f36 1) false) (.block 0 (.loop slices_Index.jm))) (.seq (.region 7 (reg Try.f36 7) false) Code.ret)))
theorem slices_Index.body:Try.f36.body=some slices_Index.code:=by kernel_rfl
theorem slices_Index.eta {T:List Value} (h:T.length=19):T=[T.getD 0 zh,T.getD 1 zh,T.getD 2 zh,T.getD 3 zh,T.getD 4 zh,T.getD 5 zh,T.getD 6 zh,T.getD 7 zh,T.getD 8 zh,T.getD 9 zh,T.getD 10 zh,T.getD 11 zh,T.getD 12 zh,T.getD 13 zh,T.getD 14 zh,T.getD 15 zh,T.getD 16 zh,T.getD 17 zh,T.getD 18 zh]:=(ku T 19 h).trans (by kernel_rfl)
variable (b n q r v o t s p u c d f g i j k l m:Value) (S:zu)
theorem slices_Index.r0 :ji zi ⟨false,false,false⟩ (zT zi O) (reg Try.f36 0) (reg Try.f36 0).toList ([b,n,q,r,v,o,t,s,p,u,c,d,f,g,i,j,k,l,m]) S =
  ( some ([b,n,q,r,.int .i64 0,o,t,s,p,u,c,d,f,g,i,j,k,l,m],S)):=by
 kernel_rfl
theorem slices_Index.r1 :ji zi ⟨false,false,false⟩ (zT zi O) (reg Try.f36 1) (reg Try.f36 1).toList ([b,n,q,r,v,o,t,s,p,u,c,d,f,g,i,j,k,l,m]) S =
  (zW (Zp zi 38 (dem b) S) (fun A w=>some ([b,n,q,r,v,o,dem b,A,.int .i64 0,u,c,d,f,g,i,j,k,l,m],w)) ()):=by
 kernel_rfl
theorem slices_Index.r2 :ji zi ⟨false,false,false⟩ (zT zi O) (reg Try.f36 2) (reg Try.f36 2).toList ([b,n,q,r,v,o,t,s,p,u,c,d,f,g,i,j,k,l,m]) S =
  (zW (yU zi BinOp.lss 3 p s S) (fun x w=>some ([b,n,q,r,v,o,t,s,p,x,c,d,f,g,i,j,k,l,m],w)) ()):=by
 kernel_rfl
theorem slices_Index.r3 :ji zi ⟨false,false,false⟩ (zT zi O) (reg Try.f36 3) (reg Try.f36 3).toList ([b,n,q,r,v,o,t,s,p,u,c,d,f,g,i,j,k,l,m]) S =
  ( some ([b,n,q,r,v,p,t,s,dem p,u,dem p,d,f,g,i,j,k,l,m],S)):=by
 kernel_rfl
theorem slices_Index.r4 :ji zi ⟨false,false,false⟩ (zT zi O) (reg Try.f36 4) (reg Try.f36 4).toList ([b,n,q,r,v,o,t,s,p,u,c,d,f,g,i,j,k,l,m]) S =
  (zW (jc zi 38 (dem b) (dem o) S) (fun y w=>zW (jk zi false 3 y w) (fun z B=>zW (yU zi BinOp.eql 3 (dem n) z B) (fun C D=>some ([b,n,q,r,v,o,t,s,p,u,c,dem n,dem b,dem o,y,z,C,l,m],D)) ()) ()) ()):=by
 kernel_rfl
theorem slices_Index.r5 :ji zi ⟨false,false,false⟩ (zT zi O) (reg Try.f36 5) (reg Try.f36 5).toList ([b,n,q,r,v,o,t,s,p,u,c,d,f,g,i,j,k,l,m]) S =
  ( some ([b,n,q,r,o,dem o,t,s,p,u,c,d,f,g,i,j,k,dem o,m],S)):=by
 kernel_rfl
theorem slices_Index.r6 :ji zi ⟨false,false,false⟩ (zT zi O) (reg Try.f36 6) (reg Try.f36 6).toList ([b,n,q,r,v,o,t,s,p,u,c,d,f,g,i,j,k,l,m]) S =
  (zW (yU zi BinOp.add 3 p (.int .i64 1) S) (fun x w=>some ([b,n,q,r,v,o,t,s,dem x,u,c,d,f,g,i,j,k,l,x],w)) ()):=by
 kernel_rfl
theorem slices_Index.r7 :ji zi ⟨false,false,false⟩ (zT zi O) (reg Try.f36 7) (reg Try.f36 7).toList ([b,n,q,r,v,o,t,s,p,u,c,d,f,g,i,j,k,l,m]) S =
  ( some ([b,n,q,r,.int .i64 (-1),o,t,s,p,u,c,d,f,g,i,j,k,l,m],S)):=by
 kernel_rfl
theorem slices_Index.rs:type_of% (aeA @slices_Index.r0 (aeA @slices_Index.r1 (aeA @slices_Index.r2 (aeA @slices_Index.r3 (aeA @slices_Index.r4 (aeA @slices_Index.r5 (aeA @slices_Index.r6 (@slices_Index.r7)))))))):=aeA @slices_Index.r0 (aeA @slices_Index.r1 (aeA @slices_Index.r2 (aeA @slices_Index.r3 (aeA @slices_Index.r4 (aeA @slices_Index.r5 (aeA @slices_Index.r6 (@slices_Index.r7)))))))
theorem slices_Index.runs {b n:Value} {S w:zu} {e:AEx} {T:List Value} (h:zF zi O false slices_Index.code ([b,n,zh,zh,zh,zh,zh,zh,zh,zh,zh,zh,zh,zh,zh,zh,zh,zh,zh]) S=some (e,T,w)) (he:e=.normal∨e=.ret):zT zi O 36 [b,n] S=some (T.getD 4 zh,w) :=
 jF rfl rfl Try.func36 (by decide) slices_Index.body (by exact h) he (jI (a:=T.getD 4 zh) ((show zH zi T w Try.f36.results.toList=zH zi T w [(ResultVar.tmp 4)] from by kernel_rfl).trans (by simp only [zH])) (by kernel_rfl))
end Go.Proofs.Ytacbgjhmkhjpoaa
namespace Go.Proofs.Ytacbgjhmkhjpoaa
open Go.Abs
abbrev slices_Contains.id:FuncId:=29
noncomputable def slices_Contains.code:Code:=(.seq (.region 0 (reg Try.f29 0) false) (.seq (.region 1 (reg Try.f29 1) false) Code.ret))
theorem slices_Contains.body:Try.f29.body=some slices_Contains.code:=by kernel_rfl
variable (b c f g m i j k l:Value) (S:zu)
theorem slices_Contains.r0 :ji zi ⟨false,false,false⟩ (zT zi O) (reg Try.f29 0) (reg Try.f29 0).toList ([b,c,f,g,m,i,j,k,l]) S =
  ( some ([b,c,f,g,Value.bool false,i,j,k,l],S)):=by
 kernel_rfl
theorem slices_Contains.r1 :ji zi ⟨false,false,false⟩ (zT zi O) (reg Try.f29 1) (reg Try.f29 1).toList ([b,c,f,g,m,i,j,k,l]) S =
  (zW ((zT zi O) 36 [(dem (dem b)),(dem (dem c))] S) (fun n d=>zW (yU zi BinOp.geq 3 n (.int .i64 0) d) (fun o p=>some ([b,c,f,g,o,dem b,dem c,n,dem o],p)) ()) ()):=by
 kernel_rfl
theorem slices_Contains.rs:type_of% (aeA @slices_Contains.r0 (@slices_Contains.r1)):=aeA @slices_Contains.r0 (@slices_Contains.r1)
theorem slices_Contains.runs {b c:Value} {S d:zu} {e:AEx} {T:List Value} (h:zF zi O false slices_Contains.code ([b,c,zh,zh,zh,zh,zh,zh,zh]) S=some (e,T,d)) (he:e=.normal∨e=.ret):zT zi O 29 [b,c] S=some (T.getD 4 zh,d) :=
 jF rfl rfl Try.func29 (by decide) slices_Contains.body (by exact h) he (jI (a:=T.getD 4 zh) ((show zH zi T d Try.f29.results.toList=zH zi T d [(ResultVar.tmp 4)] from by kernel_rfl).trans (by simp only [zH])) (by kernel_rfl))
end Go.Proofs.Ytacbgjhmkhjpoaa
namespace Go.Proofs.Ytacbgjhmkhjpoaa
open Go.Abs
def idxFrom {α:Type} (p:α→Bool):Int→List α→Int
 | _,[]=>-1
 | i,x::r=>if p x then i else idxFrom p (i+1) r
theorem Zq {α:Type} {p:α→Bool}:∀ {l:List α} {i:Int},l.any p=false→idxFrom p i l=-1
 | [],_,_=>rfl
 | x::r,i,h=>by
  rw [List.any_cons,Bool.or_eq_false_iff] at h
  rw [idxFrom,h.1]
  exact Zq h.2
theorem QD {α:Type} {p:α→Bool}:∀ {l:List α} {i:Int},l.any p=true→i≤idxFrom p i l
 | [],_,h=>by cases h
 | x::r,i,h=>by
  rw [idxFrom]
  split
  ·
   omega
  ·
   rename_i hx
   rw [List.any_cons,Bool.or_eq_true] at h
   have:=QD (i:=i+1) (h.resolve_left hx)
   omega
theorem acZ {α:Type} {p:α→Bool} {l:List α}:decide (0≤idxFrom p 0 l)=l.any p:=by
 cases h:l.any p with
 | false=>rw [Zq h];decide
 | true=>rw [decide_eq_true_eq];exact QD h
section
variable {k:Nat} {l:List Int}
theorem slices_Index.round (hv:Okl k l) (hk:k≠2) (hlen:l.length≤17592186044416) {v:Int} {S:zu}:∀ (suf pre:List Int) {T:List Value} {r:St},yT (zF zi O false slices_Index.jm) T S=r→T.length=19 →
  T.getD 0 zh=iz k l→T.getD 1 zh=.int .i64 v→T.getD 7 zh=.int .i64 l.length→T.getD 8 zh=.int .i64 pre.length→l=pre++suf →
  ∃ e T',r=some (e,T',S)∧if suf.any (fun x=>decide (v=x)) then e=.ret∧T'.getD 4 zh=.int .i64 (idxFrom (fun x=>decide (v=x)) pre.length suf) else e=.exit 0∧T'.length=19:=by
 intro suf
 induction suf with
 | nil =>
  intro pre T r hL hT h0 h1 h7 h8 hl
  have hTe:=slices_Index.eta hT
  rw [h0,h1,h7,h8] at hTe
  have hr:zF zi O false slices_Index.jm T S=zF zi O false slices_Index.jm T S:=rfl
  have hd:¬ (pre.length:Int) < (l.length:Int):=by rw [hl];simp
  conv at hr =>
   rhs
   rw [hTe]
   simp only [slices_Index.jm,slices_Index.code,slices_Index.rs,zSs,reduceIte,zk,zn,zo,zq,hd]
  exact ⟨_,_,hL.symm.trans (wu hr (by simp)),rfl,rfl⟩
 | cons x suf ih =>
  intro pre T r hL hT h0 h1 h7 h8 hl
  have hTe:=slices_Index.eta hT
  rw [h0,h1,h7,h8] at hTe
  have hr:zF zi O false slices_Index.jm T S=zF zi O false slices_Index.jm T S:=rfl
  have hd:(pre.length:Int) < (l.length:Int):=by rw [hl];simp;omega
  have e1:∀ S,jc zi 38 (iz k l) (.int .i64 pre.length) S=some (EP [.int .i64 x],S):=fun S=>by
   rw [adQ hv (by omega) hd];rw [Yi hl]
  have wi:IntKind.i64.wrap ((pre.length:Int)+1)=((pre++[x]).length:Int):=by rw [wrap_i64 (by omega) (by omega)];simp
  rw [List.any_cons,idxFrom]
  by_cases hx:v=x
  ·
   have hx2:=decide_eq_true hx
   conv at hr =>
    rhs
    rw [hTe]
    simp only [slices_Index.jm,slices_Index.code,slices_Index.rs,zSs,reduceIte,zk,zn,zo,zq,if_neg hk,hd,e1,J6,hx2]
   refine ⟨_,_,hL.symm.trans (wu hr (by simp)),?_⟩
   rw [hx2,Bool.true_or]
   exact ⟨rfl,rfl⟩
  ·
   have hx2:=decide_eq_false hx
   conv at hr =>
    rhs
    rw [hTe]
    simp only [slices_Index.jm,slices_Index.code,slices_Index.rs,zSs,reduceIte,zk,zn,zo,zq,if_neg hk,hd,e1,J6,hx2,wi]
   obtain ⟨e,T',g1,g2⟩:=ih (pre++[x]) ((yx hr).symm.trans hL) rfl rfl rfl rfl rfl (by simp [hl])
   refine ⟨e,T',g1,?_⟩
   rw [hx2,Bool.false_or]
   rw [show (((pre++[x]).length:Nat):Int)=(pre.length:Int)+1 by simp] at g2
   exact g2
theorem slices_Index.v (hv:Okl k l) (hk:k≠2) (hlen:l.length≤17592186044416) {v:Int} (S:zu):zT zi O slices_Index.id [iz k l,.int .i64 v] S=some (.int .i64 (idxFrom (fun x=>decide (v=x)) 0 l),S):=by
 obtain ⟨T,hTe⟩:∃ T,T=(iz k l::.int .i64 v::zh::zh::zh::zh::zh::zh::zh::zh::zh::zh::zh::zh::zh::zh::zh::zh::zh::[]):=⟨_,rfl⟩
 have hr:zF zi O false slices_Index.code T S=zF zi O false slices_Index.code T S:=rfl
 conv at hr =>
  rhs
  rw [hTe]
  simp only [slices_Index.code,slices_Index.rs,zSs,reduceIte,zk,zn,zo,zq,if_neg hk,aby hv,goInt]
 generalize hL:yT (zF zi O false slices_Index.jm) _ _=r at hr
 obtain ⟨e,T',rfl,g⟩:=slices_Index.round hv hk hlen l [] hL rfl rfl rfl rfl rfl rfl
 cases h:l.any (fun x=>decide (v=x)) with
 | true =>
  rw [h] at g
  obtain ⟨rfl,g2⟩:=g
  conv at hr =>
   rhs
   simp only [zSs,reduceIte,zk,zn,zo,zq]
  rw [hTe] at hr
  have hrun:=slices_Index.runs hr (.inr rfl)
  rw [g2] at hrun
  exact hrun
 | false =>
  rw [h] at g
  obtain ⟨rfl,g2⟩:=g
  have hTe':=slices_Index.eta g2
  conv at hr =>
   rhs
   rw [hTe']
   simp only [slices_Index.code,slices_Index.rs,zSs,reduceIte,zk,zn,zo,zq]
  rw [hTe] at hr
  rw [Zq h]
  exact slices_Index.runs hr (.inr rfl)
theorem slices_Contains.v (hv:Okl k l) (hk:k≠2) (hlen:l.length≤17592186044416) {v:Int} (S:zu):zT zi O slices_Contains.id [iz k l,.int .i64 v] S=some (.bool (l.any fun x=>decide (v=x)),S):=by
 obtain ⟨T,hTe⟩:∃ T,T=(iz k l::.int .i64 v::zh::zh::zh::zh::zh::zh::zh::[]):=⟨_,rfl⟩
 have hr:zF zi O false slices_Contains.code T S=zF zi O false slices_Contains.code T S:=rfl
 have c1:=fun S=>slices_Index.v hv hk hlen (v:=v) S
 conv at hr =>
  rhs
  rw [hTe]
  simp only [slices_Contains.code,slices_Contains.rs,zSs,reduceIte,zk,zn,zo,zq,if_neg hk,c1,acZ]
 rw [hTe] at hr
 exact slices_Contains.runs hr (.inr rfl)
end
end Go.Proofs.Ytacbgjhmkhjpoaa
namespace Go.Proofs.Ytacbgjhmkhjpoaa
open Go.Abs
abbrev jB.id:FuncId:=22
noncomputable def jB.code:Code:=(.seq (.region 0 (reg Try.f22 0) false) (.seq (.region 1 (reg Try.f22 1) false) Code.ret))
theorem jB.body:Try.f22.body=some jB.code:=by kernel_rfl
variable (c i Y J K L M N P Q l m n o p q r s t u w:Value) (S:zu)
theorem jB.r0 :ji zi ⟨false,false,false⟩ (zT zi O) (reg Try.f22 0) (reg Try.f22 0).toList ([c,i,Y,J,K,L,M,N,P,Q,l,m,n,o,p,q,r,s,t,u,w]) S =
  (zW (Jg (dem c) S) (fun x d=>some ([c,x,Value.bool false,J,K,L,M,N,P,Q,l,m,n,o,p,q,r,s,t,u,w],d)) ()):=by
 kernel_rfl
theorem jB.r1 :ji zi ⟨false,false,false⟩ (zT zi O) (reg Try.f22 1) (reg Try.f22 1).toList ([c,i,Y,J,K,L,M,N,P,Q,l,m,n,o,p,q,r,s,t,u,w]) S =
  (zW (zU zi 30 i 0 S) (fun x d=>zW (jk zi false 3 x d) (fun R Z=>zW (yU zi BinOp.geq 3 R (.int .i64 1) Z) (fun f S3=>gdK (dem f) true (zU zi 30 i 0) S3 (fun U S4=>gdK (dem f) true (jk zi false 3 U) S4 (fun V S5=>gdK (dem f) true (yU zi BinOp.leq 3 V (.int .i64 1000000)) S5 (fun W S6=>zW (kL (dem f) W (Value.bool false) S6) (fun g S7=>gdK (dem g) true (zU zi 30 i 1) S7 (fun X S8=>gdK (dem g) true (jk zi false 3 X) S8 (fun y S9=>gdK (dem g) true (yU zi BinOp.geq 3 y (.int .i64 0)) S9 (fun z D=>zW (kL (dem g) z (Value.bool false) D) (fun b E=>gdK (dem b) true (zU zi 30 i 1) E (fun A F=>gdK (dem b) true (jk zi false 3 A) F (fun B G=>gdK (dem b) true (yU zi BinOp.leq 3 B (.int .i64 1000)) G (fun C H=>zW (kL (dem b) C (Value.bool false) H) (fun k I=>some ([c,i,k,x,R,f,dem f,U,V,W,g,dem g,X,y,z,b,dem b,A,B,C,dem k],I)) ()) ()) ()) ()) ()) ()) ()) ()) ()) ()) ()) ()) ()) ()) ()):=by
 refine sD Try.f22 1 0 (fun x d=>?_)
 refine sD Try.f22 1 1 (fun R Z=>?_)
 refine sD Try.f22 1 2 (fun f S3=>?_)
 refine sP Try.f22 1 3 (v:=f) ?_
 refine sG Try.f22 1 4 (j:=3) (fun U S4=>?_)
 refine sG Try.f22 1 5 (j:=3) (fun V S5=>?_)
 refine sG Try.f22 1 6 (j:=3) (fun W S6=>?_)
 refine sD Try.f22 1 7 (fun g S7=>?_)
 refine sP Try.f22 1 8 (v:=g) ?_
 refine sG Try.f22 1 9 (j:=8) (fun X S8=>?_)
 refine sG Try.f22 1 10 (j:=8) (fun y S9=>?_)
 refine sG Try.f22 1 11 (j:=8) (fun z D=>?_)
 refine sD Try.f22 1 12 (fun b E=>?_)
 refine sP Try.f22 1 13 (v:=b) ?_
 refine sG Try.f22 1 14 (j:=13) (fun A F=>?_)
 refine sG Try.f22 1 15 (j:=13) (fun B G=>?_)
 refine sG Try.f22 1 16 (j:=13) (fun C H=>?_)
 refine sD Try.f22 1 17 (fun k I=>?_)
 refine sP Try.f22 1 18 (v:=k) ?_
 kernel_rfl
theorem jB.rs:type_of% (aeA @jB.r0 (@jB.r1)):=aeA @jB.r0 (@jB.r1)
theorem jB.runs {c:Value} {S d:zu} {e:AEx} {T:List Value} (h:zF zi O false jB.code ([c,zh,zh,zh,zh,zh,zh,zh,zh,zh,zh,zh,zh,zh,zh,zh,zh,zh,zh,zh,zh]) zu.empty=some (e,T,d)) (he:e=.normal∨e=.ret) (hca:[c].all (zZ 16)=true) (hcv:zZ 16 (T.getD 2 zh)=true):zT zi O 22 [c] S=some (T.getD 2 zh,S) :=
 YB rfl rfl Try.func22 (by decide) jB.body (by exact h) he (jI (a:=T.getD 2 zh) ((show zH zi T d Try.f22.results.toList=zH zi T d [(ResultVar.tmp 2)] from by kernel_rfl).trans (by simp only [zH])) (by kernel_rfl)) hca hcv
end Go.Proofs.Ytacbgjhmkhjpoaa
namespace Go.Proofs.Ytacbgjhmkhjpoaa
open Go.Abs
abbrev jo.id:FuncId:=27
noncomputable def jo.code:Code:=(.seq (.region 0 (reg Try.f27 0) false) (.seq (.region 1 (reg Try.f27 1) true) Code.ret))
theorem jo.body:Try.f27.body=some jo.code:=by kernel_rfl
variable (b c k l U H I J K L m n o p q r s t:Value) (S:zu)
theorem jo.r0 :ji zi ⟨false,false,false⟩ (zT zi O) (reg Try.f27 0) (reg Try.f27 0).toList ([b,c,k,l,U,H,I,J,K,L,m,n,o,p,q,r,s,t]) S =
  (zW (Jg (dem b) S) (fun g d=>zW (Jg (dem c) d) (fun u y=>some ([b,c,g,u,Value.bool false,H,I,J,K,L,m,n,o,p,q,r,s,t],y)) ()) ()):=by
 kernel_rfl
theorem jo.d1:qx zi (reg Try.f27 1)=true:=by kernel_rfl
theorem jo.ff1:fixed zi (reg Try.f27 1)=false:=by kernel_rfl
theorem jo.k1:checked zi (reg Try.f27 1)=[5,6,7,8]:=by kernel_rfl
theorem jo.g1:again zi (reg Try.f27 1)=[(6,4),(8,4)]:=by kernel_rfl
theorem jo.r1 :zF zi O false (.region 1 (reg Try.f27 1) true) ([b,c,k,l,U,H,I,J,K,L,m,n,o,p,q,r,s,t]) S =
  Y3 (zW (zU zi 30 l 1 S) (fun g d=>zW (jk zi false 3 g d) (fun u y=>zW (zU zi 30 k 1 y) (fun z V=>zW (jk zi false 3 z V) (fun M A=>zW ((zT zi O) 33 [(dem u),(dem M)] A) (fun N W=>zW (zU zi 30 k 0 W) (fun i P=>okK i ( zW (jk zi false 3 i P) (fun B X=>okK B ( zW (zU zi 30 l 0 X) (fun j Q=>okK j ( zW (jk zi false 3 j Q) (fun C Y=>okK C ( zW ((zT zi O) 33 [(dem B),(dem C)] Y) (fun R D=>zW (jK zi 38 2 [(0,N),(1,R)] D) (fun w E=>zW ((zT zi O) 32 [(dem w)] E) (fun x F=>zW (yU zi BinOp.lss 3 x (.int .i64 0) F) (fun f G=>ckK (yc i A P && (yc j A Q && (true))) (some ([b,c,k,l,f,g,u,z,M,N,i,B,j,C,R,w,x,dem f],G)) ()) ()) ()) ()) ()) ()) ()) ()) ()) ()) ()) ()) ()) ()) ()) ()) ()) ()):=by
 rw [Zb jo.d1 jo.ff1 jo.k1 jo.g1]
 refine congrArg Y3 ?_
 refine uD Try.f27 1 0 (pe:=zh) (fun g d=>?_)
 refine uD Try.f27 1 1 (pe:=g) (fun u y=>?_)
 refine uD Try.f27 1 2 (pe:=zh) (fun z V=>?_)
 refine uD Try.f27 1 3 (pe:=z) (fun M A=>?_)
 refine uD Try.f27 1 4 (pe:=zh) (fun N W=>?_)
 refine uDC Try.f27 1 5 (pe:=zh) (fun i P=>?_)
 refine uDC Try.f27 1 6 (pe:=i) (fun B X=>?_)
 refine uDC Try.f27 1 7 (pe:=zh) (fun j Q=>?_)
 refine uDC Try.f27 1 8 (pe:=j) (fun C Y=>?_)
 refine uD Try.f27 1 9 (pe:=zh) (fun R D=>?_)
 refine uD Try.f27 1 10 (pe:=zh) (fun w E=>?_)
 refine uD Try.f27 1 11 (pe:=zh) (fun x F=>?_)
 refine uD Try.f27 1 12 (pe:=zh) (fun f G=>?_)
 refine uP Try.f27 1 13 (v:=f) (pe:=zh) ?_
 kernel_rfl
theorem jo.rs:type_of% (aeA @jo.r0 (@jo.r1)):=aeA @jo.r0 (@jo.r1)
theorem jo.runs {b c:Value} {S d:zu} {e:AEx} {T:List Value} (h:zF zi O false jo.code ([b,c,zh,zh,zh,zh,zh,zh,zh,zh,zh,zh,zh,zh,zh,zh,zh,zh]) zu.empty=some (e,T,d)) (he:e=.normal∨e=.ret) (hca:[b,c].all (zZ 16)=true) (hcv:zZ 16 (T.getD 4 zh)=true):zT zi O 27 [b,c] S=some (T.getD 4 zh,S) :=
 YB rfl rfl Try.func27 (by decide) jo.body (by exact h) he (jI (a:=T.getD 4 zh) ((show zH zi T d Try.f27.results.toList=zH zi T d [(ResultVar.tmp 4)] from by kernel_rfl).trans (by simp only [zH])) (by kernel_rfl)) hca hcv
end Go.Proofs.Ytacbgjhmkhjpoaa
namespace Go.Proofs.Ytacbgjhmkhjpoaa
open Go.Abs
abbrev zC.id:FuncId:=33
noncomputable def zC.code:Code:=(.seq (.region 0 (reg Try.f33 0) false) (.seq (.region 1 (reg Try.f33 1) false) (.seq (.region 2 (reg Try.f33 2) false) (.seq (.seq (.region 3 (reg Try.f33 3) false) (.cond (.tmp 11) (.seq (.seq (.region 4 (reg Try.f33 4) false) (.cond (.tmp 12) (.seq (.region 5 (reg Try.f33 5) false) Code.ret) Code.skip)) (.seq (.region 6 (reg Try.f33 6) false) Code.ret)) Code.skip)) (.seq (.seq (.region 7 (reg Try.f33 7) false) (.cond (.tmp 13) (.seq (.region 8 (reg Try.f33 8) false) Code.ret) Code.skip)) (.seq (.seq (.region 9 (reg Try.f33 9) false) (.cond (.tmp 16) (.seq (.region 10 (reg Try.f33 10) false) Code.ret) Code.skip)) (.seq (.seq (.region 11 (reg Try.f33 11) false) (.cond (.tmp 19) (.seq (.region 12 (reg Try.f33 12) false) Code.ret) Code.skip)) (.seq (.region 13 (reg Try.f33 13) false) Code.ret))))))))
theorem zC.body:Try.f33.body=some zC.code:=by kernel_rfl
variable (n o q r w s p t u v b c d f g i j k l m:Value) (S:zu)
theorem zC.r0 :ji zi ⟨false,false,false⟩ (zT zi O) (reg Try.f33 0) (reg Try.f33 0).toList ([n,o,q,r,w,s,p,t,u,v,b,c,d,f,g,i,j,k,l,m]) S =
  ( some ([n,o,q,r,.int .i64 0,s,p,t,u,v,b,c,d,f,g,i,j,k,l,m],S)):=by
 kernel_rfl
theorem zC.r1 :ji zi ⟨false,false,false⟩ (zT zi O) (reg Try.f33 1) (reg Try.f33 1).toList ([n,o,q,r,w,s,p,t,u,v,b,c,d,f,g,i,j,k,l,m]) S =
  (zW ((zT zi O) 37 [(dem (dem n))] S) (fun y x=>some ([n,o,q,r,w,y,p,dem n,dem y,v,b,c,d,f,g,i,j,k,l,m],x)) ()):=by
 kernel_rfl
theorem zC.r2 :ji zi ⟨false,false,false⟩ (zT zi O) (reg Try.f33 2) (reg Try.f33 2).toList ([n,o,q,r,w,s,p,t,u,v,b,c,d,f,g,i,j,k,l,m]) S =
  (zW ((zT zi O) 37 [(dem (dem o))] S) (fun y x=>some ([n,o,q,r,w,s,y,t,u,dem o,dem y,c,d,f,g,i,j,k,l,m],x)) ()):=by
 kernel_rfl
theorem zC.r3 :ji zi ⟨false,false,false⟩ (zT zi O) (reg Try.f33 3) (reg Try.f33 3).toList ([n,o,q,r,w,s,p,t,u,v,b,c,d,f,g,i,j,k,l,m]) S =
  ( some ([n,o,q,r,w,s,p,t,u,v,b,dem s,d,f,g,i,j,k,l,m],S)):=by
 kernel_rfl
theorem zC.r4 :ji zi ⟨false,false,false⟩ (zT zi O) (reg Try.f33 4) (reg Try.f33 4).toList ([n,o,q,r,w,s,p,t,u,v,b,c,d,f,g,i,j,k,l,m]) S =
  ( some ([n,o,q,r,w,s,p,t,u,v,b,c,dem p,f,g,i,j,k,l,m],S)):=by
 kernel_rfl
theorem zC.r5 :ji zi ⟨false,false,false⟩ (zT zi O) (reg Try.f33 5) (reg Try.f33 5).toList ([n,o,q,r,w,s,p,t,u,v,b,c,d,f,g,i,j,k,l,m]) S =
  ( some ([n,o,q,r,.int .i64 0,s,p,t,u,v,b,c,d,f,g,i,j,k,l,m],S)):=by
 kernel_rfl
theorem zC.r6 :ji zi ⟨false,false,false⟩ (zT zi O) (reg Try.f33 6) (reg Try.f33 6).toList ([n,o,q,r,w,s,p,t,u,v,b,c,d,f,g,i,j,k,l,m]) S =
  ( some ([n,o,q,r,.int .i64 (-1),s,p,t,u,v,b,c,d,f,g,i,j,k,l,m],S)):=by
 kernel_rfl
theorem zC.r7 :ji zi ⟨false,false,false⟩ (zT zi O) (reg Try.f33 7) (reg Try.f33 7).toList ([n,o,q,r,w,s,p,t,u,v,b,c,d,f,g,i,j,k,l,m]) S =
  ( some ([n,o,q,r,w,s,p,t,u,v,b,c,d,dem p,g,i,j,k,l,m],S)):=by
 kernel_rfl
theorem zC.r8 :ji zi ⟨false,false,false⟩ (zT zi O) (reg Try.f33 8) (reg Try.f33 8).toList ([n,o,q,r,w,s,p,t,u,v,b,c,d,f,g,i,j,k,l,m]) S =
  ( some ([n,o,q,r,.int .i64 1,s,p,t,u,v,b,c,d,f,g,i,j,k,l,m],S)):=by
 kernel_rfl
theorem zC.r9 :ji zi ⟨false,false,false⟩ (zT zi O) (reg Try.f33 9) (reg Try.f33 9).toList ([n,o,q,r,w,s,p,t,u,v,b,c,d,f,g,i,j,k,l,m]) S =
  (zW (yU zi BinOp.lss 3 (dem n) (dem o) S) (fun z x=>some ([n,o,q,r,w,s,p,t,u,v,b,c,d,f,dem n,dem o,z,k,l,m],x)) ()):=by
 kernel_rfl
theorem zC.r10 :ji zi ⟨false,false,false⟩ (zT zi O) (reg Try.f33 10) (reg Try.f33 10).toList ([n,o,q,r,w,s,p,t,u,v,b,c,d,f,g,i,j,k,l,m]) S =
  ( some ([n,o,q,r,.int .i64 (-1),s,p,t,u,v,b,c,d,f,g,i,j,k,l,m],S)):=by
 kernel_rfl
theorem zC.r11 :ji zi ⟨false,false,false⟩ (zT zi O) (reg Try.f33 11) (reg Try.f33 11).toList ([n,o,q,r,w,s,p,t,u,v,b,c,d,f,g,i,j,k,l,m]) S =
  (zW (yU zi BinOp.gtr 3 (dem n) (dem o) S) (fun z x=>some ([n,o,q,r,w,s,p,t,u,v,b,c,d,f,g,i,j,dem n,dem o,z],x)) ()):=by
 kernel_rfl
theorem zC.r12 :ji zi ⟨false,false,false⟩ (zT zi O) (reg Try.f33 12) (reg Try.f33 12).toList ([n,o,q,r,w,s,p,t,u,v,b,c,d,f,g,i,j,k,l,m]) S =
  ( some ([n,o,q,r,.int .i64 1,s,p,t,u,v,b,c,d,f,g,i,j,k,l,m],S)):=by
 kernel_rfl
theorem zC.r13 :ji zi ⟨false,false,false⟩ (zT zi O) (reg Try.f33 13) (reg Try.f33 13).toList ([n,o,q,r,w,s,p,t,u,v,b,c,d,f,g,i,j,k,l,m]) S =
  ( some ([n,o,q,r,.int .i64 0,s,p,t,u,v,b,c,d,f,g,i,j,k,l,m],S)):=by
 kernel_rfl
theorem zC.rs:type_of% (aeA @zC.r0 (aeA @zC.r1 (aeA @zC.r2 (aeA @zC.r3 (aeA @zC.r4 (aeA @zC.r5 (aeA @zC.r6 (aeA @zC.r7 (aeA @zC.r8 (aeA @zC.r9 (aeA @zC.r10 (aeA @zC.r11 (aeA @zC.r12 (@zC.r13)))))))))))))):=aeA @zC.r0 (aeA @zC.r1 (aeA @zC.r2 (aeA @zC.r3 (aeA @zC.r4 (aeA @zC.r5 (aeA @zC.r6 (aeA @zC.r7 (aeA @zC.r8 (aeA @zC.r9 (aeA @zC.r10 (aeA @zC.r11 (aeA @zC.r12 (@zC.r13)))))))))))))
theorem zC.runs {n o:Value} {S x:zu} {e:AEx} {T:List Value} (h:zF zi O false zC.code ([n,o,zh,zh,zh,zh,zh,zh,zh,zh,zh,zh,zh,zh,zh,zh,zh,zh,zh,zh]) S=some (e,T,x)) (he:e=.normal∨e=.ret):zT zi O 33 [n,o] S=some (T.getD 4 zh,x) :=
 jF rfl rfl Try.func33 (by decide) zC.body (by exact h) he (jI (a:=T.getD 4 zh) ((show zH zi T x Try.f33.results.toList=zH zi T x [(ResultVar.tmp 4)] from by kernel_rfl).trans (by simp only [zH])) (by kernel_rfl))
end Go.Proofs.Ytacbgjhmkhjpoaa
namespace Go.Proofs.Ytacbgjhmkhjpoaa
open Go.Abs
abbrev zS.id:FuncId:=32
noncomputable def zS.jm:Code:=(.seq (.region 3 (reg Try.f32 3) false) (.seq (.cond (.tmp 9) Code.skip (.exit 0)) (.seq (.block 1 (.seq (.region 4 (reg Try.f32 4) false) (.seq (.region 5 (reg Try.f32 5) false) (.cond (.tmp 14) (.seq (.region 6 (reg Try.f32 6) false) Code.ret) Code.skip)))) (.region 7 (reg Try.f32 7) false))))
noncomputable def zS.code:Code:=(.seq (.region 0 (reg Try.f32 0) false) (.seq (.region 1 (reg Try.f32 1) false) (.seq (.seq (.region 2 (reg Try.f32 2) false) (.block 0 (.loop zS.jm))) (.seq (.region 8 (reg Try.f32 8) false) Code.ret))))
theorem zS.body:Try.f32.body=some zS.code:=by kernel_rfl
theorem zS.eta {T:List Value} (h:T.length=18):T=[T.getD 0 zh,T.getD 1 zh,T.getD 2 zh,T.getD 3 zh,T.getD 4 zh,T.getD 5 zh,T.getD 6 zh,T.getD 7 zh,T.getD 8 zh,T.getD 9 zh,T.getD 10 zh,T.getD 11 zh,T.getD 12 zh,T.getD 13 zh,T.getD 14 zh,T.getD 15 zh,T.getD 16 zh,T.getD 17 zh]:=(ku T 18 h).trans (by kernel_rfl)
variable (l p u m q n r s o t b c d f g i j k:Value) (S:zu)
theorem zS.r0 :ji zi ⟨false,false,false⟩ (zT zi O) (reg Try.f32 0) (reg Try.f32 0).toList ([l,p,u,m,q,n,r,s,o,t,b,c,d,f,g,i,j,k]) S =
  ( some ([l,p,.int .i64 0,m,q,n,r,s,o,t,b,c,d,f,g,i,j,k],S)):=by
 kernel_rfl
theorem zS.r1 :ji zi ⟨false,false,false⟩ (zT zi O) (reg Try.f32 1) (reg Try.f32 1).toList ([l,p,u,m,q,n,r,s,o,t,b,c,d,f,g,i,j,k]) S =
  ( some ([l,p,u,.int .i64 0,q,n,r,s,o,t,b,c,d,f,g,i,j,k],S)):=by
 kernel_rfl
theorem zS.r2 :ji zi ⟨false,false,false⟩ (zT zi O) (reg Try.f32 2) (reg Try.f32 2).toList ([l,p,u,m,q,n,r,s,o,t,b,c,d,f,g,i,j,k]) S =
  (zW (Zp zi 38 (dem l) S) (fun x v=>some ([l,p,u,m,q,n,dem l,x,.int .i64 0,t,b,c,d,f,g,i,j,k],v)) ()):=by
 kernel_rfl
theorem zS.r3 :ji zi ⟨false,false,false⟩ (zT zi O) (reg Try.f32 3) (reg Try.f32 3).toList ([l,p,u,m,q,n,r,s,o,t,b,c,d,f,g,i,j,k]) S =
  (zW (yU zi BinOp.lss 3 o s S) (fun w v=>some ([l,p,u,m,q,n,r,s,o,w,b,c,d,f,g,i,j,k],v)) ()):=by
 kernel_rfl
theorem zS.r4 :ji zi ⟨false,false,false⟩ (zT zi O) (reg Try.f32 4) (reg Try.f32 4).toList ([l,p,u,m,q,n,r,s,o,t,b,c,d,f,g,i,j,k]) S =
  (zW (jc zi 38 r o S) (fun w v=>zW (jk zi false 3 w v) (fun x y=>some ([l,p,u,m,q,x,r,s,o,t,w,dem x,d,f,g,i,j,k],y)) ()) ()):=by
 kernel_rfl
theorem zS.r5 :ji zi ⟨false,false,false⟩ (zT zi O) (reg Try.f32 5) (reg Try.f32 5).toList ([l,p,u,m,q,n,r,s,o,t,b,c,d,f,g,i,j,k]) S =
  (zW (yU zi BinOp.neq 3 (dem n) (dem m) S) (fun z v=>some ([l,p,u,m,q,n,r,s,o,t,b,c,dem n,dem m,z,i,j,k],v)) ()):=by
 kernel_rfl
theorem zS.r6 :ji zi ⟨false,false,false⟩ (zT zi O) (reg Try.f32 6) (reg Try.f32 6).toList ([l,p,u,m,q,n,r,s,o,t,b,c,d,f,g,i,j,k]) S =
  ( some ([l,p,n,m,q,dem n,r,s,o,t,b,c,d,f,g,dem n,j,k],S)):=by
 kernel_rfl
theorem zS.r7 :ji zi ⟨false,false,false⟩ (zT zi O) (reg Try.f32 7) (reg Try.f32 7).toList ([l,p,u,m,q,n,r,s,o,t,b,c,d,f,g,i,j,k]) S =
  (zW (yU zi BinOp.add 3 o (.int .i64 1) S) (fun w v=>some ([l,p,u,m,q,n,r,s,dem w,t,b,c,d,f,g,i,w,k],v)) ()):=by
 kernel_rfl
theorem zS.r8 :ji zi ⟨false,false,false⟩ (zT zi O) (reg Try.f32 8) (reg Try.f32 8).toList ([l,p,u,m,q,n,r,s,o,t,b,c,d,f,g,i,j,k]) S =
  ( some ([l,p,m,dem m,q,n,r,s,o,t,b,c,d,f,g,i,j,dem m],S)):=by
 kernel_rfl
theorem zS.rs:type_of% (aeA @zS.r0 (aeA @zS.r1 (aeA @zS.r2 (aeA @zS.r3 (aeA @zS.r4 (aeA @zS.r5 (aeA @zS.r6 (aeA @zS.r7 (@zS.r8))))))))):=aeA @zS.r0 (aeA @zS.r1 (aeA @zS.r2 (aeA @zS.r3 (aeA @zS.r4 (aeA @zS.r5 (aeA @zS.r6 (aeA @zS.r7 (@zS.r8))))))))
theorem zS.runs {l:Value} {S v:zu} {e:AEx} {T:List Value} (h:zF zi O false zS.code ([l,zh,zh,zh,zh,zh,zh,zh,zh,zh,zh,zh,zh,zh,zh,zh,zh,zh]) S=some (e,T,v)) (he:e=.normal∨e=.ret):zT zi O 32 [l] S=some (T.getD 2 zh,v) :=
 jF rfl rfl Try.func32 (by decide) zS.body (by exact h) he (jI (a:=T.getD 2 zh) ((show zH zi T v Try.f32.results.toList=zH zi T v [(ResultVar.tmp 2)] from by kernel_rfl).trans (by simp only [zH])) (by kernel_rfl))
end Go.Proofs.Ytacbgjhmkhjpoaa
namespace Go.Proofs.Ytacbgjhmkhjpoaa
open Go.Abs
abbrev jg.id:FuncId:=37
noncomputable def jg.code:Code:=(.seq (.region 0 (reg Try.f37 0) false) (.seq (.region 1 (reg Try.f37 1) false) Code.ret))
theorem jg.body:Try.f37.body=some jg.code:=by kernel_rfl
variable (b d j f g i:Value) (S:zu)
theorem jg.r0 :ji zi ⟨false,false,false⟩ (zT zi O) (reg Try.f37 0) (reg Try.f37 0).toList ([b,d,j,f,g,i]) S =
  ( some ([b,d,Value.bool false,f,g,i],S)):=by
 kernel_rfl
theorem jg.r1 :ji zi ⟨false,false,false⟩ (zT zi O) (reg Try.f37 1) (reg Try.f37 1).toList ([b,d,j,f,g,i]) S =
  (zW (yU zi BinOp.neq 3 (dem b) (dem b) S) (fun k c=>some ([b,d,k,dem b,dem b,dem k],c)) ()):=by
 kernel_rfl
theorem jg.rs:type_of% (aeA @jg.r0 (@jg.r1)):=aeA @jg.r0 (@jg.r1)
theorem jg.runs {b:Value} {S c:zu} {e:AEx} {T:List Value} (h:zF zi O false jg.code ([b,zh,zh,zh,zh,zh]) S=some (e,T,c)) (he:e=.normal∨e=.ret):zT zi O 37 [b] S=some (T.getD 2 zh,c) :=
 jF rfl rfl Try.func37 (by decide) jg.body (by exact h) he (jI (a:=T.getD 2 zh) ((show zH zi T c Try.f37.results.toList=zH zi T c [(ResultVar.tmp 2)] from by kernel_rfl).trans (by simp only [zH])) (by kernel_rfl))
end Go.Proofs.Ytacbgjhmkhjpoaa
namespace Go.Proofs.Ytacbgjhmkhjpoaa
open Go.Abs
structure TxV where
 id:Int
 fee:Int
 deriving DecidableEq
def fT (t:TxV):List Value:=[.int .i64 t.id,.int .i64 t.fee]
abbrev tv (t:TxV):Value:=.agg [Value.int .i64 t.id,.int .i64 t.fee].toArray
structure TxV.Ok (t:TxV):Prop where
 id:-9223372036854775808≤t.id∧t.id < 9223372036854775808
 fee:-9223372036854775808≤t.fee∧t.fee < 9223372036854775808
def YV (t:TxV):Bool:=decide (1≤t.id) && decide (t.id≤1000000) && decide (0≤t.fee) && decide (t.fee≤1000)
def ZI (a b:TxV):Bool:=if a.fee=b.fee then decide (a.id < b.id) else decide (b.fee < a.fee)
abbrev mem1 (t:TxV):zu:=zu.empty.push (.cells [Value.int .i64 t.id,.int .i64 t.fee] (.own []) 0)
theorem box1 (t:TxV):Jg (tv t) zu.empty=some (.pointer (some ⟨0,0,none⟩),mem1 t):=rfl
theorem QF (t:TxV):(mem1 t).get 0=some (.cells [Value.int .i64 t.id,.int .i64 t.fee] (.own []) 0):=rfl
theorem jB.v (t:TxV) (S:zu):zT zi O jB.id [tv t] S=some (.bool (YV t),S):=by
 obtain ⟨T,hTe⟩:∃ T,T=(tv t::zh::zh::zh::zh::zh::zh::zh::zh::zh::zh::zh::zh::zh::zh::zh::zh::zh::zh::zh::zh::[]):=⟨_,rfl⟩
 have hr:zF zi O false jB.code T zu.empty=zF zi O false jB.code T zu.empty:=rfl
 have l0:=qK (t:=3) (o:=0+0) (QF t) Yg rfl
 have l1:=qK (t:=3) (o:=0+1) (QF t) Yg rfl
 by_cases h1:1≤t.id <;> by_cases h2:t.id≤1000000 <;> by_cases h3:0≤t.fee <;> by_cases h4:t.fee≤1000
 all_goals
  conv at hr =>
   rhs
   rw [hTe]
   simp only [jB.code,jB.rs,zSs,reduceIte,zk,zn,zo,zq,box1,y9,ZQ,l0,l1,h1,h2,h3,h4]
  rw [hTe] at hr
  simp only [YV,h1,h2,h3,h4,decide_true,decide_false,Bool.and_true,Bool.and_false,Bool.false_and]
  exact jB.runs hr (.inr rfl) rfl rfl
def ac0 (a b:Int):Int:=if a < b then -1 else if b < a then 1 else 0
theorem jg.v (a:Int) (S:zu):zT zi O jg.id [.int .i64 a] S=some (.bool false,S):=by
 obtain ⟨T,hTe⟩:∃ T,T=(.int .i64 a::zh::zh::zh::zh::zh::[]):=⟨_,rfl⟩
 have hr:zF zi O false jg.code T S=zF zi O false jg.code T S:=rfl
 conv at hr =>
  rhs
  rw [hTe]
  simp only [jg.code,jg.rs,zSs,reduceIte,zk,zn,zo,zq,bne_self_eq_false,ne_eq,not_true_eq_false,Bool.not_true]
 rw [hTe] at hr
 exact jg.runs hr (.inr rfl)
theorem zC.v (a b:Int) (S:zu):zT zi O zC.id [.int .i64 a,.int .i64 b] S=some (.int .i64 (ac0 a b),S):=by
 obtain ⟨T,hTe⟩:∃ T,T=(.int .i64 a::.int .i64 b::zh::zh::zh::zh::zh::zh::zh::zh::zh::zh::zh::zh::zh::zh::zh::zh::zh::zh::[]):=⟨_,rfl⟩
 have hr:zF zi O false zC.code T S=zF zi O false zC.code T S:=rfl
 by_cases h1:a < b <;> by_cases h2:b < a
 all_goals
  conv at hr =>
   rhs
   rw [hTe]
   simp only [zC.code,zC.rs,zSs,reduceIte,zk,zn,zo,zq,jg.v,h1,h2]
  rw [hTe] at hr
  simp only [ac0,h1,h2,if_true,if_false]
  exact zC.runs hr (.inr rfl)
def abW:List Int→Int
 | []=>0
 | x::l=>if x=0 then abW l else x
theorem zS.round {k:Nat} {l:List Int} (hk:Okl k l) (hl:l.length≤17592186044416) {S:zu}:∀ (suf pre:List Int) {T:List Value} {r:St},yT (zF zi O false zS.jm) T S=r→T.length=18→T.getD 3 zh=.int .i64 0 →
  T.getD 6 zh=iz k l→T.getD 7 zh=.int .i64 l.length→T.getD 8 zh=.int .i64 pre.length→l=pre++suf →
  ∃ e T',r=some (e,T',S)∧if abW suf=0 then e=.exit 0∧T'.length=18∧T'.getD 3 zh=.int .i64 0 else e=.ret∧T'.getD 2 zh=.int .i64 (abW suf):=by
 intro suf
 induction suf with
 | nil =>
  intro pre T r hL hT h3 h6 h7 h8 hpre
  have hTe:=zS.eta hT
  rw [h3,h6,h7,h8] at hTe
  have hr:zF zi O false zS.jm T S=zF zi O false zS.jm T S:=rfl
  have d1:¬ (pre.length:Int) < (l.length:Int):=by rw [hpre];simp
  conv at hr =>
   rhs
   rw [hTe]
   simp only [zS.jm,zS.code,zS.rs,zSs,reduceIte,zk,zn,zo,zq,d1]
  exact ⟨_,_,hL.symm.trans (wu hr (by simp)),rfl,rfl,rfl⟩
 | cons x suf ih =>
  intro pre T r hL hT h3 h6 h7 h8 hpre
  have hTe:=zS.eta hT
  rw [h3,h6,h7,h8] at hTe
  have hr:zF zi O false zS.jm T S=zF zi O false zS.jm T S:=rfl
  have d1:(pre.length:Int) < (l.length:Int):=by rw [hpre];simp;omega
  have e1:∀ S,jc zi 38 (iz k l) (.int .i64 pre.length) S=some (EP [.int .i64 x],S):=fun S=>by
   rw [adQ hk (by omega) d1];rw [Yi hpre]
  have wi:IntKind.i64.wrap ((pre.length:Int)+1)=((pre++[x]).length:Int):=by rw [wrap_i64 (by omega) (by omega)];simp
  by_cases h1:x=0
  ·
   conv at hr =>
    rhs
    rw [hTe]
    simp only [zS.jm,zS.code,zS.rs,zSs,reduceIte,zk,zn,zo,zq,d1,e1,J6,h1,wi,not_true_eq_false,ne_eq]
   subst h1
   obtain ⟨e,T',g1,g2⟩:=ih (pre++[0]) ((yx hr).symm.trans hL) rfl rfl rfl rfl rfl (by simp [hpre])
   exact ⟨e,T',g1,g2⟩
  ·
   conv at hr =>
    rhs
    rw [hTe]
    simp only [zS.jm,zS.code,zS.rs,zSs,reduceIte,zk,zn,zo,zq,d1,e1,J6,h1,wi,not_false_eq_true,ne_eq]
   refine ⟨_,_,hL.symm.trans (wu hr (by simp)),?_⟩
   have ho:abW (x::suf)=x:=if_neg h1
   rw [ho,if_neg h1]
   exact ⟨rfl,rfl⟩
theorem zS.v {k:Nat} {l:List Int} (hk:Okl k l) (k2:k≠2) (hl:l.length≤17592186044416) (S:zu):zT zi O zS.id [iz k l] S=some (.int .i64 (abW l),S):=by
 obtain ⟨T,hTe⟩:∃ T,T=(iz k l::zh::zh::zh::zh::zh::zh::zh::zh::zh::zh::zh::zh::zh::zh::zh::zh::zh::[]):=⟨_,rfl⟩
 have hr:zF zi O false zS.code T S=zF zi O false zS.code T S:=rfl
 conv at hr =>
  rhs
  rw [hTe]
  simp only [zS.code,zS.rs,zSs,reduceIte,zk,zn,zo,zq,if_neg k2,aby hk,goInt]
 generalize hL:yT (zF zi O false zS.jm) _ _=r at hr
 obtain ⟨e,T',rfl,g⟩:=zS.round hk hl l [] hL rfl rfl rfl rfl rfl rfl
 by_cases h:abW l=0
 ·
  rw [if_pos h] at g
  obtain ⟨rfl,g2,g3⟩:=g
  have hTe':=zS.eta g2
  rw [g3] at hTe'
  conv at hr =>
   rhs
   rw [hTe']
   simp only [zS.code,zS.rs,zSs,reduceIte,zk,zn,zo,zq]
  rw [hTe] at hr
  rw [h]
  exact zS.runs hr (.inr rfl)
 ·
  rw [if_neg h] at g
  obtain ⟨rfl,g2⟩:=g
  conv at hr =>
   rhs
   simp only [zSs,reduceIte,zk,zn,zo,zq]
  rw [hTe] at hr
  have hrun:=zS.runs hr (.inr rfl)
  rw [g2] at hrun
  exact hrun
theorem aed (x y:Int):sv 2 1 2 [.int .i64 x,.int .i64 y]=iz 2 [x,y]:=rfl
abbrev mem2 (a b:TxV):zu:=(mem1 a).push (.cells [Value.int .i64 b.id,.int .i64 b.fee] (.own []) 0)
theorem aev (a b:TxV):Jg (tv b) (mem1 a)=some (.pointer (some ⟨1,0,none⟩),mem2 a b):=by kernel_rfl
theorem XY (a b:TxV):(mem2 a b).get 0=some (.cells [Value.int .i64 a.id,.int .i64 a.fee] (.own []) 0):=by kernel_rfl
theorem aaz (a b:TxV):(mem2 a b).get 1=some (.cells [Value.int .i64 b.id,.int .i64 b.fee] (.own []) 0):=by kernel_rfl
theorem acU (a b:TxV):decide (abW [ac0 b.fee a.fee,ac0 a.id b.id] < 0)=ZI a b:=by
 unfold ZI
 simp only [abW,ac0]
 by_cases h1:b.fee < a.fee
 ·
  rw [if_neg (show ¬ a.fee=b.fee by omega)];simp [h1]
 ·
  by_cases h2:a.fee < b.fee
  ·
   rw [if_neg (show ¬ a.fee=b.fee by omega)];simp [h1,h2]
  ·
   rw [if_pos (show a.fee=b.fee by omega)]
   simp only [h1,h2,if_false,if_true]
   by_cases h3:a.id < b.id
   ·
    simp [h3]
   ·
    by_cases h4:b.id < a.id
    ·
     simp [h3,h4]
    ·
     simp [h3,h4]
theorem jo.v (a b:TxV) (S:zu):zT zi O jo.id [tv a,tv b] S=some (.bool (ZI a b),S):=by
 obtain ⟨T,hTe⟩:∃ T,T=(tv a::tv b::zh::zh::zh::zh::zh::zh::zh::zh::zh::zh::zh::zh::zh::zh::zh::zh::[]):=⟨_,rfl⟩
 have hr:zF zi O false jo.code T zu.empty=zF zi O false jo.code T zu.empty:=rfl
 have l00:=qK (t:=3) (o:=0+0) (XY a b) Yg rfl
 have l01:=qK (t:=3) (o:=0+1) (XY a b) Yg rfl
 have l10:=qK (t:=3) (o:=0+0) (aaz a b) Yg rfl
 have l11:=qK (t:=3) (o:=0+1) (aaz a b) Yg rfl
 have q0:=ZW (o:=0+0) (XY a b)
 have q1:=ZW (o:=0+0) (aaz a b)
 have c1:=fun S=>zS.v (l:=[ac0 b.fee a.fee,ac0 a.id b.id]) Okl.read (by decide) (by simp) S
 conv at hr =>
  rhs
  rw [hTe]
  simp only [jo.code,jo.rs,zSs,reduceIte,zk,zn,zo,zq,box1,aev,y9,ZQ,l00,l01,l10,l11,zC.v,Xr,aed,c1,acU,q0,q1]
 rw [hTe] at hr
 exact jo.runs hr (.inr rfl) rfl rfl
end Go.Proofs.Ytacbgjhmkhjpoaa
namespace Go.Proofs.Ytacbgjhmkhjpoaa
open Go.Abs
theorem JI {g:FuncId} {v c:Value} {S:zu}:aem (zT zi O) (.func (Fn.func g) #[] #[c]) [v] S=zT zi O g [v,c] S:=rfl
theorem xK (t:TxV):(fT t).length=2:=rfl
theorem aac (t:TxV):(fT t).all (·.oneCell')=true:=rfl
theorem adn (w:TxV):(fT w).map qg=fT w:=rfl
section
variable {l:List TxV} {p:TxV→Bool} {g:FuncId} {c:Value} {K:zu→Prop}
theorem slices_IndexFunc.ado {k:Nat} (hv:Okl k l) (hk:k≠2) (hlen:l.length≤17592186044416) (hp:∀ S x,K S→x ∈ l→∃ S1,zT zi O g [tv x,c] S=some (.bool (p x),S1)∧Ext S S1∧S1.log=S.log) (hK:∀ S S1,K S→Ext S S1→K S1):∀ (suf pre:List TxV) {T:List Value} {r:St} {S:zu},yT (zF zi O false slices_IndexFunc.jm) T S=r→T.length=19→K S →
  T.getD 0 zh=vs fT 2 k l→T.getD 1 zh=.func (Fn.func g) #[] #[c]→T.getD 7 zh=.int .i64 l.length→T.getD 8 zh=.int .i64 pre.length→l=pre++suf →
  ∃ e T' S',r=some (e,T',S')∧Ext S S'∧S'.log=S.log∧if suf.any p then e=.ret∧T'.getD 4 zh=.int .i64 (idxFrom p pre.length suf) else e=.exit 0∧T'.length=19:=by
 intro suf
 induction suf with
 | nil =>
  intro pre T r S hL hT hS h0 h1 h7 h8 hl
  have hTe:=slices_IndexFunc.eta hT
  rw [h0,h1,h7,h8] at hTe
  have hr:zF zi O false slices_IndexFunc.jm T S=zF zi O false slices_IndexFunc.jm T S:=rfl
  have hd:¬ (pre.length:Int) < (l.length:Int):=by rw [hl];simp
  conv at hr =>
   rhs
   rw [hTe]
   simp only [slices_IndexFunc.jm,slices_IndexFunc.code,slices_IndexFunc.rs,zSs,reduceIte,zk,zn,zo,zq,hd]
  exact ⟨_,_,_,hL.symm.trans (wu hr (by simp)),Ext.refl _,rfl,rfl,rfl⟩
 | cons x suf ih =>
  intro pre T r S hL hT hS h0 h1 h7 h8 hl
  have hTe:=slices_IndexFunc.eta hT
  rw [h0,h1,h7,h8] at hTe
  have hr:zF zi O false slices_IndexFunc.jm T S=zF zi O false slices_IndexFunc.jm T S:=rfl
  have hd:(pre.length:Int) < (l.length:Int):=by rw [hl];simp;omega
  have e1:∀ S,jc zi 23 (vs fT 2 k l) (.int .i64 pre.length) S=some (EP (fT x),S):=fun S=>by
   rw [acB je jJ xK hv (by omega) hd,abE hl]
  have l1:∀ S,jk zi false 30 (EP (fT x)) S=some (tv x,S):=fun S=>Yu Zo jJ rfl
  have wi:IntKind.i64.wrap ((pre.length:Int)+1)=((pre++[x]).length:Int):=by rw [wrap_i64 (by omega) (by omega)];simp
  obtain ⟨S1,p1,x1,g1⟩:=hp S x hS (by rw [hl];simp)
  rw [List.any_cons,idxFrom]
  cases hx:p x with
  | true =>
   rw [hx] at p1
   conv at hr =>
    rhs
    rw [hTe]
    simp only [slices_IndexFunc.jm,slices_IndexFunc.code,slices_IndexFunc.rs,zSs,reduceIte,zk,zn,zo,zq,qM,JI,if_neg hk,hd,e1,l1,p1]
   refine ⟨_,_,_,hL.symm.trans (wu hr (by simp)),x1,g1,?_⟩
   rw [Bool.true_or]
   exact ⟨rfl,rfl⟩
  | false =>
   rw [hx] at p1
   conv at hr =>
    rhs
    rw [hTe]
    simp only [slices_IndexFunc.jm,slices_IndexFunc.code,slices_IndexFunc.rs,zSs,reduceIte,zk,zn,zo,zq,qM,JI,if_neg hk,hd,e1,l1,p1,wi]
   obtain ⟨e,T',S',q1,q2,q3,q4⟩:=ih (pre++[x]) ((yx hr).symm.trans hL) rfl (hK _ _ hS x1) rfl rfl rfl rfl (by simp [hl])
   refine ⟨e,T',S',q1,x1.trans q2,q3.trans g1,?_⟩
   rw [Bool.false_or]
   rw [show (((pre++[x]).length:Nat):Int)=(pre.length:Int)+1 by simp] at q4
   exact q4
theorem slices_IndexFunc.vC {k:Nat} (hv:Okl k l) (hk:k≠2) (hlen:l.length≤17592186044416) (hp:∀ S x,K S→x ∈ l→∃ S1,zT zi O g [tv x,c] S=some (.bool (p x),S1)∧Ext S S1∧S1.log=S.log) (hK:∀ S S1,K S→Ext S S1→K S1) {S:zu} (hS:K S) :
  ∃ S1,zT zi O slices_IndexFunc.id [vs fT 2 k l,.func (Fn.func g) #[] #[c]] S=some (.int .i64 (idxFrom p 0 l),S1)∧Ext S S1∧S1.log=S.log:=by
 obtain ⟨T,hTe⟩:∃ T,T=(vs fT 2 k l::.func (Fn.func g) #[] #[c]::zh::zh::zh::zh::zh::zh::zh::zh::zh::zh::zh::zh::zh::zh::zh::zh::zh::[]):=⟨_,rfl⟩
 have hr:zF zi O false slices_IndexFunc.code T S=zF zi O false slices_IndexFunc.code T S:=rfl
 have ln:=fun S=>V7 (P:=zi) (t:=23) (f:=fT) (e:=2) (S:=S) je hv
 conv at hr =>
  rhs
  rw [hTe]
  simp only [slices_IndexFunc.code,slices_IndexFunc.rs,zSs,reduceIte,zk,zn,zo,zq,qM,if_neg hk,ln,goInt]
 generalize hL:yT (zF zi O false slices_IndexFunc.jm) _ _=r at hr
 obtain ⟨e,T',S',rfl,x1,g1,q⟩:=slices_IndexFunc.ado hv hk hlen hp hK l [] hL rfl hS rfl rfl rfl rfl rfl
 cases h:l.any p with
 | true =>
  rw [h] at q
  obtain ⟨rfl,g2⟩:=q
  conv at hr =>
   rhs
   simp only [zSs,reduceIte,zk,zn,zo,zq]
  rw [hTe] at hr
  have hrun:=slices_IndexFunc.runs hr (.inr rfl)
  rw [g2] at hrun
  exact ⟨_,hrun,x1,g1⟩
 | false =>
  rw [h] at q
  obtain ⟨rfl,g2⟩:=q
  have hTe':=slices_IndexFunc.eta g2
  conv at hr =>
   rhs
   rw [hTe']
   simp only [slices_IndexFunc.code,slices_IndexFunc.rs,zSs,reduceIte,zk,zn,zo,zq]
  rw [hTe] at hr
  rw [Zq h]
  exact ⟨_,slices_IndexFunc.runs hr (.inr rfl),x1,g1⟩
end
end Go.Proofs.Ytacbgjhmkhjpoaa
namespace Go.Abs
variable {P:Program} {t:TypeId} {xs ys:Array Value} {d:Nat}
theorem vX (P:Program):jE P program=some P:=rfl
def FEq (P:Program) (d:Nat) (xs ys:Array Value):List Field→List Bool→Prop
 | [],[]=>True
 | f::fs,b::bs=>(f.name≠ "_"∧∃ v w,jE P (part f.type xs f.offset)=some v∧jE P (part f.type ys f.offset)=some w∧jE P (Op.equalIn d f.type v w)=some b)∧FEq P d xs ys fs bs
 | _,_=>False
theorem XZ {fs:List Field} (hu:P.underlying t=some (.struct fs.toArray)) (hs:P.stoodInHeld t=false) {bs:List Bool} (h:FEq P d xs ys fs bs):jE P (Op.equalIn (d+1) t (.agg xs) (.agg ys))=some (bs.all id):=by
 rw [Op.equalIn]
 simp only [jT,xH hu,Option.bind_some,vX,hs,Bool.false_eq_true,if_false,List.forIn_toArray]
 clear hu hs
 induction fs generalizing bs with
 | nil =>
  cases bs with
  | nil=>rfl
  | cons b bs=>exact absurd h id
 | cons f fs ih =>
  cases bs with
  | nil=>exact absurd h id
  | cons b bs =>
   obtain ⟨⟨h1,v,w,h2,h3,h4⟩,h5⟩:=h
   rw [List.forIn_cons]
   simp only [jT,if_pos h1,h2,h3,h4,Option.bind_some]
   cases b with
   | true =>
    simp only [Bool.not_true,Bool.false_eq_true,if_false,zY,Option.bind_some,List.all_cons,id,Bool.true_and]
    exact ih h5
   | false =>
    simp only [Bool.not_false,if_true,zY,Option.bind_some,List.all_cons,id,Bool.false_and]
theorem Xn {fs:List Field} {S:zu} (hu:P.underlying t=some (.struct fs.toArray)) (hs:P.stoodInHeld t=false) (hg:P.eqGuardType P.depth t=false) {bs:List Bool} (h:FEq P 9999 xs ys fs bs)
  (gx:ground (.agg xs)=true) (gy:ground (.agg ys)=true):yU P .eql t (.agg xs) (.agg ys) S=some (.bool (bs.all id),S)∧yU P .neq t (.agg xs) (.agg ys) S=some (.bool (!bs.all id),S):=by
 rw [QE,QE]
 have e:jE P (Op.equal t (.agg xs) (.agg ys))=some (bs.all id):=XZ hu hs h
 have g:jE P (eqGuard .eql t (.tmp 0) (.tmp 0) (.agg xs) (.agg ys))=some ():=by
  unfold eqGuard
  simp only [Bool.not_true,Bool.false_eq_true,if_false,jT,vX,Option.bind_some,hg,Bool.not_false,if_true]
  rfl
 have g':jE P (eqGuard .neq t (.tmp 0) (.tmp 0) (.agg xs) (.agg ys))=some ():=by
  unfold eqGuard
  simp only [Bool.not_true,Bool.false_eq_true,if_false,jT,vX,Option.bind_some,hg,Bool.not_false,if_true]
  rfl
 have ha:[Value.agg xs,.agg ys].all ground=true:=by simp [gx,gy]
 constructor
 ·
  unfold kM yh
  simp only [hu]
  show jq P [Value.agg xs,.agg ys] _ S=_
  refine jd ha ?_ rfl
  simp only [jT,g,Option.bind_some]
  unfold binOp
  simp only [jT,e,Option.bind_some,zY]
 ·
  unfold kM yh
  simp only [hu]
  show jq P [Value.agg xs,.agg ys] _ S=_
  refine jd ha ?_ rfl
  simp only [jT,g',Option.bind_some]
  unfold binOp
  simp only [jT,e,Option.bind_some,zY]
end Go.Abs
namespace Go.Proofs.Ytacbgjhmkhjpoaa
open Go.Abs
abbrev tl (k:Nat) (l:List TxV):Value:=vs fT 2 k l
theorem JB {k:Nat} {l:List TxV} {S:zu} (h:Okl k l):Zp zi 23 (tl k l) S=some (.int .i64 l.length,S):=V7 je h
theorem abV {k:Nat} {l pre suf:List TxV} {t:TxV} {S:zu} (h:Okl k l) (hl:l=pre++t::suf):jc zi 23 (tl k l) (.int .i64 pre.length) S=some (EP [.int .i64 t.id,.int .i64 t.fee],S):=by
 have h1:(pre.length:Int) < (l.length:Int):=by rw [hl];simp;omega
 rw [acB je jJ xK h (by omega) h1,abE hl];rfl
theorem acY {k:Nat} {l:List TxV} {t:TxV} {S:zu} (h:Okl k l) (hk:k≠1) (hl:l.length≤8796093022000):kC zi 23 23 (tl k l) (tl 2 [t]) S=some (tl 2 (l++[t]),S):=by
 rw [Vq je jJ aa7 rfl aaF (by omega) je xK aac h hk Okl.own (by simp;omega) (by simp;omega),if_neg (fun h=>by have:=h.2;simp at this)]
theorem aeb (S:zu):kT zi 30 S=some (.pointer (some ⟨S.next,0,none⟩),S.push (.cells (fT ⟨0,0⟩) (.own []) 0)):=by kernel_rfl
theorem aef (S:zu) (t:TxV):∃ S2,xB zi 30 (.pointer (some ⟨S.next,0,none⟩)) (tv t) (S.push (.cells (fT ⟨0,0⟩) (.own []) 0))=some (zh,S2)∧S2.get S.next=some (.cells (fT t) (.own []) 0)∧Ext S S2∧S.next < S2.next :=
 VT S (by rw [xP,List.toList_toArray];rfl) jJ rfl rfl
theorem aaj {S:zu} {q:Nat} {t:TxV} (h:S.get q=some (.cells (fT t) (.own []) 0)):jk zi false 30 (.pointer (some ⟨q,0,none⟩)) S=some (tv t,S):=V8 h
theorem Va {S:zu} {q:Nat} {t:TxV} (h:S.get q=some (.cells (fT t) (.own []) 0)):jk zi false 3 (.pointer (some ⟨q,0+0,none⟩)) S=some (.int .i64 t.id,S):=qK (t:=3) (o:=0+0) h Yg rfl
theorem TxV.ext_iff' {t u:TxV}:t=u ↔ t.id=u.id∧t.fee=u.fee:=by cases t;cases u;simp
theorem aeg (t u:TxV) (S:zu):yU zi .eql 30 (tv t) (tv u) S=some (.bool (decide (t=u)),S)∧yU zi .neq 30 (tv t) (tv u) S=some (.bool (!decide (t=u)),S):=by
 have h:=Xn (S:=S) (xs:=#[Value.int .i64 t.id,.int .i64 t.fee]) (ys:=#[Value.int .i64 u.id,.int .i64 u.fee]) (bs:=[t.id == u.id,t.fee == u.fee]) abm (by kernel_rfl) (by kernel_rfl)
  ⟨⟨by decide,.int .i64 t.id,.int .i64 u.id,by kernel_rfl,by kernel_rfl,by kernel_rfl⟩,⟨by decide,.int .i64 t.fee,.int .i64 u.fee,by kernel_rfl,by kernel_rfl,by kernel_rfl⟩,trivial⟩ rfl rfl
 have e:[t.id == u.id,t.fee == u.fee].all id=decide (t=u):=by
  rw [Bool.eq_iff_iff]
  simp [TxV.ext_iff']
 rw [e] at h
 exact h
theorem zx.round {k j:Nat} {a b:List TxV} (hk:Okl k a) (hj:Okl j b) (k2:k≠2) (j2:j≠2) (hab:a.length=b.length) (hlen:a.length≤17592186044416) {S:zu}:∀ (sa sb pa pb:List TxV) {T:List Value} {r:St},yT (zF zi O false zx.jm) T S=r→T.length=26 →
  T.getD 0 zh=tl k a→T.getD 1 zh=tl j b→T.getD 12 zh=.int .i64 a.length→T.getD 13 zh=.int .i64 pa.length→a=pa++sa→b=pb++sb→pa.length=pb.length→pa=pb →
  ∃ e T',r=some (e,T',S)∧if a=b then e=.exit 0∧T'.length=26 else e=.ret∧T'.getD 4 zh=.bool false:=by
 intro sa
 induction sa with
 | nil =>
  intro sb pa pb T r hL hT h0 h1 h12 h13 ha hb hp hpp
  have hTe:=zx.eta hT
  rw [h0,h1,h12,h13] at hTe
  have hr:zF zi O false zx.jm T S=zF zi O false zx.jm T S:=rfl
  have hd:¬ (pa.length:Int) < (a.length:Int):=by rw [ha];simp
  conv at hr =>
   rhs
   rw [hTe]
   simp only [zx.jm,zx.code,zx.rs,zSs,reduceIte,zk,zn,zo,zq,hd]
  have hsb:sb=[]:=by rw [ha,hb] at hab;simp [hp] at hab;exact hab
  refine ⟨_,_,hL.symm.trans (wu hr (by simp)),?_⟩
  rw [if_pos (by rw [ha,hb,hsb,hpp])]
  exact ⟨rfl,rfl⟩
 | cons x sa ih =>
  intro sb pa pb T r hL hT h0 h1 h12 h13 ha hb hp hpp
  have hTe:=zx.eta hT
  rw [h0,h1,h12,h13] at hTe
  have hr:zF zi O false zx.jm T S=zF zi O false zx.jm T S:=rfl
  have hd:(pa.length:Int) < (a.length:Int):=by rw [ha];simp;omega
  cases sb with
  | nil=>rw [ha,hb] at hab;simp [hp] at hab
  | cons y sb =>
   have e1:=fun S=>abV (S:=S) hk ha
   have e2:∀ S,jc zi 23 (tl j b) (.int .i64 pa.length) S=some (EP [.int .i64 y.id,.int .i64 y.fee],S):=fun S=>by rw [hp];exact abV hj hb
   have wi:IntKind.i64.wrap ((pa.length:Int)+1)=((pa++[x]).length:Int):=by rw [wrap_i64 (by omega) (by omega)];simp
   have q:∀ S,yU zi .neq 30 (.agg [Value.int .i64 x.id,.int .i64 x.fee].toArray) (.agg [Value.int .i64 y.id,.int .i64 y.fee].toArray) S=some (.bool (!decide (x=y)),S):=fun S=>(aeg x y S).2
   by_cases hxy:x=y
   ·
    conv at hr =>
     rhs
     rw [hTe]
     simp only [zx.jm,zx.code,zx.rs,zSs,reduceIte,zk,zn,zo,zq,hd,if_neg k2,if_neg j2,e1,e2,YK,q,decide_eq_true hxy,wi]
    subst hxy
    exact ih sb (pa++[x]) (pb++[x]) ((yx hr).symm.trans hL) rfl rfl rfl rfl rfl (by simp [ha]) (by simp [hb]) (by simp [hp]) (by rw [hpp])
   ·
    conv at hr =>
     rhs
     rw [hTe]
     simp only [zx.jm,zx.code,zx.rs,zSs,reduceIte,zk,zn,zo,zq,hd,if_neg k2,if_neg j2,e1,e2,YK,q,decide_eq_false hxy]
    refine ⟨_,_,hL.symm.trans (wu hr (by simp)),?_⟩
    rw [if_neg (by rw [ha,hb,hpp];simp [hxy])]
    exact ⟨rfl,rfl⟩
theorem zx.v {k j:Nat} {a b:List TxV} (hk:Okl k a) (hj:Okl j b) (k2:k≠2) (j2:j≠2) (hlen:a.length≤17592186044416) (S:zu):zT zi O zx.id [tl k a,tl j b] S=some (.bool (decide (a=b)),S):=by
 obtain ⟨T,hTe⟩:∃ T,T=(tl k a::tl j b::zh::zh::zh::zh::zh::zh::zh::zh::zh::zh::zh::zh::zh::zh::zh::zh::zh::zh::zh::zh::zh::zh::zh::zh::[]):=⟨_,rfl⟩
 have hr:zF zi O false zx.code T S=zF zi O false zx.code T S:=rfl
 by_cases hab:a.length=b.length
 ·
  have d1:¬ (a.length:Int)≠(b.length:Int):=by omega
  conv at hr =>
   rhs
   rw [hTe]
   simp only [zx.code,zx.rs,zSs,reduceIte,zk,zn,zo,zq,if_neg k2,if_neg j2,JB hk,JB hj,hab]
  rw [← hab] at hr
  generalize hL:yT (zF zi O false zx.jm) _ _=r at hr
  obtain ⟨e,T',rfl,g⟩:=zx.round hk hj k2 j2 hab hlen a b [] [] hL rfl rfl rfl rfl rfl rfl rfl rfl rfl
  by_cases h:a=b
  ·
   rw [if_pos h] at g
   obtain ⟨rfl,g2⟩:=g
   have hTe':=zx.eta g2
   conv at hr =>
    rhs
    rw [hTe']
    simp only [zx.code,zx.rs,zSs,reduceIte,zk,zn,zo,zq]
   rw [hTe] at hr
   rw [decide_eq_true h]
   exact zx.runs hr (.inr rfl)
  ·
   rw [if_neg h] at g
   obtain ⟨rfl,g2⟩:=g
   conv at hr =>
    rhs
    simp only [zSs,reduceIte,zk,zn,zo,zq]
   rw [hTe] at hr
   have hrun:=zx.runs hr (.inr rfl)
   rw [g2] at hrun
   rw [decide_eq_false h]
   exact hrun
 ·
  have d1:¬ (a.length:Int)=(b.length:Int):=by omega
  conv at hr =>
   rhs
   rw [hTe]
   simp only [zx.code,zx.rs,zSs,reduceIte,zk,zn,zo,zq,if_neg k2,if_neg j2,JB hk,JB hj,d1]
  rw [hTe] at hr
  rw [decide_eq_false (fun h:a=b=>hab (by rw [h]))]
  exact zx.runs hr (.inr rfl)
theorem adS (t:TxV) (S:zu):∃ S2,Jg (tv t) S=some (.pointer (some ⟨S.next,0,none⟩),S2)∧S2.get S.next=some (.cells (fT t) (.own []) 0)∧Ext S S2∧S.next < S2.next:=abJ (tv t) S
end Go.Proofs.Ytacbgjhmkhjpoaa
namespace Go.Proofs.Ytacbgjhmkhjpoaa
open Go.Abs
structure Pm (S:zu) (q:Nat) (l:List TxV) (fp:List Nat):Prop where
 lt:q < S.next
 len:l.length≤16
 cell:∃ a,S.get q=some (.cells [.slice a l.length l.length] (.own []) 0)∧qV fT 2 S a l fp
section
variable {S:zu} {q:Nat} {l:List TxV} {fp:List Nat}
theorem Pm.acu (h:Pm S q l fp):q ∉ fp:=by
 obtain ⟨a,h1,h2⟩:=h.cell
 exact h2.acu h1
theorem Pm.flt (h:Pm S q l fp):∀ x ∈ fp,x < S.next:=by
 obtain ⟨a,h1,h2⟩:=h.cell
 exact h2.lt
theorem Pm.ext {S1:zu} (h:Pm S q l fp) (k:Ext S S1):Pm S1 q l fp:=by
 obtain ⟨a,h1,h2⟩:=h.cell
 exact ⟨Nat.lt_of_lt_of_le h.lt k.next,h.len,a,by rw [k.get q h.lt];exact h1,h2.ext k⟩
def YG (q:Nat) (S S1:zu):Prop:=S.next≤S1.next∧∀ p cs own,p≠q→p < S.next→S.get p=some (.cells cs own 0)→S1.get p=S.get p
theorem YG.refl (q:Nat) (S:zu):YG q S S:=⟨Nat.le_refl _,fun _ _ _ _ _ _=>rfl⟩
theorem YG.trans {S1 S2:zu} (h:YG q S S1) (k:YG q S1 S2):YG q S S2:=⟨Nat.le_trans h.1 k.1,fun p cs own hp hl hg=>by
 have h1:=h.2 p cs own hp hl hg
 rw [k.2 p cs own hp (Nat.lt_of_lt_of_le hl h.1) (h1.trans hg),h1]⟩
theorem YG.ext {S1:zu} (h:Ext S S1):YG q S S1:=⟨h.next,fun p _ _ _ hl _=>h.get p hl⟩
theorem zV.v (S:zu):∃ S1,zT zi O zV.id [] S=some (.pointer (some ⟨S.next,0,none⟩),S1)∧Pm S1 S.next [] []∧Ext S S1:=by
 obtain ⟨T,hTe⟩:∃ T,T=(zh::zh::zh::[]):=⟨_,rfl⟩
 have hr:zF zi O false zV.code T S=zF zi O false zV.code T S:=rfl
 have bd:∀ S,wI zi 49 [] S=some (.agg [.slice none 0 0].toArray,S):=fun S=>by kernel_rfl
 obtain ⟨S1,b1,b2,b3,b4⟩:=abJ (.agg [.slice none 0 0].toArray) S
 conv at hr =>
  rhs
  rw [hTe]
  simp only [zV.code,zV.rs,zSs,reduceIte,zk,zn,zo,zq,bd,b1]
 rw [hTe] at hr
 exact ⟨_,zV.runs hr (.inr rfl),⟨b4,by simp,none,b2,.inl ⟨rfl,rfl,rfl⟩⟩,b3⟩
theorem zI.v {c:Nat} {t:TxV} (x:TxV) {S:zu} (hc:S.get c=some (.cells (fT t) (.own []) 0)) (hl:c < S.next):∃ S1,zT zi O zI.id [tv x,.pointer (some ⟨c,0,none⟩)] S=some (.bool (decide (x.id=t.id)),S1)∧Ext S S1∧S1.log=S.log:=by
 obtain ⟨T,hTe⟩:∃ T,T=(tv x::.pointer (some ⟨c,0,none⟩)::zh::zh::zh::zh::zh::zh::zh::[]):=⟨_,rfl⟩
 have hr:zF zi O false zI.code T S=zF zi O false zI.code T S:=rfl
 have b1:Jg (tv x) S=some (.pointer (some ⟨S.next,0,none⟩),S.push (.cells (fT x) (.own []) 0)):=rfl
 have g1:(S.push (.cells (fT x) (.own []) 0)).get S.next=some (.cells (fT x) (.own []) 0):=by rw [zu.zM,if_pos rfl]
 have g2:(S.push (.cells (fT x) (.own []) 0)).get c=some (.cells (fT t) (.own []) 0):=by rw [zu.zM,if_neg (by omega)];exact hc
 refine ⟨S.push (.cells (fT x) (.own []) 0),?_,Ext.push _ _,rfl⟩
 ·
  conv at hr =>
   rhs
   rw [hTe]
   simp only [zI.code,zI.rs,zSs,reduceIte,zk,zn,zo,zq,b1,y9,Va g1,Va g2]
  rw [hTe] at hr
  exact zI.runs hr (.inr rfl)
theorem zJ.v {c:Nat} {t:TxV} (x:TxV) {S:zu} (hc:S.get c=some (.cells (fT t) (.own []) 0)) (hl:c < S.next):∃ S1,zT zi O zJ.id [tv x,.pointer (some ⟨c,0,none⟩)] S=some (.bool (ZI t x),S1)∧Ext S S1∧S1.log=S.log:=by
 obtain ⟨T,hTe⟩:∃ T,T=(tv x::.pointer (some ⟨c,0,none⟩)::zh::zh::zh::zh::zh::[]):=⟨_,rfl⟩
 have hr:zF zi O false zJ.code T S=zF zi O false zJ.code T S:=rfl
 have b1:Jg (tv x) S=some (.pointer (some ⟨S.next,0,none⟩),S.push (.cells (fT x) (.own []) 0)):=rfl
 have g1:(S.push (.cells (fT x) (.own []) 0)).get S.next=some (.cells (fT x) (.own []) 0):=by rw [zu.zM,if_pos rfl]
 have g2:(S.push (.cells (fT x) (.own []) 0)).get c=some (.cells (fT t) (.own []) 0):=by rw [zu.zM,if_neg (by omega)];exact hc
 have c1:=fun S=>jo.v t x S
 refine ⟨S.push (.cells (fT x) (.own []) 0),?_,Ext.push _ _,rfl⟩
 ·
  conv at hr =>
   rhs
   rw [hTe]
   simp only [zJ.code,zJ.rs,zSs,reduceIte,zk,zn,zo,zq,b1,aaj g1,aaj g2,c1]
  rw [hTe] at hr
  exact zJ.runs hr (.inr rfl)
theorem QM {α:Type} {p:α→Bool}:∀ (l:List α) (i:Int),idxFrom p i l=if l.any p then i+(l.findIdx p:Int) else -1:=by
 intro l
 induction l with
 | nil=>intro i;rfl
 | cons x l ih =>
  intro i
  rw [idxFrom,List.any_cons,List.findIdx_cons]
  cases hx:p x with
  | true=>simp
  | false =>
   rw [if_neg (by decide),ih,Bool.false_or]
   by_cases h:l.any p=true
   ·
    rw [if_pos h,if_pos h];simp;omega
   ·
    rw [if_neg h,if_neg h]
theorem aa9 {α:Type} {p:α→Bool} {l:List α} (h:l.any p=false):l.findIdx p=l.length:=by
 rw [List.findIdx_eq_length]
 intro x hx
 rw [List.any_eq_false] at h
 simpa using h x hx
section
variable {p:TxV→Bool} {g:FuncId} {c:Value} {K:zu→Prop}
theorem slices_ContainsFunc.vC {k:Nat} (hv:Okl k l) (hk:k≠2) (hlen:l.length≤17592186044416) (hp:∀ S x,K S→x ∈ l→∃ S1,zT zi O g [tv x,c] S=some (.bool (p x),S1)∧Ext S S1∧S1.log=S.log) (hK:∀ S S1,K S→Ext S S1→K S1) {S:zu} (hS:K S) :
  ∃ S1,zT zi O slices_ContainsFunc.id [vs fT 2 k l,.func (Fn.func g) #[] #[c]] S=some (.bool (l.any p),S1)∧Ext S S1∧S1.log=S.log:=by
 obtain ⟨T,hTe⟩:∃ T,T=(vs fT 2 k l::.func (Fn.func g) #[] #[c]::zh::zh::zh::zh::zh::zh::zh::[]):=⟨_,rfl⟩
 have hr:zF zi O false slices_ContainsFunc.code T S=zF zi O false slices_ContainsFunc.code T S:=rfl
 obtain ⟨S1,c1,x1,g1⟩:=slices_IndexFunc.vC hv hk hlen hp hK hS
 rw [QM] at c1
 cases h:l.any p with
 | true =>
  rw [h,if_pos rfl] at c1
  have d1:(0:Int)≤0+(l.findIdx p:Int):=by omega
  refine ⟨S1,?_,x1,g1⟩
  ·
   conv at hr =>
    rhs
    rw [hTe]
    simp only [slices_ContainsFunc.code,slices_ContainsFunc.rs,zSs,reduceIte,zk,zn,zo,zq,qM,if_neg hk,c1,decide_eq_true d1]
   rw [hTe] at hr
   exact slices_ContainsFunc.runs hr (.inr rfl)
 | false =>
  rw [h,if_neg (by decide)] at c1
  have d1:¬ (0:Int)≤-1:=by decide
  refine ⟨S1,?_,x1,g1⟩
  ·
   conv at hr =>
    rhs
    rw [hTe]
    simp only [slices_ContainsFunc.code,slices_ContainsFunc.rs,zSs,reduceIte,zk,zn,zo,zq,qM,if_neg hk,c1,decide_eq_false d1]
   rw [hTe] at hr
   exact slices_ContainsFunc.runs hr (.inr rfl)
theorem adt {X:FuncId} {v:Value} (hv:ground v=true) (hX:∀ {k:Nat} {S:zu},Okl k l→k≠2→K S→∃ S1,zT zi O X [vs fT 2 k l,.func (Fn.func g) #[] #[c]] S=some (v,S1)∧Ext S S1∧S1.log=S.log) (hK:∀ S S1,K S→Fr fp S S1→K S1)
  {a:Option Addr} (hA:qV fT 2 S a l fp) (hS:K S):∃ S1,Jd (zT zi O) X [.slice a l.length l.length,.func (Fn.func g) #[] #[c]] S=some (v,S1)∧Ext S S1:=by
 rcases hA with ⟨rfl,rfl,rfl⟩ | ⟨r,anc,rest,rfl,rfl,hg,hx⟩
 ·
  obtain ⟨S1,q1,q2,q3⟩:=hX (k:=0) Okl.none (by decide) hS
  exact ⟨S1,adD q1 (by rfl),q2⟩
 ·
  have hf:=XK (f:=fT) (e:=2) (q:=r) (l:=l) (rest:=rest) (anc:=anc) (S:=S) xK hg
  obtain ⟨S1,q1,q2,q3⟩:=hX (k:=1) Okl.read (by decide) (hK S (S.set r .dead) hS ((Fr.refl _ _).set (.inl (by simp)) _))
  exact ⟨S,Xh (Vx hf (by rfl)) q1 (by rfl) hv q3,Ext.refl _⟩
end
theorem qV.insert {a:Option Addr} {x:TxV} {i v:Nat} (hA:qV fT 2 S a l fp) (hv:S.get v=some (.cells (fT x) (.own []) 2)) (hn:v ∉ fp) (hi:i≤l.length) (hl:l.length≤16) :
  ∃ S1,YZ [.slice a l.length l.length,.int .i64 i,.slice (some ⟨v,0,none⟩) 1 1] S=some (.slice (some ⟨S.next,0,none⟩) (l.length+1) (l.length+1),S1)∧qV fT 2 S1 (some ⟨S.next,0,none⟩) (l.take i++x::l.drop i) [S.next]∧Fr fp S S1∧S1.next=S.next+1:=by
 have src:(((fT x).drop 0).take (1 * 2))=fT x:=rfl
 have cond:∀ n:Nat,n≤16→i≤n→(0 < 1∧0+1 * 2≤(fT x).length∧(0:Int)≤i∧(i:Int).toNat≤n∧n+1≤1048576∧(((fT x).drop 0).take (1 * 2)).all (·.oneCell')=true):=fun n hn hin=>⟨by decide,show 2≤2 from Nat.le_refl 2,by omega,by omega,by omega,rfl⟩
 rcases hA with ⟨rfl,rfl,rfl⟩ | ⟨r,anc,rest,rfl,rfl,hg,hx⟩
 ·
  have hi0:i=0:=by simpa using hi
  subst hi0
  refine ⟨S.push (.cells (fT x) (.own []) 2),?_,.inr ⟨S.next,[],[],rfl,rfl,by rw [zu.zM,if_pos rfl];rfl,fun y hy=>?_⟩,(Fr.refl _ _).push _,by simp⟩
  ·
   simp only [YZ,hv]
   rw [if_pos (cond ([]:List TxV).length (by simp) (by simp))]
   rfl
  ·
   simp only [List.mem_singleton] at hy
   subst hy
   refine ⟨by simp,fun cs own=>?_⟩
   rw [zu.zM,if_pos rfl]
   intro hx;simp at hx
 ·
  have hne:r≠v:=fun e=>hn (by simp [e])
  have hlen:(l.flatMap fT).length=l.length * 2:=jy xK l
  have hX:((l.flatMap fT++rest).drop 0).take (l.length * 2)=l.flatMap fT:=by rw [List.drop_zero,← hlen,List.take_left]
  have hone:(l.flatMap fT).all (·.oneCell')=true:=by
   rw [List.all_flatMap,List.all_eq_true]
   exact fun x _=>aac x
  have hall:(l.flatMap fT).take (i * 2)++(fT x++(l.flatMap fT).drop (i * 2))=(l.take i++x::l.drop i).flatMap fT:=by
   rw [Zc xK,Zl xK,List.flatMap_append,List.flatMap_cons]
  refine ⟨((S.kills anc).set r .dead).push (.cells ((l.take i++x::l.drop i).flatMap fT) (.own []) 2),?_,.inr ⟨S.next,[],[],rfl,rfl,by rw [zu.zM,zu.qN,zu.yZ,if_pos rfl,List.append_nil],fun y hy=>?_⟩,(((Fr.refl _ _).kills (fun y hy=>.inl (by simp [hy]))).set (.inl (by simp)) _).push _,by simp⟩
  ·
   simp only [YZ,hv]
   rw [if_pos (cond l.length hl hi)]
   simp only [hg]
   rw [if_pos ⟨hne,by rw [List.length_append,hlen];omega,by rw [hX];exact hone⟩,hX,Int.toNat_natCast,src,hall]
  ·
   simp only [List.mem_singleton] at hy
   subst hy
   refine ⟨by simp,fun cs own=>?_⟩
   rw [zu.zM,zu.qN,zu.yZ,if_pos rfl]
   intro hx;simp at hx
end
end Go.Proofs.Ytacbgjhmkhjpoaa
namespace Go.Proofs.Ytacbgjhmkhjpoaa
open Go.Abs
section
variable {S:zu} {q:Nat} {l:List TxV} {fp:List Nat}
def Yz (l:List TxV) (t:TxV):Nat:=l.findIdx (ZI t)
def ad6 (l:List TxV) (t:TxV):Bool:=l.any fun x=>decide (x.id=t.id)
def ad2 (l:List TxV) (t:TxV):List TxV:=(l.take (Yz l t)++t::l.drop (Yz l t)).take 16
def YT (l:List TxV) (t:TxV):Int×List TxV:=if YV t then if ad6 l t then (91,l) else if Yz l t=16 then (91,l) else (0,ad2 l t) else (61,l)
theorem XL (l:List TxV) (t:TxV):Yz l t≤l.length:=List.findIdx_le_length
theorem QT (h:l.length≤16) (t:TxV):(ad2 l t).length=min (l.length+1) 16:=by
 have:=XL l t
 simp only [ad2,List.length_take,List.length_append,List.length_cons,List.length_drop]
 omega
theorem zA.v (h:Pm S q l fp) (t:TxV):∃ S1 fp',zT zi O zA.id [.pointer (some ⟨q,0,none⟩),tv t] S=some (.int .i64 (YT l t).1,S1)∧Pm S1 q (YT l t).2 fp'∧(∀ x ∈ fp',x ∈ fp∨S.next≤x)∧Fr (q::fp) S S1:=by
 obtain ⟨T,hTe⟩:∃ T,T=(.pointer (some ⟨q,0,none⟩)::tv t::zh::zh::zh::zh::zh::zh::zh::zh::zh::zh::zh::zh::zh::zh::zh::zh::zh::zh::zh::zh::zh::zh::zh::zh::zh::zh::zh::zh::zh::zh::zh::zh::zh::zh::zh::zh::zh::zh::zh::zh::zh::zh::zh::zh::zh::zh::zh::zh::zh::zh::zh::zh::zh::[]):=⟨_,rfl⟩
 have hr:zF zi O true zA.code T S=zF zi O true zA.code T S:=rfl
 obtain ⟨S0,b1,b2,b3,b4⟩:=adS t S
 have h0:=h.ext b3
 have c1:Jd (zT zi O) 22 [tv t] S0=some (.bool (YV t),S0):=adD (jB.v t S0) (by rfl)
 have ld:=aaj b2
 cases hR:YV t with
 | false =>
  rw [hR] at c1
  refine ⟨S0,fp,?_,by unfold YT;rw [hR];exact h0,fun x hx=>.inl hx,Fr.ext b3⟩
  unfold YT
  rw [hR]
  conv at hr =>
   rhs
   rw [hTe]
   simp only [zA.code,zA.rs,zSs,reduceIte,zk,zn,zo,zq,b1,ld,c1]
  rw [hTe] at hr
  exact zA.runs hr (.inr rfl)
 | true =>
  rw [hR] at c1
  obtain ⟨a,g0,hA⟩:=h0.cell
  have hcn:S.next ∉ fp:=fun hx=>by have:=h.flt _ hx;omega
  have hqc:q≠S.next:=by have:=h.lt;omega
  have hKF:∀ S1 S2:zu,(S1.get S.next=some (.cells (fT t) (.own []) 0)∧S.next < S1.next)→Fr fp S1 S2→(S2.get S.next=some (.cells (fT t) (.own []) 0)∧S.next < S2.next):=fun S1 S2 hK hF=>⟨by rw [hF.2 _ hK.2 hcn];exact hK.1,Nat.lt_of_lt_of_le hK.2 hF.1⟩
  have hKE:∀ S1 S2:zu,(S1.get S.next=some (.cells (fT t) (.own []) 0)∧S.next < S1.next)→Ext S1 S2→(S2.get S.next=some (.cells (fT t) (.own []) 0)∧S.next < S2.next):=fun S1 S2 hK hF=>hKF S1 S2 hK (Fr.ext hF)
  have hll:l.length≤17592186044416:=by have:=h.len;omega
  obtain ⟨S1,c2,x1⟩:=adt (l:=l) (g:=24) (c:=.pointer (some ⟨S.next,0,none⟩)) (K:=fun S1=>S1.get S.next=some (.cells (fT t) (.own []) 0)∧S.next < S1.next) (X:=23) (v:=.bool (ad6 l t)) (by rfl)
   (fun hv hk hS=>slices_ContainsFunc.vC (p:=fun x=>decide (x.id=t.id)) hv hk hll (fun S1 x hK _=>zI.v x hK.1 hK.2) hKE hS) hKF hA ⟨b2,b4⟩
  have l0:=vN (P:=zi) (t:=23) (o:=0+0) g0 y5 rfl
  cases hD:ad6 l t with
  | true =>
   rw [hD] at c2
   refine ⟨S1,fp,?_,by unfold YT;rw [hR,hD];exact h0.ext x1,fun x hx=>.inl hx,Fr.ext (b3.trans x1)⟩
   unfold YT
   rw [hR,hD]
   conv at hr =>
    rhs
    rw [hTe]
    simp only [zA.code,zA.rs,zSs,reduceIte,zk,zn,zo,zq,b1,ld,c1,wM,jA,l0,c2]
   rw [hTe] at hr
   exact zA.runs hr (.inr rfl)
  | false =>
   rw [hD] at c2
   have g1:S1.get q=some (.cells [.slice a l.length l.length] (.own []) 0):=(x1.get q h0.lt).trans g0
   have l1:=vN (P:=zi) (t:=23) (o:=0+0) g1 y5 rfl
   have k1:=hKE _ _ ⟨b2,b4⟩ x1
   obtain ⟨S2,c3,x2⟩:=adt (l:=l) (g:=26) (c:=.pointer (some ⟨S.next,0,none⟩)) (K:=fun S1=>S1.get S.next=some (.cells (fT t) (.own []) 0)∧S.next < S1.next) (X:=25) (v:=.int .i64 (idxFrom (ZI t) 0 l)) (by rfl)
    (fun hv hk hS=>slices_IndexFunc.vC (p:=ZI t) hv hk hll (fun S1 x hK _=>zJ.v x hK.1 hK.2) hKE hS) hKF (hA.ext x1) k1
   have k2:=hKE _ _ k1 x2
   have h2:Pm S2 q l fp:=(h0.ext x1).ext x2
   have xx:Ext S S2:=(b3.trans x1).trans x2
   have g2:S2.get q=some (.cells [.slice a l.length l.length] (.own []) 0):=(x2.get q (Nat.lt_of_lt_of_le h0.lt x1.next)).trans g1
   have hA2:=(hA.ext x1).ext x2
   have l2:=vN (P:=zi) (t:=23) (o:=0+0) g2 y5 rfl
   have ln:=fun S=>Qb (P:=zi) je a l.length l.length S
   have hpl:=XL l t
   have hidx:idxFrom (ZI t) 0 l=(Yz l t:Int)∧¬ idxFrom (ZI t) 0 l < 0∨idxFrom (ZI t) 0 l=-1∧(l.length:Int)=Yz l t:=by
    rw [QM]
    by_cases ha:l.any (ZI t)=true
    ·
     rw [if_pos ha]
     exact .inl ⟨by unfold Yz;omega,by omega⟩
    ·
     rw [if_neg ha]
     exact .inr ⟨rfl,by unfold Yz;rw [aa9 (by simpa using ha)]⟩
   by_cases h16:Yz l t=16
   ·
    refine ⟨S2,fp,?_,by unfold YT;rw [hR,hD];simp only [Bool.false_eq_true,if_true,if_false,h16];exact h2,fun x hx=>.inl hx,Fr.ext xx⟩
    unfold YT
    rw [hR,hD]
    simp only [Bool.false_eq_true,if_true,if_false,h16]
    have d16:((Yz l t:Int)=16)=True:=eq_true (by omega)
    rcases hidx with ⟨e1,e2⟩ | ⟨e1,e2⟩
    ·
     rw [e1] at c3 e2
     conv at hr =>
      rhs
      rw [hTe]
      simp only [zA.code,zA.rs,zSs,reduceIte,zk,zn,zo,zq,b1,ld,c1,wM,jA,l0,c2,l1,c3,decide_eq_false e2,d16,decide_true]
     rw [hTe] at hr
     exact zA.runs hr (.inr rfl)
    ·
     rw [e1] at c3
     have dm:(-1:Int) < 0:=by decide
     conv at hr =>
      rhs
      rw [hTe]
      simp only [zA.code,zA.rs,zSs,reduceIte,zk,zn,zo,zq,b1,ld,c1,wM,jA,l0,c2,l1,c3,decide_eq_true dm,l2,ln,goInt,e2,d16,decide_true]
     rw [hTe] at hr
     exact zA.runs hr (.inr rfl)
   ·
    have d16:¬ (Yz l t:Int)=16:=by omega
    have ldt:=aaj k2.1
    obtain ⟨S3,s1,s2,s3⟩:∃ S3,jh zi 23 1 [(0,tv t)] S2=some (.slice (some ⟨S2.next,0,none⟩) 1 1,S3)∧S3.get S2.next=some (.cells (fT t) (.own []) 2)∧S3=S2.push (.cells (fT t) (.own []) 2) :=
     ⟨_,by kernel_rfl,by rw [zu.zM,if_pos rfl],rfl⟩
    have x3:Ext S2 S3:=by rw [s3];exact Ext.push _ _
    obtain ⟨S4,i1,i2,i3,i4⟩:=qV.insert (i:=Yz l t) (hA2.ext x3) s2 (fun hx=>by have:=h2.flt _ hx;omega) hpl h.len
    have c4:zT zi O 28 [.slice a l.length l.length,.int .i64 (Yz l t),.slice (some ⟨S2.next,0,none⟩) 1 1] S3=some (.slice (some ⟨S3.next,0,none⟩) (l.length+1) (l.length+1),S4):=(abp (q:=YZ) rfl S3).trans i1
    have g4:S4.get q=some (.cells [.slice a l.length l.length] (.own []) 0):=by
     rw [i3.2 q (Nat.lt_of_lt_of_le h2.lt x3.next) h2.acu,x3.get q h2.lt,g2]
    have st1:=xw (P:=zi) (t:=23) (o:=0+0) (x:=.slice (some ⟨S3.next,0,none⟩) (l.length+1) (l.length+1)) g4 JO rfl rfl (by simp)
    have sq:=KQ (o:=0+0) g2 h2.lt x3
    have g5:((S4.kills []).set q (.cells (splice [Value.slice a l.length l.length] (0+0) (Value.slice (some ⟨S3.next,0,none⟩) (l.length+1) (l.length+1)).cells.toList) (.own []) 0)).get q=some (.cells [.slice (some ⟨S3.next,0,none⟩) (l.length+1) (l.length+1)] (.own []) 0):=by rw [zu.zX,if_pos rfl];rfl
    have hq3:q≠S3.next:=by have:=h2.lt;have:=x3.next;omega
    have n5:((S4.kills []).set q (.cells (splice [Value.slice a l.length l.length] (0+0) (Value.slice (some ⟨S3.next,0,none⟩) (l.length+1) (l.length+1)).cells.toList) (.own []) 0)).next=S4.next:=by simp [zu.kills]
    have o5:∀ x,x≠q→((S4.kills []).set q (.cells (splice [Value.slice a l.length l.length] (0+0) (Value.slice (some ⟨S3.next,0,none⟩) (l.length+1) (l.length+1)).cells.toList) (.own []) 0)).get x=S4.get x:=fun x hx=>by rw [zu.zX,if_neg hx];rfl
    generalize (S4.kills []).set q (.cells (splice [Value.slice a l.length l.length] (0+0) (Value.slice (some ⟨S3.next,0,none⟩) (l.length+1) (l.length+1)).cells.toList) (.own []) 0)=S5 at st1 g5 n5 o5
    have i5:qV fT 2 S5 (some ⟨S3.next,0,none⟩) (l.take (Yz l t)++t::l.drop (Yz l t)) [S3.next]:=i2.keep (by omega) fun x hx=>by
     simp only [List.mem_singleton] at hx
     exact o5 x (by rw [hx];exact fun e=>hq3 e.symm)
    have hLlen:(l.take (Yz l t)++t::l.drop (Yz l t)).length=l.length+1:=by simp;omega
    have l5:=vN (P:=zi) (t:=23) (o:=0+0) g5 y5 rfl
    have ln5:=fun S=>Qb (P:=zi) je (some ⟨S3.next,0,none⟩) (l.length+1) (l.length+1) S
    obtain ⟨mm,hmm⟩:∃ mm:Nat,mm=min (l.length+1) 16:=⟨_,rfl⟩
    have hmin:(if (16:Int) < ((l.length+1:Nat):Int) then (16:Int) else ((l.length+1:Nat):Int))=(mm:Int):=by split <;> omega
    have sl5:yL zi false 23 (.slice (some ⟨S3.next,0,none⟩) (l.length+1) (l.length+1)) none (some (.int .i64 mm)) S5=some (.slice (some ⟨S3.next,0,none⟩) mm mm,S5):=by
     rcases i5 with ⟨h,_⟩ | ⟨r,anc,rest,ha,hfa,hg,hx⟩
     ·
      cases h
     ·
      simp only [Option.some.injEq,Addr.mk.injEq,and_true] at ha
      subst ha
      rw [VP (P:=zi) (t:=23) (o:=0) (n:=l.length+1) (c:=l.length+1) (l:=0) (h:=mm) rfl hg je jJ rfl rfl (by omega) (by omega) (by omega)]
      simp
    have st2:=xw (P:=zi) (t:=23) (o:=0+0) (x:=.slice (some ⟨S3.next,0,none⟩) mm mm) g5 JO rfl rfl (by simp)
    generalize hS6:(S5.kills []).set q _=S6 at st2
    have e5:YT l t=(0,ad2 l t):=by unfold YT;rw [hR,hD];simp [h16]
    rw [e5]
    refine ⟨S6,[S3.next],?_,⟨?_,?_,some ⟨S3.next,0,none⟩,?_,?_⟩,fun x hx=>?_,?_⟩
    ·
     rcases hidx with ⟨e1,e2⟩ | ⟨e1,e2⟩
     ·
      rw [e1] at c3 e2
      conv at hr =>
       rhs
       rw [hTe]
       simp only [zA.code,zA.rs,zSs,reduceIte,zk,zn,zo,zq,b1,ld,c1,wM,jA,l0,c2,l1,c3,decide_eq_false e2,decide_eq_false d16,l2,ldt,s1,c4,st1,sq,l5,ln5,goInt,aek,hmin,sl5,st2]
      rw [hTe] at hr
      exact zA.runs hr (.inr rfl)
     ·
      rw [e1] at c3
      have dm:(-1:Int) < 0:=by decide
      conv at hr =>
       rhs
       rw [hTe]
       simp only [zA.code,zA.rs,zSs,reduceIte,zk,zn,zo,zq,b1,ld,c1,wM,jA,l0,c2,l1,c3,decide_eq_true dm,ln,goInt,e2,decide_eq_false d16,l2,ldt,s1,c4,st1,sq,l5,ln5,aek,hmin,sl5,st2]
      rw [hTe] at hr
      exact zA.runs hr (.inr rfl)
    ·
     have:=h2.lt;have:=x3.next;have:=i4
     subst hS6
     simp [zu.kills];omega
    ·
     rw [QT h.len];omega
    ·
     subst hS6
     rw [zu.zX,if_pos rfl,QT h.len,← hmm];rfl
    ·
     subst hS6
     exact (i5.take 16).keep (by simp [zu.kills]) fun x hx=>by
      simp only [List.mem_singleton] at hx
      rw [zu.zX,if_neg (by rw [hx];exact fun e=>hq3 e.symm)];rfl
    ·
     simp only [List.mem_singleton] at hx
     exact .inr (by have:=xx.next;have:=x3.next;omega)
    ·
     have f1:Fr (q::fp) S S3:=Fr.ext (xx.trans x3)
     have f2:Fr (q::fp) S S4:=f1.trans i3 fun x hx=>.inl (by simp [hx])
     have f3:Fr (q::fp) S S5:=⟨by have:=f2.1;omega,fun p hp hn=>by
      rw [o5 p (fun e=>hn (by simp [e]))];exact f2.2 p hp hn⟩
     subst hS6
     exact f3.set (.inl (by simp)) _
end
end Go.Proofs.Ytacbgjhmkhjpoaa
namespace Go.Proofs.Ytacbgjhmkhjpoaa
open Go.Abs
section
variable {S:zu} {q:Nat} {l:List TxV} {fp:List Nat}
theorem slices_Clone.ms {a:Option Addr} (hA:qV fT 2 S a l fp) (hl:l.length≤16):zT zi O slices_Clone.id [.slice a l.length l.length] S=some (tl (if a=none then 0 else 2) l,S):=by
 obtain ⟨T,hTe⟩:∃ T,T=(.slice a l.length l.length::zh::zh::zh::zh::zh::zh::zh::[]):=⟨_,rfl⟩
 have hr:zF zi O false slices_Clone.code T S=zF zi O false slices_Clone.code T S:=rfl
 rcases hA with ⟨rfl,rfl,rfl⟩ | ⟨r,anc,rest,rfl,rfl,hg,hx⟩
 ·
  have e1:∀ S,yU zi .eql 23 (.slice none 0 0) (.slice none 0 0) S=some (.bool true,S):=fun S=>by kernel_rfl
  ·
   conv at hr =>
    rhs
    rw [hTe]
    simp only [slices_Clone.code,slices_Clone.rs,zSs,reduceIte,zk,zn,zo,zq,List.length_nil,e1]
   rw [hTe] at hr
   exact slices_Clone.runs hr (.inr rfl)
 ·
  have e1:∀ S,yU zi .eql 23 (.slice (some ⟨r,0,none⟩) l.length l.length) (.slice none 0 0) S=some (.bool false,S):=fun S=>by kernel_rfl
  have hlen:(l.flatMap fT).length=l.length * 2:=jy xK l
  have hX:((l.flatMap fT++rest).drop 0).take (l.length * 2)=l.flatMap fT:=by rw [List.drop_zero,← hlen,List.take_left]
  have src:ZO zi 23 2 (.slice (some ⟨r,0,none⟩) l.length l.length) S=some (l.length,l.flatMap fT):=by
   have:=XT (P:=zi) (tx:=23) (c:=l.length) (o:=0) (m:=l.length) (e:=2) je hg (by rw [List.length_append,hlen];omega) (by
    rw [hX,List.all_flatMap,List.all_eq_true];exact fun x _=>aac x)
   rw [hX] at this
   exact this
  have ap:kC zi 23 23 (sv 2 2 0 []) (.slice (some ⟨r,0,none⟩) l.length l.length) S=some (tl 2 l,S):=by
   obtain ⟨z,z1,z2,_⟩:=Wp
   have hl2:=hl
   show wP zi false 23 23 (.iface 2 (.iface 2 (.iface 0 (.agg #[])))) _ S=_
   simp only [wP,Qz,jJ,z1,Zn,z2,src,if_true,show (0:Nat) < 2 from by decide]
   rw [if_pos (show (0+l.length) * 16≤140737488355328 by omega),if_pos (show 0+l.length≤4611686018427387903 by omega),if_pos (by rfl),Nat.zero_add]
   rfl
  ·
   conv at hr =>
    rhs
    rw [hTe]
    simp only [slices_Clone.code,slices_Clone.rs,zSs,reduceIte,zk,zn,zo,zq,e1,Wu,ap]
   rw [hTe] at hr
   exact slices_Clone.runs hr (.inr rfl)
theorem zK.v (h:Pm S q l fp):∃ k,Okl k l∧k≠1∧zT zi O zK.id [.pointer (some ⟨q,0,none⟩)] S=some (tl k l,S):=by
 obtain ⟨T,hTe⟩:∃ T,T=(.pointer (some ⟨q,0,none⟩)::zh::zh::zh::zh::zh::zh::zh::[]):=⟨_,rfl⟩
 have hr:zF zi O false zK.code T S=zF zi O false zK.code T S:=rfl
 obtain ⟨a,g0,hA⟩:=h.cell
 have l0:=vN (P:=zi) (t:=23) (o:=0+0) g0 y5 rfl
 have c1:=slices_Clone.ms hA h.len
 refine ⟨if a=none then 0 else 2,?_,by split <;> decide,?_⟩
 ·
  split
  ·
   rename_i e
   rcases hA with ⟨_,rfl,_⟩ | ⟨r,anc,rest,h1,_⟩
   ·
    exact Okl.none
   ·
    rw [e] at h1;cases h1
  ·
   exact Okl.own
 ·
  conv at hr =>
   rhs
   rw [hTe]
   simp only [zK.code,zK.rs,zSs,reduceIte,zk,zn,zo,zq,wM,jA,l0,c1]
  rw [hTe] at hr
  exact zK.runs hr (.inr rfl)
def inT (ids:List Int) (x:TxV):Bool:=ids.any fun n=>decide (x.id=n)
def Xj (many:Int) (skip:List Int):List TxV→List TxV→List TxV
 | [],out=>out
 | x::r,out=>Xj many skip r (if decide ((out.length:Int) < many) && !inT skip x then out++[x] else out)
def Wx (l:List TxV) (many:Int) (skip:List Int):List TxV:=Xj many skip l []
theorem zy.round {r k2:Nat} {many:Int} {skip:List Int} (hn:l.length≤16) (hs:Okl k2 skip) (hs2:k2≠2) (hsl:skip.length≤17592186044416):∀ (suf pre:List TxV) {T:List Value} {rr:St} {S:zu} {k:Nat} {out:List TxV},yT (zF zi O false zy.jm) T S=rr→T.length=36 →
  T.getD 1 zh=.int .i64 many→T.getD 2 zh=iz k2 skip→T.getD 7 zh=tl k out→T.getD 13 zh=.slice (some ⟨r,0,none⟩) l.length l.length→T.getD 14 zh=.int .i64 l.length→T.getD 15 zh=.int .i64 pre.length→l=pre++suf→Okl k out→k≠1→out.length≤pre.length→qV fT 2 S (some ⟨r,0,none⟩) l fp →
  ∃ T' S' k',rr=some (.exit 0,T',S')∧T'.length=36∧T'.getD 7 zh=tl k' (Xj many skip suf out)∧Okl k' (Xj many skip suf out)∧k'≠1∧Ext S S':=by
 intro suf
 induction suf with
 | nil =>
  intro pre T rr S k out hL hT h1 h2 h7 h13 h14 h15 hl hk k1 hol hA
  have hTe:=zy.eta hT
  rw [h1,h2,h7,h13,h14,h15] at hTe
  have hr:zF zi O false zy.jm T S=zF zi O false zy.jm T S:=rfl
  have hd:¬ (pre.length:Int) < (l.length:Int):=by rw [hl];simp
  conv at hr =>
   rhs
   rw [hTe]
   simp only [zy.jm,zy.code,zy.rs,zSs,reduceIte,zk,zn,zo,zq,hd]
  exact ⟨_,_,k,hL.symm.trans (wu hr (by simp)),rfl,rfl,hk,k1,Ext.refl _⟩
 | cons x suf ih =>
  intro pre T rr S k out hL hT h1 h2 h7 h13 h14 h15 hl hk k1 hol hA
  have hTe:=zy.eta hT
  rw [h1,h2,h7,h13,h14,h15] at hTe
  have hr:zF zi O false zy.jm T S=zF zi O false zy.jm T S:=rfl
  have hd:(pre.length:Int) < (l.length:Int):=by rw [hl];simp;omega
  have ix:∀ S,jc zi 23 (.slice (some ⟨r,0,none⟩) l.length l.length) (.int .i64 pre.length) S=some (.pointer (some ⟨r,0+pre.length * 2,none⟩),S):=fun S=>by
   rw [acJ (o:=0) (n:=l.length) (c:=l.length) (q:=r) je jJ (by omega) hd,Int.toNat_natCast]
  have hA0:=hA
  rcases hA0 with ⟨h,_⟩ | ⟨r',anc,rest,ha,hfa,hg,hx⟩
  ·
   cases h
  simp only [Option.some.injEq,Addr.mk.injEq,and_true] at ha
  subst ha
  have l1:jk zi false 30 (.pointer (some ⟨r,0+pre.length * 2,none⟩)) S=some (tv x,S):=qV.load (P:=zi) (te:=30) (S:=S) Zo jJ xK adn (x:=x) (pre:=pre) (suf:=suf) (by rw [← hl];exact hg)
  obtain ⟨S1,n1,n2,n3,n4⟩:=aef S x
  have al:=aeb S
  have hpl:pre.length≤16:=by have:=congrArg List.length hl;simp at this;omega
  have ln:=fun S=>JB (S:=S) hk.dem
  have lo0:=Va n2
  have lo:=aaj n2
  have cc:=fun S=>slices_Contains.v hs hs2 hsl (v:=x.id) S
  have bsl:∀ S,jK zi 23 1 [(0,tv x)] S=some (tl 2 [x],S):=fun S=>by kernel_rfl
  have ap:=fun S=>acY (S:=S) (t:=x) hk k1 (by omega)
  have wi:IntKind.i64.wrap ((pre.length:Int)+1)=((pre++[x]).length:Int):=by rw [wrap_i64 (by omega) (by omega)];simp
  have step:∀ {k3:Nat} {out3:List TxV},(if decide ((out.length:Int) < many) && !inT skip x then out++[x] else out)=out3→∀ {T3:List Value},yT (zF zi O false zy.jm) T3 S1=rr→T3.length=36→T3.getD 1 zh=.int .i64 many→T3.getD 2 zh=iz k2 skip→T3.getD 7 zh=tl k3 out3 →
    T3.getD 13 zh=.slice (some ⟨r,0,none⟩) l.length l.length→T3.getD 14 zh=.int .i64 l.length→T3.getD 15 zh=.int .i64 ((pre++[x]).length:Nat)→Okl k3 out3→k3≠1→out3.length≤(pre++[x]).length→∃ T' S' k',rr=some (.exit 0,T',S')∧T'.length=36∧T'.getD 7 zh=tl k' (Xj many skip (x::suf) out)∧Okl k' (Xj many skip (x::suf) out)∧k'≠1∧Ext S S':=by
   intro k3 out3 ho T3 hL3 hT3 q1 q2 q7 q13 q14 q15 hk3 k31 hol3
   obtain ⟨T',S',k',w1,w2,w3,w4,w5,w6⟩:=ih (pre++[x]) hL3 hT3 q1 q2 q7 q13 q14 q15 (by rw [hl];simp) hk3 k31 hol3 (hA.ext n3)
   rw [← ho] at w3 w4
   exact ⟨T',S',k',w1,w2,w3,w4,w5,n3.trans w6⟩
  by_cases hm:(out.length:Int) < many
  ·
   cases hI:inT skip x with
   | true =>
    unfold inT at hI
    rw [hI] at cc
    conv at hr =>
     rhs
     rw [hTe]
     simp only [zy.jm,zy.code,zy.rs,zSs,reduceIte,zk,zn,zo,zq,hd,ix,l1,al,n1,ln,decide_eq_true hm,y9,lo0,if_neg hs2,cc,Bool.not_true,wi]
    have hs3:=(yx hr).symm.trans hL
    exact step (out3:=out) (by unfold inT;rw [hI];simp) hs3 rfl rfl rfl rfl rfl rfl rfl hk k1 (by simp;omega)
   | false =>
    unfold inT at hI
    rw [hI] at cc
    conv at hr =>
     rhs
     rw [hTe]
     simp only [zy.jm,zy.code,zy.rs,zSs,reduceIte,zk,zn,zo,zq,hd,ix,l1,al,n1,ln,decide_eq_true hm,y9,lo0,if_neg hs2,cc,Bool.not_false,wi,lo,bsl,ap]
    have hs3:=(yx hr).symm.trans hL
    exact step (out3:=out++[x]) (by unfold inT;rw [hI];simp [hm]) hs3 rfl rfl rfl rfl rfl rfl rfl Okl.own (by decide) (by simp;omega)
  ·
   conv at hr =>
    rhs
    rw [hTe]
    simp only [zy.jm,zy.code,zy.rs,zSs,reduceIte,zk,zn,zo,zq,hd,ix,l1,al,n1,ln,decide_eq_false hm,wi]
   have hs3:=(yx hr).symm.trans hL
   exact step (out3:=out) (by simp [hm]) hs3 rfl rfl rfl rfl rfl rfl rfl hk k1 (by simp;omega)
theorem zy.v (h:Pm S q l fp) {k2:Nat} {many:Int} {skip:List Int} (hs:Okl k2 skip) (hs2:k2≠2) (hsl:skip.length≤17592186044416):∃ k S1,zT zi O zy.id [.pointer (some ⟨q,0,none⟩),.int .i64 many,iz k2 skip] S=some (tl k (Wx l many skip),S1)∧Okl k (Wx l many skip)∧k≠1∧Ext S S1:=by
 obtain ⟨T,hTe⟩:∃ T,T=(.pointer (some ⟨q,0,none⟩)::.int .i64 many::iz k2 skip::zh::zh::zh::zh::zh::zh::zh::zh::zh::zh::zh::zh::zh::zh::zh::zh::zh::zh::zh::zh::zh::zh::zh::zh::zh::zh::zh::zh::zh::zh::zh::zh::zh::[]):=⟨_,rfl⟩
 have hr:zF zi O false zy.code T S=zF zi O false zy.code T S:=rfl
 obtain ⟨a,h1,h2⟩:=h.cell
 have l1:=vN (P:=zi) (t:=23) (o:=0+0) h1 y5 rfl
 have ln:=fun S=>Qb (P:=zi) je a l.length l.length S
 conv at hr =>
  rhs
  rw [hTe]
  simp only [zy.code,zy.rs,zSs,reduceIte,zk,zn,zo,zq,wM,jA,l1,ln,goInt]
 generalize hL:yT (zF zi O false zy.jm) _ _=rr at hr
 have fin:∀ T' S' k',rr=some (.exit 0,T',S')→T'.length=36→T'.getD 7 zh=tl k' (Wx l many skip)→Okl k' (Wx l many skip)→k'≠1→Ext S S'→∃ k S1,zT zi O zy.id [.pointer (some ⟨q,0,none⟩),.int .i64 many,iz k2 skip] S=some (tl k (Wx l many skip),S1)∧Okl k (Wx l many skip)∧k≠1∧Ext S S1:=by
  intro T' S' k' e1 e2 e3 e4 e5 e6
  subst e1
  have hTe':=zy.eta e2
  rw [e3] at hTe'
  conv at hr =>
   rhs
   simp only [zSs,reduceIte,zk,zn,zo,zq]
   rw [hTe']
   simp only [zy.code,zy.rs,zSs,reduceIte,zk,zn,zo,zq]
  rw [hTe] at hr
  exact ⟨k',S',zy.runs hr (.inr rfl),e4,e5,e6⟩
 rcases h2 with ⟨rfl,rfl,rfl⟩ | ⟨r,anc,rest,rfl,rfl,k3,k4⟩
 ·
  generalize hT2:List.cons _ _=T2 at hL
  have hlen:T2.length=36:=by rw [← hT2];rfl
  have g7:T2.getD 7 zh=.slice none 0 0:=by rw [← hT2];rfl
  have g14:T2.getD 14 zh=.int .i64 0:=by rw [← hT2];rfl
  have g15:T2.getD 15 zh=.int .i64 0:=by rw [← hT2];rfl
  have hTe2:=zy.eta hlen
  rw [g7,g14,g15] at hTe2
  have hr2:zF zi O false zy.jm T2 S=zF zi O false zy.jm T2 S:=rfl
  have hd:¬ (0:Int) < (0:Int):=by decide
  conv at hr2 =>
   rhs
   rw [hTe2]
   simp only [zy.jm,zy.code,zy.rs,zSs,reduceIte,zk,zn,zo,zq,hd]
  exact fin _ _ 0 (hL.symm.trans (wu hr2 (by simp))) rfl rfl Okl.none (by decide) (Ext.refl _)
 ·
  obtain ⟨T',S',k',q1,q2,q3,q4,q5,q6⟩:=zy.round h.len hs hs2 hsl l [] (k:=0) (out:=[]) hL rfl rfl rfl rfl rfl rfl rfl rfl Okl.none (by decide) (by simp) (.inr ⟨r,anc,rest,rfl,rfl,k3,k4⟩)
  exact fin T' S' k' q1 q2 q3 q4 q5 q6
end
end Go.Proofs.Ytacbgjhmkhjpoaa
namespace Go.Proofs.Ytacbgjhmkhjpoaa
open Go.Abs
section
variable {S0 S:zu} {q:Nat} {l:List TxV}
def PS (S0 S:zu) (q:Nat) (l:List TxV):Prop:=∃ fp,Pm S q l fp∧Fr [] S0 S∧S0.next≤q∧∀ x ∈ fp,S0.next≤x
theorem PS.fr (h:PS S0 S q l):Fr [] S0 S:=let ⟨_,_,h,_⟩:=h;h
theorem PS.len (h:PS S0 S q l):l.length≤16:=let ⟨_,h,_⟩:=h;h.len
theorem PS.ge (h:PS S0 S q l):S0.next≤q:=let ⟨_,_,_,h,_⟩:=h;h
theorem PS.lt (h:PS S0 S q l):q < S.next:=let ⟨_,h,_⟩:=h;h.lt
theorem PS.ext {S1:zu} (h:PS S0 S q l) (k:Ext S S1):PS S0 S1 q l:=by
 obtain ⟨fp,h1,h2,h3,h4⟩:=h
 exact ⟨fp,h1.ext k,h2.trans (Fr.ext (fp:=[]) k) fun x hx=>(by cases hx),h3,h4⟩
theorem PS.of {S1:zu} {l2:List TxV} {fp fp':List Nat} (h1:Pm S q l fp) (h2:Fr [] S0 S) (h3:S0.next≤q) (h4:∀ x ∈ fp,S0.next≤x) (k1:Pm S1 q l2 fp') (k2:∀ x ∈ fp',x ∈ fp∨S.next≤x) (k3:Fr (q::fp) S S1):PS S0 S1 q l2 :=
 ⟨fp',k1,h2.trans k3 fun x hx=>(by
  rcases List.mem_cons.1 hx with rfl | hx
  ·
   exact .inr h3
  ·
   exact .inr (h4 x hx)),h3,fun x hx=>(by
  rcases k2 x hx with hx | hx
  ·
   exact h4 x hx
  ·
   have:=h2.1;omega)⟩
theorem XF (S:zu):∃ S1,zT zi O zV.id [] S=some (.pointer (some ⟨S.next,0,none⟩),S1)∧PS S S1 S.next []:=by
 obtain ⟨S1,h1,h2,h3⟩:=zV.v S
 exact ⟨S1,h1,[],h2,Fr.ext h3,Nat.le_refl _,fun x hx=>by cases hx⟩
theorem Yp (h:PS S0 S q l) (t:TxV):∃ S1,zT zi O zA.id [.pointer (some ⟨q,0,none⟩),tv t] S=some (.int .i64 (YT l t).1,S1)∧PS S0 S1 q (YT l t).2:=by
 obtain ⟨fp,h1,h2,h3,h4⟩:=h
 obtain ⟨S1,fp',e1,e2,e3,e4⟩:=zA.v h1 t
 exact ⟨S1,e1,PS.of h1 h2 h3 h4 e2 e3 e4⟩
theorem aco (h:PS S0 S q l):∃ k,Okl k l∧k≠1∧zT zi O zK.id [.pointer (some ⟨q,0,none⟩)] S=some (tl k l,S):=by
 obtain ⟨fp,h1,_⟩:=h
 exact zK.v h1
theorem acH (h:PS S0 S q l) {k2:Nat} {many:Int} {skip:List Int} (hs:Okl k2 skip) (hs2:k2≠2) (hsl:skip.length≤17592186044416):∃ k S1,zT zi O zy.id [.pointer (some ⟨q,0,none⟩),.int .i64 many,iz k2 skip] S=some (tl k (Wx l many skip),S1)∧Okl k (Wx l many skip)∧k≠1∧PS S0 S1 q l:=by
 obtain ⟨fp,h1,h2⟩:=h
 obtain ⟨k,S1,e1,e2,e3,e4⟩:=zy.v (many:=many) h1 hs hs2 hsl
 exact ⟨k,S1,e1,e2,e3,PS.ext ⟨fp,h1,h2⟩ e4⟩
theorem abt (q:Nat) (S:zu):yU zi .eql 24 (.pointer (some ⟨q,0,none⟩)) (.pointer none) S=some (.bool false,S):=by kernel_rfl
theorem zB.v (S:zu):∃ S1,zT zi O zB.id [] S=some (.bool true,S1)∧Fr [] S S1:=by
 obtain ⟨T,hTe⟩:∃ T,T=(zh::zh::zh::zh::zh::zh::zh::zh::zh::zh::zh::zh::zh::zh::zh::zh::zh::zh::zh::zh::zh::zh::zh::zh::zh::zh::zh::zh::zh::zh::zh::zh::zh::zh::zh::zh::zh::[]):=⟨_,rfl⟩
 have hr:zF zi O false zB.code T S=zF zi O false zB.code T S:=rfl
 obtain ⟨S1,a1,p1⟩:=XF S
 obtain ⟨S2,a2,p2⟩:=Yp p1 ⟨1,1⟩
 obtain ⟨S3,a3,p3⟩:=Yp p2 ⟨2,5⟩
 obtain ⟨S4,a4,p4⟩:=Yp p3 ⟨3,3⟩
 have e2:YT [] ⟨1,1⟩=(0,[⟨1,1⟩]):=by rfl
 rw [e2] at a2 p2 a3 p3 a4 p4
 have e3:YT [⟨1,1⟩] ⟨2,5⟩=(0,[⟨2,5⟩,⟨1,1⟩]):=by rfl
 simp only [e3] at a3 p3 a4 p4
 have e4:YT [⟨2,5⟩,⟨1,1⟩] ⟨3,3⟩=(0,[⟨2,5⟩,⟨3,3⟩,⟨1,1⟩]):=by rfl
 simp only [e4] at a4 p4
 obtain ⟨k,S5,a5,k5,_,p5⟩:=acH (many:=2) (skip:=[]) p4 Okl.none (by decide) (by simp)
 have e5:Wx [⟨2,5⟩,⟨3,3⟩,⟨1,1⟩] 2 []=[⟨2,5⟩,⟨3,3⟩]:=by rfl
 rw [e5] at a5 k5
 have a5:zT zi O zy.id [.pointer (some ⟨S.next,0,none⟩),.int .i64 2,.slice none 0 0] S4=some (tl k [⟨2,5⟩,⟨3,3⟩],S5):=a5
 obtain ⟨S6,a6,p6⟩:=Yp p5 ⟨1,9⟩
 have e6:YT [⟨2,5⟩,⟨3,3⟩,⟨1,1⟩] ⟨1,9⟩=(91,[⟨2,5⟩,⟨3,3⟩,⟨1,1⟩]):=by rfl
 rw [e6] at a6 p6
 have b1:∀ S,wI zi 30 [(0,.int .i64 1),(1,.int .i64 1)] S=some (tv ⟨1,1⟩,S):=fun S=>by kernel_rfl
 have b2:∀ S,wI zi 30 [(0,.int .i64 2),(1,.int .i64 5)] S=some (tv ⟨2,5⟩,S):=fun S=>by kernel_rfl
 have b3:∀ S,wI zi 30 [(0,.int .i64 3),(1,.int .i64 3)] S=some (tv ⟨3,3⟩,S):=fun S=>by kernel_rfl
 have b4:∀ S,wI zi 30 [(0,.int .i64 1),(1,.int .i64 9)] S=some (tv ⟨1,9⟩,S):=fun S=>by kernel_rfl
 have bs:∀ S,jK zi 23 2 [(0,tv ⟨2,5⟩),(1,tv ⟨3,3⟩)] S=some (tl 2 [⟨2,5⟩,⟨3,3⟩],S):=fun S=>by kernel_rfl
 have sm:∀ S,zT zi O 15 [tl (if k=2 then 1 else k) [⟨2,5⟩,⟨3,3⟩],tl 1 [⟨2,5⟩,⟨3,3⟩]] S=some (.bool true,S):=fun S=>by
  have:=zx.v k5.dem (Okl.read (l:=[(⟨2,5⟩:TxV),⟨3,3⟩])) (acP k) (by decide) (by simp) S
  rwa [decide_eq_true rfl] at this
 refine ⟨S6,?_,p6.fr⟩
 conv at hr =>
  rhs
  rw [hTe]
  simp only [zB.code,zB.rs,zSs,reduceIte,zk,zn,zo,zq,a1,abt,b1,a2,b2,a3,b3,a4,a5,bs,aew,sm,b4,a6]
 rw [hTe] at hr
 exact zB.runs hr (.inr rfl)
end
end Go.Proofs.Ytacbgjhmkhjpoaa
namespace Go.Proofs.Ytacbgjhmkhjpoaa
open Go.Abs
namespace mempoolNames
def codes:List (Bool×Ty):=[]
theorem coded:Jt zi 9 []=some codes:=rfl
theorem run (S:zu):∃ S',zT zi O 3 [] S=some (.bool true,S'):=by
 obtain ⟨T,hTe⟩:∃ T,T=(zh::zh::zh::zh::zh::zh::zh::zh::zh::zh::zh::zh::zh::zh::zh::zh::zh::zh::[]):=⟨_,rfl⟩
 have hr:zF zi O false zD.code T S=zF zi O false zD.code T S:=rfl
 obtain ⟨S1,a1,f1⟩:=zB.v S
 obtain ⟨S2,a2,p2⟩:=XF S1
 obtain ⟨k,k1,k2,a3⟩:=aco p2
 have ln:∀ S,Zp zi 23 (tl k []) S=some (.int .i64 0,S):=fun S=>JB k1
 obtain ⟨S3,a4,p4⟩:=XF S2
 obtain ⟨S4,a5,p5⟩:=Yp p4 ⟨0,0⟩
 have e5:(YT [] ⟨0,0⟩).1=61:=by rfl
 rw [e5] at a5
 have b1:∀ S,wI zi 30 [] S=some (tv ⟨0,0⟩,S):=fun S=>by kernel_rfl
 refine ⟨S4,?_⟩
 conv at hr =>
  rhs
  rw [hTe]
  simp only [zD.code,zD.rs,zSs,reduceIte,zk,zn,zo,zq,a1,a2,a3,ln,a4,b1,a5]
 rw [hTe] at hr
 exact zD.runs hr (.inr rfl)
theorem law (x:Args codes) (h:Args.Good codes x):∃ k,(qy zi k 3 (Args.place codes x zu.empty).1 (Args.place codes x zu.empty).2).map (·.1)=some (.bool true):=by
 obtain ⟨S',e⟩:=run zu.empty
 exact Y2 adT (S':=S') e
end mempoolNames
end Go.Proofs.Ytacbgjhmkhjpoaa
namespace Go.Proofs.Ytacbgjhmkhjpoaa.mempoolNames
open Go.ChangeShapes Go.WideShapes Go.ChangeAt Go.RowKit Go.Abs
theorem own:ownKnob zi.godebug=none:=by kernel_rfl
theorem laidOut:laidOutB zi=true:=by kernel_rfl
theorem mixes:zi.follows .mixedOrders=true:=by kernel_rfl
set_option maxRecDepth 100000 in
theorem lifted (os:Os) (started:os.Started) (H:Type) (enc:TypeId×Value→H) :
  ReturnsInHanded {} Try.checked os 3 .any (Rows.mempoolNamesSpec.pre6 enc zi Try.f3 Rows.mempoolNamesRow.domain false) (Rows.mempoolNamesSpec.post enc zi Try.f3 false true false false):=by
 refine returnsInHanded_of_change_sized (C:=Try.checked) own started (by kernel_rfl) Try.func3
  (ChangeSpec.witness6 (enc:=enc) (C:=Try.checked) false ⟨#[],#[],[]⟩ 8 (by kernel_rfl) (by kernel_rfl) (by kernel_rfl) (by kernel_rfl)) ?_
 intro W base args ds gs before hval0 hW hcnd hsz0 _
 have hW':=hW
 obtain ⟨p,q,hA0,hV,rfl,hfz,hnd⟩:=hW
 obtain ⟨rfl,rfl⟩:=trodVars_none hV
 have hsz1:(DataW.weightsEach zi (Try.f3.params.toList++Rows.mempoolNamesSpec.plain.varTypes zi) (ds++[])).all (·≤reachBytes)=true:=hsz0
 have hval:∀ (j:Nat) t v,Try.f3.params[j]?=some t→args[j]?=some v→Value.okWide zi W .any base t v:=hval0
 have hA1:DataW.TrodAll enc zi W 0 (fun _=>true) true Try.f3.params.toList args.toList ds p:=hA0
 rw [Try.params3] at hA1 hsz1 hval
 have hA:DataW.TrodAll enc zi W 0 (fun _=>true) true [] args.toList ds p:=hA1
 have hsz:(DataW.weightsEach zi [] ds).all (·≤reachBytes)=true:=by rw [List.append_nil ds] at hsz1;exact hsz1
 clear hA0 hA1 hval0 hsz0 hsz1
 have r:=hA
 obtain ⟨_,rfl,_⟩:=trodAll_nil r
 refine (aal mixes coded law hA (fun j t v h1 h2=>hval j t v (by rw [List.getElem?_toArray];exact h1) h2) hsz).mono fun e W' ⟨he,bel⟩=>?_
 subst he
 exact ⟨_,rfl,_,_,_,[],_,[],hW',trodAll_mk1 (shut_bool (by kernel_rfl) _),abj laidOut bel _ _ _ _ (by kernel_rfl) hA,rfl,bel.frame _,fun h=>by cases h⟩
theorem over:Rows.mempoolNamesRow.holds Try.pinned (OpenSpec.ofChange Rows.mempoolNamesSpec) :=
 OpenClaim.holds_of_wide 3 Try.f3 rfl rfl rfl rfl rfl rfl rfl ⟨rfl,rfl,rfl,rfl,rfl⟩ rfl rfl rfl rfl rfl (by kernel_rfl) Try.func3 (by kernel_rfl)
  (of_decide_eq_true (by kernel_rfl)) (by unfold Func.isWrapper;first | (rw [if_pos (by decide +kernel)];kernel_rfl) | (rw [if_neg (by decide +kernel)];exact ⟨rfl,rfl⟩))
  (fun os started H enc _=>lifted os started H enc)
theorem proved:Rows.MempoolNamesSaid:=over
end Go.Proofs.Ytacbgjhmkhjpoaa.mempoolNames
namespace Go.Proofs.Ytacbgjhmkhjpoaa
theorem mempoolNames_holds:Rows.MempoolNamesSaid:=mempoolNames.proved
#print axioms mempoolNames_holds
end Go.Proofs.Ytacbgjhmkhjpoaa
