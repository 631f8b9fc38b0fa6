/-
The law GateOnce returns true for every input, and leaves it as it was; no condition. Part 7 of 7 of the texts (put together by a program: own names are short, what isn't needed is left out).
-/
import Derived.Test.YtfjogganfjkckaaZGateOnce6
import Derived.Test.YtfjogganfjkckaaRows
import Derived.WalkKit
import Derived.ProofKit
import Derived.OpenShut
import Derived.ShutString
import Derived.ChangeOld
import Derived.Below
import Derived.SizedLaws
import Derived.Carry
set_option linter.unusedVariables false
set_option linter.unusedSimpArgs false
set_option maxRecDepth 100000
open Go renaming undef → zh
open Go.Proofs.Try renaming prog → zi
open Nat renaming reduceEqDiff → zk
open Int renaming reduceEq → zn
open Int renaming reduceLT → zo
open Int renaming reduceLE → zq
namespace Go.Proofs.Ytfjogganfjkckaa
open Go.Abs
def Zv (S S1:zy):Prop:=S.next≤S1.next∧∀ p cs own e,p < S.next→S.get p=some (.cells cs own e)→S1.get p=S.get p
theorem Zv.refl (S:zy):Zv S S:=⟨Nat.le_refl _,fun _ _ _ _ _ _=>rfl⟩
theorem Zv.trans {S S1 S2:zy} (h:Zv S S1) (k:Zv S1 S2):Zv S S2:=⟨Nat.le_trans h.1 k.1,fun p cs own e hp hg=>by
 have h1:=h.2 p cs own e hp hg
 rw [k.2 p cs own e (Nat.lt_of_lt_of_le hp h.1) (h1.trans hg),h1]⟩
theorem Zv.ext {S S1:zy} (h:Ext S S1):Zv S S1:=⟨h.1,fun p _ _ _ hp _=>h.2 p hp⟩
def ag4 (said:List (List UInt8)) (data:List UInt8):List (List UInt8):=if data ∈ said then said else said++[data]
def VD (known:List (Int×List UInt8)) (b:kS):List (Int×List UInt8):=if (Zf known (nameOf b)).isSome then known else known++[(nameOf b,vF b)]
def aeH (known:List (Int×List UInt8)) (m:yg) (e:Int):List (Int×List UInt8):=if e=0∧m.kind=1 then VD known m.b else known
section
variable {S:zy} {q:Nat} {bad:List Int} {said:List (List UInt8)} {known:List (Int×List UInt8)}
theorem Gt.say (h:Gt S q bad said known) {a b k:Nat} (h1:Okl k bad) (h2:k≠2) (h3:bad.length≤17592186044416) (h4:a < S.next) (h5:b < S.next) (h6:a≠b) (h7:S.get q=some (.cells [iz k bad,.map (some a),.map (some b)] (.own []) 0)) (h8:MapAt encS S a (abN said)) (h9:MapAt encI S b (QB known)) (data:List UInt8) :
  ∃ S1,qo zi 59 (.map (some a)) (encS data) (.bool true) S=some (zh,S1)∧S1.next=S.next∧S1.get q=some (.cells [iz k bad,.map (some a),.map (some b)] (.own []) 0)∧MapAt encS S1 a (abN (ag4 said data))∧MapAt encI S1 b (QB known)∧Zv S S1:=by
 obtain ⟨S1,m1,m2,m3,m4,_⟩:=acA afi h8 Wx aat data (.bool true)
 obtain ⟨es,c,g,_⟩:=h8
 have hne:∀ p cs own e,S.get p=some (.cells cs own e)→p≠a:=fun p cs own e hp hpa=>by rw [hpa,g] at hp;cases hp
 rw [ahA] at m2
 exact ⟨S1,m1,m3,(m4 q (hne q _ _ _ h7)).trans h7,m2,h9.keep (m4 b (fun h=>h6 h.symm)),Nat.le_of_eq m3.symm,fun p cs own e _ hg=>m4 p (hne p _ _ _ hg)⟩
theorem Gt.know {a b k:Nat} (h4:a < S.next) (h5:b < S.next) (h6:a≠b) (h7:S.get q=some (.cells [iz k bad,.map (some a),.map (some b)] (.own []) 0)) (h8:MapAt encS S a (abN said)) (h9:MapAt encI S b (QB known)) {n:Int} {t:List UInt8} (hn:Zf known n=none) :
  ∃ S1,qo zi 60 (.map (some b)) (encI n) (encS t) S=some (zh,S1)∧S1.next=S.next∧S1.get q=some (.cells [iz k bad,.map (some a),.map (some b)] (.own []) 0)∧MapAt encS S1 a (abN said)∧MapAt encI S1 b (QB (known++[(n,t)]))∧Zv S S1:=by
 obtain ⟨S1,m1,m2,m3,m4,_⟩:=acA Xm h9 Jv aa0 n (encS t)
 obtain ⟨es,c,g,_⟩:=h9
 have hne:∀ p cs own e,S.get p=some (.cells cs own e)→p≠b:=fun p cs own e hp hpa=>by rw [hpa,g] at hp;cases hp
 rw [aeM hn] at m2
 exact ⟨S1,m1,m3,(m4 q (hne q _ _ _ h7)).trans h7,h8.keep (m4 a h6),m2,Nat.le_of_eq m3.symm,fun p cs own e _ hg=>m4 p (hne p _ _ _ hg)⟩
theorem jq.v (h:Gt S q bad said known) {k:Nat} {data:List UInt8} (hk:Okl k data) (k2:k≠2) (hl:data.length≤140737488355328) :
  ∃ m e S1,Qb data m e∧zZ zi O jq.id [.pointer (some ⟨q,0,none⟩),by_ k data] S=some (.tuple #[],S1)∧Gt S1 q bad (ag4 said data) (aeH known m e)∧Zv S S1:=by
 obtain ⟨T,hTe⟩:∃ T,T=(.pointer (some ⟨q,0,none⟩)::by_ k data::zh::zh::zh::zh::zh::zh::zh::zh::zh::zh::zh::zh::zh::zh::zh::zh::zh::zh::zh::zh::zh::zh::zh::zh::zh::zh::zh::zh::zh::zh::zh::zh::zh::zh::zh::zh::zh::zh::zh::zh::zh::zh::zh::zh::zh::zh::zh::[]):=⟨_,rfl⟩
 have hr:zJ zi O false jq.code T S=zJ zi O false jq.code T S:=rfl
 obtain ⟨k0,a,b,h1,h2,h3,h4,h5,h6,h7,h8,h9⟩:=h.cell
 have l1:jh zi false 59 (.pointer (some ⟨q,0+1,none⟩)) S=some (.map (some a),S):=QV (t:=59) (o:=0+1) h7 Wv rfl
 have s1:∀ S,Jt zi 33 9 (by_ k data) S=some (.string ⟨data.toArray⟩,S):=fun S=>Xi hk
 have s2:∀ S,qU zi false false 33 9 (by_ k data) S=some (.string ⟨data.toArray⟩,S):=fun S=>by rw [YV];exact s1 S
 obtain ⟨S1,m1,m2,m3,m4,m5,m6⟩:=h.say h1 h2 h3 h4 h5 h6 h7 h8 h9 data
 obtain ⟨m,e,hR,c1⟩:=wV.v hk k2 hl
 obtain ⟨S2,n1,n2,n3,n4⟩:=abU m S1
 have am:yI zi 48 S1=some (.pointer (some ⟨S1.next,0,none⟩),S1.push (.cells (fM m0) (.own []) 0)):=Xz S1
 have hq1:q < S1.next:=by rw [m2];exact h.lt
 have st2:Zv S S2:=m6.trans (Zv.ext n3)
 have G2:Gt S2 q bad (ag4 said data) known:=⟨Nat.lt_of_lt_of_le hq1 n3.1,k0,a,b,h1,h2,h3,by have:=n3.1;omega,by have:=n3.1;omega,h6,(n3.2 q hq1).trans m3,m4.keep (n3.2 a (by omega)),m5.keep (n3.2 b (by omega))⟩
 have hR2:=hR
 obtain ⟨ok,_,hcase⟩:=hR2
 by_cases he:e=0
 ·
  subst he
  have d1:=wS n2
  by_cases hkd:m.kind=1
  ·
   have dk:=decide_eq_true hkd
   have g2q:=(n3.2 q hq1).trans m3
   have l2:jh zi false 60 (.pointer (some ⟨q,0+2,none⟩)) S2=some (.map (some b),S2):=QV (t:=60) (o:=0+2) g2q Yf rfl
   have c2:=fun S=>yh.v ok.b S
   have lk:=ads Xm (m5.keep (n3.2 b (by omega))) Jv aa0 ac5 rfl (nameOf m.b)
   rw [KA] at lk
   cases hf:Zf known (nameOf m.b) with
   | some t =>
    rw [hf] at lk
    simp only [Option.map_some,Option.map_none,Option.getD_some,Option.getD_none,Option.isSome_some,Option.isSome_none] at lk
    refine ⟨m,0,S2,hR,?_,?_,st2⟩
    ·
     conv at hr =>
      rhs
      rw [hTe]
      simp only [jq.code,jq.rs,zSs,reduceIte,zk,zn,zo,zq,if_neg k2,qZ,qI,l1,s1,s2,m1,c1,am,n1,zO,d1,dk,jd,yY n2 ok.b.ne,c2,vT,l2,lk]
     rw [hTe] at hr
     exact jq.runs hr (.inl rfl)
    ·
     rw [aeH,if_pos ⟨rfl,hkd⟩,VD,hf];exact G2
   | none =>
    rw [hf] at lk
    simp only [Option.map_some,Option.map_none,Option.getD_some,Option.getD_none,Option.isSome_some,Option.isSome_none] at lk
    obtain ⟨S3,p1,p2,p3,p4,p5,p6⟩:=Gt.know (t:=vF m.b) (by have:=n3.1;omega) (by have:=n3.1;omega) h6 g2q (m4.keep (n3.2 a (by omega))) (m5.keep (n3.2 b (by omega))) hf
    have c3:=fun S=>qc.v ok.b S
    have okm:okq 3 (.map (some b))=true:=rfl
    refine ⟨m,0,S3,hR,?_,?_,st2.trans p6⟩
    ·
     conv at hr =>
      rhs
      rw [hTe]
      simp only [jq.code,jq.rs,zSs,reduceIte,zk,zn,zo,zq,if_neg k2,qZ,qI,l1,s1,s2,m1,c1,am,n1,zO,d1,dk,jd,yY n2 ok.b.ne,c2,vT,l2,lk,kF okm,Jf,c3,yP g2q,p1]
     rw [hTe] at hr
     exact jq.runs hr (.inl rfl)
    ·
     rw [aeH,if_pos ⟨rfl,hkd⟩,VD,hf]
     exact ⟨by rw [p2];exact G2.lt,k0,a,b,h1,h2,h3,by have:=n3.1;omega,by have:=n3.1;omega,h6,p3,p4,p5⟩
  ·
   have dk:=decide_eq_false hkd
   refine ⟨m,0,S2,hR,?_,?_,st2⟩
   ·
    conv at hr =>
     rhs
     rw [hTe]
     simp only [jq.code,jq.rs,zSs,reduceIte,zk,zn,zo,zq,if_neg k2,qZ,qI,l1,s1,s2,m1,c1,am,n1,zO,d1,dk]
    rw [hTe] at hr
    exact jq.runs hr (.inr rfl)
   ·
    rw [aeH,if_neg (fun hh=>hkd hh.2)];exact G2
 ·
  have de:=decide_eq_false he
  refine ⟨m,e,S2,hR,?_,?_,st2⟩
  ·
   conv at hr =>
    rhs
    rw [hTe]
    simp only [jq.code,jq.rs,zSs,reduceIte,zk,zn,zo,zq,if_neg k2,qZ,qI,l1,s1,s2,m1,c1,am,n1,de]
   rw [hTe] at hr
   exact jq.runs hr (.inr rfl)
  ·
   rw [aeH,if_neg (fun hh=>he hh.1)];exact G2
def isBad (bad:List Int) (n:Int):Bool:=bad.any fun x=>decide (n=x)
def vO (bad:List Int) (said:List (List UInt8)) (known:List (Int×List UInt8)) (data:List UInt8) (m:yg) (e:Int):Bool×List (Int×List UInt8) :=
 if e=0 then (if data ∈ said then (true,known) else if isBad bad m.frm then (if m.kind=1 then (match Zf known (nameOf m.b) with
  | some t=>(decide (t=vF m.b),known)
  | none=>if isBad bad m.b.miner then (true,known++[(nameOf m.b,vF m.b)]) else (false,known)) else (true,known)) else (false,known)) else (false,known)
theorem zM.v (h:Gt S q bad said known) {k:Nat} {data:List UInt8} (hk:Okl k data) (k2:k≠2) (hl:data.length≤140737488355328) :
  ∃ m e S1,Qb data m e∧zZ zi O zM.id [.pointer (some ⟨q,0,none⟩),by_ k data] S=some (.bool (vO bad said known data m e).1,S1)∧Gt S1 q bad said (vO bad said known data m e).2∧Zv S S1:=by
 obtain ⟨T,hTe⟩:∃ T,T=(.pointer (some ⟨q,0,none⟩)::by_ k data::zh::zh::zh::zh::zh::zh::zh::zh::zh::zh::zh::zh::zh::zh::zh::zh::zh::zh::zh::zh::zh::zh::zh::zh::zh::zh::zh::zh::zh::zh::zh::zh::zh::zh::zh::zh::zh::zh::zh::zh::zh::zh::zh::zh::zh::zh::zh::zh::zh::zh::zh::zh::zh::zh::zh::zh::zh::zh::zh::zh::zh::zh::zh::zh::zh::zh::[]):=⟨_,rfl⟩
 have hr:zJ zi O false zM.code T S=zJ zi O false zM.code T S:=rfl
 obtain ⟨m,e,hR,c1⟩:=wV.v hk k2 hl
 obtain ⟨S2,n1,n2,n3,n4⟩:=abU m S
 have am:yI zi 48 S=some (.pointer (some ⟨S.next,0,none⟩),S.push (.cells (fM m0) (.own []) 0)):=Xz S
 have st2:Zv S S2:=Zv.ext n3
 have G2:=h.ext n3
 obtain ⟨k0,a,b,h1,h2,h3,h4,h5,h6,h7,h8,h9⟩:=G2.cell
 have hR2:=hR
 obtain ⟨ok,_,hcase⟩:=hR2
 by_cases he:e=0
 ·
  subst he
  have l1:jh zi false 59 (.pointer (some ⟨q,0+1,none⟩)) S2=some (.map (some a),S2):=QV (t:=59) (o:=0+1) h7 Wv rfl
  have s1:∀ S,Jt zi 33 9 (by_ k data) S=some (.string ⟨data.toArray⟩,S):=fun S=>Xi hk
  have s2:∀ S,qU zi false false 33 9 (by_ k data) S=some (.string ⟨data.toArray⟩,S):=fun S=>by rw [YV];exact s1 S
  have lk:=agI afi h8 Wx aat aiI rfl data
  rw [ahJ] at lk
  by_cases hs:data ∈ said
  ·
   have ds:=decide_eq_true hs
   rw [ds] at lk
   have hp:vO bad said known data m 0=(true,known):=by rw [vO,if_pos rfl,if_pos hs]
   refine ⟨m,0,S2,hR,?_,by rw [hp];exact G2,st2⟩
   rw [hp]
   conv at hr =>
    rhs
    rw [hTe]
    simp only [zM.code,zM.rs,zSs,reduceIte,zk,zn,zo,zq,if_neg k2,c1,am,n1,qZ,qI,l1,s1,s2,lk]
   rw [hTe] at hr
   exact zM.runs hr (.inr rfl)
  ·
   have ds:=decide_eq_false hs
   rw [ds] at lk
   have cb:=wO.v G2 m.frm
   have d1:=yK n2
   have d0:=wS n2
   cases hb:isBad bad m.frm
   ·
    have hb2:(bad.any fun x=>decide (m.frm=x))=false:=hb
    rw [hb2] at cb
    have hp:vO bad said known data m 0=(false,known):=by rw [vO,if_pos rfl,if_neg hs,hb];rfl
    refine ⟨m,0,S2,hR,?_,by rw [hp];exact G2,st2⟩
    rw [hp]
    conv at hr =>
     rhs
     rw [hTe]
     simp only [zM.code,zM.rs,zSs,reduceIte,zk,zn,zo,zq,if_neg k2,c1,am,n1,qZ,qI,l1,s1,s2,lk,je,d1,cb]
    rw [hTe] at hr
    exact zM.runs hr (.inr rfl)
   ·
    have hb2:(bad.any fun x=>decide (m.frm=x))=true:=hb
    rw [hb2] at cb
    by_cases hkd:m.kind=1
    ·
     have dk:=decide_eq_true hkd
     have l2:jh zi false 60 (.pointer (some ⟨q,0+2,none⟩)) S2=some (.map (some b),S2):=QV (t:=60) (o:=0+2) h7 Yf rfl
     have c2:=fun S=>yh.v ok.b S
     have c3:=fun S=>qc.v ok.b S
     have lk2:=ads Xm h9 Jv aa0 ac5 rfl (nameOf m.b)
     rw [KA] at lk2
     cases hf:Zf known (nameOf m.b) with
     | some t =>
      rw [hf] at lk2
      simp only [Option.map_some,Option.map_none,Option.getD_some,Option.getD_none,Option.isSome_some,Option.isSome_none] at lk2
      have hp:vO bad said known data m 0=(decide (t=vF m.b),known):=by rw [vO,if_pos rfl,if_neg hs,hb,if_pos rfl,if_pos hkd,hf]
      have cq:∀ S,wI zi .eql 9 (encS t) (encS (vF m.b)) S=some (.bool (decide (t=vF m.b)),S):=fun S=>afN (t:=9)
      refine ⟨m,0,S2,hR,?_,by rw [hp];exact G2,st2⟩
      rw [hp]
      conv at hr =>
       rhs
       rw [hTe]
       simp only [zM.code,zM.rs,zSs,reduceIte,zk,zn,zo,zq,if_neg k2,c1,am,n1,qZ,qI,l1,s1,s2,lk,je,d1,cb,zO,d0,dk,jd,yY n2 ok.b.ne,c2,vT,l2,lk2,c3,cq]
      rw [hTe] at hr
      exact zM.runs hr (.inr rfl)
     | none =>
      rw [hf] at lk2
      simp only [Option.map_some,Option.map_none,Option.getD_some,Option.getD_none,Option.isSome_some,Option.isSome_none] at lk2
      have cb2:=wO.v G2 m.b.miner
      have d2:jh zi false 3 (.pointer (some ⟨S.next,0+8+1,none⟩)) S2=some (.int .i64 m.b.miner,S2):=qK (t:=3) (o:=0+8+1) n2 ZX rfl
      cases hb3:isBad bad m.b.miner
      ·
       have hb4:(bad.any fun x=>decide (m.b.miner=x))=false:=hb3
       rw [hb4] at cb2
       have hp:vO bad said known data m 0=(false,known):=by rw [vO,if_pos rfl,if_neg hs,hb,if_pos rfl,if_pos hkd,hf];dsimp only;rw [hb3];rfl
       refine ⟨m,0,S2,hR,?_,by rw [hp];exact G2,st2⟩
       rw [hp]
       conv at hr =>
        rhs
        rw [hTe]
        simp only [zM.code,zM.rs,zSs,reduceIte,zk,zn,zo,zq,if_neg k2,c1,am,n1,qZ,qI,l1,s1,s2,lk,je,d1,cb,zO,d0,dk,jd,yY n2 ok.b.ne,c2,vT,l2,lk2,jP,d2,cb2]
       rw [hTe] at hr
       exact zM.runs hr (.inr rfl)
      ·
       have hb4:(bad.any fun x=>decide (m.b.miner=x))=true:=hb3
       rw [hb4] at cb2
       have hp:vO bad said known data m 0=(true,known++[(nameOf m.b,vF m.b)]):=by rw [vO,if_pos rfl,if_neg hs,hb,if_pos rfl,if_pos hkd,hf];dsimp only;rw [hb3];rfl
       obtain ⟨S3,p1,p2,p3,p4,p5,p6⟩:=Gt.know (t:=vF m.b) h4 h5 h6 h7 h8 h9 hf
       have okm:okq 3 (.map (some b))=true:=rfl
       refine ⟨m,0,S3,hR,?_,?_,st2.trans p6⟩
       ·
        rw [hp]
        conv at hr =>
         rhs
         rw [hTe]
         simp only [zM.code,zM.rs,zSs,reduceIte,zk,zn,zo,zq,if_neg k2,c1,am,n1,qZ,qI,l1,s1,s2,lk,je,d1,cb,zO,d0,dk,jd,yY n2 ok.b.ne,c2,vT,l2,lk2,jP,d2,cb2,c3,kF okm,Jf,yP h7,p1]
        rw [hTe] at hr
        exact zM.runs hr (.inr rfl)
       ·
        rw [hp]
        exact ⟨by rw [p2];exact G2.lt,k0,a,b,h1,h2,h3,by omega,by omega,h6,p3,p4,p5⟩
    ·
     have dk:=decide_eq_false hkd
     have hp:vO bad said known data m 0=(true,known):=by rw [vO,if_pos rfl,if_neg hs,hb,if_pos rfl,if_neg hkd]
     refine ⟨m,0,S2,hR,?_,by rw [hp];exact G2,st2⟩
     rw [hp]
     conv at hr =>
      rhs
      rw [hTe]
      simp only [zM.code,zM.rs,zSs,reduceIte,zk,zn,zo,zq,if_neg k2,c1,am,n1,qZ,qI,l1,s1,s2,lk,je,d1,cb,zO,d0,dk]
     rw [hTe] at hr
     exact zM.runs hr (.inr rfl)
 ·
  have de:=decide_eq_false he
  have hp:vO bad said known data m e=(false,known):=by rw [vO,if_neg he]
  refine ⟨m,e,S2,hR,?_,by rw [hp];exact G2,st2⟩
  rw [hp]
  conv at hr =>
   rhs
   rw [hTe]
   simp only [zM.code,zM.rs,zSs,reduceIte,zk,zn,zo,zq,if_neg k2,c1,am,n1,de]
  rw [hTe] at hr
  exact zM.runs hr (.inr rfl)
end
end Go.Proofs.Ytfjogganfjkckaa
namespace Go.Proofs.Ytfjogganfjkckaa
open Go.Abs
theorem YA {x m:yg} {e:Int} (hx:y9 x=true) (h:Qb (Jd x) m e):e=0∧ZB x m=true:=by
 obtain ⟨_,_,⟨h1,h2,h3⟩ | ⟨_,_,h3⟩⟩:=h
 ·
  exact ⟨h1,aan hx h2 h3⟩
 ·
  exact absurd rfl (h3 x hx)
theorem YQ {a b:kS} (h:kN a b=true):nameOf a=nameOf b∧vF a=vF b∧a.miner=b.miner:=by
 obtain ⟨h1,h2,h3,h4,h5⟩:=Zg.1 h
 have hr:jX a=jX b:=by unfold jX headB;rw [h1,h2,h3,h4,h5]
 refine ⟨by unfold nameOf;rw [hr,h1,h2,h3],?_,h2⟩
 unfold vF XB
 rw [hr,h1,h2,h3,h4,h5]
theorem aa5 {x m:yg} (h:ZB x m=true) (bad:List Int) (said:List (List UInt8)) (known:List (Int×List UInt8)) (d:List UInt8) (e:Int):vO bad said known d m e=vO bad said known d x e:=by
 obtain ⟨h1,h2,_,_,_,_,_,h8⟩:=kU.1 h
 obtain ⟨g1,g2,g3⟩:=YQ h8
 unfold vO
 rw [h1,h2,g1,g2,g3]
theorem adl {x m:yg} (h:ZB x m=true) (known:List (Int×List UInt8)) (e:Int):aeH known m e=aeH known x e:=by
 obtain ⟨h1,h2,_,_,_,_,_,h8⟩:=kU.1 h
 obtain ⟨g1,g2,g3⟩:=YQ h8
 unfold aeH VD
 rw [h1,g1,g2]
section
variable {S:zy} {q:Nat} {bad:List Int} {said:List (List UInt8)} {known:List (Int×List UInt8)}
theorem YD (h:Gt S q bad said known) {x:yg} (hx:y9 x=true):∃ S1,zZ zi O zM.id [.pointer (some ⟨q,0,none⟩),by_ 1 (Jd x)] S=some (.bool (vO bad said known (Jd x) x 0).1,S1)∧Gt S1 q bad said (vO bad said known (Jd x) x 0).2∧Zv S S1:=by
 obtain ⟨m,e,S1,h1,h2,h3,h4⟩:=zM.v h (k:=1) (data:=Jd x) Okl.read (by decide) (by have:=adb hx;omega)
 obtain ⟨rfl,hs⟩:=YA hx h1
 rw [aa5 hs] at h2 h3
 exact ⟨S1,h2,h3,h4⟩
theorem ajJ (h:Gt S q bad said known) {x:yg} (hx:y9 x=true):∃ S1,zZ zi O jq.id [.pointer (some ⟨q,0,none⟩),by_ 1 (Jd x)] S=some (.tuple #[],S1)∧Gt S1 q bad (ag4 said (Jd x)) (aeH known x 0)∧Zv S S1:=by
 obtain ⟨m,e,S1,h1,h2,h3,h4⟩:=jq.v h (k:=1) (data:=Jd x) Okl.read (by decide) (by have:=adb hx;omega)
 obtain ⟨rfl,hs⟩:=YA hx h1
 rw [adl hs] at h3
 exact ⟨S1,h2,h3,h4⟩
end
abbrev mkm (f:Int) (b:kS):yg:=⟨1,f,0,0,0,0,⟨0,0⟩,b⟩
theorem jR.v {f:Int} {b:kS} (hb:b.Ok) (hf:Big f) (hR:y9 (mkm f b)=true) (S:zy):∃ S1,zZ zi O jR.id [.int .i64 f,bv b] S=some (by_ 2 (Jd (mkm f b)),S1)∧Ext S S1:=by
 obtain ⟨T,hTe⟩:∃ T,T=(.int .i64 f::bv b::zh::zh::zh::zh::zh::zh::zh::zh::zh::zh::zh::zh::zh::[]):=⟨_,rfl⟩
 have hr:zJ zi O false jR.code T S=zJ zi O false jR.code T S:=rfl
 obtain ⟨S2,b1,b2,b3,b4⟩:=aiW (bv b) S
 have b2:S2.get S.next=some (.cells (fBk b) (.own []) 0):=b2
 have z0:Big 0:=by unfold Big;decide
 have z1:Big 1:=by unfold Big;decide
 have ok:(mkm f b).Ok:=⟨hb,⟨z0,z0⟩,z1,hf,z0,z0,z0,z0⟩
 have bd:∀ S,yA zi 48 [(0,.int .i64 1),(1,.int .i64 f),(7,bv b)] S=some (mv (mkm f b),S):=fun S=>QO rfl rfl S
 have c1:=fun S=>zT.v ok S
 unfold acE at c1
 rw [hR] at c1
 refine ⟨S2,?_,b3⟩
 conv at hr =>
  rhs
  rw [hTe]
  simp only [jR.code,jR.rs,zSs,reduceIte,zk,zn,zo,zq,b1,QF b2 hb.ne,bd,c1]
 rw [hTe] at hr
 exact jR.runs hr (.inr rfl)
abbrev bbk:kS:=⟨1,1,0,0,0,[]⟩
abbrev cbk:kS:=⟨1,1,0,0,1,[⟨1,0⟩]⟩
theorem Yj:bbk.Ok:=⟨Okl.none,by decide,by decide,by decide⟩
theorem aiu:cbk.Ok:=⟨Okl.read,by decide,by decide,by decide⟩
theorem r1b:y9 (mkm 1 bbk)=true:=by kernel_rfl
theorem r2b:y9 (mkm 2 bbk)=true:=by kernel_rfl
theorem r3b:y9 (mkm 3 bbk)=true:=by kernel_rfl
theorem r2c:y9 (mkm 2 cbk)=true:=by kernel_rfl
abbrev K1:List (Int×List UInt8):=[(nameOf bbk,vF bbk)]
abbrev S1s:List (List UInt8):=[Jd (mkm 1 bbk)]
theorem pa1:vO [2] [] [] (Jd (mkm 2 bbk)) (mkm 2 bbk) 0=(false,[]):=by kernel_rfl
theorem pa2:vO [2] S1s K1 (Jd (mkm 2 bbk)) (mkm 2 bbk) 0=(true,K1):=by kernel_rfl
theorem pa3:vO [2] S1s K1 (Jd (mkm 2 cbk)) (mkm 2 cbk) 0=(false,K1):=by kernel_rfl
theorem pa4:vO [2] S1s K1 (Jd (mkm 3 bbk)) (mkm 3 bbk) 0=(false,K1):=by kernel_rfl
theorem pa5:vO [2] S1s K1 (Jd (mkm 1 bbk)) (mkm 1 bbk) 0=(true,K1):=by kernel_rfl
theorem sa1:ag4 [] (Jd (mkm 1 bbk))=S1s:=rfl
theorem sa2:aeH [] (mkm 1 bbk) 0=K1:=by kernel_rfl
theorem jg.v (S:zy):zZ zi O jg.id [] S=some (.bool true,S):=by
 obtain ⟨T,hTe⟩:∃ T,T=(zh::zh::zh::zh::zh::zh::zh::zh::zh::zh::zh::zh::zh::zh::zh::zh::zh::zh::zh::zh::zh::zh::zh::zh::zh::zh::zh::zh::zh::zh::zh::zh::zh::zh::zh::zh::zh::zh::zh::zh::zh::zh::zh::zh::zh::zh::zh::zh::zh::zh::zh::zh::zh::zh::zh::zh::zh::zh::[]):=⟨_,rfl⟩
 have hr:zJ zi O false jg.code T zy.empty=zJ zi O false jg.code T zy.empty:=rfl
 have i0:∀ S,jK zi 24 1 [(0,.int .i64 2)] S=some (iz 2 [2],S):=fun S=>by kernel_rfl
 obtain ⟨q,S1,c1,G1,_,_⟩:=qQ.v (k:=1) (l:=[2]) Okl.read (by decide) (by decide) zy.empty
 have pn:∀ S,wI zi .eql 22 (.pointer (some ⟨q,0,none⟩)) (.pointer none) S=some (.bool false,S):=fun S=>rfl
 have bb:∀ S,yA zi 46 [(0,.int .i64 1),(1,.int .i64 1)] S=some (bv bbk,S):=fun S=>QN rfl rfl S
 have bt:∀ S,yA zi 43 [(0,.int .i64 1)] S=some (tv ⟨1,0⟩,S):=fun S=>acL rfl S
 have bs:=fun S=>afU ⟨1,0⟩ S
 have bc:∀ S,yA zi 46 [(0,.int .i64 1),(1,.int .i64 1),(4,tl 1 [⟨1,0⟩])] S=some (bv cbk,S):=fun S=>Y3 rfl rfl YU S
 have a1:=J8 S1
 obtain ⟨A1,hA1⟩:∃ A1,A1=S1.push (.cells (fBk bk0) (.own []) 0):=⟨_,rfl⟩
 rw [← hA1] at a1
 have a2:=J8 A1
 have n1:A1.next=S1.next+1:=by rw [hA1];rfl
 obtain ⟨A2,hA2⟩:∃ A2,A2=A1.push (.cells (fBk bk0) (.own []) 0):=⟨_,rfl⟩
 rw [← hA2] at a2
 have E1:Ext S1 A1:=by rw [hA1];exact Ext.push _ _
 have E2:Ext A1 A2:=by rw [hA2];exact Ext.push _ _
 have g1:A2.get S1.next=some (.cells (fBk bk0) (.own []) 0):=by rw [E2.2 _ (by omega),hA1,zy.yR,if_pos rfl]
 have g2:A2.get A1.next=some (.cells (fBk bk0) (.own []) 0):=by rw [hA2,zy.yR,if_pos rfl]
 obtain ⟨A3,s1,s2,s3,s4,s5⟩:=XD bbk g1 (E1.trans E2) (Nat.le_refl _)
 have g3:A3.get A1.next=some (.cells (fBk bk0) (.own []) 0):=(s5 _ (by omega)).trans g2
 obtain ⟨A4,t1,t2,t3,t4,t5⟩:=XD cbk g3 s3 (by omega)
 have G4:=G1.ext t3
 have m4:A2.next=A1.next+1:=by rw [hA2];rfl
 have hb4:A4.get S1.next=some (.cells (fBk bbk) (.own []) 0):=(t5 _ (by omega)).trans s2
 have hn4:A1.next < A4.next:=by omega
 have kp:∀ {X Y:zy},Zv X Y→(A1.next < X.next∧X.get S1.next=some (.cells (fBk bbk) (.own []) 0)∧X.get A1.next=some (.cells (fBk cbk) (.own []) 0))→(A1.next < Y.next∧Y.get S1.next=some (.cells (fBk bbk) (.own []) 0)∧Y.get A1.next=some (.cells (fBk cbk) (.own []) 0)):=fun h k=>⟨Nat.lt_of_lt_of_le k.1 h.1,(h.2 _ _ _ _ (by omega) k.2.1).trans k.2.1,(h.2 _ _ _ _ k.1 k.2.2).trans k.2.2⟩
 have k4:A1.next < A4.next∧A4.get S1.next=some (.cells (fBk bbk) (.own []) 0)∧A4.get A1.next=some (.cells (fBk cbk) (.own []) 0):=⟨hn4,hb4,t2⟩
 have z1:Big 1:=by unfold Big;decide
 have z2:Big 2:=by unfold Big;decide
 have z3:Big 3:=by unfold Big;decide
 have l4:=QF k4.2.1 Yj.ne
 obtain ⟨B1,c2,x1⟩:=jR.v Yj z2 r2b A4
 obtain ⟨B2,c3,G5,y1⟩:=YD (G4.ext x1) r2b
 rw [pa1] at c3 G5
 have k5:=kp y1 (kp (Zv.ext x1) k4)
 have l5:=QF k5.2.1 Yj.ne
 obtain ⟨B3,c4,x2⟩:=jR.v Yj z1 r1b B2
 obtain ⟨B4,c5,G6,y2⟩:=ajJ (G5.ext x2) r1b
 rw [sa1,sa2] at G6
 have k6:=kp y2 (kp (Zv.ext x2) k5)
 have l6:=QF k6.2.1 Yj.ne
 obtain ⟨B5,c6,x3⟩:=jR.v Yj z2 r2b B4
 obtain ⟨B6,c7,G7,y3⟩:=YD (G6.ext x3) r2b
 rw [pa2] at c7 G7
 have k7:=kp y3 (kp (Zv.ext x3) k6)
 have l7:=QF k7.2.2 aiu.ne
 obtain ⟨B7,c8,x4⟩:=jR.v aiu z2 r2c B6
 obtain ⟨B8,c9,G8,y4⟩:=YD (G7.ext x4) r2c
 rw [pa3] at c9 G8
 have k8:=kp y4 (kp (Zv.ext x4) k7)
 have l8:=QF k8.2.1 Yj.ne
 obtain ⟨B9,c10,x5⟩:=jR.v Yj z3 r3b B8
 obtain ⟨B10,c11,G9,y5⟩:=YD (G8.ext x5) r3b
 rw [pa4] at c11 G9
 have k9:=kp y5 (kp (Zv.ext x5) k8)
 have l9:=QF k9.2.1 Yj.ne
 obtain ⟨B11,c12,x6⟩:=jR.v Yj z1 r1b B10
 obtain ⟨B12,c13,G10,y6⟩:=YD (G9.ext x6) r1b
 rw [pa5] at c13 G10
 have c14:zZ zi O wO.id [.pointer (some ⟨q,0,none⟩),.int .i64 2] B12=some (.bool true,B12):=wO.v G10 2
 have c15:zZ zi O wO.id [.pointer (some ⟨q,0,none⟩),.int .i64 1] B12=some (.bool false,B12):=wO.v G10 1
 conv at hr =>
  rhs
  rw [hTe]
  simp only [jg.code,jg.rs,zSs,reduceIte,zk,zn,zo,zq,i0,c1,pn,bb,bt,bs,bc,a1,a2,s1,t1,l4,c2,c3,l5,c4,c5,l6,c6,c7,l7,c8,c9,l8,c10,c11,l9,c12,c13,c14,c15]
 rw [hTe] at hr
 exact jg.runs hr (.inr rfl) rfl rfl
end Go.Proofs.Ytfjogganfjkckaa
namespace Go.Proofs.Ytfjogganfjkckaa
open Go.Abs
abbrev bls (k:Nat) (l:List kS):Value:=vs fBk 5 k l
theorem agB (b:kS):(fBk b).length=5:=rfl
theorem ab4 (S:zy):jK zi 30 0 [] S=some (bls 2 [],S):=by rw [QT];rfl
theorem ae6 (b:kS) (S:zy):jK zi 30 1 [(0,bv b)] S=some (bls 2 [b],S):=by kernel_rfl
theorem VX {j:Nat} {l m:List kS} (hm:Okl j m) (hl:l.length+m.length≤1000) (S:zy):wR zi 30 30 (bls 2 l) (bls j m) S=some (bls 2 (l++m),S):=by
 rw [Y1 Z4 xZ acs rfl acG (by omega) Z4 agB adH Okl.own (by decide) hm (by omega) (by omega),if_neg (fun h=>by have:=h.1;omega)]
theorem ae3 {k:Nat} {l:List kS} (hk:Okl k l) (S:zy):Zu zi 30 (bls k l) S=some (.int .i64 l.length,S):=abA Z4 hk
theorem agF {k:Nat} {l pre suf:List kS} {x:kS} (hk:Okl k l) (hl:l=pre++x::suf) (S:zy):jy zi 30 (bls k l) (.int .i64 pre.length) S=some (EP [.int .i64 x.slot,.int .i64 x.miner,.int .i64 x.variant,.int .i64 x.parent,tl x.k x.txs],S):=by
 rw [agu Z4 xZ agB hk (by omega) (by rw [hl];simp;omega),Xt hl];rfl
theorem abL (b:kS):okq 3 (bv b)=true:=by
 have h:okq 2 (tl b.k b.txs)=true:=by unfold tl vs sv;split <;> rfl
 simp only [okq,List.toList_toArray,List.all_cons,List.all_nil,h,Bool.and_true]
structure abQ where
 kind:Int
 k:Nat
 data:List UInt8
def fA (a:abQ):List Value:=[.int .i64 a.kind,by_ a.k a.data]
abbrev av (a:abQ):Value:=.agg [Value.int .i64 a.kind,by_ a.k a.data].toArray
structure abQ.Ok (a:abQ):Prop where
 okl:Okl a.k a.data
 ne:a.k≠2
 le:a.data.length≤140737488351232
abbrev az:abQ:=⟨0,0,[]⟩
theorem alb (a:abQ):(fA a).all (·.oneCell')=true:=by
 simp only [fA,List.all_cons,List.all_nil,acX,af9,Bool.and_true]
theorem ak2 (S:zy):yI zi 35 S=some (.pointer (some ⟨S.next,0,none⟩),S.push (.cells (fA az) (.own []) 0)):=by kernel_rfl
theorem ald (a:abQ) (S:zy):∃ S2,wU zi 35 (.pointer (some ⟨S.next,0,none⟩)) (av a) (S.push (.cells (fA az) (.own []) 0))=some (zh,S2)∧S2.get S.next=some (.cells (fA a) (.own []) 0)∧Ext S S2∧S.next < S2.next :=
 YT S (by rw [qL];rfl) vY rfl (alb a)
theorem ak8 {S:zy} {q:Nat} {a:abQ} {own:Own} {e:Nat} (h:S.get q=some (.cells (fA a) own e)):jh zi false 3 (.pointer (some ⟨q,0+0,none⟩)) S=some (.int .i64 a.kind,S):=qK (t:=3) (o:=0+0) h ZX rfl
theorem ajs {S:zy} {q:Nat} {a:abQ} {own:Own} {e:Nat} (h:S.get q=some (.cells (fA a) own e)) (hk:a.k≠2):jh zi false 33 (.pointer (some ⟨q,0+1,none⟩)) S=some (by_ a.k a.data,S):=by
 rw [YW (o:=0+1) (v:=by_ a.k a.data) h aa6 rfl (fun l h=>by unfold by_ vs sv at h;split at h <;> cases h),KC,if_neg hk]
abbrev ag8:Ty:=.pair (.int .i64) (.pair (.slc 1 (.int .u8)) .unit)
theorem akF (x:ag8.Val) (hg:ag8.Good x):∃ a:abQ,ag8.QJ x=fA a∧a.Ok:=by
 obtain ⟨n,t,u⟩:=x
 obtain ⟨h1,h2,_⟩:=hg
 obtain ⟨k,l,p1,p2,p3,p4⟩:=ahQ t h2
 refine ⟨⟨n,k,l⟩,?_,⟨p1,p2,p4⟩⟩
 show [Value.int .i64 n]++((Ty.slc 1 (.int .u8)).QJ t++[])=_
 rw [p3];rfl
theorem ai7 (x:(Ty.slc 32 ag8).Val) (hg:(Ty.slc 32 ag8).Good x):∃ k l,Okl k l∧k≠2∧(Ty.slc 32 ag8).QJ x=[vs fA 2 k l]∧l.length * 32≤140737488351232∧∀ t ∈ l,t.Ok :=
 akt (b:=32) (e:=ag8) fA abQ.Ok (fun x hx=>akF x hx) (fun _=>rfl) x hg
theorem ajx {a b:kS} (ha:jX a=true) (hb:jX b=true) (h:vF a=vF b):kN a b=true:=by
 unfold vF at h
 rw [if_pos ha,if_pos hb] at h
 have:=(VK (r:=[]) (s:=[]) ha hb (by rw [h])).1
 exact Zg.2 this
structure WB (bad:List Int) (sd:List (List UInt8)) (kn:List (Int×List UInt8)) (sb pb:List kS):Prop where
 rt:∀ b ∈ sb++pb,b.Ok∧jX b=true
 kn1:∀ b ∈ sb++pb,Zf kn (nameOf b)=some (vF b)
 kn2:∀ n t,Zf kn n=some t→∃ b ∈ sb++pb,nameOf b=n∧vF b=t
 sd1:∀ x,y9 x=true→x.kind=1→Jd x ∈ sd→∃ b ∈ sb,kN b x.b=true
 pb1:∀ b ∈ pb,(∃ c ∈ sb,kN c b=true)∨isBad bad b.miner=true
theorem JI {kn:List (Int×List UInt8)} {n m:Int} {t:List UInt8} (h:Zf kn n=none):Zf (kn++[(n,t)]) m=if m=n then some t else Zf kn m:=by
 induction kn with
 | nil =>
  simp only [List.nil_append,Zf]
  by_cases h2:n=m
  ·
   rw [if_pos h2,if_pos h2.symm]
  ·
   rw [if_neg h2,if_neg (fun h3=>h2 h3.symm)]
 | cons p kn ih =>
  obtain ⟨a,s⟩:=p
  unfold Zf at h
  split at h
  ·
   cases h
  ·
   rename_i hn
   simp only [List.cons_append,Zf]
   by_cases h2:a=m
   ·
    rw [if_pos h2,if_pos h2,if_neg (fun h3=>hn (h2.trans h3))]
   ·
    rw [if_neg h2,if_neg h2,ih h]
section
variable {bad:List Int} {sd:List (List UInt8)} {kn:List (Int×List UInt8)} {sb pb:List kS}
theorem aia (bad:List Int):WB bad [] [] [] []:=⟨fun b h=>(nomatch h),fun b h=>(nomatch h),fun n t h=>(by cases h),fun x _ _ h=>(nomatch h),fun b h=>(nomatch h)⟩
theorem aiA (I:WB bad sd kn sb pb) {b c:kS} (hb:b ∈ sb++pb) (hc:Zf kn (nameOf c)=none) (t:List UInt8):Zf (kn++[(nameOf c,t)]) (nameOf b)=some (vF b):=by
 rw [JI hc,if_neg (fun h=>by rw [← h,I.kn1 b hb] at hc;cases hc)]
 exact I.kn1 b hb
theorem WB.know (I:WB bad sd kn sb pb) {c:kS} (hno:∀ b ∈ sb++pb,nameOf b=nameOf c→kN b c=true):(∀ b ∈ sb++pb,Zf (VD kn c) (nameOf b)=some (vF b))∧Zf (VD kn c) (nameOf c)=some (vF c)∧(∀ n t,Zf (VD kn c) n=some t→(∃ b ∈ sb++pb,nameOf b=n∧vF b=t)∨(n=nameOf c∧t=vF c)):=by
 unfold VD
 cases h:Zf kn (nameOf c) with
 | some t =>
  rw [if_pos (by rfl)]
  obtain ⟨b,b1,b2,b3⟩:=I.kn2 _ _ h
  have:=(YQ (hno b b1 b2)).2.1
  exact ⟨I.kn1,by rw [h,← b3,this],fun n s hs=>.inl (I.kn2 n s hs)⟩
 | none =>
  rw [if_neg (by simp)]
  refine ⟨fun b hb=>aiA I hb h _,by rw [JI h,if_pos rfl],fun n s hs=>?_⟩
  rw [JI h] at hs
  split at hs
  ·
   cases hs;exact .inr ⟨‹_›,rfl⟩
  ·
   exact .inl (I.kn2 n s hs)
theorem WB.say (I:WB bad sd kn sb pb) {m:yg} (hm:y9 m=true) (ok:m.Ok) (hk:m.kind=1) (hno:∀ b ∈ sb++pb,nameOf b=nameOf m.b→kN b m.b=true):WB bad (ag4 sd (Jd m)) (VD kn m.b) (sb++[m.b]) pb:=by
 obtain ⟨k1,k2,k3⟩:=I.know hno
 have sub:∀ b,b ∈ (sb++[m.b])++pb ↔ b ∈ sb++pb∨b=m.b:=fun b=>by simp [or_assoc,or_comm,or_left_comm]
 refine ⟨fun b hb=>?_,fun b hb=>?_,fun n t hn=>?_,fun x hx hxk hs=>?_,fun b hb=>?_⟩
 ·
  rcases (sub b).1 hb with h | rfl
  ·
   exact I.rt b h
  ·
   exact ⟨ok.b,(Za hm).blk hk⟩
 ·
  rcases (sub b).1 hb with h | rfl
  ·
   exact k1 b h
  ·
   exact k2
 ·
  rcases k3 n t hn with ⟨b,b1,b2⟩ | ⟨h1,h2⟩
  ·
   exact ⟨b,(sub b).2 (.inl b1),b2⟩
  ·
   exact ⟨m.b,(sub m.b).2 (.inr rfl),h1.symm,h2.symm⟩
 ·
  have hs:Jd x ∈ sd∨Jd x=Jd m:=by
   unfold ag4 at hs
   split at hs
   ·
    exact .inl hs
   ·
    simpa using hs
  rcases hs with hs | hs
  ·
   obtain ⟨b,b1,b2⟩:=I.sd1 x hx hxk hs
   exact ⟨b,by simp [b1],b2⟩
  ·
   exact ⟨m.b,by simp,Qe (kU.1 (aan hx hm hs)).2.2.2.2.2.2.2⟩
 ·
  rcases I.pb1 b hb with ⟨c,c1,c2⟩ | h
  ·
   exact .inl ⟨c,by simp [c1],c2⟩
  ·
   exact .inr h
theorem WB.akv (I:WB bad sd kn sb pb) {data:List UInt8} (h:∀ x,y9 x=true→x.kind=1→Jd x≠data):WB bad (ag4 sd data) kn sb pb :=
 ⟨I.rt,I.kn1,I.kn2,fun x hx hk hs=>by
  have hs:Jd x ∈ sd∨Jd x=data:=by
   unfold ag4 at hs
   split at hs
   ·
    exact .inl hs
   ·
    simpa using hs
  rcases hs with hs | hs
  ·
   exact I.sd1 x hx hk hs
  ·
   exact absurd hs (h x hx hk),I.pb1⟩
theorem WB.pass (I:WB bad sd kn sb pb) {m:yg} (hm:y9 m=true) (ok:m.Ok) (hk:m.kind=1) (hp:(vO bad sd kn (Jd m) m 0).1=true) :
  (∀ b ∈ sb++pb,nameOf b=nameOf m.b→kN b m.b=true)∧((∃ b ∈ sb,kN b m.b=true)∨isBad bad m.b.miner=true)∧WB bad sd (vO bad sd kn (Jd m) m 0).2 sb (pb++[m.b]):=by
 have hr:jX m.b=true:=(Za hm).blk hk
 have key:∀ t,Zf kn (nameOf m.b)=some t→t=vF m.b→∀ b ∈ sb++pb,nameOf b=nameOf m.b→kN b m.b=true:=fun t h1 h2 b hb hn=>by
  have:=I.kn1 b hb
  rw [hn,h1,h2] at this
  simp only [Option.some.injEq] at this
  exact ajx (I.rt b hb).2 hr this.symm
 have sub:∀ b,b ∈ sb++(pb++[m.b]) ↔ b ∈ sb++pb∨b=m.b:=fun b=>by simp [or_assoc]
 have fin:∀ kn',(∀ b ∈ sb++pb,Zf kn' (nameOf b)=some (vF b))→Zf kn' (nameOf m.b)=some (vF m.b)→(∀ n t,Zf kn' n=some t→(∃ b ∈ sb++pb,nameOf b=n∧vF b=t)∨(n=nameOf m.b∧t=vF m.b))→((∃ b ∈ sb,kN b m.b=true)∨isBad bad m.b.miner=true)→WB bad sd kn' sb (pb++[m.b]):=fun kn' k1 k2 k3 k4=>by
  refine ⟨fun b hb=>?_,fun b hb=>?_,fun n t hn=>?_,I.sd1,fun b hb=>?_⟩
  ·
   rcases (sub b).1 hb with h | rfl
   ·
    exact I.rt b h
   ·
    exact ⟨ok.b,hr⟩
  ·
   rcases (sub b).1 hb with h | rfl
   ·
    exact k1 b h
   ·
    exact k2
  ·
   rcases k3 n t hn with ⟨b,b1,b2⟩ | ⟨h1,h2⟩
   ·
    exact ⟨b,(sub b).2 (.inl b1),b2⟩
   ·
    exact ⟨m.b,(sub m.b).2 (.inr rfl),h1.symm,h2.symm⟩
  ·
   rcases List.mem_append.1 hb with hb | hb
   ·
    exact I.pb1 b hb
   ·
    rw [List.mem_singleton.1 hb];exact k4
 unfold vO at hp ⊢
 rw [if_pos rfl] at hp ⊢
 by_cases hs:Jd m ∈ sd
 ·
  rw [if_pos hs]
  obtain ⟨b,b1,b2⟩:=I.sd1 m hm hk hs
  have hb:b ∈ sb++pb:=by simp [b1]
  obtain ⟨l1,l2,_⟩:=YQ b2
  have k0:Zf kn (nameOf m.b)=some (vF m.b):=by rw [← l1,← l2];exact I.kn1 b hb
  exact ⟨key _ k0 rfl,.inl ⟨b,b1,b2⟩,fin kn I.kn1 k0 (fun n t h=>.inl (I.kn2 n t h)) (.inl ⟨b,b1,b2⟩)⟩
 ·
  rw [if_neg hs] at hp ⊢
  cases hb:isBad bad m.frm
  ·
   rw [hb] at hp;cases hp
  ·
   rw [hb,if_pos rfl,if_pos hk] at hp
   rw [if_pos rfl,if_pos hk]
   cases hf:Zf kn (nameOf m.b) with
   | some t =>
    rw [hf] at hp
    have ht:t=vF m.b:=by simpa using hp
    have k0:Zf kn (nameOf m.b)=some (vF m.b):=by rw [hf,ht]
    obtain ⟨b,b1,b2,b3⟩:=I.kn2 _ _ k0
    have hsm:=key _ k0 rfl b b1 b2
    have k4:(∃ b ∈ sb,kN b m.b=true)∨isBad bad m.b.miner=true:=by
     rcases List.mem_append.1 b1 with h | h
     ·
      exact .inl ⟨b,h,hsm⟩
     ·
      rcases I.pb1 b h with ⟨c,c1,c2⟩ | h
      ·
       exact .inl ⟨c,c1,Kv c2 hsm⟩
      ·
       rw [(YQ hsm).2.2] at h;exact .inr h
    exact ⟨key _ k0 rfl,k4,fin kn I.kn1 k0 (fun n t h=>.inl (I.kn2 n t h)) k4⟩
   | none =>
    rw [hf] at hp
    dsimp only at hp ⊢
    cases hb2:isBad bad m.b.miner
    ·
     rw [hb2] at hp;cases hp
    ·
     rw [if_pos rfl]
     refine ⟨fun b hb hn=>?_,.inr rfl,fin _ (fun b hb=>aiA I hb hf _) (by rw [JI hf,if_pos rfl]) (fun n t hn=>?_) (.inr hb2)⟩
     ·
      have:=I.kn1 b hb
      rw [hn,hf] at this;cases this
     ·
      rw [JI hf] at hn
      split at hn
      ·
       cases hn;exact .inr ⟨‹_›,rfl⟩
      ·
       exact .inl (I.kn2 n t hn)
theorem ae2 {data:List UInt8} {m:yg} {e:Int} (h:(vO bad sd kn data m e).1=false∨¬ (e=0∧m.kind=1)):(vO bad sd kn data m e).2=kn:=by
 unfold vO at h ⊢
 by_cases he:e=0
 ·
  rw [if_pos he] at h ⊢
  split
  ·
   rfl
  ·
   rename_i hs
   rw [if_neg hs] at h
   split
   ·
    rename_i hb
    rw [if_pos hb] at h
    split
    ·
     rename_i hk
     rw [if_pos hk] at h
     split
     ·
      rfl
     ·
      rename_i hf
      rw [hf] at h
      dsimp only at h
      split
      ·
       rename_i hb2
       rw [if_pos hb2] at h
       rcases h with h | h
       ·
        cases h
       ·
        exact absurd ⟨he,hk⟩ h
      ·
       rfl
    ·
     rfl
   ·
    rfl
 ·
  rw [if_neg he]
end
end Go.Proofs.Ytfjogganfjkckaa
namespace Go.Proofs.Ytfjogganfjkckaa
open Go.Abs
namespace gateOnce
def codes:List (Bool×Ty):=[(false,.slc 8 (.int .i64)),(false,.slc 32 ag8)]
theorem coded:Vh zi 9 [24,28]=some codes:=by kernel_rfl
def kept (T:List Value):List Value:=[5,6,7,9,10,12,36,37,38].map (T.getD · zh)
section
variable {p q:Nat} {m:yg} {l:List kS}
theorem akp (ok:m.Ok) (hl:l.length≤500) (hg:∀ b ∈ l,b.Ok) {w:Bool}:∀ (suf pre:List kS) {T:List Value} {r:St} {S:zy},qE (zJ zi O false zu.jT) T S=r→T.length=162 →
  T.getD 10 zh=.pointer (some ⟨p,0,none⟩)→T.getD 12 zh=.bool w→T.getD 62 zh=bls 2 l→T.getD 63 zh=.int .i64 l.length→T.getD 64 zh=.int .i64 pre.length→l=pre++suf →
  S.get p=some (.cells (fM m) (.own []) 0)→p < S.next→(w=true→∀ b ∈ pre,nameOf b=nameOf m.b→kN b m.b=true) →
  ∃ e T' S',r=some (e,T',S')∧((e=.ret∧T'.getD 4 zh=.bool true)∨(e=.exit 2∧T'.length=162∧kept T'=kept T∧Ext S S'∧(w=true→∀ b ∈ l,nameOf b=nameOf m.b→kN b m.b=true))):=by
 intro suf
 induction suf with
 | nil =>
  intro pre T r S hL hT h10 h12 h62 h63 h64 hpre hp hps hno
  have hTe:=zu.eta hT
  rw [h10,h12,h62,h63,h64] at hTe
  have hr:zJ zi O false zu.jT T S=zJ zi O false zu.jT T S:=rfl
  have d1:¬ (pre.length:Int) < (l.length:Int):=by rw [hpre];simp
  conv at hr =>
   rhs
   rw [hTe]
   simp only [zu.jT,zu.code,zu.rs,zSs,reduceIte,zk,zn,zo,zq,d1]
  refine ⟨_,_,_,hL.symm.trans (wu hr (by simp)),.inr ⟨rfl,rfl,?_,Ext.refl S,by rw [hpre,List.append_nil];exact hno⟩⟩
  unfold kept
  simp only [List.map_cons,List.map_nil,h10,h12]
  rfl
 | cons x suf ih =>
  intro pre T r S hL hT h10 h12 h62 h63 h64 hpre hp hps hno
  have hTe:=zu.eta hT
  rw [h10,h12,h62,h63,h64] at hTe
  have hr:zJ zi O false zu.jT T S=zJ zi O false zu.jT T S:=rfl
  have hll:l.length=pre.length+suf.length+1:=by rw [hpre];simp;omega
  have d1:(pre.length:Int) < (l.length:Int):=by omega
  have xo:=hg x (by rw [hpre];simp)
  have e1:=fun S=>agF Okl.own hpre S
  have wi:IntKind.i64.wrap ((pre.length:Int)+1)=((pre++[x]).length:Int):=by rw [wrap_i64 (by omega) (by omega)];simp
  obtain ⟨S2,b1,b2,b3,b4⟩:=agm S x
  have g2:S2.get p=some (.cells (fM m) (.own []) 0):=(b3.2 p hps).trans hp
  have c1:=fun S=>jG.v xo S
  have c2:=fun S=>jG.v ok.b S
  have c3:=fun S=>jB.v xo ok.b S
  have lx:=QF b2 xo.ne
  have lm:=yY g2 ok.b.ne
  have go:∀ {T1:List Value},zJ zi O false zu.jT T S=some (.normal,T1,S2)→T1.length=162→kept T1=kept T→T1.getD 10 zh=.pointer (some ⟨p,0,none⟩)→T1.getD 12 zh=.bool w→T1.getD 62 zh=bls 2 l→T1.getD 63 zh=.int .i64 l.length→T1.getD 64 zh=.int .i64 (pre++[x]).length →
    (w=true→nameOf x=nameOf m.b→kN x m.b=true) →
    ∃ e T' S',r=some (e,T',S')∧((e=.ret∧T'.getD 4 zh=.bool true)∨(e=.exit 2∧T'.length=162∧kept T'=kept T∧Ext S S'∧(w=true→∀ b ∈ l,nameOf b=nameOf m.b→kN b m.b=true))):=by
   intro T1 hr f1 f2 f3 f4 f5 f6 f7 f8
   obtain ⟨e,T',S',q1,q2⟩:=ih (pre++[x]) ((wZ hr).symm.trans hL) f1 f3 f4 f5 f6 f7 (by simp [hpre]) g2 (Nat.lt_of_lt_of_le hps b3.1) (fun hw b hb hn=>by
    rcases List.mem_append.1 hb with hb | hb
    ·
     exact hno hw b hb hn
    ·
     rw [List.mem_singleton.1 hb] at hn ⊢;exact f8 hw hn)
   refine ⟨e,T',S',q1,?_⟩
   rcases q2 with q2 | ⟨a1,a2,a3,a4,a5⟩
   ·
    exact .inl q2
   ·
    exact .inr ⟨a1,a2,a3.trans f2,b3.trans a4,a5⟩
  cases w
  ·
   conv at hr =>
    rhs
    rw [hTe]
    simp only [zu.jT,zu.code,zu.rs,zSs,reduceIte,zk,zn,zo,zq,d1,e1,xq,J8,b1,wi]
   exact go hr rfl (by unfold kept;simp only [List.map_cons,List.map_nil,h10,h12];rfl) rfl rfl rfl rfl rfl (fun h=>by cases h)
  ·
   by_cases hn:nameOf x=nameOf m.b
   ·
    have dn:=decide_eq_true hn
    cases hs:kN x m.b
    ·
     rw [hs] at c3
     conv at hr =>
      rhs
      rw [hTe]
      simp only [zu.jT,zu.code,zu.rs,zSs,reduceIte,zk,zn,zo,zq,d1,e1,xq,J8,b1,lx,lm,c1,c2,c3,jd,kF (abL _),dn,yP g2,wi]
     exact ⟨_,_,_,hL.symm.trans (wu hr (by simp)),.inl ⟨rfl,rfl⟩⟩
    ·
     rw [hs] at c3
     conv at hr =>
      rhs
      rw [hTe]
      simp only [zu.jT,zu.code,zu.rs,zSs,reduceIte,zk,zn,zo,zq,d1,e1,xq,J8,b1,lx,lm,c1,c2,c3,jd,kF (abL _),dn,yP g2,wi]
     exact go hr rfl (by unfold kept;simp only [List.map_cons,List.map_nil,h10,h12];rfl) rfl rfl rfl rfl rfl (fun _ _=>hs)
   ·
    have dn:=decide_eq_false hn
    conv at hr =>
     rhs
     rw [hTe]
     simp only [zu.jT,zu.code,zu.rs,zSs,reduceIte,zk,zn,zo,zq,d1,e1,xq,J8,b1,lx,lm,c1,c2,c3,jd,kF (abL _),dn,yP g2,wi]
    exact go hr rfl (by unfold kept;simp only [List.map_cons,List.map_nil,h10,h12];rfl) rfl rfl rfl rfl rfl (fun _ h=>absurd h hn)
theorem aky (ok:m.Ok) (hl:l.length≤500) (hg:∀ b ∈ l,b.Ok):∀ (suf pre:List kS) {T:List Value} {r:St} {S:zy},qE (zJ zi O false zu.kZ) T S=r→T.length=162 →
  T.getD 10 zh=.pointer (some ⟨p,0,none⟩)→T.getD 15 zh=.bool (pre.any fun b=>kN b m.b)→T.getD 108 zh=bls 1 l→T.getD 109 zh=.int .i64 l.length→T.getD 110 zh=.int .i64 pre.length→l=pre++suf →
  S.get p=some (.cells (fM m) (.own []) 0)→p < S.next →
  ∃ T' S',r=some (.exit 4,T',S')∧T'.length=162∧kept T'=kept T∧T'.getD 15 zh=.bool (l.any fun b=>kN b m.b)∧Ext S S':=by
 intro suf
 induction suf with
 | nil =>
  intro pre T r S hL hT h10 h15 h62 h63 h64 hpre hp hps
  have hTe:=zu.eta hT
  rw [h10,h15,h62,h63,h64] at hTe
  have hr:zJ zi O false zu.kZ T S=zJ zi O false zu.kZ T S:=rfl
  have d1:¬ (pre.length:Int) < (l.length:Int):=by rw [hpre];simp
  conv at hr =>
   rhs
   rw [hTe]
   simp only [zu.kZ,zu.code,zu.rs,zSs,reduceIte,zk,zn,zo,zq,d1]
  refine ⟨_,_,hL.symm.trans (wu hr (by simp)),rfl,?_,by rw [hpre,List.append_nil];rfl,Ext.refl S⟩
  unfold kept
  simp only [List.map_cons,List.map_nil,h10]
  rfl
 | cons x suf ih =>
  intro pre T r S hL hT h10 h15 h62 h63 h64 hpre hp hps
  have hTe:=zu.eta hT
  rw [h10,h15,h62,h63,h64] at hTe
  have hr:zJ zi O false zu.kZ T S=zJ zi O false zu.kZ T S:=rfl
  have hll:l.length=pre.length+suf.length+1:=by rw [hpre];simp;omega
  have d1:(pre.length:Int) < (l.length:Int):=by omega
  have xo:=hg x (by rw [hpre];simp)
  have e1:=fun S=>agF Okl.read hpre S
  have wi:IntKind.i64.wrap ((pre.length:Int)+1)=((pre++[x]).length:Int):=by rw [wrap_i64 (by omega) (by omega)];simp
  obtain ⟨S2,b1,b2,b3,b4⟩:=agm S x
  have g2:S2.get p=some (.cells (fM m) (.own []) 0):=(b3.2 p hps).trans hp
  have c3:=fun S=>jB.v xo ok.b S
  have lx:=QF b2 xo.ne
  have lm:=yY g2 ok.b.ne
  have ha:((pre++[x]).any fun b=>kN b m.b)=((pre.any fun b=>kN b m.b) || kN x m.b):=by rw [List.any_append];simp
  generalize (pre.any fun b=>kN b m.b)=w at hTe ha hr h15
  cases w
  ·
   conv at hr =>
    rhs
    rw [hTe]
    simp only [zu.kZ,zu.code,zu.rs,zSs,reduceIte,zk,zn,zo,zq,d1,e1,xq,J8,b1,lx,lm,c3,jd,wi]
   obtain ⟨T',S',q1,q2,q3,q4,q5⟩:=ih (pre++[x]) ((wZ hr).symm.trans hL) rfl rfl (by rw [ha];rfl) rfl rfl rfl (by simp [hpre]) g2 (Nat.lt_of_lt_of_le hps b3.1)
   exact ⟨T',S',q1,q2,q3.trans (by unfold kept;simp only [List.map_cons,List.map_nil,h10];rfl),q4,b3.trans q5⟩
  ·
   conv at hr =>
    rhs
    rw [hTe]
    simp only [zu.kZ,zu.code,zu.rs,zSs,reduceIte,zk,zn,zo,zq,d1,e1,xq,J8,b1,lx,lm,c3,jd,wi]
   obtain ⟨T',S',q1,q2,q3,q4,q5⟩:=ih (pre++[x]) ((wZ hr).symm.trans hL) rfl rfl (by rw [ha];rfl) rfl rfl rfl (by simp [hpre]) g2 (Nat.lt_of_lt_of_le hps b3.1)
   exact ⟨T',S',q1,q2,q3.trans (by unfold kept;simp only [List.map_cons,List.map_nil,h10];rfl),q4,b3.trans q5⟩
theorem akE (ok:m.Ok) (hl:l.length≤500) (hg:∀ b ∈ l,b.Ok) (hno:∀ b ∈ l,nameOf b=nameOf m.b→kN b m.b=true):∀ (suf pre:List kS) {T:List Value} {r:St} {S:zy},qE (zJ zi O false zu.XJ) T S=r→T.length=162 →
  T.getD 10 zh=.pointer (some ⟨p,0,none⟩)→T.getD 126 zh=bls 2 l→T.getD 127 zh=.int .i64 l.length→T.getD 128 zh=.int .i64 pre.length→l=pre++suf →
  S.get p=some (.cells (fM m) (.own []) 0)→p < S.next →
  ∃ T' S',r=some (.exit 6,T',S')∧T'.length=162∧kept T'=kept T∧T'.getD 15 zh=T.getD 15 zh∧Ext S S':=by
 intro suf
 induction suf with
 | nil =>
  intro pre T r S hL hT h10 h62 h63 h64 hpre hp hps
  have hTe:=zu.eta hT
  rw [h10,h62,h63,h64] at hTe
  have hr:zJ zi O false zu.XJ T S=zJ zi O false zu.XJ T S:=rfl
  have d1:¬ (pre.length:Int) < (l.length:Int):=by rw [hpre];simp
  conv at hr =>
   rhs
   rw [hTe]
   simp only [zu.XJ,zu.code,zu.rs,zSs,reduceIte,zk,zn,zo,zq,d1]
  refine ⟨_,_,hL.symm.trans (wu hr (by simp)),rfl,?_,rfl,Ext.refl S⟩
  unfold kept
  simp only [List.map_cons,List.map_nil,h10]
  rfl
 | cons x suf ih =>
  intro pre T r S hL hT h10 h62 h63 h64 hpre hp hps
  have hTe:=zu.eta hT
  rw [h10,h62,h63,h64] at hTe
  have hr:zJ zi O false zu.XJ T S=zJ zi O false zu.XJ T S:=rfl
  have hll:l.length=pre.length+suf.length+1:=by rw [hpre];simp;omega
  have d1:(pre.length:Int) < (l.length:Int):=by omega
  have xl:x ∈ l:=by rw [hpre];simp
  have xo:=hg x xl
  have e1:=fun S=>agF Okl.own hpre S
  have wi:IntKind.i64.wrap ((pre.length:Int)+1)=((pre++[x]).length:Int):=by rw [wrap_i64 (by omega) (by omega)];simp
  obtain ⟨S2,b1,b2,b3,b4⟩:=agm S x
  have g2:S2.get p=some (.cells (fM m) (.own []) 0):=(b3.2 p hps).trans hp
  have c1:=fun S=>jG.v xo S
  have c2:=fun S=>jG.v ok.b S
  have c3:=fun S=>jB.v xo ok.b S
  have lx:=QF b2 xo.ne
  have lm:=yY g2 ok.b.ne
  by_cases hn:nameOf x=nameOf m.b
  ·
   have dn:=decide_eq_true hn
   rw [hno x xl hn] at c3
   conv at hr =>
    rhs
    rw [hTe]
    simp only [zu.XJ,zu.code,zu.rs,zSs,reduceIte,zk,zn,zo,zq,d1,e1,xq,J8,b1,lx,lm,c1,c2,c3,jd,kF (abL _),dn,yP g2,wi]
   obtain ⟨T',S',q1,q2,q3,q4,q5⟩:=ih (pre++[x]) ((wZ hr).symm.trans hL) rfl rfl rfl rfl rfl (by simp [hpre]) g2 (Nat.lt_of_lt_of_le hps b3.1)
   exact ⟨T',S',q1,q2,q3.trans (by unfold kept;simp only [List.map_cons,List.map_nil,h10];rfl),q4,b3.trans q5⟩
  ·
   have dn:=decide_eq_false hn
   conv at hr =>
    rhs
    rw [hTe]
    simp only [zu.XJ,zu.code,zu.rs,zSs,reduceIte,zk,zn,zo,zq,d1,e1,xq,J8,b1,lx,lm,c1,c2,c3,jd,kF (abL _),dn,yP g2,wi]
   obtain ⟨T',S',q1,q2,q3,q4,q5⟩:=ih (pre++[x]) ((wZ hr).symm.trans hL) rfl rfl rfl rfl rfl (by simp [hpre]) g2 (Nat.lt_of_lt_of_le hps b3.1)
   exact ⟨T',S',q1,q2,q3.trans (by unfold kept;simp only [List.map_cons,List.map_nil,h10];rfl),q4,b3.trans q5⟩
theorem acK {T T1:List Value} (h:kept T1=kept T):T1.getD 5 zh=T.getD 5 zh∧T1.getD 6 zh=T.getD 6 zh∧T1.getD 7 zh=T.getD 7 zh∧T1.getD 9 zh=T.getD 9 zh∧T1.getD 10 zh=T.getD 10 zh∧T1.getD 12 zh=T.getD 12 zh∧T1.getD 36 zh=T.getD 36 zh∧T1.getD 37 zh=T.getD 37 zh∧T1.getD 38 zh=T.getD 38 zh:=by
 unfold kept at h
 simp only [List.map_cons,List.map_nil,List.cons.injEq,and_true] at h
 exact h
end
def Next (bad:List Int) (q:Nat) (n:Nat) (A:List Value) (e:AEx) (T:List Value) (S:zy):Prop :=
 (e=.ret∧T.getD 4 zh=.bool true)∨(e=.normal∧T.length=162∧T.getD 5 zh=.pointer (some ⟨q,0,none⟩)∧T.getD 36 zh=A.getD 36 zh∧T.getD 37 zh=A.getD 37 zh∧T.getD 38 zh=.int .i64 ((n+1:Nat):Int) ∧
  ∃ sd kn sb pb,T.getD 6 zh=bls 2 sb∧T.getD 7 zh=bls 2 pb∧Gt S q bad sd kn∧WB bad sd kn sb pb∧sb.length+pb.length≤n+1)
theorem one {k q:Nat} {l done suf:List abQ} {x:abQ} {bad:List Int} {sd:List (List UInt8)} {kn:List (Int×List UInt8)} {sb pb:List kS} (hk:Okl k l) (hl:l.length≤60) (xo:x.Ok) (hpre:l=done++x::suf) {T:List Value} {S:zy} (hT:T.length=162)
  (h5:T.getD 5 zh=.pointer (some ⟨q,0,none⟩)) (h6:T.getD 6 zh=bls 2 sb) (h7:T.getD 7 zh=bls 2 pb) (h36:T.getD 36 zh=vs fA 2 k l) (h37:T.getD 37 zh=.int .i64 l.length) (h38:T.getD 38 zh=.int .i64 done.length)
  (G:Gt S q bad sd kn) (I:WB bad sd kn sb pb) (hn:sb.length+pb.length≤done.length) :
  ∃ e T' S',zJ zi O false zu.Qh T S=some (e,T',S')∧Next bad q done.length T e T' S':=by
 have hTe:=zu.eta hT
 rw [h5,h6,h7,h36,h37,h38] at hTe
 have hr:zJ zi O false zu.Qh T S=zJ zi O false zu.Qh T S:=rfl
 have hll:l.length=done.length+suf.length+1:=by rw [hpre];simp;omega
 have d1:(done.length:Int) < (l.length:Int):=by omega
 have e1:∀ S,jy zi 28 (vs fA 2 k l) (.int .i64 done.length) S=some (EP [.int .i64 x.kind,by_ x.k x.data],S):=fun S=>by
  rw [agu ZJ vY (fun _=>rfl) hk (by omega) d1,Xt hpre];rfl
 have wi:IntKind.i64.wrap ((done.length:Int)+1)=((done.length+1:Nat):Int):=by rw [wrap_i64 (by omega) (by omega)];omega
 obtain ⟨S1,a1,a2,a3,a4⟩:=ald x S
 obtain ⟨m,e,hR,c1⟩:=zG.v xo.okl xo.ne (by have:=xo.le;omega)
 obtain ⟨S2,b1,b2,b3,b4⟩:=abU m S1
 have g2:S2.get S.next=some (.cells (fA x) (.own []) 0):=(b3.2 _ a4).trans a2
 have G2:=(G.ext a3).ext b3
 have la1:=ajs a2 xo.ne
 have la0:=ak8 g2
 have la2:=ajs g2 xo.ne
 have m0':=wS b2
 have m7':=yY b2 hR.1.b.ne
 have cp:∀ S,wR zi 33 33 (by_ 2 []) (by_ x.k x.data) S=some (by_ 2 x.data,S):=fun S=>afw xo.okl (by have:=xo.le;omega)
 have cs:∀ S,wR zi 30 30 (bls 2 []) (bls 1 sb) S=some (bls 2 sb,S):=fun S=>by rw [VX Okl.read (by simp;omega),List.nil_append]
 have cpb:∀ S,wR zi 30 30 (bls 2 sb) (bls 1 pb) S=some (bls 2 (sb++pb),S):=fun S=>VX Okl.read (by omega) S
 have la:∀ S,Zu zi 30 (bls 2 (sb++pb)) S=some (.int .i64 (sb++pb).length,S):=fun S=>ae3 Okl.own S
 have am1:=Xz S1
 obtain ⟨w,hw⟩:∃ w,(decide (e=0) && decide (m.kind=1))=w:=⟨_,rfl⟩
 have hg:∀ b ∈ sb++pb,b.Ok:=fun b hb=>(I.rt b hb).1
 have hlen:(sb++pb).length≤500:=by rw [List.length_append];omega
 by_cases hz:x.kind=0
 ·
  have dz:=decide_eq_true hz
  conv at hr =>
   rhs
   rw [hTe]
   simp only [zu.Qh,zu.code,zu.rs,zSs,reduceIte,zk,zn,zo,zq,d1,e1,xg,ak2,a1,kL,qA,la1,if_neg xo.ne,c1,am1,b1,zB (zO _ _ _),zB m0',gvw,hw,la0,dz,ab4,cs,cpb,la]
  generalize hL:qE (zJ zi O false zu.jT) _ _=r2 at hr
  obtain ⟨e2,T2,S3,rfl,hc⟩:=akp hR.1 hlen hg (w:=w) (sb++pb) [] hL rfl rfl rfl rfl rfl rfl rfl b2 b4 (fun _ b h=>(nomatch h))
  rcases hc with ⟨rfl,h4⟩ | ⟨rfl,f1,f2,f3,f4⟩
  ·
   conv at hr =>
    rhs
    simp only [zSs,reduceIte,zk,zn,zo,zq]
   exact ⟨_,_,_,hr,.inl ⟨rfl,h4⟩⟩
  ·
   obtain ⟨k5,k6,k7,k9,k10,k12,k36,k37,k38⟩:=acK f2
   have k5:T2.getD 5 zh=.pointer (some ⟨q,0,none⟩):=k5
   have k6:T2.getD 6 zh=bls 2 sb:=k6
   have k7:T2.getD 7 zh=bls 2 pb:=k7
   have k9:T2.getD 9 zh=.pointer (some ⟨S.next,0,none⟩):=k9
   have k10:T2.getD 10 zh=.pointer (some ⟨S1.next,0,none⟩):=k10
   have k12:T2.getD 12 zh=.bool w:=k12
   have k36:T2.getD 36 zh=vs fA 2 k l:=k36
   have k37:T2.getD 37 zh=.int .i64 l.length:=k37
   have k38:T2.getD 38 zh=.int .i64 done.length:=k38
   have hT2:=zu.eta f1
   rw [k5,k6,k7,k9,k10,k12,k36,k37,k38] at hT2
   have g3:S3.get S.next=some (.cells (fA x) (.own []) 0):=(f3.2 _ (Nat.lt_of_lt_of_le a4 b3.1)).trans g2
   have la3:=ajs g3 xo.ne
   have b3':S3.get S1.next=some (.cells (fM m) (.own []) 0):=(f3.2 _ b4).trans b2
   obtain ⟨m2,e2,S4,hR2,c2,G4,o4⟩:=jq.v (k:=1) (data:=x.data) (G2.ext f3) Okl.read (by decide) (by have:=xo.le;omega)
   have g4:S4.get S1.next=some (.cells (fM m) (.own []) 0):=(o4.2 _ _ _ _ (Nat.lt_of_lt_of_le b4 f3.1) b3').trans b3'
   have m7:=yY g4 hR.1.b.ne
   obtain ⟨sm,rfl⟩:=Vo hR2 hR
   have skd:m2.kind=m.kind:=(kU.1 sm).1
   rw [adl (XU sm)] at G4
   have one1:=fun S=>ae6 m.b S
   have ap:∀ S,wR zi 30 30 (bls 2 sb) (bls 2 [m.b]) S=some (bls 2 (sb++[m.b]),S):=fun S=>VX Okl.own (by simp;omega) S
   cases w
   ·
    conv at hr =>
     rhs
     rw [hT2]
     simp only [zu.code,zu.rs,zSs,reduceIte,zk,zn,zo,zq,bb0,qA,la3,if_neg xo.ne,cp,c2,wi]
    have hno:¬ (e2=0∧m.kind=1):=fun h=>by rw [h.1,h.2] at hw;cases hw
    rw [aeH,if_neg hno] at G4
    refine ⟨_,_,_,hr,.inr ⟨rfl,rfl,rfl,h36.symm,h37.symm,rfl,ag4 sd x.data,kn,sb,pb,rfl,rfl,G4,I.akv fun y hy hyk h=>hno ?_,by omega⟩⟩
    rw [← h] at hR
    obtain ⟨r1,r2⟩:=YA hy hR
    exact ⟨r1,by rw [← (kU.1 r2).1];exact hyk⟩
   ·
    conv at hr =>
     rhs
     rw [hT2]
     simp only [zu.code,zu.rs,zSs,reduceIte,zk,zn,zo,zq,bb0,qA,la3,if_neg xo.ne,cp,c2,jd,m7,one1,ap,wi]
    have hyes:e2=0∧m.kind=1:=by simpa using hw
    rw [aeH,if_pos hyes] at G4
    obtain ⟨_,_,⟨_,hm,hd⟩ | ⟨h121,_,_⟩⟩:=hR
    ·
     rw [hd] at G4
     exact ⟨_,_,_,hr,.inr ⟨rfl,rfl,rfl,h36.symm,h37.symm,rfl,_,_,sb++[m.b],pb,rfl,rfl,G4,I.say hm (by assumption) hyes.2 (f4 rfl),by simp;omega⟩⟩
    ·
     rw [hyes.1] at h121;cases h121
 ·
  have dz:=decide_eq_false hz
  obtain ⟨m2,e2,S3,hR2,c2,G3,o3⟩:=zM.v (k:=1) (data:=x.data) G2 Okl.read (by decide) (by have:=xo.le;omega)
  obtain ⟨sm,rfl⟩:=Vo hR2 hR
  have skd:m2.kind=m.kind:=(kU.1 sm).1
  rw [aa5 (XU sm)] at c2 G3
  have g3:S3.get S1.next=some (.cells (fM m) (.own []) 0):=(o3.2 _ _ _ _ b4 b2).trans b2
  have n3:S1.next < S3.next:=Nat.lt_of_lt_of_le b4 o3.1
  cases hok:(vO bad sd kn x.data m e2).1
  ·
   rw [hok] at c2
   rw [ae2 (.inl hok)] at G3
   conv at hr =>
    rhs
    rw [hTe]
    simp only [zu.Qh,zu.code,zu.rs,zSs,reduceIte,zk,zn,zo,zq,d1,e1,xg,ak2,a1,kL,qA,la1,if_neg xo.ne,c1,am1,b1,zB (zO _ _ _),zB m0',gvw,hw,la0,dz,bb0,la2,cp,c2,wi]
   exact ⟨_,_,_,hr,.inr ⟨rfl,rfl,rfl,h36.symm,h37.symm,rfl,sd,kn,sb,pb,rfl,rfl,G3,I,by omega⟩⟩
  ·
   rw [hok] at c2
   cases w
   ·
    have hno:¬ (e2=0∧m.kind=1):=fun h=>by rw [h.1,h.2] at hw;cases hw
    rw [ae2 (.inr hno)] at G3
    conv at hr =>
     rhs
     rw [hTe]
     simp only [zu.Qh,zu.code,zu.rs,zSs,reduceIte,zk,zn,zo,zq,d1,e1,xg,ak2,a1,kL,qA,la1,if_neg xo.ne,c1,am1,b1,zB (zO _ _ _),zB m0',gvw,hw,la0,dz,bb0,la2,cp,c2,wi]
    exact ⟨_,_,_,hr,.inr ⟨rfl,rfl,rfl,h36.symm,h37.symm,rfl,sd,kn,sb,pb,rfl,rfl,G3,I,by omega⟩⟩
   ·
    have hyes:e2=0∧m.kind=1:=by simpa using hw
    have okm:=hR.1
    have hkd:=hyes.2
    obtain ⟨_,_,⟨_,hm,hd⟩ | ⟨h121,_,_⟩⟩:=hR
    ·
     have ls:∀ S,Zu zi 30 (bls 1 sb) S=some (.int .i64 sb.length,S):=fun S=>ae3 Okl.read S
     conv at hr =>
      rhs
      rw [hTe]
      simp only [zu.Qh,zu.code,zu.rs,zSs,reduceIte,zk,zn,zo,zq,d1,e1,xg,ak2,a1,kL,qA,la1,if_neg xo.ne,c1,am1,b1,zB (zO _ _ _),zB m0',gvw,hw,la0,dz,bb0,la2,cp,c2,ls]
     rw [hyes.1,hd] at hok G3
     obtain ⟨hno,hth,I2⟩:=I.pass hm okm hkd hok
     generalize hL:qE (zJ zi O false zu.kZ) _ _=r2 at hr
     have R2:=aky (l:=sb) (p:=S1.next) okm (by omega) (fun b hb=>hg b (by simp [hb])) sb [] hL
     have R3:=R2 rfl rfl rfl rfl rfl
     obtain ⟨T2,S4,rfl,f1,f2,f3,f4⟩:=R3 rfl rfl g3 n3
     obtain ⟨k5,k6,k7,k9,k10,k12,k36,k37,k38⟩:=acK f2
     have k5:T2.getD 5 zh=.pointer (some ⟨q,0,none⟩):=k5
     have k6:T2.getD 6 zh=bls 2 sb:=k6
     have k7:T2.getD 7 zh=bls 2 pb:=k7
     have k9:T2.getD 9 zh=.pointer (some ⟨S.next,0,none⟩):=k9
     have k10:T2.getD 10 zh=.pointer (some ⟨S1.next,0,none⟩):=k10
     have k12:T2.getD 12 zh=.bool true:=k12
     have k36:T2.getD 36 zh=vs fA 2 k l:=k36
     have k37:T2.getD 37 zh=.int .i64 l.length:=k37
     have k38:T2.getD 38 zh=.int .i64 done.length:=k38
     have hT2:=zu.eta f1
     rw [k5,k6,k7,k9,k10,k12,f3,k36,k37,k38] at hT2
     have g4:S4.get S1.next=some (.cells (fM m) (.own []) 0):=(f4.2 _ n3).trans g3
     conv at hr =>
      rhs
      rw [hT2]
      simp only [zu.code,zu.rs,zSs,reduceIte,zk,zn,zo,zq,ab4,cs,cpb,la]
     generalize hL3:qE (zJ zi O false zu.XJ) _ _=r3 at hr
     obtain ⟨T3,S5,rfl,u1,u2,u3,u4⟩:=akE okm hlen hg hno (sb++pb) [] hL3 rfl rfl rfl rfl rfl rfl g4 (Nat.lt_of_lt_of_le n3 f4.1)
     clear k5 k6 k7 k9 k10 k12 k36 k37 k38
     obtain ⟨k5,k6,k7,k9,k10,k12,k36,k37,k38⟩:=acK u2
     have k5:T3.getD 5 zh=.pointer (some ⟨q,0,none⟩):=k5
     have k6:T3.getD 6 zh=bls 2 sb:=k6
     have k7:T3.getD 7 zh=bls 2 pb:=k7
     have k9:T3.getD 9 zh=.pointer (some ⟨S.next,0,none⟩):=k9
     have k10:T3.getD 10 zh=.pointer (some ⟨S1.next,0,none⟩):=k10
     have k12:T3.getD 12 zh=.bool true:=k12
     have k36:T3.getD 36 zh=vs fA 2 k l:=k36
     have k37:T3.getD 37 zh=.int .i64 l.length:=k37
     have k38:T3.getD 38 zh=.int .i64 done.length:=k38
     have u3:T3.getD 15 zh=.bool (sb.any fun b=>kN b m.b):=u3
     have hT3:=zu.eta u1
     rw [k5,k6,k7,k9,k10,k12,u3,k36,k37,k38] at hT3
     have g5:S5.get S1.next=some (.cells (fM m) (.own []) 0):=(u4.2 _ (Nat.lt_of_lt_of_le n3 f4.1)).trans g4
     have G5:=(G3.ext f4).ext u4
     have m7:=yY g5 okm.b.ne
     have d2:jh zi false 3 (.pointer (some ⟨S1.next,0+8+1,none⟩)) S5=some (.int .i64 m.b.miner,S5):=qK (t:=3) (o:=0+8+1) g5 ZX rfl
     have c5:zZ zi O wO.id [.pointer (some ⟨q,0,none⟩),.int .i64 m.b.miner] S5=some (.bool (isBad bad m.b.miner),S5):=wO.v G5 m.b.miner
     have one1:=fun S=>ae6 m.b S
     have ap:∀ S,wR zi 30 30 (bls 2 pb) (bls 2 [m.b]) S=some (bls 2 (pb++[m.b]),S):=fun S=>VX Okl.own (by simp;omega) S
     cases hy:(sb.any fun b=>kN b m.b)
     ·
      rw [hy] at hT3
      have hbd:isBad bad m.b.miner=true:=by
       rcases hth with ⟨b,b1,b2⟩ | h
       ·
        rw [List.any_eq_false] at hy
        exact absurd b2 (hy b b1)
       ·
        exact h
      rw [hbd] at c5
      conv at hr =>
       rhs
       rw [hT3]
       simp only [zu.code,zu.rs,zSs,reduceIte,zk,zn,zo,zq,jd,jP,d2,c5,m7,one1,ap,wi]
      exact ⟨_,_,_,hr,.inr ⟨rfl,rfl,rfl,h36.symm,h37.symm,rfl,sd,_,sb,pb++[m.b],rfl,rfl,G5,I2,by simp;omega⟩⟩
     ·
      rw [hy] at hT3
      conv at hr =>
       rhs
       rw [hT3]
       simp only [zu.code,zu.rs,zSs,reduceIte,zk,zn,zo,zq,jd,jP,d2,c5,m7,one1,ap,wi]
      exact ⟨_,_,_,hr,.inr ⟨rfl,rfl,rfl,h36.symm,h37.symm,rfl,sd,_,sb,pb++[m.b],rfl,rfl,G5,I2,by simp;omega⟩⟩
    ·
     rw [hyes.1] at h121;cases h121
theorem akk {k q:Nat} {l:List abQ} {bad:List Int} (hk:Okl k l) (hl:l.length≤60) (hg:∀ a ∈ l,a.Ok):∀ (suf done:List abQ) {T:List Value} {r:St} {S:zy} {sd:List (List UInt8)} {kn:List (Int×List UInt8)} {sb pb:List kS},qE (zJ zi O false zu.Qh) T S=r→T.length=162 →
  T.getD 5 zh=.pointer (some ⟨q,0,none⟩)→T.getD 6 zh=bls 2 sb→T.getD 7 zh=bls 2 pb→T.getD 36 zh=vs fA 2 k l→T.getD 37 zh=.int .i64 l.length→T.getD 38 zh=.int .i64 done.length→l=done++suf→Gt S q bad sd kn→WB bad sd kn sb pb→sb.length+pb.length≤done.length →
  ∃ e T' S',r=some (e,T',S')∧((e=.ret∧T'.getD 4 zh=.bool true)∨(e=.exit 0∧T'.length=162)):=by
 intro suf
 induction suf with
 | nil =>
  intro done T r S sd kn sb pb hL hT h5 h6 h7 h36 h37 h38 hpre G I hn
  have hTe:=zu.eta hT
  rw [h5,h6,h7,h36,h37,h38] at hTe
  have hr:zJ zi O false zu.Qh T S=zJ zi O false zu.Qh T S:=rfl
  have d1:¬ (done.length:Int) < (l.length:Int):=by rw [hpre];simp
  conv at hr =>
   rhs
   rw [hTe]
   simp only [zu.Qh,zu.code,zu.rs,zSs,reduceIte,zk,zn,zo,zq,d1]
  exact ⟨_,_,_,hL.symm.trans (wu hr (by simp)),.inr ⟨rfl,rfl⟩⟩
 | cons x suf ih =>
  intro done T r S sd kn sb pb hL hT h5 h6 h7 h36 h37 h38 hpre G I hn
  obtain ⟨e,T1,S1,hr,⟨rfl,h4⟩ | ⟨rfl,f1,f2,f3,f4,f5,sd1,kn1,sb1,pb1,f6,f7,G1,I1,n1⟩⟩:=one hk hl (hg x (by rw [hpre];simp)) hpre hT h5 h6 h7 h36 h37 h38 G I hn
  ·
   exact ⟨_,_,_,hL.symm.trans (wu hr (by simp)),.inl ⟨rfl,h4⟩⟩
  ·
   exact ih (done++[x]) ((wZ hr).symm.trans hL) f1 f2 f6 f7 (f3.trans h36) (f4.trans h37) (by rw [f5];simp) (by simp [hpre]) G1 I1 (by simp;omega)
theorem run {k j:Nat} {l:List abQ} {bad:List Int} (hj:Okl j bad) (j2:j≠2) (hbl:bad.length≤17592186043904) (hk:Okl k l) (k2:k≠2) (hg:∀ t ∈ l,t.Ok):∃ S',zZ zi O 5 [iz j bad,vs fA 2 k l] zy.empty=some (.bool true,S'):=by
 obtain ⟨T,hTe⟩:∃ T,T=(iz j bad::vs fA 2 k l::zh::zh::zh::zh::zh::zh::zh::zh::zh::zh::zh::zh::zh::zh::zh::zh::zh::zh::zh::zh::zh::zh::zh::zh::zh::zh::zh::zh::zh::zh::zh::zh::zh::zh::zh::zh::zh::zh::zh::zh::zh::zh::zh::zh::zh::zh::zh::zh::zh::zh::zh::zh::zh::zh::zh::zh::zh::zh::zh::zh::zh::zh::zh::zh::zh::zh::zh::zh::zh::zh::zh::zh::zh::zh::zh::zh::zh::zh::zh::zh::zh::zh::zh::zh::zh::zh::zh::zh::zh::zh::zh::zh::zh::zh::zh::zh::zh::zh::zh::zh::zh::zh::zh::zh::zh::zh::zh::zh::zh::zh::zh::zh::zh::zh::zh::zh::zh::zh::zh::zh::zh::zh::zh::zh::zh::zh::zh::zh::zh::zh::zh::zh::zh::zh::zh::zh::zh::zh::zh::zh::zh::zh::zh::zh::zh::zh::zh::zh::zh::zh::zh::zh::zh::zh::zh::zh::zh::zh::zh::zh::[]):=⟨_,rfl⟩
 have hr:zJ zi O false zu.code T zy.empty=zJ zi O false zu.code T zy.empty:=rfl
 have c0:=fun S=>jg.v S
 have ln:∀ S,Zu zi 28 (vs fA 2 k l) S=some (.int .i64 l.length,S):=fun S=>abA ZJ hk
 have lj:∀ S,Zu zi 24 (iz j bad) S=some (.int .i64 bad.length,S):=fun S=>X8 hj
 by_cases h1:(60:Int) < (l.length:Int)
 ·
  have dq:=decide_eq_true h1
  conv at hr =>
   rhs
   rw [hTe]
   simp only [zu.code,zu.rs,zSs,reduceIte,zk,zn,zo,zq,c0,if_neg k2,if_neg j2,ln,lj,dq]
  rw [hTe] at hr
  exact ⟨_,zu.runs hr (.inr rfl)⟩
 have dq:=decide_eq_false h1
 by_cases h2:(20:Int) < (bad.length:Int)
 ·
  have dq2:=decide_eq_true h2
  conv at hr =>
   rhs
   rw [hTe]
   simp only [zu.code,zu.rs,zSs,reduceIte,zk,zn,zo,zq,c0,if_neg k2,if_neg j2,ln,lj,dq,dq2]
  rw [hTe] at hr
  exact ⟨_,zu.runs hr (.inr rfl)⟩
 have dq2:=decide_eq_false h2
 have iz0:∀ S,jK zi 24 0 [] S=some (iz 2 [],S):=fun S=>by rw [Qj];rfl
 have cpi:∀ S,wR zi 24 24 (iz 2 []) (iz j bad) S=some (iz 2 bad,S):=fun S=>by
  rw [YE Okl.own (by decide) hj (by simp;omega),if_neg (fun h=>by have:=h.1;omega),List.nil_append]
 obtain ⟨q,S1,c1,G1,E1,hq1⟩:=qQ.v (k:=1) (l:=bad) Okl.read (by decide) (by omega) zy.empty
 conv at hr =>
  rhs
  rw [hTe]
  simp only [zu.code,zu.rs,zSs,reduceIte,zk,zn,zo,zq,c0,if_neg k2,if_neg j2,ln,lj,dq,dq2,iz0,cpi,c1,ab4]
 generalize hL:qE (zJ zi O false zu.Qh) _ _=r at hr
 obtain ⟨e,T1,S2,rfl,⟨rfl,h4⟩ | ⟨rfl,f1⟩⟩:=akk hk (by omega) hg l [] hL rfl rfl rfl rfl rfl rfl rfl rfl G1 (aia bad) (Nat.le_refl _)
 ·
  conv at hr =>
   rhs
   simp only [zSs,reduceIte,zk,zn,zo,zq]
  rw [hTe] at hr
  have:=zu.runs hr (.inr rfl)
  rw [h4] at this
  exact ⟨_,this⟩
 ·
  have hT1:=zu.eta f1
  conv at hr =>
   rhs
   rw [hT1]
   simp only [zu.code,zu.rs,zSs,reduceIte,zk,zn,zo,zq]
  rw [hTe] at hr
  exact ⟨_,zu.runs hr (.inr rfl)⟩
theorem law (x:Args codes) (h:Args.Good codes x):∃ k,(JC zi k 5 (Args.place codes x zy.empty).1 (Args.place codes x zy.empty).2).map (·.1)=some (.bool true):=by
 obtain ⟨a,b,u⟩:=x
 obtain ⟨h1,h2,_⟩:=h
 obtain ⟨j,bad,a1,a2,a3,a4,_⟩:=ajD a h1
 obtain ⟨k,l,p1,p2,p3,p4,p5⟩:=ai7 b h2
 obtain ⟨S',e⟩:=run a1 a2 a4 p1 p2 p5
 refine acJ akD (S':=S') ?_
 have e2:Args.QJ codes (a,b,u)=[iz j bad,vs fA 2 k l]:=by
  show [Wu false ((Ty.slc 8 (.int .i64)).QJ a),Wu false ((Ty.slc 32 ag8).QJ b)]=_
  rw [a3,p3];rfl
 rw [e2]
 exact e
end gateOnce
end Go.Proofs.Ytfjogganfjkckaa
namespace Go.Proofs.Ytfjogganfjkckaa.gateOnce
open Go.ChangeShapes Go.WideShapes Go.ChangeAt Go.RowKit Go.Abs
theorem own:ownKnob zi.godebug=none:=by kernel_rfl
theorem laidOut:laidOutB zi=true:=by kernel_rfl
theorem mixes:zi.follows .mixedOrders=true:=by kernel_rfl
set_option maxRecDepth 100000 in
theorem lifted (os:Os) (started:os.Started) (H:Type) (enc:TypeId×Value→H) :
  ReturnsInHanded {} Try.checked os 5 .any (Rows.gateOnceSpec.pre6 enc zi Try.f5 Rows.gateOnceRow.domain false) (Rows.gateOnceSpec.post enc zi Try.f5 false true false false):=by
 refine returnsInHanded_of_change_sized (C:=Try.checked) own started (by kernel_rfl) Try.func5
  (ChangeSpec.witness6 (enc:=enc) (C:=Try.checked) false ⟨#[],#[.slice none 0 0,.slice none 0 0],[]⟩ 8 (by kernel_rfl) (by kernel_rfl) (by kernel_rfl) (by kernel_rfl)) ?_
 intro W base args ds gs before hval0 hW hcnd hsz0 _
 have hW':=hW
 obtain ⟨p,q,hA0,hV,rfl,hfz,hnd⟩:=hW
 obtain ⟨rfl,rfl⟩:=trodVars_none hV
 have hsz1:(DataW.weightsEach zi (Try.f5.params.toList++Rows.gateOnceSpec.plain.varTypes zi) (ds++[])).all (·≤reachBytes)=true:=hsz0
 have hval:∀ (j:Nat) t v,Try.f5.params[j]?=some t→args[j]?=some v→Value.okWide zi W .any base t v:=hval0
 have hA1:DataW.TrodAll enc zi W 0 (fun _=>true) true Try.f5.params.toList args.toList ds p:=hA0
 rw [Try.params5] at hA1 hsz1 hval
 have hA:DataW.TrodAll enc zi W 0 (fun _=>true) true [24,28] args.toList ds p:=hA1
 have hsz:(DataW.weightsEach zi [24,28] ds).all (·≤reachBytes)=true:=by rw [List.append_nil ds] at hsz1;exact hsz1
 clear hA0 hA1 hval0 hsz0 hsz1
 have r:=hA
 obtain ⟨v0,vs0,d0,ds0,p0,q0,hargs0,rfl,hp0,h0,r0⟩:=trodAll_cons r
 obtain ⟨v1,vs1,d1,ds1,p1,q1,hargs1,rfl,hp1,h1,r1⟩:=trodAll_cons r0
 obtain ⟨_,rfl,_⟩:=trodAll_nil r1
 refine (afx mixes coded law hA (fun j t v h1 h2=>hval j t v (by rw [List.getElem?_toArray];exact h1) h2) hsz).mono fun e W' ⟨he,bel⟩=>?_
 subst he
 exact ⟨_,rfl,_,_,_,[],_,[],hW',trodAll_mk1 (shut_bool (by kernel_rfl) _),ahr laidOut bel _ _ _ _ (by kernel_rfl) hA,rfl,bel.frame _,fun h=>by cases h⟩
theorem over:Rows.gateOnceRow.holds Try.pinned (OpenSpec.ofChange Rows.gateOnceSpec) :=
 OpenClaim.holds_of_wide 5 Try.f5 rfl rfl rfl rfl rfl rfl rfl ⟨rfl,rfl,rfl,rfl,rfl⟩ rfl rfl rfl rfl rfl (by kernel_rfl) Try.func5 (by kernel_rfl)
  (of_decide_eq_true (by kernel_rfl)) (by unfold Func.isWrapper;first | (rw [if_pos (by decide +kernel)];kernel_rfl) | (rw [if_neg (by decide +kernel)];exact ⟨rfl,rfl⟩))
  (fun os started H enc _=>lifted os started H enc)
theorem proved:Rows.GateOnceSaid:=over
end Go.Proofs.Ytfjogganfjkckaa.gateOnce
namespace Go.Proofs.Ytfjogganfjkckaa
theorem gateOnce_holds:Rows.GateOnceSaid:=gateOnce.proved
#print axioms gateOnce_holds
end Go.Proofs.Ytfjogganfjkckaa
