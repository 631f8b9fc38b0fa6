/-
The law GateRuns returns true for every input, and leaves it as it was; no condition. Part 3 of 7 of the texts (put together by a program: own names are short, what isn't needed is left out).
-/
import Derived.Test.YtfjogganfjkckaaZGateRuns2
import Derived.KernelRfl
import Derived.Test.YtfjogganfjkckaaChecked
set_option linter.unusedVariables false
set_option linter.unusedSimpArgs false
set_option maxRecDepth 100000
open Go renaming undef → zh
open Go.Proofs.Try renaming prog → zi
open Go renaming Value → zu
open List renaming getD_eq_getElem?_getD → zx
open List renaming getElem?_eq_getElem → zy
open Array renaming getD_eq_getD_getElem? → zA
open Array renaming getElem?_eq_getElem → zB
open List renaming getElem?_eq_none → zC
open List renaming toList_toArray → zD
open Bool renaming false_eq_true → zF
open Bool renaming and_eq_true → zG
namespace Go.Abs
open Go.RowKit
def WC (P:Program) (call:FuncId→List zu→M zu):Prop:=∀g args aargs S v S',call g args S=some (v,S')→∀μ H ω,GI μ S H→L0 μ H args aargs→Dom μ H ω→(∀r s,ω r=some s→s=.ext) →
 ∃a H' μ' ω',lim P g aargs H=some (a,H')∧GI μ' S' H'∧Later μ H μ' H'∧Kept ω H ω' H'∧Dom μ' H' ω'∧VV μ' H' ω' (some (.res none)) v a
section
variable {P:Program}{call:FuncId→List zu→M zu}{μ:Mu}{ω:Nat→Option wu}{S S' H:zS}{T A:List zu}
theorem Lr (hc:WC P call) {g:FuncId}{args aargs:List zu}{v:zu}(hG:GI μ S H) (hT:TI μ H ω T A) (h:call g args S=some (v,S')) (ha:L0 μ H args aargs):Out μ ω H A T S' v (lim P g aargs H):=by
 obtain⟨a,H',μ',ω',h1,h2,h3,h4,h5,h6⟩:=hc g args aargs S v S' h μ H (fun r=>(ω r).map fun _=>.ext) hG ha (fun r s hs=>by
  cases hr:ω r with
  |none=>simp[hr]at hs
  |some s0=>exact hT.dom r s0 hr) (fun r s hs=>by
  cases hr:ω r with
  |none=>simp[hr]at hs
  |some s0=>simp[hr]at hs;exact hs.symm)
 have kept:∀r s,ω r=some s→ω' r=some .ext∧H'.get r=H.get r:=fun r s hs=>h4 r (by dsimp only;rw[hs];rfl)
 refine⟨a,H',μ',fun r=>match ω' r with |some .ext=>ω r |some (.slot _ _)=>none |x=>x,h1,h2,h3,fun r hr=>?_,fun r s hs=>?_,hT.len,fun i=>?_,?_⟩
 ·obtain⟨k1,k2⟩:=kept r _ hr;exact⟨by(try dsimp only);rw[k1];exact hr,k2⟩
 ·dsimp only at hs;cases hr:ω' r with
  |none=>rw[hr]at hs;cases hs
  |some s0=>
   have:=h5 r s0 hr;exact this
 ·refine(hT.slots i).later h3 (K:=fun _=>True) (fun _ _ _ _ _=>trivial) (fun r s _ hr=>?_) (fun _ _=>trivial)
  obtain⟨k1,k2⟩:=kept r s hr;exact⟨by(try dsimp only);rw[k1];exact hr,k2⟩
 ·refine h6.later (Later.refl _ _) (K:=fun s=>∃j,s=.res j) (fun s i t ⟨j,hj⟩ ht=>by subst hj;cases j<;>cases ht;exact⟨_,rfl⟩) (fun r s ⟨j,hj⟩ hr=>?_) (fun s hs=>by cases hs;exact⟨_,rfl⟩)
  subst hj;exact⟨by(try dsimp only);rw[hr],rfl⟩
def Vg (t:Nat):wu→Option wu
 | .slot i j=>if i=t then some (.res j)else some (.slot i j)
 |s=>some s
def aT (t k:Nat):wu→Option wu
 | .slot i (some j)=>if i=t∧j=k then some (.res none)else some (.slot i (some j))
 |s=>some s
theorem CU {x:Operand}(hG:GI μ S H) (hT:TI μ H ω T A) (hx:xq x=true):Out μ ω H A (JO T x) S (jy T x) (some (jy A x,H)):=by
 cases x with
 |const v=>exact Out.same hG hT (VV.WR hx)
 |global g=>cases hx
 |func f=>exact Out.same hG hT (hT.eval (x:=.func f) rfl)
 |tmp t=>
  refine⟨_,H,μ,fun r=>(ω r).bind (Vg t),rfl,hG,Later.refl μ H,fun r hr=>⟨by dsimp only;rw[hr];rfl,rfl⟩,fun r s hs=>?_,by simp[JO,Jz,hT.len],fun i=>?_,?_⟩
  ·dsimp only at hs;cases hr:ω r with
   |none=>rw[hr]at hs;cases hs
   |some s0=>exact hT.dom r s0 hr
  ·dsimp only[JO,Jz];rw[JF];by_cases hi:i=t
   ·subst hi;by_cases hlt:i<T.length
    ·rw[zN ⟨rfl,hlt⟩];exact(hT.slots i).v0.at0
    ·rw[zM (fun h=>hlt h.2)]
     rw[zx,zC (Nat.le_of_not_lt hlt),zx,zC (by rw[←hT.len];omega)]
     exact .nores
   ·rw[zM (fun h=>hi h.1)]
    refine(hT.slots i).Qg (fun _=>rfl) _ (fun s hs=>?_)
    cases hs;refine⟨_,rfl,by simp only[Vg];rw[zM hi],fun k t' ht=>?_⟩
    cases ht;exact⟨_,rfl,by simp only[Vg];rw[zM hi]⟩
  ·refine(hT.slots t).Qg (fun _=>rfl) _ (fun s hs=>?_)
   cases hs;refine⟨_,rfl,by simp only[Vg,if_true],fun k t' ht=>?_⟩
   cases ht;exact⟨_,rfl,by simp only[Vg,if_true]⟩
theorem getD_modify (vs:Array zu) (i k:Nat) (f:zu→zu) (hf:f zh=zh):(vs.modify i f).getD k zh=if k=i then f (vs.getD k zh)else vs.getD k zh:=by
 rw[zA,zA,Array.getElem?_modify];by_cases h:i=k
 ·subst h;rw[zN rfl,zN rfl];cases vs[i]? with
  |none=>exact hf.symm
  |some v=>rfl
 ·rw[zM h,zM (fun e=>h e.symm)]
theorem VV.part {ω':Nat→Option wu}{ℓ ℓ':Option wu}{v a:zu}(h:VV μ H ω ℓ v a) (hℓ:∀s,ℓ=some s→∀k,s.comp k=none):VV μ H ω' ℓ' (Go.Abs.yh v) a:=by
 by_cases ht:∃x,v=.tuple x
 ·obtain⟨x,rfl⟩:=ht;show VV μ H ω' ℓ' (.tuple x) a;cases h with
  |sg hs=>simp[Go.Abs.sg]at hs
  |nores=>exact .nores
  |tuple hx hh=>
   refine .tuple hx fun i=>?_
   have:=hh i;cases ℓ with
   |none=>exact this.at0
   |some s=>
    have e:(some s).bind (·.comp i)=none:=hℓ s rfl i
    rw[e]at this;exact this.at0
 ·have e:Go.Abs.zQ v=Go.Abs.yh v:=by
   cases v<;>first |rfl |exact absurd ⟨_,rfl⟩ ht
  rw[←e];exact h.v0.at0
def gV (T:List zu) (i:Nat):Operand→List zu
 | .tmp t=>T.set t (jh i (T.getD t zh))
 | _=>T
theorem MX {x:Operand}{i:Nat}{v:zu}(hG:GI μ S H) (hT:TI μ H ω T A) (hx:xq x=true) (h:jv (jy T x) i S=some (v,S')) :
  Out μ ω H A (gV T i x) S' v (jv (jy A x) i H):=by
 cases x with
 |const w=>
  exfalso
  unfold jv at h;split at h
  ·rename_i vs he;simp only[jy]at he;subst he;simp[xq,ground,Go.Abs.sg]at hx
  ·cases h
 |global g=>cases hx
 |func f=>simp[jy,jv]at h
 |tmp t=>
  simp only[jy,gV]at h ⊢;unfold jv at h;split at h
  ·rename_i vs hvs;split at h<;>first |(cases h;done) |skip
   rename_i w hw;cases h;have hs:=hT.slots t;rw[hvs]at hs;have hil:i<vs.size:=(Array.getElem?_eq_some_iff.1 hw).1;have hlt:t<T.length:=by
    rcases Nat.lt_or_ge t T.length with h |h
    ·exact h
    ·rw[zx,zC h]at hvs;cases hvs;simp at hil
   generalize hA:A.getD t zh=at' at hs;cases hs with
   |sg hs=>simp[Go.Abs.sg]at hs
   |nores=>simp at hil
   | @tuple _ _ y hxs hxx=>
    have hiy:i<y.size:=by rw[←hxs];exact hil
    have hrun:jv (.tuple y) i H=some (y[i],H):=by simp only[jv,zB hiy]
    rw[hrun];have hcomp:=hxx i;rw[zA,hw,zA,zB hiy]at hcomp;simp only[Option.getD_some]at hcomp;refine⟨_,H,μ,fun r=>(ω r).bind (aT t i),rfl,hG,Later.refl μ H,fun r hr=>⟨by dsimp only;rw[hr];rfl,rfl⟩,fun r s hs=>?_,by simp[hT.len],fun k=>?_,?_⟩
    ·dsimp only at hs;cases hr:ω r with
     |none=>rw[hr]at hs;cases hs
     |some s0=>exact hT.dom r s0 hr
    ·rw[JF];by_cases hk:k=t
     ·subst hk;rw[zN ⟨rfl,hlt⟩,hA,hvs];simp only[jh];refine .tuple (by simpa using hxs) fun j=>?_
      rw[getD_modify _ _ _ _ rfl];by_cases hj:j=i
      ·subst hj;rw[zN rfl];exact(hxx j).part (fun s hs k=>by cases hs;rfl)
      ·rw[zM hj];refine(hxx j).Qg (fun _=>rfl) _ (fun s hs=>?_)
       cases hs;refine⟨_,rfl,by simp only[aT];rw[zM (fun e=>hj e.2)],fun a b hb=>by cases hb⟩
     ·rw[zM (fun e=>hk e.1)]
      refine(hT.slots k).Qg (fun _=>rfl) _ (fun s hs=>?_)
      cases hs;refine⟨_,rfl,rfl,fun a b hb=>?_⟩
      cases hb;exact⟨_,rfl,by simp only[aT];rw[zM (fun e=>hk e.1)]⟩
    ·refine hcomp.Qg (fun _=>rfl) _ (fun s hs=>?_)
     cases hs;exact⟨_,rfl,by simp[aT],fun a b hb=>by cases hb⟩
  ·cases h
theorem Il (hT:TI μ H ω T A):∀(xs:List Operand),xs.all xq=true→L0 μ H (xs.map fun x=>zQ (jy T x)) (xs.map (jy A)):=by
 intro xs h;exact LV.map fun x hx=>hT.eval (List.all_eq_true.1 h x hx)
theorem Bg {xs:List Operand}(hT:TI μ H ω T A) (h:xs.all xq=true) (hg:(xs.map (jy T)).all ground=true):xs.map (jy A)=xs.map (jy T):=by
 apply List.map_congr_left;intro x hx;exact kN (hT.eval (List.all_eq_true.1 h x hx)) (List.all_eq_true.1 hg _ (List.mem_map.2 ⟨x,hx,rfl⟩))
theorem Po {o:Oper}(h:hands o=false) (hc:∀c,o.op≠.call c):moved o T=T:=by
 unfold moved;unfold hands at h;split<;>first |rfl |(rename_i he;exact absurd he (hc _)) |(rename_i he;rw[he]at h;cases h)
theorem UK {fx:Fx}(hc:WC P call) {o:Oper}{v:zu}(hG:GI μ S H) (hT:TI μ H ω T A) (h:yV P fx call T o S=some (v,S')):Out μ ω H A (moved o T) S' v (yQ P (lim P) A o H):=by
 unfold yV at h;split at h<;>first |(cases h;done) |skip
 rename_i hok;unfold yQ;rw[zN hok];have hargs:o.op.operands.toList.all xq=true:=hok;have hev:∀x∈o.op.operands.toList,V0 μ H (zQ (jy T x)) (jy A x):=fun x hx=>hT.eval (List.all_eq_true.1 hargs x hx)
 have hoka:∀x∈o.op.operands.toList,xq x=true:=fun x hx=>List.all_eq_true.1 hargs x hx
 obtain⟨dst,op,type,pos,after,guard⟩:=o;by_cases hcall:∃c,op=.call c
 ·obtain⟨c,rfl⟩:=hcall;dsimp only at h hev hoka hargs ⊢;have hcargs:c.args.toList.all xq=true:=by
   rw[List.all_eq_true];intro x hx;refine hoka x ?_;simp only[Op.operands,Call.operands];cases c.callee<;>simp<;>first |exact .inr (by simpa using hx) |exact(by simpa using hx)
  cases hcal:c.callee with
  |value f=>
   rw[hcal]at h;dsimp only at h ⊢;have hf:=hev f (by simp[Op.operands,Call.operands,hcal])
   split at h<;>first |(cases h;done) |skip
   rename_i g first captured hfe
   rw[hfe]at hf;have hf:V0 μ H (.func (.func g) first captured) (jy A f):=hf
   generalize hfa:jy A f=fa at hf;cases hf with
   |sg hs=>simp[Go.Abs.sg]at hs
   |func _ hx hcs h1 h2=>
    rename_i x' c';dsimp only;have l1:L0 μ H first.toList x'.toList:=⟨by simpa using hx,fun i=>by rw[getD_toList,getD_toList];exact h1 i⟩
    have l2:L0 μ H captured.toList c'.toList:=⟨by simpa using hcs,fun i=>by rw[getD_toList,getD_toList];exact h2 i⟩
    have hm:moved ⟨dst,.call c,type,pos,after,guard⟩ T=T:=by simp only[moved,hcal]
    rw[hm];exact Lr hc hG hT h ((l1.append (Il hT _ hcargs)).append l2)
  |invoke r m=>rw[hcal]at h;cases h
  |builtin b=>
   rw[hcal]at h;dsimp only at h ⊢;unfold nH at h;unfold Yv;cases b<;>dsimp only at h ⊢<;>first |(cases h;done) |skip
   case len=>
    split at h<;>first |(cases h;done) |skip
    rename_i t x0 ht ha;obtain⟨x,hx,rfl⟩:∃x,c.args.toList=[x]∧jy T x=x0:=by
     match hl:c.args.toList with
     | []=>rw[hl]at ha;cases ha
     | [y]=>rw[hl]at ha;simp at ha;exact⟨y,rfl,ha⟩
     |y::z::w=>rw[hl]at ha;simp at ha
    have hm:moved ⟨dst,.call c,type,pos,after,guard⟩ T=T:=by simp only[moved,hcal]
    rw[hm,ht,hx];rw[hx]at hcargs;obtain⟨rfl,a,h1,h2⟩:=Cc h (hT.eval (List.all_eq_true.1 hcargs x (by simp)))
    simp only[List.map_cons,List.map_nil];rw[h1];exact Out.same hG hT h2
   case append=>
    split at h<;>first |(cases h;done) |skip
    rename_i t tx s0 x0 ht ha;obtain⟨so,x,hx,rfl,rfl⟩:∃so x,c.args.toList=[so,x]∧jy T so=s0∧jy T x=x0:=by
     match hl:c.args.toList with
     | []=>rw[hl]at ha;cases ha
     | [y]=>rw[hl]at ha;simp at ha
     | [y,z]=>rw[hl]at ha;simp at ha;exact⟨y,z,rfl,ha.1,ha.2⟩
     |y::z::w::u=>rw[hl]at ha;simp at ha
    rw[hx]at hcargs;have hso:=List.all_eq_true.1 hcargs so (by simp)
    have hm:moved ⟨dst,.call c,type,pos,after,guard⟩ T=JO T so:=by
     simp only[moved,hcal,hx];cases so<;>rfl
    rw[hm,ht,hx];exact Ih hG hT hso h (hT.eval (List.all_eq_true.1 hcargs x (by simp)))
   case copy=>
    split at h<;>first |(cases h;done) |skip
    rename_i t tx s0 x0 ht ha;obtain⟨so,x,hx,rfl,rfl⟩:∃so x,c.args.toList=[so,x]∧jy T so=s0∧jy T x=x0:=by
     match hl:c.args.toList with
     | []=>rw[hl]at ha;cases ha
     | [y]=>rw[hl]at ha;simp at ha
     | [y,z]=>rw[hl]at ha;simp at ha;exact⟨y,z,rfl,ha.1,ha.2⟩
     |y::z::w::u=>rw[hl]at ha;simp at ha
    rw[hx]at hcargs;have hm:moved ⟨dst,.call c,type,pos,after,guard⟩ T=T:=by simp only[moved,hcal]
    rw[hm,ht,hx];exact MB hG hT h (hT.eval (List.all_eq_true.1 hcargs so (by simp))) (hT.eval (List.all_eq_true.1 hcargs x (by simp)))
   case clear=>
    split at h<;>first |(cases h;done) |skip
    rename_i t x0 ht ha;obtain⟨x,hx,rfl⟩:∃x,c.args.toList=[x]∧jy T x=x0:=by
     match hl:c.args.toList with
     | []=>rw[hl]at ha;cases ha
     | [y]=>rw[hl]at ha;simp at ha;exact⟨y,rfl,ha⟩
     |y::z::w=>rw[hl]at ha;simp at ha
    have hm:moved ⟨dst,.call c,type,pos,after,guard⟩ T=T:=by simp only[moved,hcal]
    rw[hm,ht,hx];rw[hx]at hcargs;exact LQ hG hT h (hT.eval (List.all_eq_true.1 hcargs x (by simp)))
   case min=>
    obtain⟨rfl,hg,hga,hh⟩:=JG (H:=H) h;have hm:moved ⟨dst,.call c,type,pos,after,guard⟩ T=T:=by simp only[moved,hcal]
    rw[hm,Bg hT hcargs hga,hh];exact Out.same hG hT (V0.ground hg)
   case max=>
    obtain⟨rfl,hg,hga,hh⟩:=JG (H:=H) h;have hm:moved ⟨dst,.call c,type,pos,after,guard⟩ T=T:=by simp only[moved,hcal]
    rw[hm,Bg hT hcargs hga,hh];exact Out.same hG hT (V0.ground hg)
 ·have hnc:∀c,op≠.call c:=fun c hc=>hcall ⟨c,hc⟩
  have hV:Kq P fx (jy T) ⟨dst,op,type,pos,after,guard⟩ S=some (v,S'):=by
   cases op<;>first |exact h |exact absurd rfl (hnc _)
  suffices hs:Out μ ω H A (moved ⟨dst,op,type,pos,after,guard⟩ T) S' v (qL P (jy A) ⟨dst,op,type,pos,after,guard⟩ H) by
   cases op<;>first |exact hs |exact absurd rfl (hnc _)
  by_cases hh:hands ⟨dst,op,type,pos,after,guard⟩=true
  ·cases op<;>first |(cases hh;done) |skip
   case move x=>
    cases hV;have:=CU hG hT (hoka x (by simp[Op.operands]))
    have hm:moved ⟨dst,.move x,type,pos,after,guard⟩ T=JO T x:=by cases x<;>rfl
    rw[hm];exact this
   case assign x=>
    cases hV;have:=CU hG hT (hoka x (by simp[Op.operands]))
    have hm:moved ⟨dst,.assign x,type,pos,after,guard⟩ T=JO T x:=by cases x<;>rfl
    rw[hm];exact this
   case extract x i=>
    have:=MX hG hT (hoka x (by simp[Op.operands])) hV
    have hm:moved ⟨dst,.extract x i,type,pos,after,guard⟩ T=(gV T i x):=by cases x<;>rfl
    rw[hm];exact this
  ·have hh:hands ⟨dst,op,type,pos,after,guard⟩=false:=by simpa using hh
   rw[Po hh hnc];by_cases hch:vk P ⟨dst,op,type,pos,after,guard⟩=false
   ·obtain⟨rfl,a,h1,h2,h3⟩:=Vy hV hch hev (.inr hG) (.inr hG);rw[h1];exact Out.same hG hT (h3 hh)
   ·unfold Kq at hV;unfold qL;cases op<;>dsimp only at hV hev ⊢<;>first |(cases hV;done) |(exact absurd rfl hch) |(cases hh;done) |skip
    case alloc e=>exact Ib hG hT hV
    case box x _=>exact IW hG hT hV (hev x (by simp[Op.operands]))
    case buildSlice t len parts _=>
     have hps:=DV (μ:=μ) (H:=H) (parts:=parts.toList) (ρ:=jy T) (ρA:=jy A) fun p hp=>hev p.2 (by simp[Op.operands];exact⟨p.1,by simpa using hp⟩)
     split at hV
     ·exact I4 hG hT hV hps
     ·exact I5 hG hT hV hps
    case makeMap t r _=>exact O7 hG hT hV (fun h=>by cases r<;>simp at h ⊢)
    case mapUpdate t x k w _=>exact Pg hG hT hV (hev x (by simp[Op.operands])) (hev k (by simp[Op.operands])) (hev w (by simp[Op.operands]))
    case store a x _=>exact UM hG hT hV (hev a (by simp[Op.operands])) (hev x (by simp[Op.operands]))
    case makeSlice l c _=>
     split at hV
     ·exact O8 hG hT hV (hev l (by simp[Op.operands])) (hev c (by simp[Op.operands]))
     ·exact O9 hG hT hV (hev l (by simp[Op.operands])) (hev c (by simp[Op.operands]))
    case convert dst' x _=>
     have hd:∃e,P.underlying dst'=some (.slice e):=by
      unfold vk at hch;dsimp only at hch;split at hch
      ·exact⟨_,by assumption⟩
      ·exact absurd rfl hch
     obtain⟨e,hd⟩:=hd;cases x with
     |tmp t=>exact gG hG hT hV (hT.slots t) hd
     |const w=>exact gG hG hT hV (VV.WR (ℓ:=none) (hoka (.const w) (by simp[Op.operands]))) hd
     |global g=>have:=hoka (.global g) (by simp[Op.operands]);cases this
     |func f=>exact gG hG hT hV (ℓ:=none) ((hT.eval (x:=.func f) rfl).at0) hd
theorem GU {ops:Array Oper}(hT:TI μ H ω T A) (j:Nat):kD ops T j=kD ops A j:=by
 unfold kD;cases hd:(ops[j]?).bind (·.dst)with
 |none=>rfl
 |some d=>
  simp only[Option.bind_some];have:=hT.slots d;have e:=hT.len;by_cases hlt:d<T.length
  ·have hlt':d<A.length:=by rw[←e];exact hlt
   simp only[zx,zy hlt,zy hlt',Option.getD_some]at this;rw[zy hlt,zy hlt'];generalize T[d]=u at *
   generalize A[d]=u' at *
   cases this<;>rfl
  ·have hlt':A.length≤d:=by rw[←e];exact Nat.le_of_not_lt hlt
   rw[zC (Nat.le_of_not_lt hlt),zC hlt']
theorem TI.moved (hT:TI μ H ω T A) (o:Oper):TI μ H ω (moved o T) A:=by
 have slot:∀t,TI μ H ω (Jz T t) A:=by
  intro t;refine⟨by simp[Jz,hT.len],fun i=>?_,hT.dom,hT.nores⟩
  rw[Jz,JF];split
  ·rename_i h;rw[h.1];exact(hT.slots t).zQ
  ·exact hT.slots i
 unfold Go.Abs.moved;split
 ·exact slot _
 ·exact slot _
 ·rename_i t i _;refine⟨by simp[hT.len],fun k=>?_,hT.dom,hT.nores⟩
  rw[JF];split
  ·rename_i h;rw[h.1];have:=hT.slots t;generalize T.getD t zh=w at this;cases w with
   |tuple vs=>
    simp only[jh];generalize A.getD t zh=a at this;cases this with
    |sg hs=>simp[Go.Abs.sg]at hs
    |nores=>rw[show(#[]:Array zu).modify i Go.Abs.yh=#[] by simp];exact .nores
    | @tuple _ _ y hxs hxx=>
     refine .tuple (by simpa using hxs) fun j=>?_
     rw[getD_modify _ _ _ _ rfl];by_cases hj:j=i
     ·subst hj;rw[zN rfl];exact(hxx j).part (fun s hs k=>by cases hs;rfl)
     ·rw[zM hj];exact hxx j
   | _=>exact this
  ·exact hT.slots k
 ·split
  ·exact slot _
  ·exact hT
 ·exact hT
def After (μ:Mu) (ω:Nat→Option wu) (H:zS) (T':List zu) (S':zS) (R:Option (List zu×zS)):Prop :=
 ∃A' H' μ' ω',R=some (A',H')∧GI μ' S' H'∧Later μ H μ' H'∧Kept ω H ω' H'∧TI μ' H' ω' T' A'
theorem EU {fx:Fx}(hc:WC P call) {o:Oper}{rest:List Oper}{v:zu}(hG:GI μ S H) (hT:TI μ H ω T A) (h:yV P fx call T o S=some (v,S')) :
  ∃a H' μ' ω',yQ P (lim P) A o H=some (a,H')∧GI μ' S' H'∧Later μ H μ' H'∧Kept ω H ω' H'∧TI μ' H' ω' (qH o rest T v) (vF A o.dst a):=by
 unfold qH;split
 ·rename_i hl;have hm:∃x,o.op=.move x:=by
   unfold Ce at hl;split at hl
   ·rename_i x _ he _;exact⟨x,he⟩
   ·cases hl
  obtain⟨x,hx⟩:=hm;unfold yV at h;split at h<;>first |(cases h;done) |skip
  rename_i hok;have hox:xq x=true:=List.all_eq_true.1 (show o.op.operands.toList.all xq=true from hok) x (by rw[hx];simp[Op.operands])
  rw[hx]at h;dsimp only at h;unfold Kq at h;rw[hx]at h;cases h;have ha:yQ P (lim P) A o H=some (jy A x,H):=by
   unfold yQ;rw[zN hok,hx];dsimp only;unfold qL;rw[hx];rfl
  rw[ha];exact(Out.same hG hT (hT.eval hox)).put o.dst
 ·exact(UK hc hG hT h).put o.dst
theorem FI {o:Oper}{rest:List Oper}(hG:GI μ S H) (hT:TI μ H ω T A):∃μ' ω',GI μ' S H∧Later μ H μ' H∧Kept ω H ω' H∧TI μ' H ω' (qH o rest T zh) (vF A o.dst zh):=by
 unfold qH;split
 ·rw[show zQ zh=zh from X7]
  obtain⟨a,H1,μ1,ω1,h1,h2,h3,h4,h5⟩:=(Out.same hG hT (VV.zh)).put o.dst;cases h1;exact⟨μ1,ω1,h2,h3,h4,h5⟩
 ·obtain⟨a,H1,μ1,ω1,h1,h2,h3,h4,h5⟩:=(Out.same hG (hT.moved o) (VV.zh)).put o.dst;cases h1;exact⟨μ1,ω1,h2,h3,h4,h5⟩
theorem Rk {fx:Fx}(hc:WC P call) {ops:Array Oper}:∀(l:List Oper) (T T' A:List zu) (S S' H:zS) (μ:Mu) (ω:Nat→Option wu),zW P fx call ops l T S=some (T',S')→GI μ S H→TI μ H ω T A→After μ ω H T' S' (Jw P (lim P) ops l A H):=by
 intro l;induction l with
 |nil=>
  intro T T' A S S' H μ ω h hG hT;simp only[zW,Option.some.injEq,Prod.mk.injEq]at h;obtain⟨rfl,rfl⟩:=h;exact⟨A,H,μ,ω,rfl,hG,Later.refl _ _,Kept.refl _ _,hT⟩
 |cons o l ih=>
  intro T T' A S S' H μ ω h hG hT;have hy:(kD ops T)=kD ops A:=funext fun j=>GU hT j
  simp only[zW]at h;simp only[Jw,←hy];split at h
  ·rename_i hw;split at h
   ·rename_i v S1 hs;obtain⟨a,H1,μ1,ω1,h1,h2,h3,h4,h5⟩:=EU (rest:=l) hc hG hT hs;obtain⟨A2,H2,μ2,ω2,k1,k2,k3,k4,k5⟩:=ih _ _ _ _ _ _ _ _ h h2 h5;refine⟨A2,H2,μ2,ω2,?_,k2,h3.trans k3,h4.trans k4,k5⟩;rw[zN hw,h1];exact k1
   ·cases h
  ·rename_i hw;obtain⟨μ1,ω1,h2,h3,h4,h5⟩:=FI (o:=o) (rest:=l) hG hT;obtain⟨A2,H2,μ2,ω2,k1,k2,k3,k4,k5⟩:=ih _ _ _ _ _ _ _ _ h h2 h5;refine⟨A2,H2,μ2,ω2,?_,k2,h3.trans k3,h4.trans k4,k5⟩;rw[zM hw];exact k1
end
end Go.Abs
namespace Go.Abs
open Go.RowKit
section
variable {P:Program}{call:FuncId→List zu→M zu}{μ μ2:Mu}{S S' G H H2:zS}{T A:List zu}
theorem Jv.two {s:M zu}(hs:Jv s) {a:zu}{G':zS}(h:s G=some (a,G')):∀H,s H=some (a,H):=by
 obtain⟨o,ho⟩:=hs;rw[ho]at h;cases o with
 |none=>cases h
 |some w=>
  simp only[Option.map_some,Option.some.injEq,Prod.mk.injEq]at h;intro H;rw[ho,h.1];rfl
theorem N8 {t:TypeId}{ps:List (Nat×zu)}:Jv (wS P t ps):=by
 refine⟨(wS P t ps zS.empty).map (·.1),fun H=>?_⟩
 unfold wS;split
 ·split
  ·split
   ·split
    ·split<;>rfl
    ·rfl
   ·split
    ·split<;>rfl
    ·rfl
   ·rfl
  ·rfl
 ·rfl
theorem Oh {x:zu}:Jv (Qr x):=by
 refine⟨(Qr x zS.empty).map (·.1),fun H=>?_⟩
 unfold Qr;split<;>rfl
theorem Oc {t:TypeId}{x i:zu}:Jv (JL P t x i):=by
 unfold JL;refine⟨(JL P t x i zS.empty).map (·.1),fun H=>?_⟩
 unfold JL;dsimp only;split
 ·split
  ·split
   ·split<;>rfl
   ·rfl
  ·rfl
 ·obtain⟨o,ho⟩:=Y9 (P:=P) _ _;rw[ho,ho];cases o<;>rfl
 ·rfl
theorem Og {t:TypeId}{x:zu}(hx:∀m,x≠.map m):Jv (Jk P t x):=by
 refine⟨(Jk P t x zS.empty).map (·.1),fun H=>?_⟩
 unfold Jk;split<;>first |rfl |exact absurd rfl (hx _)
theorem PZ {d:Nat}{v:zu}(h:kQ d v=true):kQ d (yh v)=true:=by
 cases v with
 |iface k v=>cases d<;>rfl
 | _=>exact h
theorem Vu {d:Nat}{v:zu}(h:kQ d v=true):kQ d (zQ v)=true:=by
 cases v with
 |iface k v=>cases d<;>rfl
 |tuple vs=>
  cases d with
  |zero=>cases h
  |succ d=>
   have h:vs.toList.all (kQ d)=true:=h;show(vs.map yh).toList.all (kQ d)=true;rw[Array.toList_map,List.all_map,List.all_eq_true];exact fun x hx=>PZ (List.all_eq_true.1 h x hx)
 | _=>exact h
theorem Vx :∀(d:Nat) {v a:zu},kQ d v=true→V0 μ H v a→WB d a a=true:=by
 intro d;induction d with
 |zero=>
  intro v a h hv;cases hv<;>first |(cases h;done) |(simp[WB];done) |skip
  rename_i hs;cases v<;>first |(simp[WB];done) |(simp[Go.Abs.sg]at hs;done) |skip
 |succ d ih=>
  intro v a h hv;cases hv<;>first |(cases h;done) |(simp[WB];done) |skip
  ·rename_i hs;cases v<;>first |(simp[WB];done) |(simp[Go.Abs.sg]at hs;done) |skip
  all_goals
   rename_i x x' hx hh;have hh:∀i:Nat,V0 μ H (x.getD i zh) (x'.getD i zh):=hh;unfold WB;simp only[decide_true,Bool.true_and];rw[List.all_eq_true];intro p hp;obtain⟨i,hi,he⟩:=List.mem_iff_getElem.1 hp;simp only[List.length_zip,Nat.min_self]at hi;rw[List.getElem_zip]at he;subst he;have hi':i<x'.size:=by simpa using hi
   have hi2:i<x.size:=by rw[hx];exact hi'
   have h2:=hh i;rw[zA,zB hi2,zA,zB hi']at h2;have h3:kQ d x[i]=true:=List.all_eq_true.1 (show x.toList.all (kQ d)=true from h) _ (by simp)
   have:=ih h3 h2;simpa using this
theorem BL (x:zu):xQ (zQ x)=xQ x:=by cases x<;>rfl
theorem DN {fx:Fx}{o:Oper}{v:zu}(hdr:fx.dr=true) (h:yV P fx call T o S=some (v,S')) (hn:vk P o=false) (hr:QV o=false) (ho:∀x∈o.op.operands.toList,V0 μ G (zQ (jy T x)) (jy A x)) :
  ∃a,V0 μ G (zQ v) a∧∀H,qL P (jy A) o H=some (a,H)∧yQ P (lim P) A o H=some (a,H):=by
 have hrm:Yl o=false:=by
  unfold QV at hr;unfold Yl;split<;>simp_all
 unfold yV at h;split at h<;>first |(cases h;done) |skip
 rename_i hok;obtain⟨dst,op,type,pos,after,guard⟩:=o;by_cases hcall:∃c,op=.call c
 ·obtain⟨c,rfl⟩:=hcall;dsimp only at h ho;unfold vk at hn;dsimp only at hn;have hcargs:∀x∈c.args.toList,V0 μ G (zQ (jy T x)) (jy A x):=by
   intro x hx;refine ho x ?_;simp only[Op.operands,Call.operands];cases c.callee<;>simp<;>first |exact .inr (by simpa using hx) |exact(by simpa using hx)
  have step:∀{b:Builtin}(a:zu),c.callee=.builtin b→(∀H,Yv P b c.argTypes type (c.args.toList.map (jy A)) H=some (a,H))→∀H,qL P (jy A) ⟨dst,.call c,type,pos,after,guard⟩ H=some (a,H)∧yQ P (lim P) A ⟨dst,.call c,type,pos,after,guard⟩ H=some (a,H):=by
   intro b a hb hall H;constructor
   ·unfold qL;dsimp only;rw[hb];exact hall H
   ·unfold yQ;rw[zN hok];dsimp only;rw[hb];exact hall H
  cases hcal:c.callee with
  |value f=>rw[hcal]at hn;cases hn
  |invoke r m=>rw[hcal]at hn;cases hn
  |builtin b=>
   rw[hcal]at h;dsimp only at h;unfold nH at h;rw[hcal]at hn;have gargs:(c.args.toList.map (jy T)).all ground=true→c.args.toList.map (jy A)=c.args.toList.map (jy T):=by
    intro hg;apply List.map_congr_left;intro x hx;exact kN (hcargs x hx) (List.all_eq_true.1 hg _ (List.mem_map.2 ⟨x,hx,rfl⟩))
   cases b<;>dsimp only at h hn<;>first |(cases h;done) |(cases hn;done) |skip
   case len=>
    split at h<;>first |(cases h;done) |skip
    rename_i t x0 ht ha;obtain⟨x,hx,rfl⟩:∃x,c.args.toList=[x]∧jy T x=x0:=by
     match hl:c.args.toList with
     | []=>rw[hl]at ha;cases ha
     | [y]=>rw[hl]at ha;simp at ha;exact⟨y,rfl,ha⟩
     |y::z::w=>rw[hl]at ha;simp at ha
    have hxv:=hcargs x (by rw[hx];simp)
    obtain⟨rfl,a,h1,h2⟩:=Cc h hxv;have hmap:∀m,jy A x≠.map m:=by
     intro m hm;rw[hm]at hxv;generalize hu:zQ (jy T x)=u at hxv;have hum:∃m',u=.map m':=by cases hxv<;>exact⟨_,rfl⟩
     obtain⟨m',rfl⟩:=hum;have:jy T x=.map m':=by
      cases hv:jy T x<;>rw[hv]at hu<;>simp[zQ,yh]at hu<;>rw[hu]
     rw[this]at h;simp[yK]at h
    refine⟨a,h2.zQ,step a hcal fun H=>?_⟩
    unfold Yv;dsimp only;rw[ht,hx];exact(Og hmap).two h1 H
   case min=>
    obtain⟨rfl,hg,hga,hh⟩:=JG (H:=G) h;refine⟨v,(V0.ground hg).zQ,step v hcal fun H=>?_⟩
    unfold Yv;dsimp only;rw[gargs hga];exact(Y9 _ _).two hh H
   case max=>
    obtain⟨rfl,hg,hga,hh⟩:=JG (H:=G) h;refine⟨v,(V0.ground hg).zQ,step v hcal fun H=>?_⟩
    unfold Yv;dsimp only;rw[gargs hga];exact(Y9 _ _).two hh H
 ·have hnc:∀c,op≠.call c:=fun c hc=>hcall ⟨c,hc⟩
  have hV:Kq P fx (jy T) ⟨dst,op,type,pos,after,guard⟩ S=some (v,S'):=by
   cases op<;>first |exact h |exact absurd rfl (hnc _)
  obtain⟨rfl,a,h1,h2,h3⟩:=Vy (ρA:=jy A) hV hn ho (.inl (lH hrm)) (.inl hdr);have hA:∀H,yQ P (lim P) A ⟨dst,op,type,pos,after,guard⟩ H=qL P (jy A) ⟨dst,op,type,pos,after,guard⟩ H:=by
   intro H;unfold yQ;rw[zN hok];cases op<;>first |rfl |exact absurd rfl (hnc _)
  refine⟨a,h2,fun H=>?_⟩
  rw[hA];have key:qL P (jy A) ⟨dst,op,type,pos,after,guard⟩ H=some (a,H):=by
   have hf:Jv (qL P (jy A) ⟨dst,op,type,pos,after,guard⟩):=by
    unfold vk at hn;unfold QV at hr;unfold qL;unfold Kq at hV;cases op<;>dsimp only at hn hr hV ⊢<;>first |(cases hn;done) |(cases hr;done) |(cases hV;done) |skip
    ·exact iO _
    ·exact iO _
    ·exact Oi _ _ _
    ·exact N8
    ·exact Oh
    ·exact BG _ _ _ _
    ·exact Oj _ _
    ·exact iO _
    ·exact Ob _ _ _
    ·exact Oa _ _ _
    ·exact Oe _ _ _
    ·exact Oc
    ·exact N9 _ _
   exact hf.two h1 H
  exact⟨key,key⟩
theorem Hr {t:TypeId}{r o e:Nat}{l:List zu}{own own':Own}{a:zu}(hg:G.get r=some (.cells l own e)) (hg':H2.get r=some (.cells l own' e)) (h:qK P t (.pointer (some ⟨r,o,none⟩)) G=some (a,G)) :
  qK P t (.pointer (some ⟨r,o,none⟩)) H2=some (a,H2):=by
 simp only[qK,hg]at h;simp only[qK,hg']
 (repeat' split at h)<;>first |(cases h;done) |skip
 all_goals simp_all
theorem VV.backed {v:zu}{r o n c:Nat}(h:V0 μ G v (.slice (some ⟨r,o,none⟩) n c)) (hv:xQ v=false):∃l own e,r<G.next∧xO μ r∧G.get r=some (.cells l own e):=by
 cases h with
 |sg hs=>simp[Go.Abs.sg]at hs
 |slm hm=>simp[xQ]at hv
 |sl hr hp hg _ _ _=>exact⟨_,_,_,hr,hp,hg⟩
theorem Hl {x:zu}{n:Nat}{cs:List zu}(hx:∀r o n c,x=.slice (some ⟨r,o,none⟩) n c→∃l own own' e,G.get r=some (.cells l own e)∧H2.get r=some (.cells l own' e)) (h:Ze x n G=some cs):Ze x n H2=some cs:=by
 unfold Ze at h ⊢;split at h
 ·rename_i r o k c;obtain⟨l,own,own',e,hg,hg'⟩:=hx _ _ _ _ rfl;rw[hg]at h;rw[hg'];exact h
 ·exact h
 ·exact h
 ·cases h
theorem Ho {src dst:TypeId}{x a:zu}(hd:∀e,P.underlying dst≠some (.slice e)) (hx:∀r o n c,x=.slice (some ⟨r,o,none⟩) n c→∃l own own' e,G.get r=some (.cells l own e)∧H2.get r=some (.cells l own' e)) (h:qc P src dst x G=some (a,G)) :
  qc P src dst x H2=some (a,H2):=by
 unfold qc at h ⊢;split at h
 ·rename_i b n c
  (try dsimp only)
  split at h
  ·rename_i e hs hdd;split at h<;>first |(cases h;done) |skip
   rename_i he;split at h<;>first |(cases h;done) |skip
   rename_i cs hcs;rw[Hl hx hcs]
   (try dsimp only)
   split at h<;>first |(cases h;done) |skip
   rename_i bs hbs
   (try rw[hbs])
   cases h;rfl
  ·rename_i e0 e hs hdd;exact absurd hdd (hd e)
  ·cases h
 ·rename_i s
  (try dsimp only)
  split at h
  ·rename_i d e hs hdd;exact absurd hdd (hd e)
  ·exact(Y9 _ _).two h H2
 ·exact(Y9 _ _).two h H2
theorem Hy {t:TypeId}{x a:zu}{lo hi:Option zu}(hx:∀r o n c,x=.slice (some ⟨r,o,none⟩) n c→∃l own own' e,G.get r=some (.cells l own e)∧H2.get r=some (.cells l own' e)) (h:Jb P t x lo hi G=some (a,G)) :
  Jb P t x lo hi H2=some (a,H2):=by
 unfold Jb at h ⊢;split at h
 ·rename_i s hu;exact(Y9 _ _).two h H2
 ·rename_i e b n c hu
  (try dsimp only)
  split at h<;>first |(cases h;done) |skip
  rename_i size l hh hs hl hhi
  (try simp only[hs,hl,hhi])
  split at h<;>first |(cases h;done) |skip
  rename_i c0;split at h<;>first |(cases h;done) |skip
  rename_i c1;split at h<;>first |(cases h;done) |skip
  rename_i c2;rw[zN c0,zN c1,zN c2];split at h
  ·split at h<;>first |(cases h;done) |skip
   rename_i hn;cases h;rw[zN hn]
  ·rename_i r o;obtain⟨l2,own,own',e2,hg,hg'⟩:=hx _ _ _ _ rfl;rw[hg]at h;rw[hg'];dsimp only at h ⊢;split at h<;>first |(cases h;done) |skip
   rename_i he;rw[zN he];cases h;rfl
  ·split at h<;>first |(cases h;done) |skip
   rename_i hn;cases h;rw[zN hn]
  ·cases h
 ·cases h
theorem eX {t:TypeId}{r o:Nat}{a:zu}{G':zS}(hg:H2.get r=G.get r) (h:qK P t (.pointer (some ⟨r,o,none⟩)) G=some (a,G')):qK P t (.pointer (some ⟨r,o,none⟩)) H2=some (a,H2):=by
 simp only[qK]at h ⊢;rw[hg]
 (repeat' split at h)<;>first |(cases h;done) |skip
 all_goals simp_all
theorem Ht {t:TypeId}{x k:zu}{ok:Bool}{a:zu}{G':zS}(hg:∀r,x=.map (some r)→H2.get r=G.get r) (h:vI P t x k ok G=some (a,G')):vI P t x k ok H2=some (a,H2):=by
 have e:∀H:zS,vI P t x k ok H=(vI P t x k ok H).map (fun r=>(r.1,H)):=by
  intro H;unfold vI
  (try dsimp only)
  (repeat' split)<;>rfl
 have e2:(vI P t x k ok H2).map (·.1)=(vI P t x k ok G).map (·.1):=by
  cases x with
  |map b=>
   cases b with
   |none=>unfold vI;dsimp only;(repeat' split)<;>rfl
   |some r=>
    unfold vI;dsimp only;rw[hg r rfl]
    (repeat' split)<;>rfl
  | _=>unfold vI;(try dsimp only)<;>(try ((repeat' split)<;>rfl))
 rw[h]at e2;rw[e H2];cases hh:vI P t x k ok H2 with
 |none=>rw[hh]at e2;cases e2
 |some w=>
  rw[hh]at e2;simp only[Option.map_some,Option.some.injEq]at e2 ⊢;rw[e2]
theorem lV {fx:Fx}{o:Oper}{v:zu}(hdr:fx.dr=true) (h:yV P fx call T o S=some (v,S')) (hn:vk P o=false) (hm:Yg (jy T) o) (ho:∀x∈o.op.operands.toList,V0 μ G (zQ (jy T x)) (jy A x)) (hL:Later μ G μ2 H2) :
  ∃a,V0 μ G (zQ v) a∧qL P (jy A) o G=some (a,G)∧qL P (jy A) o H2=some (a,H2)∧yQ P (lim P) A o G=some (a,G)∧yQ P (lim P) A o H2=some (a,H2):=by
 by_cases hr:QV o=false
 ·obtain⟨a,h1,h2⟩:=DN hdr h hn hr ho;exact⟨a,h1,(h2 G).1,(h2 H2).1,(h2 G).2,(h2 H2).2⟩
 ·unfold yV at h;split at h<;>first |(cases h;done) |skip
  rename_i hok;obtain⟨dst,op,type,pos,after,guard⟩:=o;unfold QV at hr;cases op<;>dsimp only at h hr<;>first |(exact absurd rfl hr) |skip
  case load t addr=>
   obtain⟨rfl,a,h1,h2,h3⟩:=Vy (ρA:=jy A) h hn ho (.inl hm) (.inl hdr);have hA:∀H,yQ P (lim P) A ⟨dst,.load t addr,type,pos,after,guard⟩ H=qL P (jy A) ⟨dst,.load t addr,type,pos,after,guard⟩ H:=fun H=>by unfold yQ;rw[zN hok]
   have key:qL P (jy A) ⟨dst,.load t addr,type,pos,after,guard⟩ H2=some (a,H2):=by
    have hx:=ho addr (by simp[Op.operands])
    have h:zZ P fx.nm t (jy T addr) S'=some (v,S'):=h;unfold qL at h1 ⊢;dsimp only at h1 ⊢;unfold zZ at h;split at h
    ·rename_i k cs he;split at h<;>first |(cases h;done) |skip
     rename_i hk;subst hk;rw[he]at hx;have hx:V0 μ G (.iface 3 (.agg cs)) (jy A addr):=hx;generalize hq:jy A addr=q at hx h1 ⊢;cases hx with
     |sg hs=>simp[Go.Abs.sg]at hs
     |ep hr hp hg hl hc=>
      obtain⟨own',hg'⟩:=hL.cells _ _ _ _ hr hp hg;exact Hr hg hg' h1
    ·rename_i ad he;exact absurd he (hm ad)
    ·cases h
   exact⟨a,h2,h1,key,by rw[hA];exact h1,by rw[hA];exact key⟩
  case convert src d x=>
   obtain⟨rfl,a,h1,h2,h3⟩:=Vy (ρA:=jy A) h hn ho (.inl hm) (.inl hdr);have hA:∀H,yQ P (lim P) A ⟨dst,.convert src d x,type,pos,after,guard⟩ H=qL P (jy A) ⟨dst,.convert src d x,type,pos,after,guard⟩ H:=fun H=>by unfold yQ;rw[zN hok]
   have key:qL P (jy A) ⟨dst,.convert src d x,type,pos,after,guard⟩ H2=some (a,H2):=by
    have hx:=ho x (by simp[Op.operands])
    unfold qL at h1 ⊢;dsimp only at h1 ⊢;refine Ho (fun e he=>?_) (fun r o n c hq=>?_) h1
    ·unfold vk at hn;dsimp only at hn;rw[he]at hn;cases hn
    ·rw[hq]at hx;have hh:xQ (zQ (jy T x))=false:=by
      rw[BL];have h:qB P fx.hp fx.dr src d (jy T x) S'=some (v,S'):=h;unfold qB at h;split at h
      ·first |(cases h;done) |(rw[hdr]at h;simp at h)
      ·rename_i hh;simpa using hh
     obtain⟨l,own,e,hr,hp,hg⟩:=hx.backed hh;obtain⟨own',hg'⟩:=hL.cells _ _ _ _ hr hp hg;exact⟨l,own,own',e,hg,hg'⟩
   exact⟨a,h2,h1,key,by rw[hA];exact h1,by rw[hA];exact key⟩
  case slice t x lo hi mx=>
   obtain⟨rfl,a,h1,h2,h3⟩:=Vy (ρA:=jy A) h hn ho (.inl hm) (.inl hdr);have hA:∀H,yQ P (lim P) A ⟨dst,.slice t x lo hi mx,type,pos,after,guard⟩ H=qL P (jy A) ⟨dst,.slice t x lo hi mx,type,pos,after,guard⟩ H:=fun H=>by unfold yQ;rw[zN hok]
   have key:qL P (jy A) ⟨dst,.slice t x lo hi mx,type,pos,after,guard⟩ H2=some (a,H2):=by
    have hx:=ho x (by simp[Op.operands])
    unfold qL at h1 ⊢;cases mx with
    |some m=>cases h1
    |none=>
     dsimp only at h1 ⊢;refine Hy (fun r o n c hq=>?_) h1
     rw[hq]at hx;have hh:xQ (zQ (jy T x))=false:=by
      rw[BL];have h:WZ P fx.dr t (jy T x) (lo.map (jy T)) (hi.map (jy T)) S'=some (v,S'):=h;unfold WZ at h;split at h
      ·first |(cases h;done) |(rw[hdr]at h;simp at h)
      ·rename_i hh;simpa using hh
     obtain⟨l,own,e,hr,hp,hg⟩:=hx.backed hh;obtain⟨own',hg'⟩:=hL.cells _ _ _ _ hr hp hg;exact⟨l,own,own',e,hg,hg'⟩
   exact⟨a,h2,h1,key,by rw[hA];exact h1,by rw[hA];exact key⟩
  case lookup t x k ok=>
   exact hm.elim
end
end Go.Abs
namespace Go.Abs
open Go.RowKit
structure Line (P : Program) (fx : Fx) (chk : List Nat) (call : FuncId → List zu → M zu) (ops : Array Oper) (k0 : Nat) (l : List Oper) (Ts As : Nat → List zu) (Ss Hs : Nat → zS) (μs : Nat → Mu) (ωs : Nat → Nat → Option wu) (vs zf : Nat → zu) : Prop where
  inv : ∀ k, k ≤ l.length → GI (μs k) (Ss k) (Hs k) ∧ TI (μs k) (Hs k) (ωs k) (Ts k) (As k)
  step : ∀ k o, l[k]? = some o → Later (μs k) (Hs k) (μs (k + 1)) (Hs (k + 1)) ∧ Kept (ωs k) (Hs k) (ωs (k + 1)) (Hs (k + 1)) ∧
    ((Region.wanted o (kD ops (As k)) = true ∧ yV P fx call (Ts k) o (Ss k) = some (vs k, Ss (k + 1)) ∧ yQ P (lim P) (As k) o (Hs k) = some (zf k, Hs (k + 1)) ∧
        Ts (k + 1) = qH o (l.drop (k + 1)) (Ts k) (vs k) ∧ As (k + 1) = vF (As k) o.dst (zf k) ∧ (chk.contains (k0 + k) = true → kQ 3 (vs k) = true)) ∨
     (Region.wanted o (kD ops (As k)) = false ∧ zf k = zh ∧ Ts (k + 1) = qH o (l.drop (k + 1)) (Ts k) zh ∧ As (k + 1) = vF (As k) o.dst zh ∧ Hs (k + 1) = Hs k))
section
variable {P:Program}{call:FuncId→List zu→M zu}
theorem line_of {fx : Fx} {chk : List Nat} {nl : List (Nat × Nat)} (hc : WC P call) {ops : Array Oper} : ∀ (l : List Oper) (k0 : Nat) (hist : List (zu × zS)) (T T' A : List zu) (S S' H : zS) (μ : Mu) (ω : Nat → Option wu), yu P fx chk nl call ops k0 hist l T S = some (T', S') → GI μ S H → TI μ H ω T A →
    ∃ Ts As Ss Hs μs ωs vs zf tr, Line P fx chk call ops k0 l Ts As Ss Hs μs ωs vs zf ∧ Ts 0 = T ∧ As 0 = A ∧ Ss 0 = S ∧ Hs 0 = H ∧ μs 0 = μ ∧ ωs 0 = ω ∧ Ts l.length = T' ∧ Ss l.length = S' ∧
      Zz P (lim P) ops l A H = some (tr, As l.length, Hs l.length) ∧ (∀ k, k < l.length → tr[k]? = some (As k, Hs k, zf k)) ∧ (∀ k, k ≤ l.length → (tr.map (·.2.1) ++ [Hs l.length])[k]? = some (Hs k)) ∧
      ∃ hs : List (zu × zS), hs.length = l.length ∧ (∀ k o, l[k]? = some o → hs[k]? = some (xR (Ts k) o, Ss k)) ∧ (nl.isEmpty = false → nl.all (VO (hist ++ hs ++ [(zh, S')])) = true) := by
  intro l
  induction l with
  | nil =>
    intro k0 hist T T' A S S' H μ ω h hG hT
    simp only [yu] at h
    split at h <;> first | (cases h; done) | skip
    rename_i hst
    cases h
    refine ⟨fun _ => T, fun _ => A, fun _ => S, fun _ => H, fun _ => μ, fun _ => ω, fun _ => zh, fun _ => zh, [], ⟨fun k _ => ⟨hG, hT⟩, fun k o ho => by simp at ho⟩, rfl, rfl, rfl, rfl, rfl, rfl, rfl, rfl, rfl, fun k hk => by simp at hk, fun k hk => ?_, [], rfl, fun k o ho => by simp at ho, fun he => ?_⟩
    · have : k = 0 := by simpa using hk
      subst this
      rfl
    · simpa [Jq, he] using hst
  | cons o l ih =>
    intro k0 hist T T' A S S' H μ ω h hG hT
    have hy : (kD ops T) = kD ops A := funext fun j => GU hT j
    simp only [yu] at h
    have glue : ∀ (T1 A1 : List zu) (S1 H1 : zS) (μ1 : Mu) (ω1 : Nat → Option wu) (v a : zu), yu P fx chk nl call ops (k0 + 1) (Jq nl hist (xR T o) S) l T1 S1 = some (T', S') → GI μ1 S1 H1 → TI μ1 H1 ω1 T1 A1 → Later μ H μ1 H1 → Kept ω H ω1 H1 →
        ((Region.wanted o (kD ops A) = true ∧ yV P fx call T o S = some (v, S1) ∧ yQ P (lim P) A o H = some (a, H1) ∧ T1 = qH o l T v ∧ A1 = vF A o.dst a ∧ (chk.contains k0 = true → kQ 3 v = true)) ∨
         (Region.wanted o (kD ops A) = false ∧ a = zh ∧ T1 = qH o l T zh ∧ A1 = vF A o.dst zh ∧ H1 = H)) →
        (∀ tr A2 H2, Zz P (lim P) ops l A1 H1 = some (tr, A2, H2) → Zz P (lim P) ops (o :: l) A H = some ((A, H, a) :: tr, A2, H2)) →
        ∃ Ts As Ss Hs μs ωs vs zf tr, Line P fx chk call ops k0 (o :: l) Ts As Ss Hs μs ωs vs zf ∧ Ts 0 = T ∧ As 0 = A ∧ Ss 0 = S ∧ Hs 0 = H ∧ μs 0 = μ ∧ ωs 0 = ω ∧ Ts (o :: l).length = T' ∧ Ss (o :: l).length = S' ∧
          Zz P (lim P) ops (o :: l) A H = some (tr, As (o :: l).length, Hs (o :: l).length) ∧ (∀ k, k < (o :: l).length → tr[k]? = some (As k, Hs k, zf k)) ∧ (∀ k, k ≤ (o :: l).length → (tr.map (·.2.1) ++ [Hs (o :: l).length])[k]? = some (Hs k)) ∧
          ∃ hs : List (zu × zS), hs.length = (o :: l).length ∧ (∀ k o', (o :: l)[k]? = some o' → hs[k]? = some (xR (Ts k) o', Ss k)) ∧ (nl.isEmpty = false → nl.all (VO (hist ++ hs ++ [(zh, S')])) = true) := by
      intro T1 A1 S1 H1 μ1 ω1 v a hrest hG1 hT1 hL hK hstep htr
      obtain ⟨Ts, As, Ss, Hs, μs, ωs, vs, zf, tr, hline, e1, e2, e3, e4, e5, e6, e7, e8, e9, e10, e11, hs, e12, e13, e14⟩ := ih _ _ _ _ _ _ _ _ _ _ hrest hG1 hT1
      refine ⟨fun k => match k with | 0 => T | k + 1 => Ts k, fun k => match k with | 0 => A | k + 1 => As k, fun k => match k with | 0 => S | k + 1 => Ss k, fun k => match k with | 0 => H | k + 1 => Hs k,
        fun k => match k with | 0 => μ | k + 1 => μs k, fun k => match k with | 0 => ω | k + 1 => ωs k, fun k => match k with | 0 => v | k + 1 => vs k, fun k => match k with | 0 => a | k + 1 => zf k, (A, H, a) :: tr,
        ⟨fun k hk => ?_, fun k o' ho => ?_⟩, rfl, rfl, rfl, rfl, rfl, rfl, e7, e8, htr _ _ _ e9, fun k hk => ?_, fun k hk => ?_, (xR T o, S) :: hs, by simp [e12], fun k o' ho => ?_, fun he => ?_⟩
      · cases k with
        | zero => exact ⟨hG, hT⟩
        | succ k => exact hline.inv k (by simpa using hk)
      · cases k with
        | zero =>
          simp only [List.getElem?_cons_zero, Option.some.injEq] at ho
          subst ho
          dsimp only
          rw [e1, e2, e3, e4, e5, e6]
          exact ⟨hL, hK, hstep⟩
        | succ k =>
          have := hline.step k o' (by simpa using ho)
          rw [show k0 + 1 + k = k0 + (k + 1) by omega] at this
          exact this
      · cases k with
        | zero => rfl
        | succ k => simpa using e10 k (by simpa using hk)
      · cases k with
        | zero => rfl
        | succ k => simpa using e11 k (by simpa using hk)
      · cases k with
        | zero =>
          simp only [List.getElem?_cons_zero, Option.some.injEq] at ho
          subst ho
          rfl
        | succ k => simpa using e13 k o' (by simpa using ho)
      · have := e14 he
        rw [show Jq nl hist (xR T o) S = hist ++ [(xR T o, S)] by simp [Jq, he]] at this
        simpa using this
    split at h
    · rename_i hw
      split at h
      · rename_i v S1 hs
        split at h <;> first | (cases h; done) | skip
        rename_i hchk
        obtain ⟨a, H1, μ1, ω1, h1, h2, h3, h4, h5⟩ := EU (rest := l) hc hG hT hs
        have hw' : Region.wanted o (kD ops A) = true := by rw [← hy]; exact hw
        refine glue _ _ _ H1 μ1 ω1 v a h h2 h5 h3 h4 (.inl ⟨hw', hs, h1, rfl, rfl, fun hk => ?_⟩) (fun tr A2 H2 ht => ?_)
        · rw [hk] at hchk; simpa using hchk
        · simp only [Zz, hw', if_true, h1, ht]
      · cases h
    · rename_i hw
      obtain ⟨μ1, ω1, h2, h3, h4, h5⟩ := FI (o := o) (rest := l) hG hT
      have hw' : Region.wanted o (kD ops A) = false := by rw [← hy]; simpa using hw
      refine glue _ _ _ H μ1 ω1 zh zh h h2 h5 h3 h4 (.inr ⟨hw', rfl, rfl, rfl, rfl⟩) (fun tr A2 H2 ht => ?_)
      simp only [Zz, hw', ht]
      rfl
variable {fx:Fx}{chk:List Nat}{ops:Array Oper}{k0:Nat}{l:List Oper}{Ts As:Nat→List zu}{Ss Hs:Nat→zS}{μs:Nat→Mu}{ωs:Nat→Nat→Option wu}{vs zf:Nat→zu}
theorem Line.later (hl:Line P fx chk call ops k0 l Ts As Ss Hs μs ωs vs zf) {i:Nat}:∀(d:Nat),i+d≤l.length→Later (μs i) (Hs i) (μs (i+d)) (Hs (i+d)):=by
 intro d;induction d with
 |zero=>intro _;exact Later.refl _ _
 |succ d ih=>
  intro hd;have ho:l[i+d]?=some l[i+d]:=zy (by omega)
  exact(ih (by omega)).trans (hl.step (i+d) _ ho).1
theorem Line.kept (hl:Line P fx chk call ops k0 l Ts As Ss Hs μs ωs vs zf):∀(d:Nat),d≤l.length→Kept (ωs 0) (Hs 0) (ωs d) (Hs d):=by
 intro d;induction d with
 |zero=>intro _;exact Kept.refl _ _
 |succ d ih=>
  intro hd;have ho:l[d]?=some l[d]:=zy (by omega)
  exact(ih (by omega)).trans (hl.step d _ ho).2.1
theorem MK (i:Nat) (w:zu):zQ (jh i w)=zQ w:=by
 cases w with
 |tuple vs=>
  simp only[jh,zQ]
  congr 1
  apply Array.ext (by simp)
  intro k h1 h2;rw[Array.getElem_map,Array.getElem_map,Array.getElem_modify];split
  ·have:∀v,yh (yh v)=yh v:=by
    intro v;cases v with
    |iface k v=>
     simp only[yh];by_cases h:k=2
     ·rw[zN h,zM (by decide)]
     ·rw[zM h,zM h]
    | _=>rfl
   exact this _
  ·rfl
 | _=>rfl
theorem CV (o:Oper) (T:List zu) (t:Nat):zQ ((moved o T).getD t zh)=zQ (T.getD t zh):=by
 have slot:∀t',zQ ((Jz T t').getD t zh)=zQ (T.getD t zh):=by
  intro t';rw[Jz,JF];split
  ·rename_i h;rw[h.1,aN]
  ·rfl
 unfold moved;split
 ·exact slot _
 ·exact slot _
 ·rw[JF];split
  ·rename_i h;rw[h.1,MK]
  ·rfl
 ·split
  ·exact slot _
  ·rfl
 ·rfl
theorem moved_length (o:Oper) (T:List zu):(moved o T).length=T.length:=by
 unfold moved;split<;>first |simp[Jz] |rfl |skip
 split<;>first |simp[Jz] |rfl
theorem F6 {o:Oper}{rest:List Oper}{T:List zu}{v:zu}(hd:o.dst=none) (t:Nat):zQ ((qH o rest T v).getD t zh)=zQ (T.getD t zh):=by
 unfold qH;rw[hd];split
 ·rfl
 ·exact CV o T t
theorem F7 {o:Oper}{rest:List Oper}{T:List zu}{v:zu}{d:Nat}(hd:o.dst=some d) (t:Nat):zQ ((qH o rest T v).getD t zh)=if t=d∧d<T.length then zQ v else zQ (T.getD t zh):=by
 unfold qH;rw[hd];split
 ·simp only[vF];rw[JF];split
  ·exact aN v
  ·rfl
 ·simp only[vF];rw[JF,moved_length];split
  ·rfl
  ·exact CV o T t
def Clear (μ:Mu) (G:zS) (bad:List Nat) (T A:List zu):Prop:=∀t,bad.contains t=false→V0 μ G (zQ (T.getD t zh)) (A.getD t zh)
theorem Clear.operands {μ:Mu}{G:zS}{bad:List Nat}{T A:List zu}(h:Clear μ G bad T A) {o:Oper}(hok:Wx o=true) (hc:XC bad o=true):∀x∈o.op.operands.toList,V0 μ G (zQ (jy T x)) (jy A x):=by
 intro x hx;have h1:=List.all_eq_true.1 (show o.op.operands.toList.all xq=true from hok) x hx
 have h2:=List.all_eq_true.1 hc x hx;cases x with
 |tmp t=>exact h t (by simpa using h2)
 |const v=>exact(VV.WR (μ:=μ) (H:=G) (ω:=W0) (ℓ:=none) h1).v0
 |global g=>cases h1
 |func f=>
  have:V0 μ G (.func (.func f) #[] #[]) (.func (.func f) #[] #[]):=.func _ rfl rfl (fun i=>by simpa using VV.zh) (fun i=>by simpa using VV.zh)
  exact this
theorem Kr {T:List zu}{o:Oper}{S S':zS}{v:zu}(h:yV P fx call T o S=some (v,S')):Wx o=true:=by
 unfold yV at h;split at h
 ·assumption
 ·cases h
theorem Pj {fx:Fx}{o:Oper}{T A:List zu}{v:zu}{S S' H:zS}{μ:Mu}(h:yV P fx call T o S=some (v,S')) (hnm:fx.nm=true) (hm:¬Yg (jy T) o) (hG:GI μ S H) (ho:∀x∈o.op.operands.toList,V0 μ H (zQ (jy T x)) (jy A x)) :
  ground v=true∧∃a,yQ P (lim P) A o H=some (a,H)∧a=v:=by
 have hok:=Kr h;unfold yV at h;rw[zN hok]at h;obtain⟨dst,op,type,pos,after,guard⟩:=o;unfold Yg at hm;cases op<;>dsimp only at h hm<;>first |(exact absurd True.intro hm) |skip
 case load t a=>
  have h:zZ P fx.nm t (jy T a) S=some (v,S'):=h;obtain⟨q,hq⟩:∃q,jy T a=.pointer q:=Classical.byContradiction fun hn=>hm fun q hq=>hn ⟨q,hq⟩
  obtain⟨rfl,w,k1,k2⟩:=Vp h (ho a (by simp[Op.operands])) (.inr hG)
  rw[hnm]at h;have hgr:ground v=true:=by
   unfold zZ at h;rw[hq]at h;dsimp only at h;split at h<;>first |(cases h;done) |skip
   ·split at h
    ·split at h<;>first |(cases h;done) |skip
     rename_i hg;cases h;exact hg
    ·rename_i hf;exact absurd rfl hf
   ·split at h
    ·split at h<;>first |(cases h;done) |skip
     rename_i hg;cases h;exact hg
    ·rename_i hf;exact absurd rfl hf
  refine⟨hgr,w,?_,k2.QE hgr⟩;unfold yQ;rw[zN hok];exact k1
 case lookup t x k ok=>
  have h:JH P fx.nm t (jy T x) (jy T k) ok S=some (v,S'):=h;unfold JH at h;rw[hnm]at h;simp at h
theorem Line.PX (hl:Line P fx chk call ops k0 l Ts As Ss Hs μs ωs vs zf) {j k:Nat}(hjk:j≤k) (hk:k≤l.length) {q r:Nat}{b:Bool}(hmq:μs j q=some (r,b)) {o:yg}(g1:(Ss j).get q=some o) (g2:o.alive=true) (g3:q ∉ (Ss k).log.take ((Ss k).log.length-(Ss j).log.length)):(Hs k).get r=(Hs j).get r:=by
 obtain⟨hGj,_⟩:=hl.inv j (by omega)
 obtain⟨hGk,_⟩:=hl.inv k hk;obtain⟨r0,_,g4,_⟩:=hGj.obj q o g1 g2;rw[hmq]at g4;cases g4;have hL:=hl.later (i:=j) (k-j) (by omega)
 rw[show j+(k-j)=k by omega]at hL
 obtain⟨new,n1,n2⟩:=hL.still;rw[hGk.log,hGj.log]at n1;rw[n1]at g3;simp only[List.length_append,Nat.add_sub_cancel,List.take_left]at g3;exact(n2 q r hmq g3).2
theorem aag {fx:Bool}{t:TypeId}{q o:Nat}{v:zu}{S S2 S':zS}(e:S2.get q=S.get q) (h:zZ P fx t (.pointer (some ⟨q,o,none⟩)) S=some (v,S')):zZ P fx t (.pointer (some ⟨q,o,none⟩)) S2=some (v,S2):=by
 unfold zZ at h ⊢;dsimp only at h ⊢;cases hl:qK P t (.pointer (some ⟨q,o,none⟩)) S with
 |none=>rw[hl]at h;cases h
 |some p=>
  obtain⟨a,G⟩:=p;rw[hl]at h;rw[eX e hl];cases a<;>dsimp only at h ⊢<;>(repeat' split at h)<;>first |(cases h;done) |(cases h;simp_all;done) |skip
  all_goals (cases h;try simp_all)
theorem Line.OZ (hl:Line P fx chk call ops k0 l Ts As Ss Hs μs ωs vs zf) {j k:Nat}(hjk:j≤k) (hk:k≤l.length) {o:Oper}(hm:¬Yg (jy (Ts k)) o) (hL:isLoad o=true) (hv:yV P fx call (Ts k) o (Ss k)=some (vs k,Ss (k+1))) (ha:yQ P (lim P) (As k) o (Hs k)=some (zf k,Hs (k+1)))
  (hx0:∀x∈o.op.operands.toList,V0 (μs j) (Hs j) (zQ (jy (Ts k) x)) (jy (As k) x)) (s1:y8 (xR (Ts k) o) (Ss j) (Ss k)=true) (s2:VF (xR (Ts k) o) (Ss j) (Ss k)=true):V0 (μs j) (Hs j) (zQ (vs k)) (zf k):=by
 have hok:=Kr hv;unfold yV at hv;rw[zN hok]at hv;obtain⟨dst,op,type,pos,after,guard⟩:=o;unfold Yg at hm;cases op<;>first |(cases hL;done) |skip
 case load t a=>
  dsimp only at hm;have hv:zZ P fx.nm t (jy (Ts k) a) (Ss k)=some (vs k,Ss (k+1)):=hv;obtain⟨ad,hq⟩:∃q,jy (Ts k) a=.pointer q:=Classical.byContradiction fun hn=>hm fun q hq=>hn ⟨q,hq⟩
  have hx:=hx0 a (by simp[Op.operands])
  have hA:yQ P (lim P) (As k) ⟨dst,.load t a,type,pos,after,guard⟩ (Hs k)=qK P t (jy (As k) a) (Hs k):=by unfold yQ;rw[zN hok];rfl
  rw[hA]at ha;have s1:y8 (jy (Ts k) a) (Ss j) (Ss k)=true:=s1;have s2:VF (jy (Ts k) a) (Ss j) (Ss k)=true:=s2;rw[hq]at hx hv s1 s2;have hx:V0 (μs j) (Hs j) (.pointer ad) (jy (As k) a):=hx;generalize jy (As k) a=pa at hx ha;cases hx with
  |sg hs=>
   cases ad with
   |none=>simp[zZ,qK]at hv
   |some ad=>simp[Go.Abs.sg]at hs
  | @ptr _ q o r b hmq=>
   simp only[y8,zG,Bool.not_eq_true',List.contains_eq_mem,decide_eq_false_iff_not]at s1;obtain⟨h1,h3⟩:=s1;split at h1<;>first |(cases h1;done) |skip
   rename_i hsa;have g:=hl.PX hjk hk hmq hsa rfl h3;have e:(Ss j).get q=(Ss k).get q:=@of_decide_eq_true _ (Classical.propDecidable _) s2;have k1:=eX g.symm ha;have hvj:=aag e hv;obtain⟨hGj,_⟩:=hl.inv j (by omega)
   obtain⟨_,w,k2,k3⟩:=Vp hvj (show V0 (μs j) (Hs j) (zQ (.pointer (some ⟨q,o,none⟩))) _ from .ptr hmq) (.inr hGj)
   rw[k1]at k2;cases k2;exact k3.zQ
theorem Line.clear (hdr:fx.dr=true) (hl:Line P fx chk call ops k0 l Ts As Ss Hs μs ωs vs zf) {j:Nat}(hj:j≤l.length) {cl:Nat→Bool}(hcl:∀k o,j≤k→l[k]?=some o→isLoad o=true→cl k=true→y8 (xR (Ts k) o) (Ss j) (Ss k)=true∧VF (xR (Ts k) o) (Ss j) (Ss k)=true):∀(rest:List Oper) (bad:List Nat) (k:Nat),j≤k→l.drop k=rest→Clear (μs j) (Hs j) bad (Ts k) (As k) →
  ∀d,d≤rest.length→Clear (μs j) (Hs j) ((VQ P fx.nm cl k rest bad).getD d []) (Ts (k+d)) (As (k+d)):=by
 intro rest;induction rest with
 |nil=>
  intro bad k hjk hr hC d hd;have:d=0:=by simpa using hd
  subst this;exact hC
 |cons o rest ih=>
  intro bad k hjk hr hC d hd;have hkl:k<l.length:=by
   have:=congrArg List.length hr;simp at this;omega
  have ho:l[k]?=some o:=by
   have:=congrArg (·[0]?) hr
   simpa [List.getElem?_drop]using this
  cases d with
  |zero=>exact hC
  |succ d=>
   simp only[VQ,List.getD_cons_succ];rw[show k+(d+1)=k+1+d by omega]
   refine ih _ (k+1) (by omega) ?_ ?_ d (by simpa using hd)
   ·rw[←List.drop_drop,hr];rfl
   ·obtain⟨hL,_,hor⟩:=hl.step k o ho;obtain⟨hG,hT⟩:=hl.inv k (by omega)
    have hlen:=hT.len;intro t ht;cases hd:o.dst with
    |none=>
     rw[hd]at ht;rcases hor with ⟨_,_,_,e1,e2,_⟩ |⟨_,_,e1,e2,_⟩
     ·rw[e1,F6 hd,e2,hd];exact hC t ht
     ·rw[e1,F6 hd,e2,hd];exact hC t ht
    |some dd=>
     rw[hd]at ht;dsimp only at ht;have htb:bad.contains t=false:=by
      split at ht
      ·simp only[List.contains_cons,Bool.or_eq_false_iff]at ht;exact ht.2
      ·exact ht
     rcases hor with ⟨hw,hv,ha,e1,e2,_⟩ |⟨_,_,e1,e2,_⟩
     ·rw[e1,F7 hd,e2,hd];simp only[vF];rw[JF,hlen];by_cases hc:t=dd∧dd<(As k).length
      ·rw[zN hc,zN hc];have hcond:¬(vk P o || !XC bad o ||(Yl o && !fx.nm && !(isLoad o&&cl k)))=true:=by
        intro hh;rw[zN hh]at ht;simp[hc.1]at ht
       rw[Bool.not_eq_true,Bool.or_eq_false_iff,Bool.or_eq_false_iff]at hcond;obtain⟨⟨q1,q2⟩,q3⟩:=hcond;have q2':XC bad o=true:=by simpa using q2
       have hLj:Later (μs j) (Hs j) (μs k) (Hs k):=by
        have:=hl.later (i:=j) (k-j) (by omega)
        rwa [show j+(k-j)=k by omega]at this
       by_cases hm:Yg (jy (Ts k)) o
       ·obtain⟨a,h1,_,_,_,h5⟩:=lV hdr hv q1 hm (hC.operands (Kr hv) q2') hLj;rw[ha]at h5;have e:zf k=a:=by simpa using congrArg (Option.map Prod.fst) h5
        subst e;exact h1
       ·have hrm:Yl o=true:=by
         cases hrm:Yl o with
         |true=>rfl
         |false=>exact absurd (lH hrm) hm
        by_cases hnm:fx.nm=true
        rotate_left
        ·rw[Bool.not_eq_true]at hnm;rw[hrm,hnm]at q3;have q4:isLoad o=true∧cl k=true:=by simpa using q3
         obtain⟨s1,s2⟩:=hcl k o hjk ho q4.1 q4.2;exact hl.OZ hjk (by omega) hm q4.1 hv ha (hC.operands (Kr hv) q2') s1 s2
        obtain⟨g1,a,g2,g3⟩:=Pj hv hnm hm hG (fun x hx=>hT.eval (List.all_eq_true.1 (show o.op.operands.toList.all xq=true from Kr hv) x hx))
        rw[ha]at g2;have e:zf k=a:=by simpa using congrArg (Option.map Prod.fst) g2
        subst e;rw[g3,Bh g1];exact V0.ground g1
      ·rw[zM hc,zM hc];exact hC t htb
     ·rw[e1,F7 hd,e2,hd];simp only[vF];rw[JF,hlen];by_cases hc:t=dd∧dd<(As k).length
      ·rw[zN hc,zN hc,show zQ zh=zh from X7]
       exact .nores
      ·rw[zM hc,zM hc];exact hC t htb
theorem MO {hp0:Bool}(hc:WC P call) {T T' A:List zu}{S S' H:zS}{μ:Mu}{ω:Nat→Option wu}(hd:vg P ops=true) (h:yu P ⟨hp0,!(checked P ops).isEmpty,fixed P ops⟩ (checked P ops) (again P ops) call ops 0 [] ops.toList T S=some (T',S')) (hG:GI μ S H) (hT:TI μ H ω T A) :
  After μ ω H T' S' (WG P (lim P) ops A H):=by
 obtain⟨Ts,As,Ss,Hs,μs,ωs,vs,zf,tr,hline,rfl,rfl,rfl,rfl,rfl,rfl,rfl,rfl,e9,e10,e11,hs,e12,e13,e14⟩:=line_of hc _ _ _ _ _ _ _ _ _ _ _ h hG hT;obtain⟨hGn,hTn⟩:=hline.inv ops.toList.length (Nat.le_refl _);have hLn:=hline.later (i:=0) ops.toList.length (by omega)
 rw[Nat.zero_add]at hLn;refine⟨As ops.toList.length,Hs ops.toList.length,μs ops.toList.length,ωs ops.toList.length,?_,hGn,hLn,hline.kept _ (Nat.le_refl _),hTn⟩;simp only[vg,X9,zG]at hd;have hlen:ops.toList.length<1000:=of_decide_eq_true hd.1;refine MN hd.2.1 e9 fun p hp=>?_
 have hchk:(checked P ops).contains p.1=true:=by
  unfold checked;simp only[List.contains_eq_mem,decide_eq_true_eq];exact List.mem_map.2 ⟨p,hp,rfl⟩
 have hdr:(Fx.mk hp0 (!(checked P ops).isEmpty) (fixed P ops)).dr=true:=by
  show(!(checked P ops).isEmpty)=true;cases hl:checked P ops with
  |nil=>rw[hl]at hchk;cases hchk
  |cons a b=>rfl
 have hp2:=List.all_eq_true.1 hd.2.2 p hp;have hp0:=hp;unfold need at hp;obtain⟨i,hi,hp⟩:=List.mem_flatMap.1 hp;obtain⟨j,hj,hp⟩:=List.mem_filterMap.1 hp;have hi:i<ops.toList.length:=List.mem_range.1 hi;have hj:j<ops.toList.length:=List.mem_range.1 hj;split at hp<;>first |(cases hp;done) |skip
 rename_i oi oj hoi hoj;split at hp<;>first |(cases hp;done) |skip
 rename_i hcond;cases hp;simp only[zG,Bool.not_eq_true']at hcond;obtain⟨⟨hni,hcj⟩,_⟩:=hcond;dsimp only at hp2 hchk ⊢;rw[hoi]at hp2;dsimp only at hp2;have hij:i≠j:=by
  intro e;subst e;rw[hoi]at hoj;cases hoj;rw[hni]at hcj;cases hcj
 have hGj:(tr.map (·.2.1)++[Hs ops.toList.length])[if j<i then j else j+1]?=some (Hs (if j<i then j else j+1)):=e11 _ (by split<;>omega)
 unfold mG;rw[hoi,e10 i hi,hGj];dsimp only;obtain⟨_,_,hor⟩:=hline.step i oi hoi;rcases hor with ⟨hw,hv,ha,heT,heA,hq⟩ |⟨hw,_⟩
 ·rw[hw];simp only[Bool.not_true,Bool.false_or];obtain⟨hGi,hTi⟩:=hline.inv i (by omega)
  have hops:∀x∈oi.op.operands.toList,V0 (μs i) (Hs i) (zQ (jy (Ts i) x)) (jy (As i) x):=fun x hx=>hTi.eval (List.all_eq_true.1 (show oi.op.operands.toList.all xq=true from Kr hv) x hx)
  have hq3:kQ 3 (vs i)=true:=hq (by rw[Nat.zero_add];exact hchk)
  have same:∃G',qL P (jy (As i)) oi (Hs (if j<i then j else j+1))=some (zf i,G')∧WB 3 (zf i) (zf i)=true:=by
   by_cases hm:Yg (jy (Ts i)) oi
   case neg=>
    have hrm:Yl oi=true:=by
     cases hrm:Yl oi with
     |true=>rfl
     |false=>exact absurd (lH hrm) hm
    have hin:(i,j)∈again P ops:=List.mem_append_left _ (List.mem_filter.2 ⟨hp0,by dsimp only;rw[hoi];exact hrm⟩)
    have hne:(again P ops).isEmpty=false:=by
     cases hl:again P ops with
     |nil=>rw[hl]at hin;cases hin
     |cons a b=>rfl
    have hst:=List.all_eq_true.1 (e14 hne) _ hin;rw[List.nil_append]at hst;have hi1:(hs++[(zh,Ss ops.toList.length)])[i]?=some (xR (Ts i) oi,Ss i):=by
     rw[List.getElem?_append_left (by omega)];exact e13 i oi hoi
    have hj1:∃p2,(hs++[(zh,Ss ops.toList.length)])[if j<i then j else j+1]?=some (p2,Ss (if j<i then j else j+1)):=by
     by_cases hjl:(if j<i then j else j+1)<ops.toList.length
     ·rw[List.getElem?_append_left (by omega)]
      exact⟨_,e13 _ _ (zy hjl)⟩
     ·have:(if j<i then j else j+1)=ops.toList.length:=by split at hjl<;>(rename_i hh;simp only[hh,if_true,if_false];omega)
      rw[this,List.getElem?_append_right (by omega),e12,Nat.sub_self]
      exact⟨_,rfl⟩
    obtain⟨p2,hj1⟩:=hj1;unfold VO at hst;dsimp only at hst;rw[zN (show i<1000 by omega),hi1,hj1]at hst
    dsimp only at hst;have obj:∀q r b,μs i q=some (r,b)→(∀Sa Sb,y8 (xR (Ts i) oi) Sa Sb=true→(∃o,Sa.get q=some o∧o.alive=true)∧q ∉ Sb.log.take (Sb.log.length - Sa.log.length))→(Hs (if j<i then j else j+1)).get r=(Hs i).get r:=by
     intro q r b hq hQ;by_cases hji:j<i
     ·rw[zN hji]at hst ⊢;rw[zN hji]at hst;obtain⟨⟨o1,g1,g2⟩,g3⟩:=hQ _ _ hst;obtain⟨hGj3,_⟩:=hline.inv j (by omega)
      obtain⟨r0,_,g4,_⟩:=hGj3.obj q o1 g1 g2;have hL:=hline.later (i:=j) (i-j) (by omega)
      rw[show j+(i-j)=i by omega]at hL
      obtain⟨b',hb'⟩:=hL.mu q r0 true g4;rw[hq]at hb';cases hb';obtain⟨new,n1,n2⟩:=hL.still;rw[hGj3.log,hGi.log]at n1;rw[n1]at g3;simp only[List.length_append,Nat.add_sub_cancel,List.take_left]at g3;exact(n2 q r g4 g3).2.symm
     ·rw[zM hji]at hst ⊢;rw[zM hji]at hst;obtain⟨⟨o1,g1,g2⟩,g3⟩:=hQ _ _ hst;have hb:=hGi.at hq g1 g2;subst hb;have hL:=hline.later (i:=i) (j+1-i) (by omega)
      rw[show i+(j+1-i)=j+1 by omega]at hL
      obtain⟨hGj3,_⟩:=hline.inv (j+1) (by omega)
      obtain⟨new,n1,n2⟩:=hL.still;rw[hGj3.log,hGi.log]at n1;rw[n1]at g3;simp only[List.length_append,Nat.add_sub_cancel,List.take_left]at g3;exact(n2 q r hq g3).2
    clear hst hi1 hj1;have hok:=Kr hv;have hvo:=hv;unfold yV at hv;rw[zN hok]at hv;obtain⟨dst,op,type,pos,after,guard⟩:=oi;unfold Yg at hm;cases op<;>dsimp only at hv hm<;>first |(exact absurd True.intro hm) |skip
    case load t a=>
     have hv:zZ P (fixed P ops) t (jy (Ts i) a) (Ss i)=some (vs i,Ss (i+1)):=hv;obtain⟨ad,hq⟩:∃q,jy (Ts i) a=.pointer q:=Classical.byContradiction fun hn=>hm fun q hq=>hn ⟨q,hq⟩
     have hx:=hops a (by simp[Op.operands])
     obtain⟨_,w,k1,k2⟩:=Vp hv hx (.inr hGi);have hA:yQ P (lim P) (As i) ⟨dst,.load t a,type,pos,after,guard⟩ (Hs i)=qK P t (jy (As i) a) (Hs i):=by unfold yQ;rw[zN hok];rfl
     rw[hA,k1]at ha;have e:w=zf i:=by simpa using congrArg (Option.map Prod.fst) ha
     subst e;rw[hq]at hx;have hx:V0 (μs i) (Hs i) (.pointer ad) (jy (As i) a):=hx;generalize hpa:jy (As i) a=pa at hx k1;have hres:qK P t pa (Hs (if j<i then j else j+1))=some (zf i,Hs (if j<i then j else j+1)):=by
      cases hx with
      |sg hs=>
       cases ad with
       |none=>simp[qK]at k1
       |some ad=>simp[Go.Abs.sg]at hs
      | @ptr _ q o r b hmq=>
       refine eX (obj q r b hmq fun Sa Sb hQ=>?_) k1
       have hQ:y8 (jy (Ts i) a) Sa Sb=true:=hQ;rw[hq]at hQ;simp only[y8,zG,Bool.not_eq_true',List.contains_eq_mem,decide_eq_false_iff_not]at hQ;refine⟨?_,hQ.2⟩;have h1:=hQ.1;split at h1<;>first |(cases h1;done) |skip
       rename_i hsa;exact⟨_,hsa,rfl⟩
     rw[←hpa]at hres;exact⟨_,hres,Vx 3 (Vu hq3) k2.zQ⟩
    case lookup t x k ok=>
     have hv:JH P (fixed P ops) t (jy (Ts i) x) (jy (Ts i) k) ok (Ss i)=some (vs i,Ss (i+1)):=hv;have hx:=hops x (by simp[Op.operands])
     obtain⟨_,w,k1,k2⟩:=CB hv hx (hops k (by simp[Op.operands])) (.inr hGi)
     have hA:yQ P (lim P) (As i) ⟨dst,.lookup t x k ok,type,pos,after,guard⟩ (Hs i)=vI P t (jy (As i) x) (jy (As i) k) ok (Hs i):=by unfold yQ;rw[zN hok];rfl
     rw[hA,k1]at ha;have e:w=zf i:=by simpa using congrArg (Option.map Prod.fst) ha
     subst e;have hres:vI P t (jy (As i) x) (jy (As i) k) ok (Hs (if j<i then j else j+1))=some (zf i,Hs (if j<i then j else j+1)):=by
      refine Ht (fun r hr=>?_) k1
      rw[hr]at hx;generalize hu:zQ (jy (Ts i) x)=u at hx;have hum:∃q b,u=.map (some q)∧μs i q=some (r,b):=by
       cases hx with
       |sg hs=>simp[Go.Abs.sg]at hs
       |map hmq=>exact⟨_,_,rfl,hmq⟩
      obtain⟨q,b,rfl,hmq⟩:=hum;have hxe:jy (Ts i) x=.map (some q):=by
       cases hvx:jy (Ts i) x<;>rw[hvx]at hu<;>simp[zQ,yh]at hu<;>rw[hu]
      refine obj q r b hmq fun Sa Sb hQ=>?_
      have hQ:y8 (jy (Ts i) x) Sa Sb=true:=hQ;rw[hxe]at hQ;simp only[y8,zG,Bool.not_eq_true',List.contains_eq_mem,decide_eq_false_iff_not]at hQ;refine⟨?_,hQ.2⟩;have h1:=hQ.1;split at h1<;>first |(cases h1;done) |skip
      rename_i hsa;exact⟨_,hsa,rfl⟩
     exact⟨_,hres,Vx 3 (Vu hq3) k2.zQ⟩
   by_cases hrd:QV oi=false
   ·obtain⟨a,h1,h2⟩:=DN hdr hv hni hrd hops;have h3:=(h2 (Hs i)).2;rw[ha]at h3;have e:zf i=a:=by simpa using congrArg (Option.map Prod.fst) h3
    subst e;exact⟨_,(h2 _).1,Vx 3 (Vu hq3) h1⟩
   ·have hrd:QV oi=true:=by simpa using hrd
    by_cases hlt:i<j
    ·rw[zM (by omega)]
     have hL:=hline.later (i:=i) (j+1-i) (by omega)
     rw[show i+(j+1-i)=j+1 by omega]at hL
     obtain⟨a,h1,_,h3,h4,_⟩:=lV hdr hv hni hm hops hL;rw[ha]at h4;have e:zf i=a:=by simpa using congrArg (Option.map Prod.fst) h4
     subst e;exact⟨_,h3,Vx 3 (Vu hq3) h1⟩
    ·rw[zN (by omega)]
     rw[hrd]at hp2;have hcl:XC ((VQ P (fixed P ops) (fun k=>Xl P ops&&(Kv P ops).contains (k,j)) j (ops.toList.drop j) []).getD (i-j) []) oi=true:=by
      simpa [hlt]using hp2
     obtain⟨hGj2,hTj⟩:=hline.inv j (by omega)
     have hC0:Clear (μs j) (Hs j) [] (Ts j) (As j):=fun t _=>(hTj.slots t).v0
     have hld:∀k o,j≤k→ops.toList[k]?=some o→isLoad o=true→(Xl P ops&&(Kv P ops).contains (k,j))=true→y8 (xR (Ts k) o) (Ss j) (Ss k)=true∧VF (xR (Ts k) o) (Ss j) (Ss k)=true:=by
      intro k o hjk hok hld hck;rw[zG]at hck;obtain⟨hcm,hin⟩:=hck;have hin:(k,j)∈Kv P ops:=by simpa using hin
      have hkj:k≠j:=fun e=>by
       subst e;rw[hoj]at hok;cases hok;obtain⟨dst,op,type,pos,after,guard⟩:=oj;cases op<;>first |(cases hld;done) |(cases hcj;done)
      have hjk:j<k:=by omega
      have hkn:k<ops.toList.length:=(List.getElem?_eq_some_iff.1 hok).1;have h1:(k,j)∈again P ops:=List.mem_append_left _ hin;have h2:(k+1000,j)∈again P ops:=List.mem_append_right _ (by
       rw[zN hcm];exact List.mem_map.2 ⟨(k,j),List.mem_filter.2 ⟨hin,zL hjk⟩,rfl⟩)
      have hne:(again P ops).isEmpty=false:=by
       cases hl:again P ops with
       |nil=>rw[hl]at h1;cases h1
       |cons a b=>rfl
      have t1:=List.all_eq_true.1 (e14 hne) _ h1;have t2:=List.all_eq_true.1 (e14 hne) _ h2;rw[List.nil_append]at t1 t2;have hk1:(hs++[(zh,Ss ops.toList.length)])[k]?=some (xR (Ts k) o,Ss k):=by
       rw[List.getElem?_append_left (by omega)];exact e13 k o hok
      have hj1:(hs++[(zh,Ss ops.toList.length)])[j]?=some (xR (Ts j) oj,Ss j):=by
       rw[List.getElem?_append_left (by omega)];exact e13 j oj hoj
      unfold VO at t1 t2;dsimp only at t1 t2;rw[zN (show k<1000 by omega),zN hjk,hk1,hj1]at t1
      rw[zM (show ¬k+1000<1000 by omega),Nat.add_sub_cancel,hk1,hj1]at t2
      dsimp only at t1 t2;rw[zN hjk]at t1;exact⟨t1,t2⟩
     have hC:=hline.clear hdr (j:=j) (by omega) (cl:=fun k=>Xl P ops&&(Kv P ops).contains (k,j)) hld _ [] j (Nat.le_refl _) rfl hC0 (i-j) (by rw[List.length_drop];omega)
     rw[show j+(i-j)=i by omega]at hC
     have hL:=hline.later (i:=j) (i-j) (by omega)
     rw[show j+(i-j)=i by omega]at hL
     obtain⟨a,h1,h2,_,_,h5⟩:=lV hdr hv hni hm (hC.operands (Kr hv) hcl) hL;rw[ha]at h5;have e:zf i=a:=by simpa using congrArg (Option.map Prod.fst) h5
     subst e;exact⟨_,h2,Vx 3 (Vu hq3) h1⟩
  obtain⟨G',h1,h2⟩:=same;unfold recheck;rw[h1];exact h2
 ·rw[hw];rfl
end
end Go.Abs
namespace Go.Abs
open Go.RowKit
section
variable {P:Program}{call:FuncId→List zu→M zu}
def nX (μ:Mu) (ω:Nat→Option wu) (H:zS) (e:wC) (T':List zu) (S':zS) (R:St):Prop :=
 ∃A' H' μ' ω',R=some (e,A',H')∧GI μ' S' H'∧Later μ H μ' H'∧Kept ω H ω' H'∧TI μ' H' ω' T' A'
theorem L6 {hp:Bool}(hc:WC P call) (fuel:Nat):∀(c:Code) (T T' A:List zu) (S S' H:zS) (μ:Mu) (ω:Nat→Option wu) (e:wC),qA P hp call fuel c T S=some (e,T',S')→GI μ S H→TI μ H ω T A→nX μ ω H e T' S' (qw P c A H):=by
 intro c;induction c with
 |skip=>
  intro T T' A S S' H μ ω e h hG hT;simp only[qA,Option.some.injEq,Prod.mk.injEq]at h;obtain⟨rfl,rfl,rfl⟩:=h;exact⟨A,H,μ,ω,rfl,hG,Later.refl _ _,Kept.refl _ _,hT⟩
 |exit id=>
  intro T T' A S S' H μ ω e h hG hT;simp only[qA,Option.some.injEq,Prod.mk.injEq]at h;obtain⟨rfl,rfl,rfl⟩:=h;exact⟨A,H,μ,ω,rfl,hG,Later.refl _ _,Kept.refl _ _,hT⟩
 |ret=>
  intro T T' A S S' H μ ω e h hG hT;simp only[qA,Option.some.injEq,Prod.mk.injEq]at h;obtain⟨rfl,rfl,rfl⟩:=h;exact⟨A,H,μ,ω,rfl,hG,Later.refl _ _,Kept.refl _ _,hT⟩
 |region i ops d=>
  intro T T' A S S' H μ ω e h hG hT;cases d with
  |false=>
   simp only[qA]at h;split at h<;>first |(cases h;done) |skip
   rename_i T1 S1 ho;cases h;obtain⟨A',H',μ',ω',h1,h2,h3,h4,h5⟩:=Rk hc _ _ _ _ _ _ _ _ _ ho hG hT;exact⟨A',H',μ',ω',by simp only[qw,h1],h2,h3,h4,h5⟩
  |true=>
   simp only[qA]at h;split at h<;>first |(cases h;done) |skip
   rename_i hd;split at h<;>first |(cases h;done) |skip
   rename_i T1 S1 ho;cases h;obtain⟨A',H',μ',ω',h1,h2,h3,h4,h5⟩:=MO hc hd ho hG hT;exact⟨A',H',μ',ω',by simp only[qw,h1],h2,h3,h4,h5⟩
 |seq x y ihx ihy=>
  intro T T' A S S' H μ ω e h hG hT;simp only[qA]at h;split at h
  ·rename_i T1 S1 hx;obtain⟨A1,H1,μ1,ω1,h1,h2,h3,h4,h5⟩:=ihx _ _ _ _ _ _ _ _ _ hx hG hT;obtain⟨A2,H2,μ2,ω2,k1,k2,k3,k4,k5⟩:=ihy _ _ _ _ _ _ _ _ _ h h2 h5;exact⟨A2,H2,μ2,ω2,by simp only[qw,h1];exact k1,k2,h3.trans k3,h4.trans k4,k5⟩
  ·rename_i hne;obtain⟨A1,H1,μ1,ω1,h1,h2,h3,h4,h5⟩:=ihx _ _ _ _ _ _ _ _ _ h hG hT;refine⟨A1,H1,μ1,ω1,?_,h2,h3,h4,h5⟩;simp only[qw,h1];cases e with
   |normal=>exact absurd h (hne _ _)
   |exit id=>rfl
   |ret=>rfl
 |cond c x y ihx ihy=>
  intro T T' A S S' H μ ω e h hG hT;simp only[qA]at h;split at h<;>first |(cases h;done) |skip
  rename_i hok;have hv:=hT.eval hok;split at h
  ·rename_i hb;have:jy A c=.bool true:=kN hv (by rw[hb];rfl) |>.trans hb
   obtain⟨A1,H1,μ1,ω1,h1,h2,h3,h4,h5⟩:=ihx _ _ _ _ _ _ _ _ _ h hG hT;exact⟨A1,H1,μ1,ω1,by simp only[qw,hok,if_true,this];exact h1,h2,h3,h4,h5⟩
  ·rename_i hb;have:jy A c=.bool false:=kN hv (by rw[hb];rfl) |>.trans hb
   obtain⟨A1,H1,μ1,ω1,h1,h2,h3,h4,h5⟩:=ihy _ _ _ _ _ _ _ _ _ h hG hT;exact⟨A1,H1,μ1,ω1,by simp only[qw,hok,if_true,this];exact h1,h2,h3,h4,h5⟩
  ·cases h
 |block id c ih=>
  intro T T' A S S' H μ ω e h hG hT;simp only[qA]at h;split at h
  ·rename_i id' T1 S1 hx;obtain⟨A1,H1,μ1,ω1,h1,h2,h3,h4,h5⟩:=ih _ _ _ _ _ _ _ _ _ hx hG hT;by_cases hid:id'=id
   ·rw[zN hid]at h;cases h;exact⟨A1,H1,μ1,ω1,by simp only[qw,h1,zN hid],h2,h3,h4,h5⟩
   ·rw[zM hid]at h;cases h;exact⟨A1,H1,μ1,ω1,by simp only[qw,h1,zM hid],h2,h3,h4,h5⟩
  ·rename_i hne;obtain⟨A1,H1,μ1,ω1,h1,h2,h3,h4,h5⟩:=ih _ _ _ _ _ _ _ _ _ h hG hT;refine⟨A1,H1,μ1,ω1,?_,h2,h3,h4,h5⟩;simp only[qw,h1];cases e with
   |normal=>rfl
   |exit id'=>exact absurd h (hne _ _ _)
   |ret=>rfl
 |loop c ih=>
  have key:∀(n:Nat) (T T' A:List zu) (S S' H:zS) (μ:Mu) (ω:Nat→Option wu) (e:wC),kR n (qA P hp call fuel c) T S=some (e,T',S')→GI μ S H→TI μ H ω T A→nX μ ω H e T' S' (yj (qw P c) A H):=by
   intro n;induction n with
   |zero=>intro T T' A S S' H μ ω e h;cases h
   |succ n ihn=>
    intro T T' A S S' H μ ω e h hG hT;simp only[kR]at h;split at h
    ·rename_i T1 S1 hx;obtain⟨A1,H1,μ1,ω1,h1,h2,h3,h4,h5⟩:=ih _ _ _ _ _ _ _ _ _ hx hG hT;obtain⟨A2,H2,μ2,ω2,k1,k2,k3,k4,k5⟩:=ihn _ _ _ _ _ _ _ _ _ h h2 h5;exact⟨A2,H2,μ2,ω2,by rw[xk h1];exact k1,k2,h3.trans k3,h4.trans k4,k5⟩
    ·rename_i hne;obtain⟨A1,H1,μ1,ω1,h1,h2,h3,h4,h5⟩:=ih _ _ _ _ _ _ _ _ _ h hG hT;exact⟨A1,H1,μ1,ω1,yX h1 (fun he=>by subst he;exact hne _ _ h),h2,h3,h4,h5⟩
  intro T T' A S S' H μ ω e h hG hT;simp only[qA]at h;obtain⟨A1,H1,μ1,ω1,h1,h2⟩:=key fuel _ _ _ _ _ _ _ _ _ h hG hT;exact⟨A1,H1,μ1,ω1,by simp only[qw];exact h1,h2⟩
 | _=>intro T T' A S S' H μ ω e h;simp only[qA]at h;cases h
theorem VV.SN {μ:Mu}{H:zS}{ω ω':Nat→Option wu}{f:wu→Option wu}(hω:∀r,ω' r=(ω r).bind f) {s s':wu}(hs:f s=some s') {v a:zu}(h:VV μ H ω (some s) v a) (hv:yc v=true):VV μ H ω' (some s') v a:=by
 cases h with
 |sg h=>exact .sg h
 |ptr h=>exact .ptr h
 |map h=>exact .map h
 |slm h=>exact .slm h
 |slE=>exact .slE
 |sl hr hp hg hl hl' hc=>exact .sl hr hp hg hl hl' (fun i hi=>(hc i hi).at0)
 |so h hr hp hg hl hl' hc=>exact .so (by rw[hω,h];exact hs) hr hp hg hl hl' (fun i hi=>(hc i hi).at0)
 |ep hr hp hg hl hc=>exact .ep hr hp hg hl (fun i hi=>(hc i hi).at0)
 |func fn hx hc h1 h2=>exact .func fn hx hc (fun i=>(h1 i).at0) (fun i=>(h2 i).at0)
 |agg hx hh=>exact .agg hx (fun i=>(hh i).at0)
 |nores=>exact .nores
 | @tuple _ x x' hx hh=>
  have h0:x.size=0:=by simpa [yc]using hv
  have e1:x=#[]:=Array.eq_empty_of_size_eq_zero h0;have e2:x'=#[]:=Array.eq_empty_of_size_eq_zero (by rw[←hx];exact h0)
  subst e1 e2;exact .nores
def place (rs:List ResultVar):wu→Option wu
 | .ext=>some .ext
 | .res _=>none
 | .slot i j=>match rs with
  | [.tmp t]=>if i=t then some (.res j)else none
  | _=>match j with
   |none=>(rs.findIdx? (aX i)).map fun k=>.res (some k)
   |some _=>none
theorem RV {rs:List ResultVar}{i:Nat}(h:∀t,rs≠[.tmp t]):place rs (.slot i none)=(rs.findIdx? (aX i)).map fun k=>.res (some k):=by
 match rs,h with
 | [],_=>rfl
 | [.tmp t],h=>exact absurd rfl (h t)
 | [.cell _ _],_=>rfl
 | .tmp _::_::_,_=>rfl
 | .cell _ _::_::_,_=>rfl
theorem SQ {μ:Mu}{ω:Nat→Option wu}{S H:zS}{T A:List zu}(hG:GI μ S H) (hT:TI μ H ω T A):∀(l:List ResultVar) (vs:List zu),jl P T S l=some vs →
  ∃zf,YQ P A H l=some zf∧vs.length=l.length∧zf.length=l.length∧∀i:Nat,match(l[i]?:Option ResultVar)with
   |some (.tmp t)=>vs.getD i zh=T.getD t zh∧zf.getD i zh=A.getD t zh
   | _=>V0 μ H (vs.getD i zh) (zf.getD i zh):=by
 intro l;induction l with
 |nil=>
  intro vs h;simp only[jl,Option.some.injEq]at h;subst h;exact⟨[],rfl,rfl,rfl,fun i=>by simpa using VV.zh⟩
 |cons x l ih=>
  intro vs h;cases x with
  |tmp t=>
   simp only[jl]at h;split at h<;>first |(cases h;done) |skip
   rename_i vs' hr;cases h;obtain⟨zf,h1,h2,h3,h4⟩:=ih _ hr;refine⟨A.getD t zh::zf,by simp only[YQ,h1],by simp[h2],by simp[h3],fun i=>?_⟩
   cases i with
   |zero=>exact⟨rfl,rfl⟩
   |succ i=>simpa using h4 i
  |cell a t=>
   simp only[jl]at h;split at h<;>first |(cases h;done) |skip
   rename_i v S1 vs' hl hr;cases h;obtain⟨zf,h1,h2,h3,h4⟩:=ih _ hr;obtain⟨_,w,k1,k2⟩:=Vp hl (hT.slots a).v0 (.inr hG);refine⟨w::zf,by simp only[YQ,k1,h1],by simp[h2],by simp[h3],fun i=>?_⟩
   cases i with
   |zero=>exact k2
   |succ i=>simpa using h4 i
theorem SS {μ:Mu}{ω:Nat→Option wu}{S S' H:zS}{T A:List zu}{fn:Func}{v:zu}(hG:GI μ S H) (hT:TI μ H ω T A) (h:WY P fn T S=some (v,S')) :
  S'=S∧∃a,Y1 P fn A H=some (a,H)∧VV μ H (fun r=>(ω r).bind (place fn.results.toList)) (some (.res none)) v a:=by
 unfold WY at h;split at h<;>first |(cases h;done) |skip
 rename_i vs hvs;split at h<;>first |(cases h;done) |skip
 rename_i hok;obtain⟨zf,h1,h2,h3,h4⟩:=SQ hG hT _ _ hvs;generalize hrs:fn.results.toList=rs at *
 split at h
 ·rename_i v1;cases h;obtain⟨a,rfl⟩:∃a,zf=[a]:=by
   match zf,h3.trans h2.symm with
   | [a],_=>exact⟨a,rfl⟩
  refine⟨rfl,a,by simp only[Y1,hrs,h1],?_⟩
  match rs,h2 with
  | [x],_=>
   have:=h4 0;cases x with
   |tmp t=>
    simp only[List.getElem?_cons_zero,List.getD_cons_zero]at this;obtain⟨rfl,rfl⟩:=this;refine(hT.slots t).Qg (fun _=>rfl) _ (fun s hs=>?_)
    cases hs;refine⟨_,rfl,by simp only[place,if_true],fun k t' ht=>?_⟩
    cases ht;exact⟨_,rfl,by simp only[place,if_true]⟩
   |cell b t=>exact(show V0 μ H v a from this).at0
 ·rename_i hne;split at h<;>first |(cases h;done) |skip
  rename_i hnt;cases h;refine⟨rfl,.tuple zf.toArray,?_,.tuple (by simp[h2,h3]) fun i=>?_⟩
  ·simp only[Y1,hrs,h1]
   match zf,vs,h3.trans h2.symm,hne with
   | [],_,_,_=>rfl
   | [a],[v],_,hne=>exact absurd rfl (hne v)
   |a::b::c,_,_,_=>rfl
  ·have e1:vs.toArray.getD i zh=vs.getD i zh:=by rw[←getD_toList,zD]
   have e2:zf.toArray.getD i zh=zf.getD i zh:=by rw[←getD_toList,zD]
   rw[e1,e2];have h5:=h4 i;cases hx:rs[i]? with
   |none=>rw[hx]at h5;exact(show V0 μ H _ _ from h5).at0
   |some x=>
    rw[hx]at h5;cases x with
    |cell b t=>exact(show V0 μ H _ _ from h5).at0
    |tmp t=>
     dsimp only at h5;have hi:i<rs.length:=(List.getElem?_eq_some_iff.1 hx).1;have hid:rs.findIdx? (aX t)=some i:=by
      have:=List.all_eq_true.1 hok i (List.mem_range.2 hi);rw[hx]at this;simpa using this
     have hnt2:yc (T.getD t zh)=true:=by
      rw[←h5.1,zx,zy (by omega)]
      exact List.all_eq_true.1 hnt _ (List.getElem_mem _)
     rw[h5.1,h5.2];refine(hT.slots t).SN (fun _=>rfl) (s':=.res (some i)) ?_ hnt2
     have hne1:∀t',rs≠[.tmp t']:=by
      intro t' e;rw[e]at h2
      match vs,h2 with
      | [v],_=>exact hne v rfl
     rw[RV hne1,hid];rfl
def XO (P:Program) (O:J9):Prop:=∀f q,O.fn f=some q→WC P (fun g args=>if g=f then q args else fun _=>none)
theorem L9 {s t:wu}{i:Nat}(h:s.comp i=some t):t≠.ext:=by
 cases s with
 |ext=>cases h
 |slot a b=>cases b<;>first |(cases h;exact fun h=>by cases h) |cases h
 |res b=>cases b<;>first |(cases h;exact fun h=>by cases h) |cases h
theorem VV.Zm {μ μ':Mu}{H:zS}{ω ω':Nat→Option wu}{es:List Nat}(hp:∀r l own e,H.get r=some (.cells l own e)→e ∉ es→xO μ r→xO μ' r) (hω:∀r s,s≠.ext→ω r=some s→ω' r=some s)
  {ℓ:Option wu}{v a:zu}(h:VV μ H ω ℓ v a):∀d,Go.Abs.Zm es d v=true→(∀s,ℓ=some s→s≠.ext)→VV μ' H ω' ℓ v a:=by
 induction h with
 |sg h=>exact fun _ _ _=>.sg h
 |ptr h=>intro d hc;cases d<;>simp[Go.Abs.Zm]at hc
 |map h=>intro d hc;cases d<;>simp[Go.Abs.Zm]at hc
 |slm h=>intro d hc;cases d<;>simp[Go.Abs.Zm]at hc
 |slE=>exact fun _ _ _=>.slE
 | @sl ℓ e n r o cs l own hr hpr hg hl hn hc ih=>
  intro d hcl _;cases d with
  |zero=>cases hcl
  |succ d=>
   have hv:Go.Abs.Zm es (d+1) (.iface 1 (.iface e (.iface n (.agg cs))))=(!es.contains e&&cs.toList.all (Go.Abs.Zm es d)):=rfl;rw[hv,zG]at hcl;have he:e ∉ es:=by simpa using hcl.1
   refine .sl hr (hp _ _ _ _ hg he hpr) hg hl hn (fun i hi=>ih i hi d ?_ (fun s hs=>by cases hs))
   rw[zx,zy (by omega)]
   exact List.all_eq_true.1 hcl.2 _ (List.getElem_mem _)
 | @so s e n r cs l anc hw hr hpr hg hl hn hc ih=>
  intro d hcl hs;cases d with
  |zero=>cases hcl
  |succ d=>
   have hv:Go.Abs.Zm es (d+1) (.iface 2 (.iface e (.iface n (.agg cs))))=(!es.contains e&&cs.toList.all (Go.Abs.Zm es d)):=rfl;rw[hv,zG]at hcl;have he:e ∉ es:=by simpa using hcl.1
   refine .so (hω _ _ (hs _ rfl) hw) hr (hp _ _ _ _ hg he hpr) hg hl hn (fun i hi=>ih i hi d ?_ (fun s hs=>by cases hs))
   rw[zx,zy (by omega)]
   exact List.all_eq_true.1 hcl.2 _ (List.getElem_mem _)
 |ep hr hpr hg hl hc ih=>
  intro d hcl;cases d with
  |zero=>cases hcl
  |succ d=>simp[Go.Abs.Zm,ku]at hcl
 |func fn hx hc h1 h2=>intro d hc;cases d<;>simp[Go.Abs.Zm]at hc
 | @agg ℓ x x' hx hh ih=>
  intro d hcl _;cases d with
  |zero=>cases hcl
  |succ d=>
   have hcl:x.toList.all (Go.Abs.Zm es d)=true:=hcl;refine .agg hx (fun i=>?_)
   by_cases hi:i<x.size
   ·refine ih i d ?_ (fun s hs=>by cases hs)
    rw[zA,zB hi];exact List.all_eq_true.1 hcl _ (by simp)
   ·rw[zA,Array.getElem?_eq_none (Nat.le_of_not_lt hi),zA,Array.getElem?_eq_none (by omega)]
    exact .nores
 |nores=>exact fun _ _ _=>.nores
 | @tuple ℓ x x' hx hh ih=>
  intro d hcl hs;cases d with
  |zero=>cases hcl
  |succ d=>
   have hcl:x.toList.all (Go.Abs.Zm es d)=true:=hcl;refine .tuple hx (fun i=>?_)
   by_cases hi:i<x.size
   ·refine ih i d ?_ (fun s hb=>?_)
    ·rw[zA,zB hi];exact List.all_eq_true.1 hcl _ (by simp)
    ·cases ℓ with
     |none=>cases hb
     |some s0=>exact L9 (s:=s0) hb
   ·rw[zA,Array.getElem?_eq_none (Nat.le_of_not_lt hi),zA,Array.getElem?_eq_none (by omega)]
    exact .nores
open Classical in
noncomputable def bP (μ:Mu) (ω:Nat→Option wu):Nat→Option wu:=fun r=>if ∃q,μ q=some (r,true)then none else ω r
open Classical in
noncomputable def Qb (μ μ1:Mu) (ω:Nat→Option wu):Nat→Option wu:=fun r=>if ∃q,μ q=some (r,true)∧¬μ1 q=some (r,true)then some .ext else ω r
theorem Ll {call:FuncId→List zu→M zu}(hc:WC P call) {hps:FuncId→Bool}{hp:Bool}:WC P (wW hps hp call):=by
 cases hp with
 |false=>exact hc
 |true=>
  intro g args aargs S v S' h μ H ω hG hA hD hE;unfold wW at h;dsimp only at h;split at h
  ·exact hc g args aargs S v S' h μ H ω hG hA hD hE
  ·split at h<;>first |(cases h;done) |skip
   rename_i m S1 hf;obtain⟨μ1,h1,h2,h3,hsz⟩:=NK _ _ _ _ _ _ hf hG hA;split at h<;>first |(cases h;done) |skip
   rename_i r0 hr0;obtain⟨v0,S2⟩:=r0;simp only[Option.some.injEq]at h;unfold VZ at h;dsimp only at h;split at h
   ·rename_i hb;cases h;simp only[zG,beq_iff_eq]at hb;obtain⟨⟨_,hgr⟩,hlog⟩:=hb;have hlent:∀q r,μ q=some (r,true)→¬μ1 q=some (r,true)→r<H.next∧xO μ1 r:=fun q r hq hn=>
     ⟨hG.lt q r _ hq,fun q' hq'=>by
      rcases h2.new q' r hq' with h5 |h5
      ·have:=hG.inj q q' r hq h5;subst this;exact hn hq'
      ·have:=hG.lt q r _ hq;omega,by rw[h2.hid];exact hG.vis q r hq⟩
    have hDL:Dom μ1 H (Qb μ μ1 ω):=fun r s hs=>by
     unfold Qb at hs;split at hs
     ·rename_i hx;obtain⟨q,hq,hn⟩:=hx;exact hlent q r hq hn
     ·exact⟨(hD r s hs).1,h2.priv (hD r s hs).1 (hD r s hs).2⟩
    have hEL:∀r s,Qb μ μ1 ω r=some s→s=.ext:=fun r s hs=>by
     unfold Qb at hs;split at hs
     ·cases hs;rfl
     ·exact hE r s hs
    obtain⟨a,H',μ',ω',k1,k2,k3,k4,k5,k6⟩:=hc g m aargs S1 v S2 hr0 μ1 H (Qb μ μ1 ω) h1 h3 hDL hEL;have hsame:∀q r,μ q=some (r,true)→H'.get r=H.get r:=fun q r hq=>by
     by_cases hn:μ1 q=some (r,true)
     ·obtain⟨new,e1,e2⟩:=k3.still;have:new=[]:=by
       rw[k2.log,h1.log,hlog]at e1;exact List.append_cancel_right (bs:=S1.log) (by rw[←e1];rfl)
      subst this;exact(e2 q r hn (by simp)).2
     ·exact(k4 r (by unfold Qb;rw[zN ⟨q,hq,hn⟩])).2
    have hL:Later μ H μ H':=⟨fun _ _ b h=>⟨b,h⟩,k3.next,fun _ _ h=>.inl h,rfl,fun r hr hh=>k3.same r hr (by rw[h2.hid];exact hh),⟨[],rfl,fun q r hq _=>⟨hq,hsame q r hq⟩⟩,
     fun r l own e hr hp hg=>k3.cells r l own e hr (h2.priv hr hp) hg⟩
    rcases Bool.or_eq_true _ _ |>.mp hgr with hgr |hgr
    ·refine⟨a,H',μ,ω,k1,hG.later hL rfl hsame,hL,fun r hr=>⟨hr,(k4 r ?_).2⟩,fun r s hs=>⟨Nat.lt_of_lt_of_le (hD r s hs).1 k3.next,(hD r s hs).2⟩,?_⟩
     ·unfold Qb;split
      ·rfl
      ·exact hr
     ·rw[VV.QE hgr k6];exact VV.WR hgr
    ·have hpr:∀r l own e,H'.get r=some (.cells l own e)→e ∉ Qm S args→xO μ' r→xO μ r:=fun r l own e hg he hp=>by
      refine⟨fun q hq=>?_,by rw[←h2.hid,←k3.hid];exact hp.2⟩
      rcases hsz q r hq with hn |⟨l1,own1,e1,he1,hg1⟩
      ·obtain⟨new,e1,e2⟩:=k3.still;have:new=[]:=by
        rw[k2.log,h1.log,hlog]at e1;exact List.append_cancel_right (bs:=S1.log) (by rw[←e1];rfl)
       subst this;exact hp.1 q (e2 q r hn (by simp)).1
      ·rw[hsame q r hq,hg1]at hg;cases hg;exact he he1
     have hno:∀r s,ω r=some s→¬ ∃q,μ q=some (r,true):=fun r s hs ⟨q,hq⟩=>(hD r s hs).2.1 q hq
     have hst:∀r,(∃q,μ q=some (r,true))→∀s,ω' r=some s→s=.ext:=fun r ⟨q,hq⟩ s hs=>by
      by_cases hn:μ1 q=some (r,true)
      ·exfalso
       obtain⟨new,e1,e2⟩:=k3.still;have:new=[]:=by
        rw[k2.log,h1.log,hlog]at e1;exact List.append_cancel_right (bs:=S1.log) (by rw[←e1];rfl)
       subst this;exact(k5 r s hs).2.1 q (e2 q r hn (by simp)).1
      ·have:=(k4 r (by unfold Qb;rw[zN ⟨q,hq,hn⟩])).1
       rw[hs]at this;cases this;rfl
     refine⟨a,H',μ,bP μ ω',k1,hG.later hL rfl hsame,hL,fun r hr=>?_,fun r s hs=>?_,?_⟩
     ·have hnr:=hno r _ hr;unfold bP;rw[zM hnr];refine k4 r ?_;unfold Qb;rw[zM (fun⟨q,hq,_⟩=>hnr ⟨q,hq⟩)]
      exact hr
     ·unfold bP at hs;split at hs
      ·cases hs
      ·rename_i hnr;exact⟨(k5 r s hs).1,fun q hq=>hnr ⟨q,hq⟩,by rw[←h2.hid,←k3.hid];exact(k5 r s hs).2.2⟩
     ·refine k6.Zm hpr (fun r s hne hs=>?_) 16 hgr (fun s hs=>by cases hs;exact fun h=>by cases h)
      unfold bP;rw[zM (fun hx=>hne (hst r hx s hs))]
      exact hs
   ·cases h;obtain⟨a,H',μ',ω',k1,k2,k3,k4,k5,k6⟩:=hc g m aargs S1 v S' hr0 μ1 H ω h1 h3 (fun r s hs=>⟨(hD r s hs).1,h2.priv (hD r s hs).1 (hD r s hs).2⟩) hE
    exact⟨a,H',μ',ω',k1,k2,h2.trans k3,k4,k5,k6⟩
theorem VV.clean {μ μ':Mu}{H:zS}{ω:Nat→Option wu}(hp:∀r,xO μ r→xO μ' r) {ℓ:Option wu}{v a:zu}(h:VV μ H ω ℓ v a):∀d,jw d v=true→VV μ' H ω ℓ v a:=by
 induction h with
 |sg h=>exact fun _ _=>.sg h
 |ptr h=>intro d hc;cases d<;>simp[jw]at hc
 |map h=>intro d hc;cases d<;>simp[jw]at hc
 |slm h=>intro d hc;cases d<;>simp[jw]at hc
 |slE=>exact fun _ _=>.slE
 |sl hr hpr hg hl hn hc ih=>
  intro d hcl;obtain⟨d,rfl⟩:∃k,d=k+4:=by
   match d,hcl with
   | 0,h=>cases h
   | 1,h=>simp[jw]at h
   | 2,h=>simp[jw]at h
   | 3,h=>simp[jw]at h
   |k+4,_=>exact⟨k,rfl⟩
  simp only[jw]at hcl;refine .sl hr (hp _ hpr) hg hl hn (fun i hi=>ih i hi d ?_)
  rw[zx,zy (by omega)]
  exact List.all_eq_true.1 hcl _ (List.getElem_mem _)
 |so hω hr hpr hg hl hn hc ih=>
  intro d hcl;obtain⟨d,rfl⟩:∃k,d=k+4:=by
   match d,hcl with
   | 0,h=>cases h
   | 1,h=>simp[jw]at h
   | 2,h=>simp[jw]at h
   | 3,h=>simp[jw]at h
   |k+4,_=>exact⟨k,rfl⟩
  simp only[jw]at hcl;refine .so hω hr (hp _ hpr) hg hl hn (fun i hi=>ih i hi d ?_)
  rw[zx,zy (by omega)]
  exact List.all_eq_true.1 hcl _ (List.getElem_mem _)
 |ep hr hpr hg hl hc ih=>
  intro d hcl;obtain⟨d,rfl⟩:∃k,d=k+2:=by
   match d,hcl with
   | 0,h=>cases h
   | 1,h=>simp[jw]at h
   |k+2,_=>exact⟨k,rfl⟩
  simp only[jw]at hcl;refine .ep hr (hp _ hpr) hg hl (fun i hi=>ih i hi d ?_)
  rw[zx,zy hi];exact List.all_eq_true.1 hcl _ (List.getElem_mem _)
 |func fn hx hc h1 h2=>intro d hc;cases d<;>simp[jw]at hc
 | @agg ℓ x x' hx hh ih=>
  intro d hcl;obtain⟨d,rfl⟩:∃k,d=k+1:=by
   match d,hcl with
   | 0,h=>cases h
   |k+1,_=>exact⟨k,rfl⟩
  simp only[jw]at hcl;refine .agg hx (fun i=>?_)
  by_cases hi:i<x.size
  ·refine ih i d ?_;rw[zA,zB hi];exact List.all_eq_true.1 hcl _ (by simp)
  ·rw[zA,Array.getElem?_eq_none (Nat.le_of_not_lt hi),zA,Array.getElem?_eq_none (by omega)]
   exact .nores
 |nores=>exact fun _ _=>.nores
 | @tuple ℓ x x' hx hh ih=>
  intro d hcl;obtain⟨d,rfl⟩:∃k,d=k+1:=by
   match d,hcl with
   | 0,h=>cases h
   |k+1,_=>exact⟨k,rfl⟩
  simp only[jw]at hcl;refine .tuple hx (fun i=>?_)
  by_cases hi:i<x.size
  ·refine ih i d ?_;rw[zA,zB hi];exact List.all_eq_true.1 hcl _ (by simp)
  ·rw[zA,Array.getElem?_eq_none (Nat.le_of_not_lt hi),zA,Array.getElem?_eq_none (by omega)]
   exact .nores
theorem VV.lower {μ μ' : Mu} {S H : zS} {ω : Nat → Option wu} (hG : GI μ S H) (hp : ∀ r, xO μ r → xO μ' r) (hq : ∀ q r, μ q = some (r, true) → xO μ' r) {ℓ : Option wu} {v a : zu} (h : VV μ H ω ℓ v a) :
    ∀ d d', jw d (qZ S d' v) = true → VV μ' H ω ℓ (qZ S d' v) a := by
  induction h with
  | sg h =>
    intro d d' hc
    rename_i v
    have e : qZ S d' v = v := by
      cases d' with
      | zero => rfl
      | succ d' => cases v <;> first | rfl | (simp [Go.Abs.sg] at h; done) | skip
                   rename_i a n c
                   cases a <;> first | rfl | (simp [Go.Abs.sg] at h; done)
    rw [e]; exact .sg h
  | ptr h => intro d d' hc; cases d' <;> cases d <;> simp [qZ, jw] at hc
  | map h => intro d d' hc; cases d' <;> cases d <;> simp [qZ, jw] at hc
  | @slm ℓ r o r' b n hm =>
    intro d d' hc
    cases d' with
    | zero => cases d <;> simp [qZ, jw] at hc
    | succ d' =>
      by_cases ho : o = 0
      · subst ho
        cases hg : S.get r with
        | none => rw [show qZ S (d' + 1) (.slice (some ⟨r, 0, none⟩) n n) = .slice (some ⟨r, 0, none⟩) n n by simp only [qZ, hg]] at hc; cases d <;> simp [jw] at hc
        | some ob =>
          cases ob with
          | map es c => rw [show qZ S (d' + 1) (.slice (some ⟨r, 0, none⟩) n n) = .slice (some ⟨r, 0, none⟩) n n by simp only [qZ, hg]] at hc; cases d <;> simp [jw] at hc
          | dead => rw [show qZ S (d' + 1) (.slice (some ⟨r, 0, none⟩) n n) = .slice (some ⟨r, 0, none⟩) n n by simp only [qZ, hg]] at hc; cases d <;> simp [jw] at hc
          | cells cs own e =>
            by_cases hle : n * e ≤ cs.length
            · have e1 : qZ S (d' + 1) (.slice (some ⟨r, 0, none⟩) n n) = SL 1 e n (cs.take (n * e)) := by simp only [qZ, hg, hle, and_self, if_true]
              rw [e1] at hc ⊢
              obtain ⟨r2, cs', own', _, hm', hg', hl⟩ := hG.cells hg
              rw [hm] at hm'; cases hm'
              have hlen := hl.1
              refine .sl (o := 0) (hG.lt r r' _ hm) (hq r r' hm) hg' (by omega) (by simp; omega) fun i hi => ?_
              have hv : VV μ H W0 none (cs.getD i Go.undef) (cs'.getD i Go.undef) := hl.2 i
              have e2 : (cs.take (n * e)).toArray.toList.getD i Go.undef = cs.getD i Go.undef := by
                rw [zD, zx, List.getElem?_take, zN hi, ← zx]
              rw [e2, Nat.zero_add]
              obtain ⟨d, rfl⟩ : ∃ k, d = k + 4 := by
                match d, hc with
                | 0, h => cases h
                | 1, h => simp [SL, jw] at h
                | 2, h => simp [SL, jw] at h
                | 3, h => simp [SL, jw] at h
                | k + 4, _ => exact ⟨k, rfl⟩
              simp only [SL, jw, zD] at hc
              have hci : jw d (cs.getD i Go.undef) = true := by
                have h2 : i < cs.length := by omega
                rw [zx, zy h2, Option.getD_some]
                exact List.all_eq_true.1 hc _ (by rw [List.mem_take_iff_getElem]; exact ⟨i, by omega, rfl⟩)
              exact (hv.clean hp d hci).at0
            · rw [show qZ S (d' + 1) (.slice (some ⟨r, 0, none⟩) n n) = .slice (some ⟨r, 0, none⟩) n n by simp only [qZ, hg, hle, and_false, if_false]] at hc; cases d <;> simp [jw] at hc
      · rw [show qZ S (d' + 1) (.slice (some ⟨r, o, none⟩) n n) = .slice (some ⟨r, o, none⟩) n n by
          simp only [qZ]
          split
          · rename_i h; simp only [Value.slice.injEq, Option.some.injEq, Addr.mk.injEq] at h; exact absurd h.1.2.1 ho
          · rename_i h; cases h
          · rename_i h; cases h
          · rfl] at hc
        cases d <;> simp [jw] at hc
  | slE => intro d d' _; cases d' <;> exact .slE
  | sl hr hpr hg hl hn hc ih => intro d d' hcl; cases d' <;> exact (VV.sl hr hpr hg hl hn hc).clean hp d hcl
  | so hω hr hpr hg hl hn hc ih => intro d d' hcl; cases d' <;> exact (VV.so hω hr hpr hg hl hn hc).clean hp d hcl
  | ep hr hpr hg hl hc ih => intro d d' hcl; cases d' <;> exact (VV.ep hr hpr hg hl hc).clean hp d hcl
  | func fn hx hc h1 h2 => intro d d' hcl; cases d' <;> cases d <;> simp [qZ, jw] at hcl
  | @agg ℓ x x' hx hh ih =>
    intro d d' hcl
    cases d' with
    | zero => exact (VV.agg hx hh).clean hp d hcl
    | succ d' =>
      have e : qZ S (d' + 1) (.agg x) = .agg (x.map (qZ S d')) := rfl
      rw [e] at hcl ⊢
      cases d with
      | zero => cases hcl
      | succ d =>
        simp only [jw] at hcl
        refine .agg (by simpa using hx) fun i => ?_
        by_cases hi : i < x.size
        · have e2 : (x.map (qZ S d')).getD i Go.undef = qZ S d' (x.getD i Go.undef) := by simp [zA, zB hi]
          rw [e2]
          refine ih i d d' ?_
          refine List.all_eq_true.1 hcl _ ?_
          simp only [Array.toList_map, List.mem_map]
          exact ⟨x[i], by simp, by rw [zA, zB hi]; rfl⟩
        · rw [zA, Array.getElem?_eq_none (by simpa using Nat.le_of_not_lt hi), zA, Array.getElem?_eq_none (by omega)]
          exact .nores
  | nores =>
    intro d d' hcl
    cases d' with
    | zero => exact .nores
    | succ d' => rw [show qZ S (d' + 1) (.tuple #[]) = .tuple #[] by simp [qZ]]; exact .nores
  | @tuple ℓ x x' hx hh ih =>
    intro d d' hcl
    cases d' with
    | zero => exact (VV.tuple hx hh).clean hp d hcl
    | succ d' =>
      have e : qZ S (d' + 1) (.tuple x) = .tuple (x.map (qZ S d')) := rfl
      rw [e] at hcl ⊢
      cases d with
      | zero => cases hcl
      | succ d =>
        simp only [jw] at hcl
        refine .tuple (by simpa using hx) fun i => ?_
        by_cases hi : i < x.size
        · have e2 : (x.map (qZ S d')).getD i Go.undef = qZ S d' (x.getD i Go.undef) := by simp [zA, zB hi]
          rw [e2]
          refine ih i d d' ?_
          refine List.all_eq_true.1 hcl _ ?_
          simp only [Array.toList_map, List.mem_map]
          exact ⟨x[i], by simp, by rw [zA, zB hi]; rfl⟩
        · rw [zA, Array.getElem?_eq_none (by simpa using Nat.le_of_not_lt hi), zA, Array.getElem?_eq_none (by omega)]
          exact .nores
open Classical in
noncomputable def Ye (μ:Mu):Mu:=⟨fun _=>none,fun r=>μ.hid r ||decide (∃q,μ q=some (r,true)),[]⟩
theorem iP {μ:Mu}{r:Nat}(h:xO μ r):xO (Ye μ) r:=⟨fun q hq=>(by cases hq),by
 simp only[Ye,h.2,Bool.false_or,decide_eq_false_iff_not];rintro⟨q,hq⟩;exact h.1 q hq⟩
theorem RX {μ:Mu}{r:Nat}(h:(Ye μ).hid r=false):xO μ r:=by
 simp only[Ye,Bool.or_eq_false_iff,decide_eq_false_iff_not]at h;exact⟨fun q hq=>h.2 ⟨q,hq⟩,h.1⟩
def dV (P:Program) (g:FuncId) (args:List zu) (run:M zu):Prop:=∀aargs S v S',run S=some (v,S')→∀μ H ω,GI μ S H→L0 μ H args aargs→Dom μ H ω→(∀r s,ω r=some s→s=.ext) →
 ∃a H' μ' ω',lim P g aargs H=some (a,H')∧GI μ' S' H'∧Later μ H μ' H'∧Kept ω H ω' H'∧Dom μ' H' ω'∧VV μ' H' ω' (some (.res none)) v a
theorem aaF {g:FuncId}{args:List zu}{run:M zu}(hr:dV P g args run):dV P g args (V5 run args):=by
 intro aargs S v S' h μ H ω hG hA hD hE;unfold V5 at h;split at h<;>first |(cases h;done) |skip
 rename_i hca;split at h<;>first |(cases h;done) |skip
 rename_i w S1 hrun;split at h<;>first |(cases h;done) |skip
 rename_i hcw;cases h;have hG0:GI (Ye μ) zS.empty H:=⟨fun q o h=>(by cases h),fun q q' r h=>(by cases h),fun q r b h=>(by cases h),fun q _=>rfl,fun q r h=>(by cases h),fun r h=>by
  simp only[Ye,Bool.or_eq_true,decide_eq_true_eq]at h;rcases h with h |⟨q,hq⟩
  ·exact hG.hlt r h
  ·exact hG.lt q r _ hq,rfl,fun q cs anc e h=>(by cases h)⟩
 have hA0:L0 (Ye μ) H args aargs:=⟨hA.1,fun i=>by
  by_cases hi:i<args.length
  ·refine(hA.2 i).clean (fun r h=>iP h) 16 ?_
   rw[zx,zy hi];exact List.all_eq_true.1 hca _ (List.getElem_mem _)
  ·rw[zx,zC (Nat.le_of_not_lt hi),zx,zC (by rw[←hA.1];omega)]
   exact .nores⟩
 obtain⟨a,H1,μ1,ω1,k1,k2,k3,k4,k5,k6⟩:=hr aargs _ _ _ hrun (Ye μ) H ω hG0 hA0 (fun r s h=>⟨(hD r s h).1,iP (hD r s h).2⟩) hE
 have hp1:∀r,xO μ1 r→xO μ r:=fun r h=>RX (by rw[←k3.hid];exact h.2)
 have hL:Later μ H μ H1:=⟨fun _ _ b h=>⟨b,h⟩,k3.next,fun _ _ h=>.inl h,rfl,fun r hr hh=>k3.same r hr (by simp only[Ye,hh,Bool.true_or]),⟨[],rfl,fun q r hq _=>⟨hq,k3.same r (hG.lt q r _ hq) (by
  simp only[Ye,Bool.or_eq_true,decide_eq_true_eq];exact .inr ⟨q,hq⟩)⟩⟩,fun r l own e hr hp hg=>k3.cells r l own e hr (iP hp) hg⟩
 have hq1:∀q r,μ1 q=some (r,true)→xO μ r:=fun q r h=>by
  rcases k3.new q r h with h5 |h5
  ·cases h5
  ·exact⟨fun q' hq'=>by have:=hG.lt q' r _ hq';omega,by
    cases hh:μ.hid r with
    |false=>rfl
    |true=>have:=hG.hlt r hh;omega⟩
 refine⟨a,H1,μ,ω1,k1,?_,hL,k4,fun r s h=>⟨(k5 r s h).1,hp1 r (k5 r s h).2⟩,k6.lower k2 hp1 hq1 16 16 hcw⟩
 exact hG.later hL rfl fun q r hq=>k3.same r (hG.lt q r _ hq) (by
  simp only[Ye,Bool.or_eq_true,decide_eq_true_eq];exact .inr ⟨q,hq⟩)
theorem aaB {O:J9} (hO:XO P O):∀n,WC P (ZX P O n):=by
 intro n;induction n with
 |zero=>intro g args aargs S v S' h;cases h
 |succ n ih=>
  intro g args aargs S v S' h μ H ω hG hA hD hE;simp only[ZX]at h;cases ho:O.fn g with
  |some q=>
   rw[ho]at h;exact hO g q ho g args aargs S v S' (by simpa using h) μ H ω hG hA hD hE
  |none=>
   rw[ho]at h;dsimp only at h;cases hf:P.funcs[g]? with
   |none=>rw[hf]at h;cases h
   |some fn=>
    rw[hf]at h;dsimp only at h;split at h<;>first |(cases h;done) |skip
    rename_i hn;cases hb:fn.body with
    |none=>rw[hb]at h;cases h
    |some c=>
     rw[hb]at h;dsimp only at h;have hrun:dV P g args (YV P (O.hp g) (wW O.hp (O.hp g) (ZX P O n)) n fn c args):=by
      intro aargs S v S' h μ H ω hG hA hD hE;have hT0:TI μ H ω (args++List.replicate (fn.ntmps-args.length) zh) (aargs++List.replicate (fn.ntmps-aargs.length) zh):=by
       have hl:L0 μ H (args++List.replicate (fn.ntmps-args.length) zh) (aargs++List.replicate (fn.ntmps-aargs.length) zh):=by
        refine hA.append (VL.ofRange (by rw[hA.1]) fun i hi=>?_)
        have hi2:i<fn.ntmps-args.length:=by simpa using hi
        rw[zx,List.getElem?_replicate,zN hi2,zx,List.getElem?_replicate,zN (by rw[←hA.1];exact hi2)]
        exact .nores
       exact⟨hl.1,fun i=>(hl.2 i).at0,hD,fun r j hr=>by have:=hE r _ hr;cases this⟩
      have fin:∀(e:wC) (T1:List zu) (S1:zS),(e=.normal∨e=.ret)→qA P (O.hp g) (wW O.hp (O.hp g) (ZX P O n)) n c (args++List.replicate (fn.ntmps-args.length) zh) S=some (e,T1,S1)→WY P fn T1 S1=some (v,S') →
        ∃a H' μ' ω',lim P g aargs H=some (a,H')∧GI μ' S' H'∧Later μ H μ' H'∧Kept ω H ω' H'∧Dom μ' H' ω'∧VV μ' H' ω' (some (.res none)) v a:=by
       intro e T1 S1 he hcode hres;obtain⟨A1,H1,μ1,ω1,h1,h2,h3,h4,h5⟩:=L6 (Ll ih) n c _ _ _ _ _ _ _ _ _ hcode hG hT0;obtain⟨rfl,a,k1,k2⟩:=SS (P:=P) h2 h5 hres;refine⟨a,H1,μ1,fun r=>(ω1 r).bind (place fn.results.toList),OT hf hn hb h1 he k1,h2,h3,fun r hr=>?_,fun r s hs=>?_,k2⟩
       ·obtain⟨q1,q2⟩:=h4 r hr;exact⟨by simp[q1,place],q2⟩
       ·cases hr:ω1 r with
        |none=>simp[hr]at hs
        |some s0=>exact h5.dom r s0 hr
      unfold YV at h;split at h
      ·rename_i T1 S1 hx;exact fin .normal _ _ (.inl rfl) hx h
      ·rename_i T1 S1 hx;exact fin .ret _ _ (.inr rfl) hx h
      ·cases h
     split at h
     ·exact aaF hrun aargs S v S' h μ H ω hG hA hD hE
     ·exact hrun aargs S v S' h μ H ω hG hA hD hE
end
end Go.Abs
namespace Go.Abs
open Go.RowKit
open Classical
noncomputable def zU (P:Program) (O:J9) (g:FuncId) (args:List zu):M zu:=fun S=>
 if h:∃r,∃k0,∀k,k0≤k→ZX P O k g args S=some r then some (Classical.choose h)else none
section
variable {P:Program}{O:J9}
theorem Gx {g:FuncId}{args:List zu}{S:zS}{r:zu×zS}(h:zU P O g args S=some r):∃k0,∀k,k0≤k→ZX P O k g args S=some r:=by
 unfold zU at h;split at h
 ·rename_i hx;have:=Classical.choose_spec hx;cases h;exact this
 ·cases h
theorem nR {g:FuncId}{args:List zu}{S:zS}{r:zu×zS}(h:∃k0,∀k,k0≤k→ZX P O k g args S=some r):zU P O g args S=some r:=by
 have hx:∃r,∃k0,∀k,k0≤k→ZX P O k g args S=some r:=⟨r,h⟩;unfold zU;rw[dif_pos hx];obtain⟨k0,h0⟩:=h;obtain⟨k1,h1⟩:=Classical.choose_spec hx;have e0:=h0 (max k0 k1) (Nat.le_max_left _ _);have e1:=h1 (max k0 k1) (Nat.le_max_right _ _);rw[e0]at e1;exact e1.symm
theorem aaD (hO:XO P O):WC P (zU P O):=by
 intro g args aargs S v S' h;obtain⟨k,hk⟩:=Gx h;exact aaB hO k g args aargs S v S' (hk k (Nat.le_refl k))
def Xb (c:FuncId→List zu→M zu) (ck:Nat→FuncId→List zu→M zu):Prop:=∀g args S r,c g args S=some r→∃k0,∀k,k0≤k→ck k g args S=some r
theorem Gw :Xb (zU P O) (fun k=>ZX P O k):=fun g args S r h=>Gx h
theorem pX {c:FuncId→List zu→M zu}{ck:Nat→FuncId→List zu→M zu}(hl:Xb c ck) {hps:FuncId→Bool}{hp:Bool}:Xb (wW hps hp c) (fun k=>wW hps hp (ck k)):=by
 cases hp with
 |false=>exact hl
 |true=>
  intro g args S r h;unfold wW at h;dsimp only at h;split at h
  ·rename_i hg;obtain⟨k0,h0⟩:=hl _ _ _ _ h;exact⟨k0,fun k hk=>by unfold wW;dsimp only;rw[zN hg];exact h0 k hk⟩
  ·rename_i hg;split at h<;>first |(cases h;done) |skip
   rename_i m S1 hf;split at h<;>first |(cases h;done) |skip
   rename_i r0 hr0;obtain⟨k0,h0⟩:=hl _ _ _ _ hr0;exact⟨k0,fun k hk=>by unfold wW;dsimp only;rw[zM hg,hf];dsimp only;rw[h0 k hk];exact h⟩
section
variable {c:FuncId→List zu→M zu}{ck:Nat→FuncId→List zu→M zu}
theorem Gg (hl:Xb c ck) {fx:Fx}{T:List zu}{o:Oper}{S:zS}{r:zu×zS}(h:yV P fx c T o S=some r):∃k0,∀k,k0≤k→yV P fx (ck k) T o S=some r:=by
 unfold yV at h;split at h
 ·rename_i hok;split at h
  ·rename_i q0 hop;split at h
   ·rename_i f hf;split at h
    ·rename_i g first captured hev
     obtain⟨k0,hk⟩:=hl _ _ _ _ h;refine⟨k0,fun k hkk=>?_⟩
     unfold yV;rw[zN hok];simp only[hop,hf,hev];exact hk k hkk
    ·cases h
   ·rename_i b hb;refine⟨0,fun k _=>?_⟩
    unfold yV;rw[zN hok];simp only[hop,hb];exact h
   ·cases h
  ·rename_i hop;refine⟨0,fun k _=>?_⟩
   unfold yV;rw[zN hok];split
   ·rename_i q0 hc;exact absurd hc (hop q0)
   ·exact h
 ·cases h
theorem aav (hl:Xb c ck) {fx:Fx}{ops:Array Oper}:∀(l:List Oper) (T:List zu) (S:zS) (r:List zu×zS),zW P fx c ops l T S=some r→∃k0,∀k,k0≤k→zW P fx (ck k) ops l T S=some r:=by
 intro l;induction l with
 |nil=>intro T S r h;exact⟨0,fun k _=>h⟩
 |cons o l ih=>
  intro T S r h;simp only[zW]at h;split at h
  ·rename_i hw;split at h
   ·rename_i v S' hs;obtain⟨k1,h1⟩:=Gg hl hs;obtain⟨k2,h2⟩:=ih _ _ _ h;refine⟨max k1 k2,fun k hk=>?_⟩
    simp only[zW,hw,if_true,h1 k (by omega)]
    exact h2 k (by omega)
   ·cases h
  ·rename_i hw;obtain⟨k2,h2⟩:=ih _ _ _ h;refine⟨k2,fun k hk=>?_⟩
   simp only[zW,hw,if_false];exact h2 k hk
theorem aaj (hl:Xb c ck) {fx:Fx}{chk:List Nat}{nl:List (Nat×Nat)}{ops:Array Oper}:∀(l:List Oper) (i:Nat) (hist:List (zu×zS)) (T:List zu) (S:zS) (r:List zu×zS),yu P fx chk nl c ops i hist l T S=some r→∃k0,∀k,k0≤k→yu P fx chk nl (ck k) ops i hist l T S=some r:=by
 intro l;induction l with
 |nil=>intro i hist T S r h;exact⟨0,fun k _=>h⟩
 |cons o l ih=>
  intro i hist T S r h;simp only[yu]at h;split at h
  ·rename_i hw;split at h
   ·rename_i v S' hs;split at h
    ·rename_i hq;obtain⟨k1,h1⟩:=Gg hl hs;obtain⟨k2,h2⟩:=ih _ _ _ _ _ h;refine⟨max k1 k2,fun k hk=>?_⟩
     simp only[yu,hw,if_true,h1 k (by omega),hq]
     exact h2 k (by omega)
    ·cases h
   ·cases h
  ·rename_i hw;obtain⟨k2,h2⟩:=ih _ _ _ _ _ h;refine⟨k2,fun k hk=>?_⟩
   simp only[yu,hw,if_false];exact h2 k hk
end
noncomputable def zX (P:Program) (O:J9) (hp:Bool):Code→List zu→zS→St
 | .skip,T,H=>some (.normal,T,H)
 | .region _ ops false,T,H=>match zW P ⟨hp,false,false⟩ (wW O.hp hp (zU P O)) ops ops.toList T H with
  |some (T1,H1)=>some (.normal,T1,H1)
  |none=>none
 | .region _ ops true,T,H=>if vg P ops then match yu P ⟨hp,!(checked P ops).isEmpty,fixed P ops⟩ (checked P ops) (again P ops) (wW O.hp hp (zU P O)) ops 0 [] ops.toList T H with
  |some (T1,H1)=>some (.normal,T1,H1)
  |none=>none
  else none
 | .seq x y,T,H=>match zX P O hp x T H with
  |some (.normal,T1,H1)=>zX P O hp y T1 H1
  |r=>r
 | .cond c x y,T,H=>if xq c then
   match jy T c with
   | .bool true=>zX P O hp x T H
   | .bool false=>zX P O hp y T H
   | _=>none
  else none
 | .block id c,T,H=>match zX P O hp c T H with
  |some (.exit id',T1,H1)=>if id'=id then some (.normal,T1,H1)else some (.exit id',T1,H1)
  |r=>r
 | .loop c,T,H=>yj (zX P O hp c) T H
 | .exit id,T,H=>some (.exit id,T,H)
 | .ret,T,H=>some (.ret,T,H)
 | _,_,_=>none
theorem Gm {hp:Bool}:∀(c:Code) (T:List zu) (H:zS) (r),zX P O hp c T H=some r→∃k0,∀k fuel,k0≤k→k0≤fuel→qA P hp (wW O.hp hp (ZX P O k)) fuel c T H=some r:=by
 intro c;induction c with
 |skip=>intro T H r h;exact⟨0,fun k fuel _ _=>h⟩
 |region i ops d=>
  intro T H r h;cases d with
  |false=>
   simp only[zX]at h;split at h
   ·rename_i T1 H1 ho;obtain⟨k0,h0⟩:=aav (pX Gw) _ _ _ _ ho;exact⟨k0,fun k fuel hk _=>by simp only[qA,h0 k hk];exact h⟩
   ·cases h
  |true=>
   simp only[zX]at h;split at h
   ·rename_i hd;split at h
    ·rename_i T1 H1 ho;obtain⟨k0,h0⟩:=aaj (pX Gw) _ _ _ _ _ _ ho;exact⟨k0,fun k fuel hk _=>by simp only[qA,hd,if_true,h0 k hk];exact h⟩
    ·cases h
   ·cases h
 |seq x y ihx ihy=>
  intro T H r h;simp only[zX]at h;split at h
  ·rename_i T1 H1 hx;obtain⟨k1,h1⟩:=ihx _ _ _ hx;obtain⟨k2,h2⟩:=ihy _ _ _ h;exact⟨max k1 k2,fun k fuel hk hf=>by simp only[qA,h1 k fuel (by omega) (by omega)];exact h2 k fuel (by omega) (by omega)⟩
  ·rename_i hne;obtain⟨k1,h1⟩:=ihx _ _ _ h;refine⟨k1,fun k fuel hk hf=>?_⟩
   simp only[qA,h1 k fuel hk hf];split
   ·rename_i T1 H1 he;exact absurd (h.trans he) (hne T1 H1)
   ·rfl
 |cond c x y ihx ihy=>
  intro T H r h;simp only[zX]at h;split at h
  ·rename_i hok;split at h
   ·rename_i hb;obtain⟨k1,h1⟩:=ihx _ _ _ h;exact⟨k1,fun k fuel hk hf=>by simp only[qA,hok,if_true,hb];exact h1 k fuel hk hf⟩
   ·rename_i hb;obtain⟨k1,h1⟩:=ihy _ _ _ h;exact⟨k1,fun k fuel hk hf=>by simp only[qA,hok,if_true,hb];exact h1 k fuel hk hf⟩
   ·cases h
  ·cases h
 |block id c ih=>
  intro T H r h;simp only[zX]at h;split at h
  ·rename_i id' T1 H1 hc;obtain⟨k1,h1⟩:=ih _ _ _ hc;exact⟨k1,fun k fuel hk hf=>by simp only[qA,h1 k fuel hk hf];exact h⟩
  ·rename_i hne;obtain⟨k1,h1⟩:=ih _ _ _ h;refine⟨k1,fun k fuel hk hf=>?_⟩
   simp only[qA,h1 k fuel hk hf];split
   ·rename_i id' T1 H1 he;exact absurd (h.trans he) (hne id' T1 H1)
   ·rfl
 |loop c ih=>
  intro T H r h;simp only[zX]at h;obtain⟨n,hn⟩:=bD h;have key:∀(n:Nat) (T:List zu) (H:zS),kR n (zX P O hp c) T H=some r→∃k0,∀k fuel,k0≤k→k0≤fuel→∀j,n≤j→kR j (qA P hp (wW O.hp hp (ZX P O k)) fuel c) T H=some r:=by
   intro n;induction n with
   |zero=>intro T H h;cases h
   |succ n ihn=>
    intro T H h;simp only[kR]at h;split at h
    ·rename_i T1 H1 hf;obtain⟨k1,h1⟩:=ih _ _ _ hf;obtain⟨k2,h2⟩:=ihn _ _ h;refine⟨max k1 k2,fun k fuel hk hfu j hj=>?_⟩
     obtain⟨j,rfl⟩:∃i,j=i+1:=⟨j - 1,by omega⟩
     simp only[kR,h1 k fuel (by omega) (by omega)]
     exact h2 k fuel (by omega) (by omega) j (by omega)
    ·rename_i hne;obtain⟨k1,h1⟩:=ih _ _ _ h;refine⟨k1,fun k fuel hk hfu j hj=>?_⟩
     obtain⟨j,rfl⟩:∃i,j=i+1:=⟨j - 1,by omega⟩
     simp only[kR,h1 k fuel hk hfu];split
     ·rename_i T1 H1 he;exact absurd (h.trans he) (hne T1 H1)
     ·rfl
  obtain⟨k0,h0⟩:=key n T H hn;exact⟨max k0 n,fun k fuel hk hf=>by simp only[qA];exact h0 k fuel (by omega) (by omega) fuel (by omega)⟩
 |exit id=>intro T H r h;exact⟨0,fun k fuel _ _=>h⟩
 |ret=>intro T H r h;exact⟨0,fun k fuel _ _=>h⟩
 | _=>intro T H r h;simp only[zX]at h;cases h
theorem xX {f:FuncId}{fn:Func}{c:Code}{args:List zu}{H H1 H':zS}{e:wC}{T:List zu}{v:zu}(ho:O.fn f=none) (hpu:O.pu f=false) (hf:P.funcs[f]?=some fn) (hn:KP fn=true) (hb:fn.body=some c)
  (h:zX P O (O.hp f) c (args++List.replicate (fn.ntmps-args.length) zh) H=some (e,T,H1)) (he:e=.normal∨e=.ret) (hres:WY P fn T H1=some (v,H')):zU P O f args H=some (v,H'):=by
 obtain⟨k0,h0⟩:=Gm _ _ _ _ h;refine nR ⟨k0+1,fun k hk=>?_⟩
 obtain⟨k,rfl⟩:∃i,k=i+1:=⟨k - 1,by omega⟩
 simp only[ZX,ho,hf,zN hn,hb,hpu,zF,if_false,YV,h0 k k (by omega) (by omega)]
 rcases he with rfl |rfl<;>exact hres
theorem aaE {f:FuncId}{fn:Func}{c:Code}{args:List zu}{S H1 H':zS}{e:wC}{T:List zu}{v:zu}(ho:O.fn f=none) (hpu:O.pu f=true) (hf:P.funcs[f]?=some fn) (hn:KP fn=true) (hb:fn.body=some c)
  (h:zX P O (O.hp f) c (args++List.replicate (fn.ntmps-args.length) zh) zS.empty=some (e,T,H1)) (he:e=.normal∨e=.ret) (hres:WY P fn T H1=some (v,H')) (hca:args.all (jw 16)=true) (hcv:jw 16 (qZ H' 16 v)=true):zU P O f args S=some (qZ H' 16 v,S):=by
 obtain⟨k0,h0⟩:=Gm _ _ _ _ h;refine nR ⟨k0+1,fun k hk=>?_⟩
 obtain⟨k,rfl⟩:∃i,k=i+1:=⟨k - 1,by omega⟩
 have hr:YV P (O.hp f) (wW O.hp (O.hp f) (ZX P O k)) k fn c args zS.empty=some (v,H'):=by
  simp only[YV,h0 k k (by omega) (by omega)]
  rcases he with rfl |rfl<;>exact hres
 simp only[ZX,ho,hf,zN hn,hb,hpu,if_true,V5,zN hca,hr,zN hcv]
theorem O5 (S:zS):∀(d d':Nat) (v:zu),jw d v=true→qZ S d' v=v:=by
 intro d;induction d with
 |zero=>intro d' v h;cases h
 |succ d ih=>
  intro d' v h;cases d' with
  |zero=>rfl
  |succ d'=>
   cases v with
   |agg cs=>
    simp only[jw]at h;show Value.agg (cs.map (qZ S d'))=.agg cs
    congr 1
    apply Array.ext (by simp)
    intro i h1 h2;rw[Array.getElem_map];exact ih d' _ (List.all_eq_true.1 h _ (by simp))
   |tuple cs=>
    simp only[jw]at h;show Value.tuple (cs.map (qZ S d'))=.tuple cs
    congr 1
    apply Array.ext (by simp)
    intro i h1 h2;rw[Array.getElem_map];exact ih d' _ (List.all_eq_true.1 h _ (by simp))
   |slice a n c=>
    cases a with
    |none=>rfl
    |some a=>simp[jw]at h
   | _=>rfl
theorem kC {f:FuncId}{fn:Func}{c:Code}{args:List zu}{S H1 H':zS}{e:wC}{T:List zu}{v:zu}(ho:O.fn f=none) (hpu:O.pu f=true) (hf:P.funcs[f]?=some fn) (hn:KP fn=true) (hb:fn.body=some c)
  (h:zX P O (O.hp f) c (args++List.replicate (fn.ntmps-args.length) zh) zS.empty=some (e,T,H1)) (he:e=.normal∨e=.ret) (hres:WY P fn T H1=some (v,H')) (hca:args.all (jw 16)=true) (hcv:jw 16 v=true):zU P O f args S=some (v,S):=by
 have e1:=O5 H' 16 16 v hcv;have:=aaE (S:=S) ho hpu hf hn hb h he hres hca (by rw[e1];exact hcv)
 rwa [e1]at this
def Ty.Zd :(t:Ty)→t.Val→List zu
 | .int k,n=>[.int k n]
 | .bool,b=>[.bool b]
 | .str,s=>[.string s]
 | .slc _ e,l=>match l with
  |none=>[.slice none 0 0]
  |some l=>[SL 1 e.sz l.length (l.flatMap e.Zd)]
 | .pair a b,(x,y)=>a.Zd x++b.Zd y
 | .unit,_=>[]
theorem Ty.aaG :∀(t:Ty) (x:t.Val),(t.Zd x).length=t.sz:=by
 intro t;induction t with
 |pair a b iha ihb=>rintro⟨x,y⟩;simp[Ty.Zd,Ty.sz,iha,ihb]
 |slc bytes e ih=>intro x;cases x<;>rfl
 | _=>intro x;rfl
theorem GK {e:Ty}(l:List e.Val):(l.flatMap e.Zd).length=l.length*e.sz:=by
 induction l with
 |nil=>simp
 |cons x l ih=>simp[List.flatMap_cons,Ty.aaG,ih,Nat.add_mul];omega
def M0 :Mu:=⟨fun _=>none,fun _=>false,[]⟩
theorem GI.none {H:zS}:GI M0 zS.empty H:=⟨(fun q o h=>by cases h),(fun q q' r h=>by cases h),(fun q r b h=>by cases h),(fun q _=>rfl),(fun q r h=>by cases h),(fun r h=>by cases h),rfl,(fun q cs anc e h=>by cases h)⟩
theorem Ty.lW :∀(t:Ty) (x:t.Val) (H:zS),Later M0 H M0 (t.place x H).2∧L0 M0 (t.place x H).2 (t.Zd x) (t.place x H).1:=by
 intro t;induction t with
 |int k=>intro x H;exact⟨Later.refl _ _,VL.cons (.sg rfl) VL.nil⟩
 |bool=>intro x H;exact⟨Later.refl _ _,VL.cons (.sg rfl) VL.nil⟩
 |str=>intro x H;exact⟨Later.refl _ _,VL.cons (.sg rfl) VL.nil⟩
 |unit=>intro x H;exact⟨Later.refl _ _,VL.nil⟩
 |pair a b iha ihb=>
  rintro⟨x,y⟩ H;obtain⟨h1,h2⟩:=iha x H;obtain⟨h3,h4⟩:=ihb y (a.place x H).2;exact⟨h1.trans h3,(h2.later h3).append h4⟩
 |slc bytes e ih=>
  intro x H
  match x with
  |none=>exact⟨Later.refl _ _,VL.cons (.sg rfl) VL.nil⟩
  |some []=>exact⟨Later.refl _ _,VL.cons (.slE (e:=e.sz)) VL.nil⟩
  |some (x::l)=>
   have key:∀(l:List e.Val) (H:zS),Later M0 H M0 (ZJ e.place l H).2∧L0 M0 (ZJ e.place l H).2 (l.flatMap e.Zd) (ZJ e.place l H).1:=by
    intro l;induction l with
    |nil=>intro H;exact⟨Later.refl _ _,VL.nil⟩
    |cons x l ihl=>
     intro H;obtain⟨h1,h2⟩:=ih x H;obtain⟨h3,h4⟩:=ihl (e.place x H).2;exact⟨h1.trans h3,(h2.later h3).append h4⟩
   obtain⟨h1,h2⟩:=key (x::l) H;have hL:Later M0 (ZJ e.place (x::l) H).2 M0 ((ZJ e.place (x::l) H).2.push (.cells (ZJ e.place (x::l) H).1 .ro e.sz)):=BR (fun q r h=>by cases h) _
   refine⟨h1.trans hL,VL.cons ?_ VL.nil⟩;have hlen:(ZJ e.place (x::l) H).1.length=(l.length+1)*e.sz:=by rw[←h2.1,GK];rfl
   show V0 M0 ((ZJ e.place (x::l) H).2.push (.cells (ZJ e.place (x::l) H).1 .ro e.sz)) (SL 1 e.sz (l.length+1) ((x::l).flatMap e.Zd)) (.slice (some ⟨(ZJ e.place (x::l) H).2.next,0,none⟩) (l.length+1) (l.length+1));refine VV.sl (o:=0) (l:=(ZJ e.place (x::l) H).1) (own:=.ro) (by simp) ⟨fun q h=>(by cases h),rfl⟩ (by rw[zS.qO,zN rfl]) (by omega) (by rw[zD,GK];rfl) (fun i hi=>?_)
   rw[Nat.zero_add,zD];exact(h2.2 i).Wq hL
def Args.Zd :(l:List (Bool×Ty))→Args l→List zu
 | [],_=>[]
 |(b,c)::l,(x,xs)=>Jl b (c.Zd x)::Args.Zd l xs
theorem Ik {H:zS}{b:Bool}{cs cs':List zu}(h:L0 M0 H cs cs'):V0 M0 H (Jl b cs) (Jl b cs'):=by
 unfold Jl;split
 ·exact Kw h
 ·rw[aV,aV];exact h.2 0
theorem Args.lW :∀(l:List (Bool×Ty)) (x:Args l) (H:zS),Later M0 H M0 (Args.place l x H).2∧L0 M0 (Args.place l x H).2 (Args.Zd l x) (Args.place l x H).1:=by
 intro l;induction l with
 |nil=>intro x H;exact⟨Later.refl _ _,VL.nil⟩
 |cons p l ih=>
  obtain⟨b,c⟩:=p;rintro⟨x,xs⟩ H;obtain⟨h1,h2⟩:=c.lW x H;obtain⟨h3,h4⟩:=ih xs (c.place x H).2;exact⟨h1.trans h3,VL.cons ((Ik h2).Wq h3) h4⟩
theorem OJ (hO:XO P O) {f:FuncId}{codes:List (Bool×Ty)}{x:Args codes}{S':zS}(h:zU P O f (Args.Zd codes x) zS.empty=some (.bool true,S')) :
  ∃k,(ZR P k f (Args.place codes x zS.empty).1 (Args.place codes x zS.empty).2).map (·.1)=some (.bool true):=by
 obtain⟨h1,h2⟩:=Args.lW codes x zS.empty;obtain⟨a,H',μ',ω',k1,k2,k3,k4,k5,k6⟩:=aaD hO f _ _ _ _ _ h M0 _ W0 GI.none h2 (fun r s hs=>by cases hs) (fun r s hs=>by cases hs)
 have:a=.bool true:=kN (k6.v0) rfl;subst this;exact OI k1
theorem Rq {hps pus:FuncId→Bool}:XO P ⟨fun _=>none,hps,pus⟩:=fun f q h=>by cases h
end
end Go.Abs
namespace Go.Abs
open Go.RowKit
section
variable {R:Type}{P:Program}{O:J9} {fx:Fx}{hp nm:Bool}{chk:List Nat}{call:FuncId→List zu→M zu}{ops:Array Oper}
def Jt (v:zu) (r:Option R):Option R:=if kQ 3 v=true then r else none
@[simp] theorem Dn (b:Bool) (r:Option R):Jt (.bool b) r=r:=Eq.trans rfl rfl
@[simp] theorem Dq (k:IntKind) (n:Int) (r:Option R):Jt (.int k n) r=r:=Eq.trans rfl rfl
@[simp] theorem Du (s:ByteArray) (r:Option R):Jt (.string s) r=r:=Eq.trans rfl rfl
@[simp] theorem Dt (a:Option Addr) (n c:Nat) (r:Option R):Jt (.slice a n c) r=r:=Eq.trans rfl rfl
@[simp] theorem Dp (k:Nat) (v:zu) (r:Option R):Jt (.iface k v) r=r:=Eq.trans rfl rfl
@[simp] theorem abe (a:Option Addr) (r:Option R):Jt (.pointer a) r=r:=Eq.trans rfl rfl
def QB (v:zu) (b:Bool) (s:M zu) (S:zS) (K:zu→zS→Option R):Option R :=
 if(vb v==some b)=true then andThen (s S) (fun v S1=>Jt v (K v S1))else K zh S
@[simp] theorem uU (s:M zu) (H:zS) (K:zu→zS→Option R):QB (.bool true) true s H K=andThen (s H) (fun v S1=>Jt v (K v S1)):=Eq.trans rfl rfl
@[simp] theorem uQ (s:M zu) (H:zS) (K:zu→zS→Option R):QB (.bool false) false s H K=andThen (s H) (fun v S1=>Jt v (K v S1)):=Eq.trans rfl rfl
@[simp] theorem uT (s:M zu) (H:zS) (K:zu→zS→Option R):QB (.bool true) false s H K=K zh H:=Eq.trans rfl rfl
@[simp] theorem uS (s:M zu) (H:zS) (K:zu→zS→Option R):QB (.bool false) true s H K=K zh H:=Eq.trans rfl rfl
@[simp] theorem uV (s:M zu) (b:Bool) (H:zS) (K:zu→zS→Option R):QB zh b s H K=K zh H:=Eq.trans rfl rfl
abbrev yw {α:Type}(a:α):Type:=Unit
def zT (s:Option (zu×zS)) (K:zu→zS→Option R) (p:yw K):Option R:=andThen s K
def zY (v:zu) (b:Bool) (s:M zu) (S:zS) (K:zu→zS→Option R) (p:yw K):Option R:=gd v b s S K
def Y7 (v:zu) (b:Bool) (s:M zu) (S:zS) (K:zu→zS→Option R) (p:yw K):Option R:=QB v b s S K
def jK (v:zu) (r:Option R) (p:yw r):Option R:=Jt v r
@[simp] theorem fC (v:zu) (H:zS) (K:zu→zS→Option R) (p:yw K):zT (some (v,H)) K p=K v H:=Eq.trans rfl rfl
@[simp] theorem Aa (s:M zu) (H:zS) (K:zu→zS→Option R) (p:yw K):zY (.bool true) true s H K p=zT (s H) K p:=Eq.trans rfl rfl
@[simp] theorem uX (s:M zu) (H:zS) (K:zu→zS→Option R) (p:yw K):zY (.bool false) false s H K p=zT (s H) K p:=Eq.trans rfl rfl
@[simp] theorem uZ (s:M zu) (H:zS) (K:zu→zS→Option R) (p:yw K):zY (.bool true) false s H K p=K zh H:=Eq.trans rfl rfl
@[simp] theorem uY (s:M zu) (H:zS) (K:zu→zS→Option R) (p:yw K):zY (.bool false) true s H K p=K zh H:=Eq.trans rfl rfl
@[simp] theorem Ac (s:M zu) (b:Bool) (H:zS) (K:zu→zS→Option R) (p:yw K):zY zh b s H K p=K zh H:=Eq.trans rfl rfl
@[simp] theorem iL (s:M zu) (H:zS) (K:zu→zS→Option R) (p:yw K):Y7 (.bool true) true s H K p=zT (s H) (fun v S1=>jK v (K v S1) ()) ():=Eq.trans rfl rfl
@[simp] theorem iK (s:M zu) (H:zS) (K:zu→zS→Option R) (p:yw K):Y7 (.bool false) false s H K p=zT (s H) (fun v S1=>jK v (K v S1) ()) ():=Eq.trans rfl rfl
@[simp] theorem uN (s:M zu) (H:zS) (K:zu→zS→Option R) (p:yw K):Y7 (.bool true) false s H K p=K zh H:=Eq.trans rfl rfl
@[simp] theorem uM (s:M zu) (H:zS) (K:zu→zS→Option R) (p:yw K):Y7 (.bool false) true s H K p=K zh H:=Eq.trans rfl rfl
@[simp] theorem uO (s:M zu) (b:Bool) (H:zS) (K:zu→zS→Option R) (p:yw K):Y7 zh b s H K p=K zh H:=Eq.trans rfl rfl
@[simp] theorem Dy (b:Bool) (r:Option R) (p:yw r):jK (.bool b) r p=r:=Eq.trans rfl rfl
@[simp] theorem WT (k:IntKind) (n:Int) (r:Option R) (p:yw r):jK (.int k n) r p=r:=Eq.trans rfl rfl
@[simp] theorem DF (s:ByteArray) (r:Option R) (p:yw r):jK (.string s) r p=r:=Eq.trans rfl rfl
@[simp] theorem DC (a:Option Addr) (n c:Nat) (r:Option R) (p:yw r):jK (.slice a n c) r p=r:=Eq.trans rfl rfl
@[simp] theorem Dz (a:Option Addr) (r:Option R) (p:yw r):jK (.pointer a) r p=r:=Eq.trans rfl rfl
theorem qy {v:zu}(h:kQ 3 v=true) (r:Option R) (p:yw r):jK v r p=r:=zN h
theorem aax {l rest:List Oper}{o:Oper}{T:List zu}{T1:zu→List zu}{S:zS}{v:zu}{r:Option (List zu×zS)}(hl:l=o::rest) (hg:o.guard=none) (hm:∀v,qH o rest T v=T1 v)
  (hs:yV P fx call T o S=some (v,S)) (hK:zW P fx call ops rest (T1 v) S=r):zW P fx call ops l T S=r:=by
 subst hl;simp only[zW,Region.wanted,hg,if_true,hs,hm];exact hK
theorem aat {l rest:List Oper}{o:Oper}{T:List zu}{T1:zu→List zu}{S:zS}{s:Option (zu×zS)}{K:zu→zS→Option (List zu×zS)}(hl:l=o::rest) (hg:o.guard=none) (hm:∀v,qH o rest T v=T1 v)
  (hs:yV P fx call T o S=s) (hK:∀v S1,zW P fx call ops rest (T1 v) S1=K v S1):zW P fx call ops l T S=zT s K ():=by
 show _=andThen s K;subst hl hs;simp only[zW,Region.wanted,hg,if_true,hm,hK];rfl
theorem aau {l rest:List Oper}{o:Oper}{T:List zu}{T1:zu→List zu}{S:zS}{j:Nat}{b:Bool}{g:zu}{s:M zu}{K:zu→zS→Option (List zu×zS)}(hl:l=o::rest) (hg:o.guard=some (j,b)) (hm:∀v,qH o rest T v=T1 v)
  (hy:kD ops T j=vb g) (hs:yV P fx call T o S=s S) (hK:∀v S1,zW P fx call ops rest (T1 v) S1=K v S1):zW P fx call ops l T S=zY g b s S K ():=by
 show _=gd g b s S K;subst hl;simp only[zW,Region.wanted,hg,hy,hs,hm,hK,gd];rfl
theorem aah {l rest:List Oper}{o:Oper}{T:List zu}{T1:zu→List zu}{S:zS}{k:Nat}{s:Option (zu×zS)}{K:zu→zS→Option (List zu×zS)}(hc:chk.contains k=false) (hl:l=o::rest) (hg:o.guard=none) (hm:∀v,qH o rest T v=T1 v)
  (hs:yV P fx call T o S=s) (hK:∀v S1,yu P fx chk [] call ops (k+1) [] rest (T1 v) S1=K v S1):yu P fx chk [] call ops k [] l T S=zT s K ():=by
 show _=andThen s K;subst hl hs;simp only[yu,Jq,List.isEmpty_nil,if_true,Region.wanted,hg,if_true,hm,hK,hc,Bool.not_false,Bool.true_or];rfl
theorem aal {l rest:List Oper}{o:Oper}{T:List zu}{T1:zu→List zu}{S:zS}{k:Nat}{v:zu}{r:Option (List zu×zS)}(hc:chk.contains k=false) (hl:l=o::rest) (hg:o.guard=none) (hm:∀v,qH o rest T v=T1 v)
  (hs:yV P fx call T o S=some (v,S)) (hK:yu P fx chk [] call ops (k+1) [] rest (T1 v) S=r):yu P fx chk [] call ops k [] l T S=r:=by
 subst hl;simp only[yu,Jq,List.isEmpty_nil,if_true,Region.wanted,hg,if_true,hs,hm,hc,Bool.not_false,Bool.true_or];exact hK
theorem aam {l rest:List Oper}{o:Oper}{T:List zu}{T1:zu→List zu}{S:zS}{k:Nat}{v:zu}{r:Option (List zu×zS)}(hc:chk.contains k=true) (hl:l=o::rest) (hg:o.guard=none) (hm:∀v,qH o rest T v=T1 v)
  (hs:yV P fx call T o S=some (v,S)) (hK:yu P fx chk [] call ops (k+1) [] rest (T1 v) S=r):yu P fx chk [] call ops k [] l T S=jK v r ():=by
 show _=Jt v r;subst hl;simp only[yu,Jq,List.isEmpty_nil,if_true,Region.wanted,hg,if_true,hs,hm,hc,Bool.not_true,Bool.false_or];rw[←hK];rfl
theorem aai {l rest:List Oper}{o:Oper}{T:List zu}{T1:zu→List zu}{S:zS}{j k:Nat}{b:Bool}{g:zu}{s:M zu}{K:zu→zS→Option (List zu×zS)}(hc:chk.contains k=false) (hl:l=o::rest) (hg:o.guard=some (j,b)) (hm:∀v,qH o rest T v=T1 v)
  (hy:kD ops T j=vb g) (hs:yV P fx call T o S=s S) (hK:∀v S1,yu P fx chk [] call ops (k+1) [] rest (T1 v) S1=K v S1):yu P fx chk [] call ops k [] l T S=zY g b s S K ():=by
 show _=gd g b s S K;subst hl;simp only[yu,Jq,List.isEmpty_nil,if_true,Region.wanted,hg,hy,hs,hm,hK,gd,hc,Bool.not_false,Bool.true_or,if_true];rfl
theorem aan {l rest:List Oper}{o:Oper}{T:List zu}{T1:zu→List zu}{S:zS}{k:Nat}{s:Option (zu×zS)}{K:zu→zS→Option (List zu×zS)}(hc:chk.contains k=false) {x:Nat×Nat}{nl:List (Nat×Nat)}{hist:List (zu×zS)}{pe:zu}(hpe:xR T o=pe) (hl:l=o::rest) (hg:o.guard=none) (hm:∀v,qH o rest T v=T1 v)
  (hs:yV P fx call T o S=s) (hK:∀v S1,yu P fx chk (x::nl) call ops (k+1) (hist++[(pe,S)]) rest (T1 v) S1=K v S1):yu P fx chk (x::nl) call ops k hist l T S=zT s K ():=by
 show _=andThen s K;subst hl hs;simp only[yu,Jq,List.isEmpty_cons,zF,if_false,hpe,Region.wanted,hg,if_true,hm,hK,hc,Bool.not_false,Bool.true_or];rfl
theorem aao {l rest:List Oper}{o:Oper}{T:List zu}{T1:zu→List zu}{S:zS}{k:Nat}{s:Option (zu×zS)}{K:zu→zS→Option (List zu×zS)}(hc:chk.contains k=true) {x:Nat×Nat}{nl:List (Nat×Nat)}{hist:List (zu×zS)}{pe:zu}(hpe:xR T o=pe) (hl:l=o::rest) (hg:o.guard=none) (hm:∀v,qH o rest T v=T1 v)
  (hs:yV P fx call T o S=s) (hK:∀v S1,yu P fx chk (x::nl) call ops (k+1) (hist++[(pe,S)]) rest (T1 v) S1=K v S1):yu P fx chk (x::nl) call ops k hist l T S=zT s (fun v S1=>jK v (K v S1) ()) ():=by
 show _=andThen s (fun v S1=>Jt v (K v S1))
 subst hl hs;simp only[yu,Jq,List.isEmpty_cons,zF,if_false,hpe,Region.wanted,hg,if_true,hm,hK,hc,Bool.not_true,Bool.false_or];rfl
theorem aar {l rest:List Oper}{o:Oper}{T:List zu}{T1:zu→List zu}{S:zS}{k:Nat}{v:zu}{r:Option (List zu×zS)}(hc:chk.contains k=false) {x:Nat×Nat}{nl:List (Nat×Nat)}{hist:List (zu×zS)}{pe:zu}(hpe:xR T o=pe) (hl:l=o::rest) (hg:o.guard=none) (hm:∀v,qH o rest T v=T1 v)
  (hs:yV P fx call T o S=some (v,S)) (hK:yu P fx chk (x::nl) call ops (k+1) (hist++[(pe,S)]) rest (T1 v) S=r):yu P fx chk (x::nl) call ops k hist l T S=r:=by
 subst hl;simp only[yu,Jq,List.isEmpty_cons,zF,if_false,hpe,Region.wanted,hg,if_true,hs,hm,hc,Bool.not_false,Bool.true_or];exact hK
theorem aas {l rest:List Oper}{o:Oper}{T:List zu}{T1:zu→List zu}{S:zS}{k:Nat}{v:zu}{r:Option (List zu×zS)}(hc:chk.contains k=true) {x:Nat×Nat}{nl:List (Nat×Nat)}{hist:List (zu×zS)}{pe:zu}(hpe:xR T o=pe) (hl:l=o::rest) (hg:o.guard=none) (hm:∀v,qH o rest T v=T1 v)
  (hs:yV P fx call T o S=some (v,S)) (hK:yu P fx chk (x::nl) call ops (k+1) (hist++[(pe,S)]) rest (T1 v) S=r):yu P fx chk (x::nl) call ops k hist l T S=jK v r ():=by
 show _=Jt v r;subst hl;simp only[yu,Jq,List.isEmpty_cons,zF,if_false,hpe,Region.wanted,hg,if_true,hs,hm,hc,Bool.not_true,Bool.false_or];rw[←hK];rfl
theorem aap {l rest:List Oper}{o:Oper}{T:List zu}{T1:zu→List zu}{S:zS}{j k:Nat}{b:Bool}{g:zu}{s:M zu}{K:zu→zS→Option (List zu×zS)}(hc:chk.contains k=false) {x:Nat×Nat}{nl:List (Nat×Nat)}{hist:List (zu×zS)}{pe:zu}(hpe:xR T o=pe) (hl:l=o::rest) (hg:o.guard=some (j,b)) (hm:∀v,qH o rest T v=T1 v)
  (hy:kD ops T j=vb g) (hs:yV P fx call T o S=s S) (hK:∀v S1,yu P fx chk (x::nl) call ops (k+1) (hist++[(pe,S)]) rest (T1 v) S1=K v S1):yu P fx chk (x::nl) call ops k hist l T S=zY g b s S K ():=by
 show _=gd g b s S K;subst hl;simp only[yu,Jq,List.isEmpty_cons,zF,if_false,hpe,Region.wanted,hg,hy,hs,hm,hK,gd,hc,Bool.not_false,Bool.true_or,if_true];rfl
theorem aaq {l rest:List Oper}{o:Oper}{T:List zu}{T1:zu→List zu}{S:zS}{j k:Nat}{b:Bool}{g:zu}{s:M zu}{K:zu→zS→Option (List zu×zS)}(hc:chk.contains k=true) {x:Nat×Nat}{nl:List (Nat×Nat)}{hist:List (zu×zS)}{pe:zu}(hpe:xR T o=pe) (hl:l=o::rest) (hg:o.guard=some (j,b)) (hm:∀v,qH o rest T v=T1 v)
  (hy:kD ops T j=vb g) (hs:yV P fx call T o S=s S) (hK:∀v S1,yu P fx chk (x::nl) call ops (k+1) (hist++[(pe,S)]) rest (T1 v) S1=K v S1):yu P fx chk (x::nl) call ops k hist l T S=Y7 g b s S K ():=by
 show _=QB g b s S K;subst hl;simp only[yu,Jq,List.isEmpty_cons,zF,if_false,hpe,Region.wanted,hg,hy,hs,hm,hK,QB,hc,Bool.not_true,Bool.false_or];rfl
def Jy (c:Bool) (r:Option R) (p:yw r):Option R:=if c then r else none
@[simp] theorem ru (r:Option R) (p:yw r):Jy true r p=r:=Eq.trans rfl rfl
noncomputable def gB (P:Program) (O:J9) (hp:Bool) (v:zu) (x y:Code) (T:List zu) (S:zS):St:=aH v (zX P O hp x T S) (zX P O hp y T S)
@[simp] theorem rE (x y:Code) (T:List zu) (S:zS):gB P O hp (.bool true) x y T S=zX P O hp x T S:=Eq.trans rfl rfl
@[simp] theorem rD (x y:Code) (T:List zu) (S:zS):gB P O hp (.bool false) x y T S=zX P O hp y T S:=Eq.trans rfl rfl
@[simp] theorem Gv (T:List zu) (H:zS):zX P O hp .skip T H=some (.normal,T,H):=Eq.trans rfl rfl
@[simp] theorem Gs (T:List zu) (H:zS):zX P O hp .ret T H=some (.ret,T,H):=Eq.trans rfl rfl
@[simp] theorem Gl (i:Nat) (T:List zu) (H:zS):zX P O hp (.exit i) T H=some (.exit i,T,H):=Eq.trans rfl rfl
@[simp] theorem Gp (i:Nat) (ops:Array Oper) (T:List zu) (H:zS):zX P O false (.region i ops false) T H=yY (zW P ⟨false,false,false⟩ (zU P O) ops ops.toList T H):=Eq.trans rfl rfl
@[simp] theorem Gq (i:Nat) (ops:Array Oper) (T:List zu) (H:zS):zX P O true (.region i ops false) T H=yY (zW P ⟨true,false,false⟩ (wW O.hp true (zU P O)) ops ops.toList T H):=Eq.trans rfl rfl
theorem Jh {i:Nat}{ops:Array Oper}(hd:vg P ops=true) (hf:fixed P ops=nm) (hc:checked P ops=chk) {nl:List (Nat×Nat)}(hn:again P ops=nl) (T:List zu) (H:zS):zX P O false (.region i ops true) T H=yY (yu P ⟨false,!chk.isEmpty,nm⟩ chk nl (zU P O) ops 0 [] ops.toList T H):=by
 subst hf hc hn;simp only[zX,hd,if_true,wW];rfl
theorem V4 {i:Nat}{ops:Array Oper}(hd:vg P ops=true) (hf:fixed P ops=nm) (hc:checked P ops=chk) {nl:List (Nat×Nat)}(hn:again P ops=nl) (T:List zu) (H:zS):zX P O true (.region i ops true) T H=yY (yu P ⟨true,!chk.isEmpty,nm⟩ chk nl (wW O.hp true (zU P O)) ops 0 [] ops.toList T H):=by
 subst hf hc hn;simp only[zX,hd,if_true];rfl
@[simp] theorem Gu (x y:Code) (T:List zu) (H:zS):zX P O hp (.seq x y) T H=VI (zX P O hp x T H) (zX P O hp y):=Eq.trans rfl rfl
@[simp] theorem Gi (i:Nat) (c:Code) (T:List zu) (H:zS):zX P O hp (.block i c) T H=XV i (zX P O hp c T H):=Eq.trans rfl rfl
@[simp] theorem Gn (c:Code) (T:List zu) (H:zS):zX P O hp (.loop c) T H=yj (zX P O hp c) T H:=Eq.trans rfl rfl
@[simp] theorem Gj (t:Tmp) (x y:Code) (T:List zu) (H:zS):zX P O hp (.cond (.tmp t) x y) T H=gB P O hp (T.getD t zh) x y T H:=by
 simp only[zX,xq,if_true,jy];rfl
@[simp] theorem gU :zQ zh=zh:=X7
@[simp] theorem rP (k:IntKind) (n:Int):zQ (.int k n)=.int k n:=Eq.trans rfl rfl
@[simp] theorem rM (b:Bool):zQ (.bool b)=.bool b:=Eq.trans rfl rfl
@[simp] theorem rX (s:ByteArray):zQ (.string s)=.string s:=Eq.trans rfl rfl
@[simp] theorem rU :zQ (.slice none 0 0)=.slice none 0 0:=Eq.trans rfl rfl
@[simp] theorem rJ (x:Array zu):zQ (.agg x)=.agg x:=Eq.trans rfl rfl
@[simp] theorem rO (f:Fn) (x c:Array zu):zQ (.func f x c)=.func f x c:=Eq.trans rfl rfl
@[simp] theorem rV (a:Option Addr):zQ (.pointer a)=.pointer a:=Eq.trans rfl rfl
@[simp] theorem aa3 (e n:Nat) (cs:List zu):zQ (SL 1 e n cs)=SL 1 e n cs:=Eq.trans rfl rfl
@[simp] theorem aa4 (e n:Nat) (cs:List zu):zQ (SL 2 e n cs)=SL 1 e n cs:=Eq.trans rfl rfl
@[simp] theorem Dx (k e n:Nat) (cs:List zu) (r:Option R) (p:yw r):jK (SL k e n cs) r p=r:=Eq.trans rfl rfl
@[simp] theorem Dw (cs:List zu) (r:Option R) (p:yw r):jK (EP cs) r p=r:=Eq.trans rfl rfl
@[simp] theorem abd (k e n:Nat) (cs:List zu) (r:Option R):Jt (SL k e n cs) r=r:=Eq.trans rfl rfl
@[simp] theorem Dl (cs:List zu) (r:Option R):Jt (EP cs) r=r:=Eq.trans rfl rfl
def sv (k e n:Nat) (cs:List zu):zu:=if k=0 then .slice none 0 0 else SL k e n cs
structure Yu (k n:Nat) (cs:List zu):Prop where
 le:k≤2
 nil:k=0→n=0∧cs=[]
theorem sv0 {e n:Nat}{cs:List zu}:sv 0 e n cs=.slice none 0 0:=rfl
theorem EZ {e n:Nat}{cs:List zu}:sv 1 e n cs=SL 1 e n cs:=rfl
theorem E5 {e n:Nat}{cs:List zu}:sv 2 e n cs=SL 2 e n cs:=rfl
@[simp] theorem aO (k e n:Nat) (cs:List zu):zQ (sv k e n cs)=sv (if k=2 then 1 else k) e n cs:=by
 unfold sv;by_cases h0:k=0
 ·subst h0;rfl
 ·by_cases h2:k=2
  ·subst h2;rfl
  ·rw[zM h0,zM h2,zM h0];simp only[SL,zQ,yh,zM h2]
@[simp] theorem Vs (k e n:Nat) (cs:List zu) (r:Option R):Jt (sv k e n cs) r=r:=by
 unfold sv;split<;>rfl
@[simp] theorem DI (k e n:Nat) (cs:List zu) (r:Option R) (p:yw r):jK (sv k e n cs) r p=r:=Vs k e n cs r
theorem dQ {k e n:Nat}{cs:List zu}(h:Yu k n cs):∃e',ku (sv k e n cs)=some (e',n,cs)∧(e'=e∨n=0∧cs=[]):=by
 unfold sv;by_cases h0:k=0
 ·obtain⟨rfl,rfl⟩:=h.nil h0;rw[zN h0];exact⟨0,rfl,.inr ⟨rfl,rfl⟩⟩
 ·rw[zM h0];have:k=1∨k=2:=by have:=h.le;omega
  exact⟨e,by simp[SL,ku,this],.inl rfl⟩
theorem aaf {t te:TypeId}{k e n:Nat}{cs:List zu}{S:zS}(ht:P.underlying t=some (.slice te)) (h:Yu k n cs):yK P t (sv k e n cs) S=some (goInt n,S):=by
 by_cases h0:k=0
 ·obtain⟨rfl,rfl⟩:=h.nil h0;subst h0;simp only[sv0,yK,Jk,ht]
 ·obtain⟨e',h1,_⟩:=dQ (e:=e) h;simp only[sv,zM h0]at h1 ⊢;simp only[SL]at h1 ⊢;simp only[yK,ht,h1]
theorem FZ {t te:TypeId}{k e n:Nat}{cs:List zu}{S:zS}{ki:IntKind}{i:Int}(ht:P.underlying t=some (.slice te)) (he:y7 P te=some e) (h:Yu k n cs) (h0:0≤i) (hi:i<n) :
  jZ P t (sv k e n cs) (.int ki i) S=some (EP ((cs.drop (i.toNat*e)).take e),S):=by
 have hk:k≠0:=fun e=>by have:=(h.nil e).1;omega
 have hk2:k=1∨k=2:=by have:=h.le;omega
 have h1:ku (SL k e n cs)=some (e,n,cs):=by simp[SL,ku,hk2]
 simp only[sv,zM hk];simp only[SL]at h1 ⊢;simp only[jZ,ht,h1,he,if_true];rw[zN ⟨h0,hi⟩]
@[simp] theorem dP {t:TypeId}{v:zu}{S:zS}(ht:vK P t=some false):zZ P nm t (EP [v]) S=some (v,S):=by
 simp[EP,zZ,ht]
theorem nN {t:TypeId}{n:Nat}{cs:List zu}{S:zS}(ht:vK P t=some true) (hn:y7 P t=some n) (hc:cs.length=n):zZ P nm t (EP cs) S=some (.agg cs.toArray,S):=by
 simp only[EP,zZ,ht,hn,if_true,zD];rw[zN (by omega),←hc,List.take_length]
theorem aay {t te:TypeId}{k e n:Nat}{cs:List zu}{S:zS}{lo hi:Option zu}{i j:Int}(ht:P.underlying t=some (.slice te)) (he:y7 P te=some e) (h:Yu k n cs) (hlo:vW 0 lo=some i) (hhi:vW n hi=some j)
  (h0:0≤i) (hij:i≤j) (hj:j≤n):JI P t (sv k e n cs) lo hi S=some (sv (if k=2 then 1 else k) e (j.toNat-i.toNat) ((cs.drop (i.toNat*e)).take ((j.toNat-i.toNat)*e)),S):=by
 by_cases hk:k=0
 ·obtain⟨rfl,rfl⟩:=h.nil hk;subst hk;simp only[sv0,JI,ht,ku,he,hlo,hhi,zN h0,zN hij,zN hj];rfl
 ·have hk2:k=1∨k=2:=by have:=h.le;omega
  have h1:ku (SL k e n cs)=some (e,n,cs):=by simp[SL,ku,hk2]
  have h3:(if k=2 then 1 else k)=1:=by rcases hk2 with rfl |rfl<;>rfl
  rw[h3];simp only[sv,zM hk];simp only[SL]at h1 ⊢;simp only[JI,ht,h1,he,hlo,hhi,zN h0,zN hij,zN hj,if_true];rfl
theorem aad {t te:TypeId}{k e n:Nat}{cs:List zu}{S:zS}(ht:P.underlying t=some (.slice te)) (h:Yu k n cs):jd P .eql t (sv k e n cs) (.slice none 0 0) S=some (.bool (decide (k=0)),S):=by
 by_cases hk:k=0
 ·subst hk;simp only[sv0,jd,qW,JB,ht,Je];rfl
 ·have hk2:k=1∨k=2:=by have:=h.le;omega
  have h1:ku (SL k e n cs)=some (e,n,cs):=by simp[SL,ku,hk2]
  simp only[sv,zM hk];simp only[SL]at h1 ⊢;simp only[jd,ht,h1];simp[hk]
@[simp] theorem Vk (k e n:Nat) (cs:List zu):xQ (sv k e n cs)=false:=by unfold sv;split<;>rfl
@[simp] theorem nP (dr:Bool) (t:TypeId) (k e n:Nat) (cs:List zu) (lo hi:Option zu) (S:zS):WZ P dr t (sv k e n cs) lo hi S=JI P t (sv k e n cs) lo hi S:=by
 unfold WZ;rw[Vk];rfl
@[simp] theorem F8 (dr:Bool) (t:TypeId) (s:ByteArray) (lo hi:Option zu) (S:zS):WZ P dr t (.string s) lo hi S=JI P t (.string s) lo hi S:=Eq.trans rfl rfl
@[simp] theorem nK (hp dr:Bool) (src dst:TypeId) (k e n:Nat) (cs:List zu) (S:zS):qB P hp dr src dst (sv k e n cs) S=Ja P src dst (sv k e n cs) S:=by
 unfold qB;rw[Vk];have:∀s,sv k e n cs≠.string s:=by intro s;unfold sv;split<;>(intro h;cases h)
 cases hp<;>simp only[zF,if_false]<;>(split<;>first |rfl |(rename_i h;exact absurd h (this _)) |skip)
@[simp] theorem FT (hp dr:Bool) (src dst:TypeId) (k:IntKind) (n:Int) (S:zS):qB P hp dr src dst (.int k n) S=Ja P src dst (.int k n) S:=by cases hp<;>rfl
@[simp] theorem FV (dr:Bool) (src dst:TypeId) (s:ByteArray) (S:zS):qB P false dr src dst (.string s) S=Ja P src dst (.string s) S:=Eq.trans rfl rfl
@[simp] theorem FW (dr:Bool) (src dst:TypeId) (s:ByteArray) (S:zS):qB P true dr src dst (.string s) S=qc P src dst (.string s) S:=Eq.trans rfl rfl
theorem aac {t te tx tex:TypeId}{k e n j m bytes:Nat}{cs ds:List zu}{z:zu}{S:zS}(ht:P.underlying t=some (.slice te)) (he:y7 P te=some e) (hz:zeroOf P te=some z) (hzs:z.cells.size=e) (hb:bytesOf P te=some bytes) (hp:0<e)
  (htx:P.underlying tx=some (.slice tex)) (h:Yu k n cs) (hk:k≠1) (hx:Yu j m ds) (hn:cs.length=n*e) (hm:ds.length=m*e) (h1:cs.all (·.oneCell')=true) (h2:ds.all (·.oneCell')=true) (hl:(n+m)*bytes≤140737488355328) (hmax:n+m≤4611686018427387903) :
  yF P t tx (sv k e n cs) (sv j e m ds) S=some (sv (if k=0∧m=0 then 0 else 2) e (n+m) (cs++ds),S):=by
 have hel:JQ P t=some te:=by simp only[JQ,ht]
 have hsrc:KZ P tx e (sv j e m ds)=some (m,ds):=by
  obtain⟨e',q1,q2⟩:=dQ (e:=e) hx;have hns:∀s,sv j e m ds≠.string s:=by intro s;unfold sv;split<;>(intro h;cases h)
  have hcond:m=0∨e'=e:=q2.elim .inr fun h=>.inl h.1
  unfold KZ;split
  ·rename_i s hs;exact absurd hs (hns s)
  ·simp only[htx,q1,zN hcond,zN hm,h2,if_true]
 have hsrc:YU P tx e (sv j e m ds) S=some (m,ds):=by
  unfold YU;rw[Vk];exact hsrc
 by_cases hk0:k=0
 ·obtain⟨rfl,rfl⟩:=h.nil hk0;subst hk0;simp only[sv0,yF,WX,hel,he,hz,hb,zN hp,zN hzs,hsrc];by_cases hm0:m=0
  ·subst hm0;simp[sv0]
  ·rw[Nat.zero_add]at hl hmax;rw[zM hm0,zN hl,zN hmax,zM Bool.false_ne_true,zM (fun h=>hm0 h.2),E5,Nat.zero_add,List.nil_append]
 ·have hk2:k=2:=by have:=h.le;omega
  subst hk2;rw[zM (fun h=>hk0 h.1)]
  have h1':cs.toArray.toList.all (·.oneCell')=true:=by simpa using h1
  simp only[E5,SL,yF,WX,hel,he,hz,hb,zN hp,zN hzs,hsrc,if_true,zN hl,zN hmax,h1']
@[simp] theorem FN (op:BinOp) (t:TypeId) (k k':IntKind) (a b:Int) (S:zS):jd P op t (.int k a) (.int k' b) S=qW P op t (.int k a) (.int k' b) S:=Eq.trans rfl rfl
@[simp] theorem FP (op:BinOp) (t:TypeId) (a b:ByteArray) (S:zS):jd P op t (.string a) (.string b) S=qW P op t (.string a) (.string b) S:=Eq.trans rfl rfl
@[simp] theorem FM (op:BinOp) (t:TypeId) (a b:Bool) (S:zS):jd P op t (.bool a) (.bool b) S=qW P op t (.bool a) (.bool b) S:=Eq.trans rfl rfl
@[simp] theorem FK (op:BinOp) (t:TypeId) (a b:Array zu) (S:zS):jd P op t (.agg a) (.agg b) S=qW P op t (.agg a) (.agg b) S:=Eq.trans rfl rfl
@[simp] theorem F5 (b:Bool) (x y:zu) (S:zS):jH (.bool b) x y S=some (if b then zQ x else zQ y,S):=Eq.trans rfl rfl
@[simp] theorem FX {src dst:TypeId}(k:IntKind) (n:Int) (S:zS):Ja P src dst (.int k n) S=qc P src dst (.int k n) S:=Eq.trans rfl rfl
@[simp] theorem FY (vs:List zu) (i:Nat) (S:zS):jv (.tuple vs.toArray) i S=(vs[i]?).map (·,S):=by
 simp only[jv,List.getElem?_toArray];cases vs[i]?<;>rfl
end
end Go.Abs
namespace Go.Abs
theorem Zc {P:Program}{fn:Func}{a b:zu}{r:List zu}{T:List zu}{S:zS}(h:jl P T S fn.results.toList=some (a::b::r)) (hn:mJ fn.results.toList=true) (hall:(a::b::r).all yc=true) :
  WY P fn T S=some (.tuple (a::b::r).toArray,S):=by
 unfold WY;rw[h];dsimp only;rw[zN hn,zN hall]
theorem qI {P:Program}{fn:Func}{a:zu}{T:List zu}{S:zS}(h:jl P T S fn.results.toList=some [a]) (hn:mJ fn.results.toList=true):WY P fn T S=some (a,S):=by
 unfold WY;rw[h];dsimp only;rw[zN hn]
@[simp] theorem kH (k:IntKind) (n:Int):yc (.int k n)=true:=rfl
@[simp] theorem kG (b:Bool):yc (.bool b)=true:=rfl
@[simp] theorem PN (k e n:Nat) (cs:List zu):yc (sv k e n cs)=true:=by unfold sv;split<;>rfl
@[simp] theorem kF (x:Array zu):yc (.agg x)=true:=rfl
@[simp] theorem kJ (a:Option Addr) (n c:Nat):yc (.slice a n c)=true:=rfl
end Go.Abs
namespace Go.Abs
open Go.RowKit
def vs {α:Type}(f:α→List zu) (e k:Nat) (l:List α):zu:=sv k e l.length (l.flatMap f)
structure je {α:Type}(k:Nat) (l:List α):Prop where
 le:k≤2
 nil:k=0→l=[]
theorem je.own {α:Type}{l:List α}:je 2 l:=⟨Nat.le_refl 2,(fun h=>by cases h)⟩
theorem je.read {α:Type}{l:List α}:je 1 l:=⟨by omega,(fun h=>by cases h)⟩
theorem je.none {α:Type}:je 0 ([]:List α):=⟨by omega,fun _=>rfl⟩
theorem je.zQ {α:Type}{k:Nat}{l:List α}(h:je k l):je (if k=2 then 1 else k) l:=⟨by have:=h.le;split<;>omega,fun hk=>h.nil (by split at hk<;>omega)⟩
def cb (b:UInt8):List zu:=[.int .u8 b.toNat]
def ci (n:Int):List zu:=[.int .i64 n]
section
variable {R α:Type}{P:Program}{f:α→List zu}{e k j:Nat}{l m:List α}{t te tx tex:TypeId}{S:zS}
theorem je.Qe (h:je k l):Yu k l.length (l.flatMap f):=⟨h.le,fun h0=>by rw[h.nil h0];exact⟨rfl,rfl⟩⟩
theorem Xq (hf:∀x,(f x).length=e) (l:List α):(l.flatMap f).length=l.length*e:=by
 induction l with
 |nil=>simp
 |cons x l ih=>simp only[List.flatMap_cons,List.length_append,hf,ih,List.length_cons,Nat.add_mul];omega
theorem ug (hf:∀x,(f x).length=e) (l:List α):∀(i:Nat),(l.flatMap f).drop (i*e)=(l.drop i).flatMap f:=by
 induction l with
 |nil=>intro i;simp
 |cons x l ih=>
  intro i;cases i with
  |zero=>simp
  |succ i=>
   rw[List.flatMap_cons,List.drop_succ_cons,←ih i,List.drop_append,List.drop_eq_nil_of_le (by rw[hf,Nat.add_mul];omega),List.nil_append,hf]
   congr 1
   rw[Nat.add_mul];omega
theorem uh (hf:∀x,(f x).length=e) (l:List α):∀(i:Nat),(l.flatMap f).take (i*e)=(l.take i).flatMap f:=by
 induction l with
 |nil=>intro i;simp
 |cons x l ih=>
  intro i;cases i with
  |zero=>simp
  |succ i=>
   rw[List.flatMap_cons,List.take_succ_cons,List.flatMap_cons,←ih i,List.take_append,List.take_of_length_le (by rw[hf,Nat.add_mul];omega),hf]
   congr 2
   rw[Nat.add_mul];omega
@[simp] theorem WQ :zQ (vs f e k l)=vs f e (if k=2 then 1 else k) l:=aO _ _ _ _
@[simp] theorem Dv (r:Option R):Jt (vs f e k l) r=r:=Vs _ _ _ _ _
@[simp] theorem DJ (r:Option R) (p:yw r):jK (vs f e k l) r p=r:=Vs _ _ _ _ _
@[simp] theorem aa9 :xQ (vs f e k l)=false:=Vk _ _ _ _
@[simp] theorem F9 (dr:Bool) (lo hi:Option zu):WZ P dr t (vs f e k l) lo hi S=JI P t (vs f e k l) lo hi S:=nP _ _ _ _ _ _ _ _ _
@[simp] theorem XK (hp dr:Bool) (src dst:TypeId):qB P hp dr src dst (vs f e k l) S=Ja P src dst (vs f e k l) S:=nK _ _ _ _ _ _ _ _ _
@[simp] theorem qQ :yc (vs f e k l)=true:=PN _ _ _ _
theorem XM (ht:P.underlying t=some (.slice te)) (h:je k l):yK P t (vs f e k l) S=some (goInt l.length,S):=aaf ht h.Qe
theorem Gz (ht:P.underlying t=some (.slice te)) (h:je k l):jd P .eql t (vs f e k l) (.slice none 0 0) S=some (.bool (decide (k=0)),S):=aad ht h.Qe
theorem XL {ki:IntKind}{i:Int}(ht:P.underlying t=some (.slice te)) (he:y7 P te=some e) (hf:∀x,(f x).length=e) (h:je k l) (h0:0≤i) (hi:i<l.length) :
  jZ P t (vs f e k l) (.int ki i) S=some (EP (f (l[i.toNat]'(by omega))),S):=by
 unfold vs;rw[FZ ht he h.Qe h0 hi,ug hf];have hlt:i.toNat<l.length:=by omega
 have:=uh hf (l.drop i.toNat) 1;rw[Nat.one_mul]at this;rw[this,List.drop_eq_getElem_cons hlt,List.take_succ_cons,List.take_zero,List.flatMap_cons,List.flatMap_nil,List.append_nil]
theorem GH {lo hi:Option zu}{i j:Int}(ht:P.underlying t=some (.slice te)) (he:y7 P te=some e) (hf:∀x,(f x).length=e) (h:je k l) (hlo:vW 0 lo=some i) (hhi:vW l.length hi=some j) (h0:0≤i) (hij:i≤j) (hj:j≤l.length) :
  JI P t (vs f e k l) lo hi S=some (vs f e (if k=2 then 1 else k) ((l.drop i.toNat).take (j.toNat-i.toNat)),S):=by
 unfold vs;rw[aay ht he h.Qe hlo hhi h0 hij hj,ug hf,uh hf]
 congr 3
 simp;omega
theorem V6 {bytes:Nat}{z:zu}(ht:P.underlying t=some (.slice te)) (he:y7 P te=some e) (hz:zeroOf P te=some z) (hzs:z.cells.size=e) (hb:bytesOf P te=some bytes) (hp:0<e) (htx:P.underlying tx=some (.slice tex))
  (hf:∀x,(f x).length=e) (h1:∀x,(f x).all (·.oneCell')=true) (h:je k l) (hk:k≠1) (hm:je j m) (hl:(l.length+m.length)*bytes≤140737488355328) (hmax:l.length+m.length≤4611686018427387903) :
  yF P t tx (vs f e k l) (vs f e j m) S=some (vs f e (if k=0∧m.length=0 then 0 else 2) (l++m),S):=by
 have hone:∀l:List α,(l.flatMap f).all (·.oneCell')=true:=by
  intro l;rw[List.all_flatMap,List.all_eq_true];exact fun x _=>h1 x
 unfold vs;rw[aac ht he hz hzs hb hp htx h.Qe hk hm.Qe (Xq hf l) (Xq hf m) (hone l) (hone m) hl hmax,List.flatMap_append,List.length_append]
theorem X4 (x:UInt8):(cb x).length=1:=rfl
theorem LC (x:UInt8):(cb x).all (·.oneCell')=true:=rfl
theorem pY (x:Int):(ci x).length=1:=rfl
theorem LH (x:Int):(ci x).all (·.oneCell')=true:=rfl
theorem Lu (l:List UInt8):Z5 (l.flatMap cb)=some l:=by
 induction l with
 |nil=>rfl
 |cons b l ih=>
  have:(b::l).flatMap cb=.int .u8 b.toNat::l.flatMap cb:=rfl;rw[this];simp only[Z5,Xj,ih];simp
theorem JE {v:zu}{i j:Nat}{S:zS}(h:j≠i):jv (jh j v) i S=jv v i S:=by
 cases v with
 |tuple vs=>simp only[jh,jv,Array.getElem?_modify,zM h]
 | _=>rfl
theorem sK {v:zu}{S:zS}:jv (jh 0 v) 1 S=jv v 1 S:=JE (by decide)
theorem sN {v:zu}{S:zS}:jv (jh 0 v) 2 S=jv v 2 S:=JE (by decide)
theorem sU {v:zu}{S:zS}:jv (jh 1 v) 2 S=jv v 2 S:=JE (by decide)
theorem sO {v:zu}{S:zS}:jv (jh 0 v) 3 S=jv v 3 S:=JE (by decide)
theorem sV {v:zu}{S:zS}:jv (jh 1 v) 3 S=jv v 3 S:=JE (by decide)
theorem tq {v:zu}{S:zS}:jv (jh 2 v) 3 S=jv v 3 S:=JE (by decide)
theorem sQ {v:zu}{S:zS}:jv (jh 0 v) 4 S=jv v 4 S:=JE (by decide)
theorem sW {v:zu}{S:zS}:jv (jh 1 v) 4 S=jv v 4 S:=JE (by decide)
theorem tu {v:zu}{S:zS}:jv (jh 2 v) 4 S=jv v 4 S:=JE (by decide)
theorem tH {v:zu}{S:zS}:jv (jh 3 v) 4 S=jv v 4 S:=JE (by decide)
theorem sS {v:zu}{S:zS}:jv (jh 0 v) 5 S=jv v 5 S:=JE (by decide)
theorem sZ {v:zu}{S:zS}:jv (jh 1 v) 5 S=jv v 5 S:=JE (by decide)
theorem tC {v:zu}{S:zS}:jv (jh 2 v) 5 S=jv v 5 S:=JE (by decide)
theorem tJ {v:zu}{S:zS}:jv (jh 3 v) 5 S=jv v 5 S:=JE (by decide)
theorem tK {v:zu}{S:zS}:jv (jh 4 v) 5 S=jv v 5 S:=JE (by decide)
abbrev jk (k:Nat) (l:List UInt8):zu:=vs cb 1 k l
abbrev iz (k:Nat) (l:List Int):zu:=vs ci 1 k l
theorem Ld {src dst:TypeId}{k:Nat}{l:List UInt8} (hs:P.underlying src=some (.slice te)) (he:P.underlying te=some (.int .u8)) (hd:P.underlying dst=some .string) (h:je k l):Ja P src dst (jk k l) S=some (.string ⟨l.toArray⟩,S):=by
 obtain⟨e',h1,_⟩:=dQ (e:=1) (h.Qe (f:=cb));have hlen:(l.flatMap cb).length=l.length:=by rw[Xq X4];omega
 have hns:∀s,jk k l≠.string s:=by intro s;unfold jk vs sv;split<;>(intro h;cases h)
 unfold Ja;split
 ·rename_i s hs;exact absurd hs (hns s)
 ·unfold jk vs;rw[h1];simp only[hs,hd,he,zN hlen,Lu]
end
end Go.Abs
namespace Go.Abs
open Go.RowKit
def Qq (c d:FuncId→List zu→M zu):Prop:=∀g a S r,c g a S=some r→d g a S=some r
section
variable {P:Program}{O:J9} {c d:FuncId→List zu→M zu}
theorem Gh (h:Qq c d) {fx:Fx}{T:List zu}{o:Oper}{S:zS}{r:zu×zS}(hs:yV P fx c T o S=some r):yV P fx d T o S=some r:=by
 unfold yV at hs ⊢;split at hs
 ·rename_i hok;rw[zN hok];cases hop:o.op with
  |call q=>
   rw[hop]at hs;dsimp only at hs ⊢;cases hcal:q.callee with
   |value f=>
    rw[hcal]at hs;dsimp only at hs ⊢;split at hs
    ·rename_i g first captured hev
     exact h _ _ _ _ hs
    ·cases hs
   |builtin b=>rw[hcal]at hs;exact hs
   |invoke a b=>rw[hcal]at hs;cases hs
  | _=>rw[hop]at hs;exact hs
 ·cases hs
theorem aaw (h:Qq c d) {fx:Fx}{ops:Array Oper}:∀(l:List Oper) (T:List zu) (S:zS) (r:List zu×zS),zW P fx c ops l T S=some r→zW P fx d ops l T S=some r:=by
 intro l;induction l with
 |nil=>intro T S r hs;exact hs
 |cons o l ih=>
  intro T S r hs;simp only[zW]at hs ⊢;split at hs
  ·rename_i hw;rw[zN hw];split at hs
   ·rename_i v S' he;rw[Gh h he];exact ih _ _ _ hs
   ·cases hs
  ·rename_i hw;rw[zM hw];exact ih _ _ _ hs
theorem aak (h:Qq c d) {fx:Fx}{chk:List Nat}{nl:List (Nat×Nat)}{ops:Array Oper}:∀(l:List Oper) (i:Nat) (hist:List (zu×zS)) (T:List zu) (S:zS) (r:List zu×zS),yu P fx chk nl c ops i hist l T S=some r→yu P fx chk nl d ops i hist l T S=some r:=by
 intro l;induction l with
 |nil=>intro i hist T S r hs;exact hs
 |cons o l ih=>
  intro i hist T S r hs;simp only[yu]at hs ⊢;split at hs
  ·rename_i hw;rw[zN hw];split at hs
   ·rename_i v S' he;rw[Gh h he];dsimp only;split at hs
    ·rename_i hq;rw[zN hq];exact ih _ _ _ _ _ hs
    ·cases hs
   ·cases hs
  ·rename_i hw;rw[zM hw];exact ih _ _ _ _ _ hs
theorem FQ (h:Qq c d) {hp:Bool}{n m:Nat}(hn:n≤m):∀(q:Code) (T:List zu) (S:zS) (r),qA P hp c n q T S=some r→qA P hp d m q T S=some r:=by
 intro q;induction q with
 |skip=>intro T S r hs;exact hs
 |exit id=>intro T S r hs;exact hs
 |ret=>intro T S r hs;exact hs
 |region i ops dr=>
  intro T S r hs;cases dr with
  |false=>
   simp only[qA]at hs ⊢;split at hs
   ·rename_i T1 S1 ho;rw[aaw h _ _ _ _ ho];exact hs
   ·cases hs
  |true=>
   simp only[qA]at hs ⊢;split at hs
   ·rename_i hd;rw[zN hd];split at hs
    ·rename_i T1 S1 ho;rw[aak h _ _ _ _ _ _ ho];exact hs
    ·cases hs
   ·cases hs
 |seq x y ihx ihy=>
  intro T S r hs;simp only[qA]at hs ⊢;split at hs
  ·rename_i T1 S1 hx;rw[ihx _ _ _ hx];exact ihy _ _ _ hs
  ·rename_i hne;rw[ihx _ _ _ hs];split
   ·rename_i T1 S1 he;exact absurd (hs.trans he) (hne T1 S1)
   ·rfl
 |cond x y z ihy ihz=>
  intro T S r hs;simp only[qA]at hs ⊢;split at hs
  ·rename_i hok;rw[zN hok];split at hs
   ·rename_i hb;exact ihy _ _ _ hs
   ·rename_i hb;exact ihz _ _ _ hs
   ·cases hs
  ·cases hs
 |block id x ih=>
  intro T S r hs;simp only[qA]at hs ⊢;split at hs
  ·rename_i id' T1 S1 hx;rw[ih _ _ _ hx];exact hs
  ·rename_i hne;rw[ih _ _ _ hs];split
   ·rename_i id' T1 S1 he;exact absurd (hs.trans he) (hne id' T1 S1)
   ·rfl
 |loop x ih=>
  intro T S r hs;simp only[qA]at hs ⊢;have key:∀(n:Nat) (T:List zu) (S:zS),∀k,kR k (qA P hp c n x) T S=some r→(∀T S r,qA P hp c n x T S=some r→qA P hp d m x T S=some r)→kR k (qA P hp d m x) T S=some r:=by
   intro n T S k hk hx;induction k generalizing T S with
   |zero=>cases hk
   |succ k ihk=>
    simp only[kR]at hk ⊢;split at hk
    ·rename_i T1 S1 h1;rw[hx _ _ _ h1];exact ihk _ _ hk
    ·rename_i hne;rw[hx _ _ _ hk];split
     ·rename_i T1 S1 he;exact absurd (hk.trans he) (hne T1 S1)
     ·rfl
  exact eY hn (key n T S n hs ih)
 | _=>intro T S r hs;simp only[qA]at hs;cases hs
theorem Lj {hps:FuncId→Bool}{hp:Bool}(h:Qq c d):Qq (wW hps hp c) (wW hps hp d):=by
 cases hp with
 |false=>exact h
 |true=>
  intro g a S r hs;unfold wW at hs ⊢;dsimp only at hs ⊢;split at hs
  ·rename_i hg;rw[zN hg];exact h _ _ _ _ hs
  ·rename_i hg;rw[zM hg];split at hs<;>first |(cases hs;done) |skip
   rename_i m S1 hf;split at hs<;>first |(cases hs;done) |skip
   rename_i r0 hr0
   (try rw[hf])
   (try dsimp only)
   rw[h _ _ _ _ hr0];exact hs
theorem Gy (h:Qq c d) {hp:Bool}{n m:Nat}(hn:n≤m) {fn:Func}{q:Code}{a:List zu}{S:zS}{r:zu×zS}(hs:YV P hp c n fn q a S=some r):YV P hp d m fn q a S=some r:=by
 unfold YV at hs ⊢;split at hs
 ·rename_i T1 S1 hx;rw[FQ h hn _ _ _ _ hx];exact hs
 ·rename_i T1 S1 hx;rw[FQ h hn _ _ _ _ hx];exact hs
 ·cases hs
theorem aaA :∀(n m:Nat),n≤m→Qq (ZX P O n) (ZX P O m):=by
 intro n;induction n with
 |zero=>intro m _ g a S r h;cases h
 |succ n ih=>
  intro m hm g a S r h;obtain⟨m,rfl⟩:∃k,m=k+1:=⟨m - 1,by omega⟩
  simp only[ZX]at h ⊢;cases ho:O.fn g with
  |some q=>rw[ho]at h;exact h
  |none=>
   rw[ho]at h;dsimp only at h ⊢;cases hf:P.funcs[g]? with
   |none=>rw[hf]at h;cases h
   |some fn=>
    rw[hf]at h;dsimp only at h ⊢;split at h
    case isFalse=>cases h
    case isTrue=>
     rename_i hn;rw[zN hn];cases hb:fn.body with
     |none=>rw[hb]at h;cases h
     |some q=>
      rw[hb]at h;dsimp only at h ⊢;have hc:=Lj (hps:=O.hp) (hp:=O.hp g) (ih m (by omega))
      split at h
      ·rename_i hpu;rw[zN hpu];unfold V5 at h ⊢;split at h<;>first |(cases h;done) |skip
       rename_i hca;rw[zN hca];split at h<;>first |(cases h;done) |skip
       rename_i v1 S1 hr;rw[Gy hc (by omega) hr]
       exact h
      ·rename_i hpu;rw[zM hpu];exact Gy hc (by omega) h
theorem Xa {n:Nat}{g:FuncId}{args:List zu}{S:zS}{r:zu×zS}(h:ZX P O n g args S=some r):zU P O g args S=some r :=
 nR ⟨n,fun k hk=>aaA n k hk _ _ _ _ h⟩
end
end Go.Abs
namespace Go.Abs
open Go.RowKit
theorem Ov (x:(Ty.slc 1 (.int .u8)).Val) (hg:(Ty.slc 1 (.int .u8)).Good x):∃k l,je k l∧k≠2∧(Ty.slc 1 (.int .u8)).Zd x=[jk k l]∧l.length≤140737488351232:=by
 match x,hg with
 |none,_=>exact⟨0,[],je.none,by decide,rfl,by simp⟩
 |some xs,hg=>
  obtain⟨h1,h2,h3⟩:=hg;have key:∀xs:List Int,(∀n∈xs,(Lit.int .u8 n).wf=true)→(xs.flatMap fun n=>[Value.int .u8 n])=(xs.map fun n=>UInt8.ofNat n.toNat).flatMap cb:=by
   intro xs;induction xs with
   |nil=>intro _;rfl
   |cons n xs ih=>
    intro h;have hw:=h n (by simp)
    simp[Lit.wf,IntKind.min,IntKind.max,IntKind.signed,IntKind.bits]at hw;have e:(Value.int .u8 n)=.int .u8 ((UInt8.ofNat n.toNat).toNat:Int):=by
     simp only[UInt8.toNat_ofNat']
     congr 1
     omega
    rw[List.flatMap_cons,ih (fun m hm=>h m (by simp[hm])),List.map_cons,List.flatMap_cons,e]
    rfl
  refine⟨1,(show List Int from xs).map fun n=>UInt8.ofNat n.toNat,je.read,by decide,?_,?_⟩
  ·have e:=key (show List Int from xs) h3
   show [SL 1 1 (show List Int from xs).length ((show List Int from xs).flatMap fun n=>[Value.int .u8 n])]=[_]
   unfold jk vs;rw[EZ,List.length_map,←e]
  ·have:(show List Int from xs).length*1≤140737488351232:=h1
   rw[List.length_map];omega
theorem Ox (x:(Ty.slc 8 (.int .i64)).Val) (hg:(Ty.slc 8 (.int .i64)).Good x):∃k l,je k l∧k≠2∧(Ty.slc 8 (.int .i64)).Zd x=[iz k l]∧l.length≤17592186043904∧∀n∈l,-9223372036854775808≤n∧n<9223372036854775808:=by
 match x,hg with
 |none,_=>exact⟨0,[],je.none,by decide,rfl,by simp,fun n h=>by cases h⟩
 |some xs,hg=>
  obtain⟨h1,h2,h3⟩:=hg;refine⟨1,(xs:List Int),je.read,by decide,rfl,?_,fun n hn=>?_⟩
  ·have:List.length (α:=Int) xs*8≤140737488351232:=h1;show List.length (α:=Int) xs≤17592186043904;omega
  ·have hw:=h3 n hn;simp[Ty.Good,Lit.wf,IntKind.min,IntKind.max,IntKind.signed,IntKind.bits]at hw;omega
def qN (call:FuncId→List zu→M zu) (g:FuncId) (args:List zu):M zu:=fun S=>match Yd args S with
 |some (m,S1)=>match call g m S1 with
  |some r=>some (VZ S S1 args r)
  |none=>none
 |none=>none
theorem um {x:zu}{S:zS}(h:xQ x=false):YB x S=some (x,S):=by
 unfold YB;split<;>first |rfl |(simp[xQ]at h)
theorem uw :∀{l:List zu}{S:zS},l.all (fun x=>!xQ x)=true→YC l S=some (l,S)
 | [],S,_=>rfl
 |x::l,S,h=>by
  rw[List.all_cons,zG]at h;have h1:xQ x=false:=by simpa using h.1
  simp only[YC,um h1,uw h.2]
theorem NM {x:zu}{S:zS}(h:Z7 x=false):QA x S=some (x,S):=by
 unfold QA;split
 ·rename_i cs;have h1:cs.toList.all (fun x=>!xQ x)=true:=by
   rw[List.all_eq_true];intro y hy;have:cs.toList.any xQ=false:=h;rw[List.any_eq_false]at this;simpa using this y hy
  rw[uw h1]
 ·rename_i hne;refine um ?_;cases x<;>first |rfl |exact h |(exact absurd rfl (hne _))
theorem iG :∀{l:List zu}{S:zS},l.all (fun x=>!Z7 x)=true→Yd l S=some (l,S)
 | [],S,_=>rfl
 |x::l,S,h=>by
  rw[List.all_cons,zG]at h;have h1:Z7 x=false:=by simpa using h.1
  simp only[Yd,NM h1,iG h.2]
theorem Lp {call:FuncId→List zu→M zu}{g:FuncId}{args:List zu}{S:zS}(h:args.all (fun x=>!Z7 x)=true):qN call g args S=call g args S:=by
 have hn:args.any Z7=false:=by
  rw[List.any_eq_false];intro x hx;have:=List.all_eq_true.1 h x hx;simpa using this
 unfold qN;rw[iG h];dsimp only;cases call g args S with
 |none=>rfl
 |some r=>dsimp only;rw[VZ,hn];rfl
theorem Lm {call:FuncId→List zu→M zu}{g:FuncId}{args m:List zu}{S S1 S2:zS}{v:zu}(h:Yd args S=some (m,S1)) (hc:call g m S1=some (v,S2)) (ha:args.any Z7=true) (hv:Zm (Qm S args) 16 v=true) (hl:S2.log=S1.log):qN call g args S=some (v,S):=by
 unfold qN;rw[h];dsimp only;rw[hc];dsimp only;rw[VZ,ha,hv,hl,beq_self_eq_true,Bool.or_true];rfl
theorem NH {q o n e:Nat}{cs:List zu}{anc:List Nat}{S:zS}(hg:S.get q=some (.cells cs (.own anc) e)) (hl:o+n*e≤cs.length):YB (.slice (some ⟨q,o,none⟩) n n) S=some (SL 1 e n ((cs.drop o).take (n*e)),S.set q .dead):=by
 unfold YB;dsimp only;rw[hg];dsimp only;rw[zN rfl,zN hl]
end Go.Abs
namespace Go.Abs
open Go.RowKit
section
variable {P:Program}{μ μ1:Mu}{S S1 H H1:zS}{ω ω1:Nat→Option wu}
structure Ext (S S1:zS):Prop where
 next:S.next≤S1.next
 get:∀k,k<S.next→S1.get k=S.get k
 log:∃new,S1.log=new++S.log∧∀k∈new,S.next≤k
theorem Ext.refl (S:zS):Ext S S:=⟨Nat.le_refl _,fun _ _=>rfl,[],rfl,fun k h=>by cases h⟩
theorem Ext.trans {S2:zS}(h:Ext S S1) (k:Ext S1 S2):Ext S S2:=⟨Nat.le_trans h.1 k.1,fun q hq=>(k.2 q (Nat.lt_of_lt_of_le hq h.1)).trans (h.2 q hq),by
 obtain⟨n1,e1,f1⟩:=h.log;obtain⟨n2,e2,f2⟩:=k.log;refine⟨n2++n1,by rw[e2,e1,List.append_assoc],fun q hq=>?_⟩
 rcases List.mem_append.1 hq with hq |hq
 ·exact Nat.le_trans h.1 (f2 q hq)
 ·exact f1 q hq⟩
theorem Ext.push (S:zS) (o:yg):Ext S (S.push o):=⟨by simp,fun k hk=>by rw[zS.qO,zM (by omega)],[],rfl,fun k h=>by cases h⟩
theorem Ext.set {S S1:zS}(h:Ext S S1) {r:Nat}(hr:S.next≤r) (o:yg):Ext S (S1.set r o):=⟨by simpa using h.1,fun k hk=>by rw[zS.kM,zM (by omega)];exact h.2 k hk,by
 obtain⟨n1,e1,f1⟩:=h.log;refine⟨r::n1,by rw[zS.bC,e1];rfl,fun q hq=>?_⟩
 rcases List.mem_cons.1 hq with rfl |hq
 ·exact hr
 ·exact f1 q hq⟩
inductive Lower (S:zS) (v1:zu) (S1:zS):zu→Prop
 |same (h:ground v1=true):Lower S v1 S1 v1
 |own {r n e:Nat}{cs:List zu}(hv:v1=.slice (some ⟨r,0,none⟩) n n) (hr:S.next≤r) (hg:S1.get r=some (.cells cs (.own []) e)) (hn:cs.length=n*e) (hs:cs.all sg=true):Lower S v1 S1 (SL 2 e n cs)
end
end Go.Abs
namespace Go.Abs
open Go.RowKit
section
variable {P:Program}{S:zS}{t te tx tex:TypeId}{q o n c e i r:Nat}{cs:List zu}{own:Own}{anc:List Nat}{v x:zu}{hp:Bool}
theorem Yi (a:Addr) (S:zS):WA (.pointer (some a)) S=some (.pointer (some a),S):=Eq.trans rfl rfl
theorem QK (h:S.get q=some (.cells cs own e)) (ha:vK P t=some false) (hv:cs[o]?=some v) (hn:∀l,v≠.agg l):zZ P false t (.pointer (some ⟨q,o,none⟩)) S=some (zQ v,S):=by
 unfold zZ;simp only[zF,if_false];have:qK P t (.pointer (some ⟨q,o,none⟩)) S=some (v,S):=by simp only[qK,h,ha,hv]
 rw[this];split
 ·rename_i l S2 he;cases he;exact absurd rfl (hn _)
 ·rename_i v2 S2 _ he;cases he;rfl
 ·rename_i he;cases he
theorem Zp {k:IntKind}{m:Int}(h:S.get q=some (.cells cs own e)) (ha:vK P t=some false) (hv:cs[o]?=some (.int k m)):zZ P false t (.pointer (some ⟨q,o,none⟩)) S=some (.int k m,S) :=
 QK h ha hv (fun l h=>by cases h)
theorem bg {a:Option Nat}(h:S.get q=some (.cells cs own e)) (ha:vK P t=some false) (hv:cs[o]?=some (.map a)):zZ P false t (.pointer (some ⟨q,o,none⟩)) S=some (.map a,S) :=
 QK h ha hv (fun l h=>by cases h)
theorem Xv (h:S.get q=some (.cells cs own e)) (ha:vK P t=some true) (hs:y7 P t=some n) (hle:o+n≤cs.length):zZ P false t (.pointer (some ⟨q,o,none⟩)) S=some (.agg (((cs.drop o).take n).toArray.map yh),S):=by
 unfold zZ;simp only[zF,if_false];have:qK P t (.pointer (some ⟨q,o,none⟩)) S=some (.agg ((cs.drop o).take n).toArray,S):=by simp only[qK,h,ha,hs,zN hle]
 rw[this]
theorem YT (h:S.get q=some (.cells cs (.own anc) e)) (hs:y7 P t=some n) (hx:x.cells.size=n) (h1:x.cells.toList.all (·.oneCell')=true) (hle:o+n≤cs.length) :
  jI P t (.pointer (some ⟨q,o,none⟩)) x S=some (zh,(S.kills anc).set q (.cells (splice cs o x.cells.toList) (.own []) e)):=by
 simp only[jI,Yx,h,hs,zN hx,zN h1,zN hle]
theorem Oo {k:IntKind}{j:Int}{sz:Nat}(ht:P.underlying t=some (.slice te)) (hs:y7 P te=some sz) (h0:0≤j) (hj:j<n):jZ P t (.slice (some ⟨q,o,none⟩) n c) (.int k j) S=some (.pointer (some ⟨q,o+j.toNat*sz,none⟩),S):=by
 simp only[jZ,Jj,ht,hs];rw[zN ⟨h0,hj⟩]
theorem OQ (ht:P.underlying t=some (.slice te)) (a:Option Addr) (n c:Nat) (S:zS):yK P t (.slice a n c) S=some (goInt n,S):=by
 simp only[yK,Jk,ht]
theorem aaz {k m:Nat}{ds:List zu}(htx:P.underlying tx=some (.slice tex)) (hx:Yu k m ds) (hm:ds.length=m*e) (h2:ds.all (·.oneCell')=true):KZ P tx e (sv k e m ds)=some (m,ds):=by
 obtain⟨e',q1,q2⟩:=dQ (e:=e) hx;have hns:∀s,sv k e m ds≠.string s:=by intro s;unfold sv;split<;>(intro h;cases h)
 have hcond:m=0∨e'=e:=q2.elim .inr fun h=>.inl h.1
 unfold KZ;split
 ·rename_i s hs;exact absurd hs (hns s)
 ·simp only[htx,q1,zN hcond,zN hm,h2,if_true]
theorem Gf {k m:Nat}{ds:List zu}(htx:P.underlying tx=some (.slice tex)) (hx:Yu k m ds) (hm:ds.length=m*e) (h2:ds.all (·.oneCell')=true):YU P tx e (sv k e m ds) S=some (m,ds):=by
 unfold YU;rw[Vk];exact aaz htx hx hm h2
theorem oJ {bytes k:Nat}{z:zu}{news:List zu}(hel:P.underlying t=some (.slice te)) (he:y7 P te=some e) (hz:zeroOf P te=some z) (hzs:z.cells.size=e) (hb:bytesOf P te=some bytes) (hpos:0<e) (hsrc:YU P tx e x S=some (k,news))
  (hg:S.get q=some (.cells cs (.own anc) e)) (hle:o+n*e≤cs.length) (hmax:(n+k)*bytes≤140737488355328) (hmax2:n+k≤4611686018427387903) (h1:((cs.drop o).take (n*e)).all (·.oneCell')=true) :
  WX P hp t tx (.slice (some ⟨q,o,none⟩) n c) x S=some (.slice (some ⟨S.next,0,none⟩) (n+k) (n+k),
   if o+n*e=cs.length then(S.set q (.cells cs .ro e)).push (.cells ((cs.drop o).take (n*e)++news) (.own (if n*e=0 then []else q::anc)) e)
   else((S.kills anc).set q .dead).push (.cells ((cs.drop o).take (n*e)++news) (.own []) e)):=by
 have hel2:JQ P t=some te:=by simp only[JQ,hel]
 simp only[WX,hel2,he,hz,hb,zN hpos,zN hzs,hsrc,hg,if_true,zN hle,zN hmax,zN hmax2,zN h1,WL];by_cases h:o+n*e=cs.length
 ·rw[zN h,zN h]
 ·rw[zM h,zM h]
theorem pV :∀(l:List UInt8),Z5 (l.flatMap cb)=some l
 | []=>rfl
 |b::l=>by
  simp only[List.flatMap_cons,cb,List.singleton_append,Z5,Xj,pV l]
  congr 2
  simp
theorem UN {src dst:TypeId}{l:List UInt8} {dr:Bool}(hd:dr=false) (hs:P.underlying src=some (.slice te)) (hu:P.underlying te=some (.int .u8)) (ht:P.underlying dst=some .string) (hg:S.get q=some (.cells cs own e)) (hle:o+n≤cs.length) (hl:(cs.drop o).take n=l.flatMap cb) :
  qB P hp dr src dst (.slice (some ⟨q,o,none⟩) n c) S=some (.string ⟨l.toArray⟩,S):=by
 subst hd;simp only[qB,xQ,if_true,zF,if_false,qc,hs,ht,hu,Ze,hg,zN hle,hl,pV]
end
theorem WO {α:Type}{f:α→List zu}{e k d:Nat}{l:List α}(hk:k≤2) (h:∀x∈l,(f x).all (jw d)=true):jw (d+4) (vs f e k l)=true:=by
 unfold vs sv;split
 ·rfl
 ·show((l.flatMap f).toArray.toList.all (jw d))=true;rw[zD,List.all_flatMap,List.all_eq_true];exact h
theorem vU {k d:Nat}{l:List UInt8} (hk:k≤2):jw (d+5) (jk k l)=true:=WO hk (fun _ _=>rfl)
theorem LP {k d:Nat}{l:List Int}(hk:k≤2):jw (d+5) (iz k l)=true:=WO hk (fun _ _=>rfl)
theorem gu {l:List zu}{d:Nat}(h:l.all (jw d)=true):jw (d+1) (.agg l.toArray)=true:=by
 show l.toArray.toList.all (jw d)=true;simpa using h
theorem Zx {l:List zu}{d:Nat}(h:l.all (jw d)=true):jw (d+1) (.tuple l.toArray)=true:=by
 show l.toArray.toList.all (jw d)=true;simpa using h
theorem all1 {p:zu→Bool}{a:zu}(h:p a=true):[a].all p=true:=by simp[h]
theorem all2 {p:zu→Bool}{a b:zu}(h:p a=true) (k:p b=true):[a,b].all p=true:=by simp[h,k]
theorem Ia {p:zu→Bool}{a b c:zu}(h:p a=true) (k:p b=true) (j:p c=true):[a,b,c].all p=true:=by simp[h,k,j]
theorem LG {k e n:Nat}{cs:List zu}:(sv k e n cs).cells=#[sv k e n cs]:=by unfold sv;split<;>rfl
theorem WM {α:Type}{f:α→List zu}{e k:Nat}{l:List α}:(vs f e k l).cells=#[vs f e k l]:=LG
theorem MI {k e n:Nat}{cs:List zu}:yh (sv k e n cs)=sv (if k=2 then 1 else k) e n cs:=by rw[←aO];unfold sv;split<;>rfl
theorem aK {α:Type}{f:α→List zu}{e k:Nat}{l:List α}:yh (vs f e k l)=vs f e (if k=2 then 1 else k) l:=MI
theorem Yc {k:IntKind}{n:Int}:yh (.int k n)=.int k n:=rfl
theorem Zf {x:Array zu}:(Value.agg x).cells=x:=rfl
theorem vJ {k:IntKind}{n:Int}:(Value.int k n).cells=#[.int k n]:=rfl
@[simp] theorem rW (a:Option Addr) (n c:Nat):zQ (.slice a n c)=.slice a n c:=Eq.trans rfl rfl
@[simp] theorem rQ (a:Option Nat):zQ (.map a)=.map a:=Eq.trans rfl rfl
theorem wrap_i64 {n:Int}(h0:-9223372036854775808≤n) (h:n<9223372036854775808):IntKind.i64.wrap n=n:=by
 simp[IntKind.wrap,IntKind.bits,IntKind.signed];split<;>omega
theorem aZ {l pre suf:List Int}{n:Int}(hl:l=pre++n::suf) (h:Int.toNat (pre.length:Int)<l.length):l[Int.toNat (pre.length:Int)]=n:=by
 subst hl;simp
theorem Qu {α:Type}{l pre suf:List α}{n:α}(hl:l=pre++n::suf) (h:Int.toNat (pre.length:Int)<l.length):l[Int.toNat (pre.length:Int)]=n:=by
 subst hl;simp
theorem JM (k:Nat):(if(if k=2 then 1 else k)=2 then 1 else if k=2 then 1 else k)=if k=2 then 1 else k:=by split<;>simp_all
theorem Qy (k:Nat):(if k=2 then 1 else k)≠2:=by split<;>omega
theorem EX (Sa Sb:zS):y8 zh Sa Sb=true:=rfl
theorem Yo (cs:List zu) (Sa Sb:zS):y8 (EP cs) Sa Sb=true:=rfl
theorem ZG {q o e:Nat}{cs:List zu}{own:Own}{S:zS}(h:S.get q=some (.cells cs own e)):y8 (.pointer (some ⟨q,o,none⟩)) S S=true:=by
 simp only[y8,h,Nat.sub_self,List.take_zero,List.contains_nil,Bool.not_false,Bool.and_self]
theorem dB {q o e:Nat}{cs:List zu}{own:Own}{S S1:zS}(h:S.get q=some (.cells cs own e)) (hq:q<S.next) (hE:Ext S S1):y8 (.pointer (some ⟨q,o,none⟩)) S S1=true:=by
 obtain⟨new,h1,h2⟩:=hE.log;simp only[y8,h,h1,List.length_append,Nat.add_sub_cancel,List.take_left,Bool.true_and,Bool.not_eq_true',List.contains_eq_mem,decide_eq_false_iff_not];intro hm;have:=h2 q hm;omega
end Go.Abs
namespace Go.Abs
open Go.RowKit
section
variable {P:Program}{fx:Fx}{chk:List Nat}{call:FuncId→List zu→M zu}{ops:Array Oper}
theorem sP (f:Func) (i n:Nat) {l:List Oper}{T:List zu}{T1:zu→List zu}{S:zS}{v:zu}{r:Option (List zu×zS)}(hK:zW P fx call ops ((reg f i).toList.drop (n+1)) (T1 v) S=r) (hl:l=(opAt f i n)::((reg f i).toList.drop (n+1)):=by kernel_rfl) (hg:(opAt f i n).guard=none:=by kernel_rfl) (hm:∀v,qH (opAt f i n) ((reg f i).toList.drop (n+1)) T v=T1 v:=by exact fun _=>rfl) (hs:yV P fx call T (opAt f i n) S=some (v,S):=by kernel_rfl):zW P fx call ops l T S=r :=
 aax hl hg hm hs hK
theorem sD (f:Func) (i n:Nat) {l:List Oper}{T:List zu}{T1:zu→List zu}{S:zS}{s:Option (zu×zS)}{K:zu→zS→Option (List zu×zS)}(hK:∀v S1,zW P fx call ops ((reg f i).toList.drop (n+1)) (T1 v) S1=K v S1) (hl:l=(opAt f i n)::((reg f i).toList.drop (n+1)):=by kernel_rfl) (hg:(opAt f i n).guard=none:=by kernel_rfl) (hm:∀v,qH (opAt f i n) ((reg f i).toList.drop (n+1)) T v=T1 v:=by exact fun _=>rfl) (hs:yV P fx call T (opAt f i n) S=s:=by kernel_rfl):zW P fx call ops l T S=zT s K () :=
 aat hl hg hm hs hK
theorem sG (f:Func) (i n:Nat) {l:List Oper}{T:List zu}{T1:zu→List zu}{S:zS}{j:Nat}{b:Bool}{g:zu}{s:M zu}{K:zu→zS→Option (List zu×zS)}(hK:∀v S1,zW P fx call ops ((reg f i).toList.drop (n+1)) (T1 v) S1=K v S1) (hl:l=(opAt f i n)::((reg f i).toList.drop (n+1)):=by kernel_rfl) (hg:(opAt f i n).guard=some (j,b):=by kernel_rfl) (hm:∀v,qH (opAt f i n) ((reg f i).toList.drop (n+1)) T v=T1 v:=by exact fun _=>rfl) (hy:kD ops T j=vb g:=by kernel_rfl) (hs:yV P fx call T (opAt f i n) S=s S:=by kernel_rfl):zW P fx call ops l T S=zY g b s S K () :=
 aau hl hg hm hy hs hK
theorem tD (f:Func) (i n:Nat) {l:List Oper}{T:List zu}{T1:zu→List zu}{S:zS}{k:Nat}{s:Option (zu×zS)}{K:zu→zS→Option (List zu×zS)}(hK:∀v S1,yu P fx chk [] call ops (k+1) [] ((reg f i).toList.drop (n+1)) (T1 v) S1=K v S1) (hc:chk.contains k=false:=by kernel_rfl) (hl:l=(opAt f i n)::((reg f i).toList.drop (n+1)):=by kernel_rfl) (hg:(opAt f i n).guard=none:=by kernel_rfl) (hm:∀v,qH (opAt f i n) ((reg f i).toList.drop (n+1)) T v=T1 v:=by exact fun _=>rfl) (hs:yV P fx call T (opAt f i n) S=s:=by kernel_rfl):yu P fx chk [] call ops k [] l T S=zT s K () :=
 aah hc hl hg hm hs hK
theorem tP (f:Func) (i n:Nat) {l:List Oper}{T:List zu}{T1:zu→List zu}{S:zS}{k:Nat}{v:zu}{r:Option (List zu×zS)}(hK:yu P fx chk [] call ops (k+1) [] ((reg f i).toList.drop (n+1)) (T1 v) S=r) (hc:chk.contains k=false:=by kernel_rfl) (hl:l=(opAt f i n)::((reg f i).toList.drop (n+1)):=by kernel_rfl) (hg:(opAt f i n).guard=none:=by kernel_rfl) (hm:∀v,qH (opAt f i n) ((reg f i).toList.drop (n+1)) T v=T1 v:=by exact fun _=>rfl) (hs:yV P fx call T (opAt f i n) S=some (v,S):=by kernel_rfl):yu P fx chk [] call ops k [] l T S=r :=
 aal hc hl hg hm hs hK
theorem UO (f:Func) (i n:Nat) {l:List Oper}{T:List zu}{T1:zu→List zu}{S:zS}{k:Nat}{v:zu}{r:Option (List zu×zS)}(hK:yu P fx chk [] call ops (k+1) [] ((reg f i).toList.drop (n+1)) (T1 v) S=r) (hc:chk.contains k=true:=by kernel_rfl) (hl:l=(opAt f i n)::((reg f i).toList.drop (n+1)):=by kernel_rfl) (hg:(opAt f i n).guard=none:=by kernel_rfl) (hm:∀v,qH (opAt f i n) ((reg f i).toList.drop (n+1)) T v=T1 v:=by exact fun _=>rfl) (hs:yV P fx call T (opAt f i n) S=some (v,S):=by kernel_rfl):yu P fx chk [] call ops k [] l T S=jK v r () :=
 aam hc hl hg hm hs hK
theorem tG (f:Func) (i n:Nat) {l:List Oper}{T:List zu}{T1:zu→List zu}{S:zS}{j k:Nat}{b:Bool}{g:zu}{s:M zu}{K:zu→zS→Option (List zu×zS)}(hK:∀v S1,yu P fx chk [] call ops (k+1) [] ((reg f i).toList.drop (n+1)) (T1 v) S1=K v S1) (hc:chk.contains k=false:=by kernel_rfl) (hl:l=(opAt f i n)::((reg f i).toList.drop (n+1)):=by kernel_rfl) (hg:(opAt f i n).guard=some (j,b):=by kernel_rfl) (hm:∀v,qH (opAt f i n) ((reg f i).toList.drop (n+1)) T v=T1 v:=by exact fun _=>rfl) (hy:kD ops T j=vb g:=by kernel_rfl) (hs:yV P fx call T (opAt f i n) S=s S:=by kernel_rfl):yu P fx chk [] call ops k [] l T S=zY g b s S K () :=
 aai hc hl hg hm hy hs hK
theorem uD (f:Func) (i n:Nat) {l:List Oper}{T:List zu}{T1:zu→List zu}{S:zS}{k:Nat}{s:Option (zu×zS)}{K:zu→zS→Option (List zu×zS)}{x:Nat×Nat}{nl:List (Nat×Nat)}{hist:List (zu×zS)}{pe:zu}(hK:∀v S1,yu P fx chk (x::nl) call ops (k+1) (hist++[(pe,S)]) ((reg f i).toList.drop (n+1)) (T1 v) S1=K v S1) (hc:chk.contains k=false:=by kernel_rfl) (hpe:xR T (opAt f i n)=pe:=by kernel_rfl) (hl:l=(opAt f i n)::((reg f i).toList.drop (n+1)):=by kernel_rfl) (hg:(opAt f i n).guard=none:=by kernel_rfl) (hm:∀v,qH (opAt f i n) ((reg f i).toList.drop (n+1)) T v=T1 v:=by exact fun _=>rfl) (hs:yV P fx call T (opAt f i n) S=s:=by kernel_rfl):yu P fx chk (x::nl) call ops k hist l T S=zT s K () :=
 aan hc hpe hl hg hm hs hK
theorem yH (f:Func) (i n:Nat) {l:List Oper}{T:List zu}{T1:zu→List zu}{S:zS}{k:Nat}{s:Option (zu×zS)}{K:zu→zS→Option (List zu×zS)}{x:Nat×Nat}{nl:List (Nat×Nat)}{hist:List (zu×zS)}{pe:zu}(hK:∀v S1,yu P fx chk (x::nl) call ops (k+1) (hist++[(pe,S)]) ((reg f i).toList.drop (n+1)) (T1 v) S1=K v S1) (hc:chk.contains k=true:=by kernel_rfl) (hpe:xR T (opAt f i n)=pe:=by kernel_rfl) (hl:l=(opAt f i n)::((reg f i).toList.drop (n+1)):=by kernel_rfl) (hg:(opAt f i n).guard=none:=by kernel_rfl) (hm:∀v,qH (opAt f i n) ((reg f i).toList.drop (n+1)) T v=T1 v:=by exact fun _=>rfl) (hs:yV P fx call T (opAt f i n) S=s:=by kernel_rfl):yu P fx chk (x::nl) call ops k hist l T S=zT s (fun v S1=>jK v (K v S1) ()) () :=
 aao hc hpe hl hg hm hs hK
theorem uP (f:Func) (i n:Nat) {l:List Oper}{T:List zu}{T1:zu→List zu}{S:zS}{k:Nat}{v:zu}{r:Option (List zu×zS)}{x:Nat×Nat}{nl:List (Nat×Nat)}{hist:List (zu×zS)}{pe:zu}(hK:yu P fx chk (x::nl) call ops (k+1) (hist++[(pe,S)]) ((reg f i).toList.drop (n+1)) (T1 v) S=r) (hc:chk.contains k=false:=by kernel_rfl) (hpe:xR T (opAt f i n)=pe:=by kernel_rfl) (hl:l=(opAt f i n)::((reg f i).toList.drop (n+1)):=by kernel_rfl) (hg:(opAt f i n).guard=none:=by kernel_rfl) (hm:∀v,qH (opAt f i n) ((reg f i).toList.drop (n+1)) T v=T1 v:=by exact fun _=>rfl) (hs:yV P fx call T (opAt f i n) S=some (v,S):=by kernel_rfl):yu P fx chk (x::nl) call ops k hist l T S=r :=
 aar hc hpe hl hg hm hs hK
theorem Zb (f:Func) (i n:Nat) {l:List Oper}{T:List zu}{T1:zu→List zu}{S:zS}{k:Nat}{v:zu}{r:Option (List zu×zS)}{x:Nat×Nat}{nl:List (Nat×Nat)}{hist:List (zu×zS)}{pe:zu}(hK:yu P fx chk (x::nl) call ops (k+1) (hist++[(pe,S)]) ((reg f i).toList.drop (n+1)) (T1 v) S=r) (hc:chk.contains k=true:=by kernel_rfl) (hpe:xR T (opAt f i n)=pe:=by kernel_rfl) (hl:l=(opAt f i n)::((reg f i).toList.drop (n+1)):=by kernel_rfl) (hg:(opAt f i n).guard=none:=by kernel_rfl) (hm:∀v,qH (opAt f i n) ((reg f i).toList.drop (n+1)) T v=T1 v:=by exact fun _=>rfl) (hs:yV P fx call T (opAt f i n) S=some (v,S):=by kernel_rfl):yu P fx chk (x::nl) call ops k hist l T S=jK v r () :=
 aas hc hpe hl hg hm hs hK
theorem uG (f:Func) (i n:Nat) {l:List Oper}{T:List zu}{T1:zu→List zu}{S:zS}{j k:Nat}{b:Bool}{g:zu}{s:M zu}{K:zu→zS→Option (List zu×zS)}{x:Nat×Nat}{nl:List (Nat×Nat)}{hist:List (zu×zS)}{pe:zu}(hK:∀v S1,yu P fx chk (x::nl) call ops (k+1) (hist++[(pe,S)]) ((reg f i).toList.drop (n+1)) (T1 v) S1=K v S1) (hc:chk.contains k=false:=by kernel_rfl) (hpe:xR T (opAt f i n)=pe:=by kernel_rfl) (hl:l=(opAt f i n)::((reg f i).toList.drop (n+1)):=by kernel_rfl) (hg:(opAt f i n).guard=some (j,b):=by kernel_rfl) (hm:∀v,qH (opAt f i n) ((reg f i).toList.drop (n+1)) T v=T1 v:=by exact fun _=>rfl) (hy:kD ops T j=vb g:=by kernel_rfl) (hs:yV P fx call T (opAt f i n) S=s S:=by kernel_rfl):yu P fx chk (x::nl) call ops k hist l T S=zY g b s S K () :=
 aap hc hpe hl hg hm hy hs hK
theorem U6 (f:Func) (i n:Nat) {l:List Oper}{T:List zu}{T1:zu→List zu}{S:zS}{j k:Nat}{b:Bool}{g:zu}{s:M zu}{K:zu→zS→Option (List zu×zS)}{x:Nat×Nat}{nl:List (Nat×Nat)}{hist:List (zu×zS)}{pe:zu}(hK:∀v S1,yu P fx chk (x::nl) call ops (k+1) (hist++[(pe,S)]) ((reg f i).toList.drop (n+1)) (T1 v) S1=K v S1) (hc:chk.contains k=true:=by kernel_rfl) (hpe:xR T (opAt f i n)=pe:=by kernel_rfl) (hl:l=(opAt f i n)::((reg f i).toList.drop (n+1)):=by kernel_rfl) (hg:(opAt f i n).guard=some (j,b):=by kernel_rfl) (hm:∀v,qH (opAt f i n) ((reg f i).toList.drop (n+1)) T v=T1 v:=by exact fun _=>rfl) (hy:kD ops T j=vb g:=by kernel_rfl) (hs:yV P fx call T (opAt f i n) S=s S:=by kernel_rfl):yu P fx chk (x::nl) call ops k hist l T S=Y7 g b s S K () :=
 aaq hc hpe hl hg hm hy hs hK
end
end Go.Abs
namespace Go.Proofs.Ytfjogganfjkckaa
open Go.Abs
def O :J9:=⟨fun _=>none,fun f=>([4,10,12]:List Nat).contains f,fun f=>([9,13,14,15,16,17,18,19,22,23,24,26,27,30,31,32,34,36,37,42,45,46,48,50,52,56,57,58,62,64,65,66,67,68,69,70,71,73]:List Nat).contains f⟩
theorem Rt :XO zi O:=Rq
section
noncomputable def jr.jg :Code:=(.seq (.region 20 (reg Try.f4 20) false) (.seq (.cond (.tmp 68) Code.skip (.exit 2)) (.seq (.block 3 (.seq (.region 21 (reg Try.f4 21) false) (.region 22 (reg Try.f4 22) false))) (.region 23 (reg Try.f4 23) false))))
noncomputable def jr.qE :Code:=(.seq (.region 8 (reg Try.f4 8) false) (.seq (.cond (.tmp 34) Code.skip (.exit 0)) (.seq (.block 1 (.seq (.region 9 (reg Try.f4 9) false) (.seq (.region 10 (reg Try.f4 10) false) (.seq (.seq (.region 11 (reg Try.f4 11) false) (.cond (.tmp 43) (.seq (.region 12 (reg Try.f4 12) false) (.region 13 (reg Try.f4 13) false)) (.seq (.region 14 (reg Try.f4 14) false) (.seq (.region 15 (reg Try.f4 15) false) (.seq (.region 16 (reg Try.f4 16) false) (.seq (.region 17 (reg Try.f4 17) false) (.cond (.tmp 64) (.seq (.region 18 (reg Try.f4 18) false) Code.ret) Code.skip))))))) (.seq (.region 19 (reg Try.f4 19) false) (.block 2 (.loop jr.jg))))))) (.region 24 (reg Try.f4 24) false))))
noncomputable def jr.Qc :Code:=(.seq (.seq (.region 26 (reg Try.f4 26) false) (.cond (.tmp 79) Code.skip (.exit 4))) (.seq (.block 5 (.seq (.region 28 (reg Try.f4 28) true) (.cond (.tmp 88) (.seq (.region 29 (reg Try.f4 29) false) Code.ret) Code.skip))) (.region 27 (reg Try.f4 27) false)))
noncomputable def jr.code :Code:=(.seq (.region 0 (reg Try.f4 0) false) (.seq (.seq (.region 1 (reg Try.f4 1) false) (.cond (.tmp 16) (.seq (.region 2 (reg Try.f4 2) false) Code.ret) Code.skip)) (.seq (.seq (.region 3 (reg Try.f4 3) false) (.cond (.tmp 24) (.seq (.region 4 (reg Try.f4 4) false) Code.ret) Code.skip)) (.seq (.region 5 (reg Try.f4 5) false) (.seq (.region 6 (reg Try.f4 6) false) (.seq (.seq (.region 7 (reg Try.f4 7) false) (.block 0 (.loop jr.qE))) (.seq (.seq (.region 25 (reg Try.f4 25) false) (.block 4 (.loop jr.Qc))) (.seq (.region 30 (reg Try.f4 30) false) Code.ret))))))))
theorem jr.body :Try.f4.body=some jr.code:=by kernel_rfl
theorem jr.eta {T:List zu}(h:T.length=89):T=[T.getD 0 zh,T.getD 1 zh,T.getD 2 zh,T.getD 3 zh,T.getD 4 zh,T.getD 5 zh,T.getD 6 zh,T.getD 7 zh,T.getD 8 zh,T.getD 9 zh,T.getD 10 zh,T.getD 11 zh,T.getD 12 zh,T.getD 13 zh,T.getD 14 zh,T.getD 15 zh,T.getD 16 zh,T.getD 17 zh,T.getD 18 zh,T.getD 19 zh,T.getD 20 zh,T.getD 21 zh,T.getD 22 zh,T.getD 23 zh,T.getD 24 zh,T.getD 25 zh,T.getD 26 zh,T.getD 27 zh,T.getD 28 zh,T.getD 29 zh,T.getD 30 zh,T.getD 31 zh,T.getD 32 zh,T.getD 33 zh,T.getD 34 zh,T.getD 35 zh,T.getD 36 zh,T.getD 37 zh,T.getD 38 zh,T.getD 39 zh,T.getD 40 zh,T.getD 41 zh,T.getD 42 zh,T.getD 43 zh,T.getD 44 zh,T.getD 45 zh,T.getD 46 zh,T.getD 47 zh,T.getD 48 zh,T.getD 49 zh,T.getD 50 zh,T.getD 51 zh,T.getD 52 zh,T.getD 53 zh,T.getD 54 zh,T.getD 55 zh,T.getD 56 zh,T.getD 57 zh,T.getD 58 zh,T.getD 59 zh,T.getD 60 zh,T.getD 61 zh,T.getD 62 zh,T.getD 63 zh,T.getD 64 zh,T.getD 65 zh,T.getD 66 zh,T.getD 67 zh,T.getD 68 zh,T.getD 69 zh,T.getD 70 zh,T.getD 71 zh,T.getD 72 zh,T.getD 73 zh,T.getD 74 zh,T.getD 75 zh,T.getD 76 zh,T.getD 77 zh,T.getD 78 zh,T.getD 79 zh,T.getD 80 zh,T.getD 81 zh,T.getD 82 zh,T.getD 83 zh,T.getD 84 zh,T.getD 85 zh,T.getD 86 zh,T.getD 87 zh,T.getD 88 zh]:=(ZE T 89 h).trans (by kernel_rfl)
variable (x0 x1 x2 x3 x4 x5 x6 x7 x8 x9 f k g c b o p q r s t u w x y z A B C D E l m i F G H I J K L M N P Q R U V W X Y Z a0 a1 a2 a3 a4 a5 a6 a7 a8 a9 b0 b1 b2 b3 n d b4 b5 b6 b7 b8 b9 c0 c1 c2 c3 c4 c5 c6 c7 c8 c9 d0 d1 d2 d3 d4:zu) (S:zS)
theorem jr.r0 :zW zi ⟨true,false,false⟩ (wW O.hp true (zU zi O)) (reg Try.f4 0) (reg Try.f4 0).toList ([x0,x1,x2,x3,x4,x5,x6,x7,x8,x9,f,k,g,c,b,o,p,q,r,s,t,u,w,x,y,z,A,B,C,D,E,l,m,i,F,G,H,I,J,K,L,M,N,P,Q,R,U,V,W,X,Y,Z,a0,a1,a2,a3,a4,a5,a6,a7,a8,a9,b0,b1,b2,b3,n,d,b4,b5,b6,b7,b8,b9,c0,c1,c2,c3,c4,c5,c6,c7,c8,c9,d0,d1,d2,d3,d4]) S =
  ( some ([x0,x1,x2,x3,Value.bool false,x5,x6,x7,x8,x9,f,k,g,c,b,o,p,q,r,s,t,u,w,x,y,z,A,B,C,D,E,l,m,i,F,G,H,I,J,K,L,M,N,P,Q,R,U,V,W,X,Y,Z,a0,a1,a2,a3,a4,a5,a6,a7,a8,a9,b0,b1,b2,b3,n,d,b4,b5,b6,b7,b8,b9,c0,c1,c2,c3,c4,c5,c6,c7,c8,c9,d0,d1,d2,d3,d4],S)):=by kernel_rfl
theorem jr.r1 :zW zi ⟨true,false,false⟩ (wW O.hp true (zU zi O)) (reg Try.f4 1) (reg Try.f4 1).toList ([x0,x1,x2,x3,x4,x5,x6,x7,x8,x9,f,k,g,c,b,o,p,q,r,s,t,u,w,x,y,z,A,B,C,D,E,l,m,i,F,G,H,I,J,K,L,M,N,P,Q,R,U,V,W,X,Y,Z,a0,a1,a2,a3,a4,a5,a6,a7,a8,a9,b0,b1,b2,b3,n,d,b4,b5,b6,b7,b8,b9,c0,c1,c2,c3,c4,c5,c6,c7,c8,c9,d0,d1,d2,d3,d4]) S =
  (zT (qN (zU zi O) 9 [] S) (fun v0 S1=>zT (qo zi UnOp.not v0 S1) (fun v1 S2=>some ([x0,x1,x2,x3,x4,x5,x6,x7,x8,x9,f,k,g,c,b,v0,v1,q,r,s,t,u,w,x,y,z,A,B,C,D,E,l,m,i,F,G,H,I,J,K,L,M,N,P,Q,R,U,V,W,X,Y,Z,a0,a1,a2,a3,a4,a5,a6,a7,a8,a9,b0,b1,b2,b3,n,d,b4,b5,b6,b7,b8,b9,c0,c1,c2,c3,c4,c5,c6,c7,c8,c9,d0,d1,d2,d3,d4],S2)) ()) ()):=by kernel_rfl
theorem jr.r2 :zW zi ⟨true,false,false⟩ (wW O.hp true (zU zi O)) (reg Try.f4 2) (reg Try.f4 2).toList ([x0,x1,x2,x3,x4,x5,x6,x7,x8,x9,f,k,g,c,b,o,p,q,r,s,t,u,w,x,y,z,A,B,C,D,E,l,m,i,F,G,H,I,J,K,L,M,N,P,Q,R,U,V,W,X,Y,Z,a0,a1,a2,a3,a4,a5,a6,a7,a8,a9,b0,b1,b2,b3,n,d,b4,b5,b6,b7,b8,b9,c0,c1,c2,c3,c4,c5,c6,c7,c8,c9,d0,d1,d2,d3,d4]) S =
  ( some ([x0,x1,x2,x3,Value.bool false,x5,x6,x7,x8,x9,f,k,g,c,b,o,p,q,r,s,t,u,w,x,y,z,A,B,C,D,E,l,m,i,F,G,H,I,J,K,L,M,N,P,Q,R,U,V,W,X,Y,Z,a0,a1,a2,a3,a4,a5,a6,a7,a8,a9,b0,b1,b2,b3,n,d,b4,b5,b6,b7,b8,b9,c0,c1,c2,c3,c4,c5,c6,c7,c8,c9,d0,d1,d2,d3,d4],S)):=by kernel_rfl
theorem jr.r3 :zW zi ⟨true,false,false⟩ (wW O.hp true (zU zi O)) (reg Try.f4 3) (reg Try.f4 3).toList ([x0,x1,x2,x3,x4,x5,x6,x7,x8,x9,f,k,g,c,b,o,p,q,r,s,t,u,w,x,y,z,A,B,C,D,E,l,m,i,F,G,H,I,J,K,L,M,N,P,Q,R,U,V,W,X,Y,Z,a0,a1,a2,a3,a4,a5,a6,a7,a8,a9,b0,b1,b2,b3,n,d,b4,b5,b6,b7,b8,b9,c0,c1,c2,c3,c4,c5,c6,c7,c8,c9,d0,d1,d2,d3,d4]) S =
  (zT (yK zi 28 (zQ x1) S) (fun v1 S1=>zT (jd zi BinOp.gtr 3 v1 (.int .i64 60) S1) (fun v2 S2=>zY (zQ v2) false (ret x0) S2 (fun v4 S3=>zY (zQ v2) false (yK zi 24 (zQ v4)) S3 (fun v5 S4=>zY (zQ v2) false (jd zi BinOp.gtr 3 v5 (.int .i64 20)) S4 (fun v6 S5=>zT (jH (zQ v2) (Value.bool true) v6 S5) (fun v7 S6=>some ([x0,x1,x2,x3,x4,x5,x6,x7,x8,x9,f,k,g,c,b,o,p,zQ x1,v1,v2,zQ v2,zQ v4,v5,v6,v7,z,A,B,C,D,E,l,m,i,F,G,H,I,J,K,L,M,N,P,Q,R,U,V,W,X,Y,Z,a0,a1,a2,a3,a4,a5,a6,a7,a8,a9,b0,b1,b2,b3,n,d,b4,b5,b6,b7,b8,b9,c0,c1,c2,c3,c4,c5,c6,c7,c8,c9,d0,d1,d2,d3,d4],S6)) ()) ()) ()) ()) ()) ()):=by
 refine sP Try.f4 3 0 (v:=x1) ?_;refine sD Try.f4 3 1 (fun v1 S1=>?_)
 refine sD Try.f4 3 2 (fun v2 S2=>?_)
 refine sP Try.f4 3 3 (v:=v2) ?_;refine sG Try.f4 3 4 (j:=3) (fun v4 S3=>?_)
 refine sG Try.f4 3 5 (j:=3) (fun v5 S4=>?_)
 refine sG Try.f4 3 6 (j:=3) (fun v6 S5=>?_)
 refine sD Try.f4 3 7 (fun v7 S6=>?_)
 kernel_rfl
theorem jr.r4 :zW zi ⟨true,false,false⟩ (wW O.hp true (zU zi O)) (reg Try.f4 4) (reg Try.f4 4).toList ([x0,x1,x2,x3,x4,x5,x6,x7,x8,x9,f,k,g,c,b,o,p,q,r,s,t,u,w,x,y,z,A,B,C,D,E,l,m,i,F,G,H,I,J,K,L,M,N,P,Q,R,U,V,W,X,Y,Z,a0,a1,a2,a3,a4,a5,a6,a7,a8,a9,b0,b1,b2,b3,n,d,b4,b5,b6,b7,b8,b9,c0,c1,c2,c3,c4,c5,c6,c7,c8,c9,d0,d1,d2,d3,d4]) S =
  ( some ([x0,x1,x2,x3,Value.bool true,x5,x6,x7,x8,x9,f,k,g,c,b,o,p,q,r,s,t,u,w,x,y,z,A,B,C,D,E,l,m,i,F,G,H,I,J,K,L,M,N,P,Q,R,U,V,W,X,Y,Z,a0,a1,a2,a3,a4,a5,a6,a7,a8,a9,b0,b1,b2,b3,n,d,b4,b5,b6,b7,b8,b9,c0,c1,c2,c3,c4,c5,c6,c7,c8,c9,d0,d1,d2,d3,d4],S)):=by kernel_rfl
theorem jr.r5 :zW zi ⟨true,false,false⟩ (wW O.hp true (zU zi O)) (reg Try.f4 5) (reg Try.f4 5).toList ([x0,x1,x2,x3,x4,x5,x6,x7,x8,x9,f,k,g,c,b,o,p,q,r,s,t,u,w,x,y,z,A,B,C,D,E,l,m,i,F,G,H,I,J,K,L,M,N,P,Q,R,U,V,W,X,Y,Z,a0,a1,a2,a3,a4,a5,a6,a7,a8,a9,b0,b1,b2,b3,n,d,b4,b5,b6,b7,b8,b9,c0,c1,c2,c3,c4,c5,c6,c7,c8,c9,d0,d1,d2,d3,d4]) S =
  (zT (Ji zi 24 0 [] S) (fun v0 S1=>zT (WX zi true 24 24 v0 (zQ x0) S1) (fun v2 S2=>zT (qN (zU zi O) 8 [(zQ v2)] S2) (fun v3 S3=>some ([x0,x1,x2,x3,x4,v3,x6,x7,x8,x9,f,k,g,c,b,o,p,q,r,s,t,u,w,x,y,zQ v0,zQ x0,v2,zQ v3,D,E,l,m,i,F,G,H,I,J,K,L,M,N,P,Q,R,U,V,W,X,Y,Z,a0,a1,a2,a3,a4,a5,a6,a7,a8,a9,b0,b1,b2,b3,n,d,b4,b5,b6,b7,b8,b9,c0,c1,c2,c3,c4,c5,c6,c7,c8,c9,d0,d1,d2,d3,d4],S3)) ()) ()) ()):=by kernel_rfl
theorem jr.r6 :zW zi ⟨true,false,false⟩ (wW O.hp true (zU zi O)) (reg Try.f4 6) (reg Try.f4 6).toList ([x0,x1,x2,x3,x4,x5,x6,x7,x8,x9,f,k,g,c,b,o,p,q,r,s,t,u,w,x,y,z,A,B,C,D,E,l,m,i,F,G,H,I,J,K,L,M,N,P,Q,R,U,V,W,X,Y,Z,a0,a1,a2,a3,a4,a5,a6,a7,a8,a9,b0,b1,b2,b3,n,d,b4,b5,b6,b7,b8,b9,c0,c1,c2,c3,c4,c5,c6,c7,c8,c9,d0,d1,d2,d3,d4]) S =
  (zT (wS zi 32 [(0,(zQ (zQ x0)))] S) (fun v1 S1=>zT (wR zi 32 S1) (fun v2 S2=>zT (jI zi 32 v2 (zQ v1) S2) (fun v3 S3=>some ([x0,x1,x2,x3,x4,x5,v2,x7,x8,x9,f,k,g,c,b,o,p,q,r,s,t,u,w,x,y,z,A,B,C,zQ x0,v1,l,m,i,F,G,H,I,J,K,L,M,N,P,Q,R,U,V,W,X,Y,Z,a0,a1,a2,a3,a4,a5,a6,a7,a8,a9,b0,b1,b2,b3,n,d,b4,b5,b6,b7,b8,b9,c0,c1,c2,c3,c4,c5,c6,c7,c8,c9,d0,d1,d2,d3,d4],S3)) ()) ()) ()):=by kernel_rfl
theorem jr.r7 :zW zi ⟨true,false,false⟩ (wW O.hp true (zU zi O)) (reg Try.f4 7) (reg Try.f4 7).toList ([x0,x1,x2,x3,x4,x5,x6,x7,x8,x9,f,k,g,c,b,o,p,q,r,s,t,u,w,x,y,z,A,B,C,D,E,l,m,i,F,G,H,I,J,K,L,M,N,P,Q,R,U,V,W,X,Y,Z,a0,a1,a2,a3,a4,a5,a6,a7,a8,a9,b0,b1,b2,b3,n,d,b4,b5,b6,b7,b8,b9,c0,c1,c2,c3,c4,c5,c6,c7,c8,c9,d0,d1,d2,d3,d4]) S =
  (zT (yK zi 28 (zQ x1) S) (fun v1 S1=>some ([x0,x1,x2,x3,x4,x5,x6,x7,x8,x9,f,k,g,c,b,o,p,q,r,s,t,u,w,x,y,z,A,B,C,D,E,zQ x1,v1,.int .i64 0,F,G,H,I,J,K,L,M,N,P,Q,R,U,V,W,X,Y,Z,a0,a1,a2,a3,a4,a5,a6,a7,a8,a9,b0,b1,b2,b3,n,d,b4,b5,b6,b7,b8,b9,c0,c1,c2,c3,c4,c5,c6,c7,c8,c9,d0,d1,d2,d3,d4],S1)) ()):=by kernel_rfl
theorem jr.r8 :zW zi ⟨true,false,false⟩ (wW O.hp true (zU zi O)) (reg Try.f4 8) (reg Try.f4 8).toList ([x0,x1,x2,x3,x4,x5,x6,x7,x8,x9,f,k,g,c,b,o,p,q,r,s,t,u,w,x,y,z,A,B,C,D,E,l,m,i,F,G,H,I,J,K,L,M,N,P,Q,R,U,V,W,X,Y,Z,a0,a1,a2,a3,a4,a5,a6,a7,a8,a9,b0,b1,b2,b3,n,d,b4,b5,b6,b7,b8,b9,c0,c1,c2,c3,c4,c5,c6,c7,c8,c9,d0,d1,d2,d3,d4]) S =
  (zT (jd zi BinOp.lss 3 i m S) (fun v0 S1=>some ([x0,x1,x2,x3,x4,x5,x6,x7,x8,x9,f,k,g,c,b,o,p,q,r,s,t,u,w,x,y,z,A,B,C,D,E,l,m,i,v0,G,H,I,J,K,L,M,N,P,Q,R,U,V,W,X,Y,Z,a0,a1,a2,a3,a4,a5,a6,a7,a8,a9,b0,b1,b2,b3,n,d,b4,b5,b6,b7,b8,b9,c0,c1,c2,c3,c4,c5,c6,c7,c8,c9,d0,d1,d2,d3,d4],S1)) ()):=by kernel_rfl
theorem jr.r9 :zW zi ⟨true,false,false⟩ (wW O.hp true (zU zi O)) (reg Try.f4 9) (reg Try.f4 9).toList ([x0,x1,x2,x3,x4,x5,x6,x7,x8,x9,f,k,g,c,b,o,p,q,r,s,t,u,w,x,y,z,A,B,C,D,E,l,m,i,F,G,H,I,J,K,L,M,N,P,Q,R,U,V,W,X,Y,Z,a0,a1,a2,a3,a4,a5,a6,a7,a8,a9,b0,b1,b2,b3,n,d,b4,b5,b6,b7,b8,b9,c0,c1,c2,c3,c4,c5,c6,c7,c8,c9,d0,d1,d2,d3,d4]) S =
  (zT (jZ zi 28 l i S) (fun v0 S1=>zT (zZ zi false 35 v0 S1) (fun v1 S2=>zT (wR zi 35 S2) (fun v2 S3=>zT (jI zi 35 v2 (zQ v1) S3) (fun v3 S4=>some ([x0,x1,x2,x3,x4,x5,x6,x7,v2,x9,f,k,g,c,b,o,p,q,r,s,t,u,w,x,y,z,A,B,C,D,E,l,m,i,F,v0,v1,I,J,K,L,M,N,P,Q,R,U,V,W,X,Y,Z,a0,a1,a2,a3,a4,a5,a6,a7,a8,a9,b0,b1,b2,b3,n,d,b4,b5,b6,b7,b8,b9,c0,c1,c2,c3,c4,c5,c6,c7,c8,c9,d0,d1,d2,d3,d4],S4)) ()) ()) ()) ()):=by kernel_rfl
theorem jr.r10 :zW zi ⟨true,false,false⟩ (wW O.hp true (zU zi O)) (reg Try.f4 10) (reg Try.f4 10).toList ([x0,x1,x2,x3,x4,x5,x6,x7,x8,x9,f,k,g,c,b,o,p,q,r,s,t,u,w,x,y,z,A,B,C,D,E,l,m,i,F,G,H,I,J,K,L,M,N,P,Q,R,U,V,W,X,Y,Z,a0,a1,a2,a3,a4,a5,a6,a7,a8,a9,b0,b1,b2,b3,n,d,b4,b5,b6,b7,b8,b9,c0,c1,c2,c3,c4,c5,c6,c7,c8,c9,d0,d1,d2,d3,d4]) S =
  (zT (Ji zi 33 0 [] S) (fun v0 S1=>zT (jf zi 35 x8 1 S1) (fun v1 S2=>zT (zZ zi false 33 v1 S2) (fun v2 S3=>zT (WX zi true 33 33 v0 v2 S3) (fun v3 S4=>some ([x0,x1,x2,x3,x4,x5,x6,x7,x8,v3,f,k,g,c,b,o,p,q,r,s,t,u,w,x,y,z,A,B,C,D,E,l,m,i,F,G,H,zQ v0,v1,v2,zQ v3,M,N,P,Q,R,U,V,W,X,Y,Z,a0,a1,a2,a3,a4,a5,a6,a7,a8,a9,b0,b1,b2,b3,n,d,b4,b5,b6,b7,b8,b9,c0,c1,c2,c3,c4,c5,c6,c7,c8,c9,d0,d1,d2,d3,d4],S4)) ()) ()) ()) ()):=by kernel_rfl
theorem jr.r11 :zW zi ⟨true,false,false⟩ (wW O.hp true (zU zi O)) (reg Try.f4 11) (reg Try.f4 11).toList ([x0,x1,x2,x3,x4,x5,x6,x7,x8,x9,f,k,g,c,b,o,p,q,r,s,t,u,w,x,y,z,A,B,C,D,E,l,m,i,F,G,H,I,J,K,L,M,N,P,Q,R,U,V,W,X,Y,Z,a0,a1,a2,a3,a4,a5,a6,a7,a8,a9,b0,b1,b2,b3,n,d,b4,b5,b6,b7,b8,b9,c0,c1,c2,c3,c4,c5,c6,c7,c8,c9,d0,d1,d2,d3,d4]) S =
  (zT (jf zi 35 x8 0 S) (fun v0 S1=>zT (zZ zi false 3 v0 S1) (fun v1 S2=>zT (jd zi BinOp.eql 3 v1 (.int .i64 0) S2) (fun v2 S3=>some ([x0,x1,x2,x3,x4,x5,x6,x7,x8,x9,f,k,g,c,b,o,p,q,r,s,t,u,w,x,y,z,A,B,C,D,E,l,m,i,F,G,H,I,J,K,L,v0,v1,v2,Q,R,U,V,W,X,Y,Z,a0,a1,a2,a3,a4,a5,a6,a7,a8,a9,b0,b1,b2,b3,n,d,b4,b5,b6,b7,b8,b9,c0,c1,c2,c3,c4,c5,c6,c7,c8,c9,d0,d1,d2,d3,d4],S3)) ()) ()) ()):=by kernel_rfl
theorem jr.r12 :zW zi ⟨true,false,false⟩ (wW O.hp true (zU zi O)) (reg Try.f4 12) (reg Try.f4 12).toList ([x0,x1,x2,x3,x4,x5,x6,x7,x8,x9,f,k,g,c,b,o,p,q,r,s,t,u,w,x,y,z,A,B,C,D,E,l,m,i,F,G,H,I,J,K,L,M,N,P,Q,R,U,V,W,X,Y,Z,a0,a1,a2,a3,a4,a5,a6,a7,a8,a9,b0,b1,b2,b3,n,d,b4,b5,b6,b7,b8,b9,c0,c1,c2,c3,c4,c5,c6,c7,c8,c9,d0,d1,d2,d3,d4]) S =
  (zT ((zU zi O) 12 [(zQ (zQ x5)),(zQ (zQ x9))] S) (fun v2 S1=>some ([x0,x1,x2,x3,x4,x5,x6,x7,x8,x9,f,k,g,c,b,o,p,q,r,s,t,u,w,x,y,z,A,B,C,D,E,l,m,i,F,G,H,I,J,K,L,M,N,P,zQ x5,zQ x9,v2,V,W,X,Y,Z,a0,a1,a2,a3,a4,a5,a6,a7,a8,a9,b0,b1,b2,b3,n,d,b4,b5,b6,b7,b8,b9,c0,c1,c2,c3,c4,c5,c6,c7,c8,c9,d0,d1,d2,d3,d4],S1)) ()):=by kernel_rfl
theorem jr.r13 :zW zi ⟨true,false,false⟩ (wW O.hp true (zU zi O)) (reg Try.f4 13) (reg Try.f4 13).toList ([x0,x1,x2,x3,x4,x5,x6,x7,x8,x9,f,k,g,c,b,o,p,q,r,s,t,u,w,x,y,z,A,B,C,D,E,l,m,i,F,G,H,I,J,K,L,M,N,P,Q,R,U,V,W,X,Y,Z,a0,a1,a2,a3,a4,a5,a6,a7,a8,a9,b0,b1,b2,b3,n,d,b4,b5,b6,b7,b8,b9,c0,c1,c2,c3,c4,c5,c6,c7,c8,c9,d0,d1,d2,d3,d4]) S =
  (zT (zZ zi false 32 x6 S) (fun v0 S1=>zT (jf zi 35 x8 1 S1) (fun v1 S2=>zT (zZ zi false 33 v1 S2) (fun v2 S3=>zT (qN (zU zi O) 13 [(zQ v0),(zQ v2)] S3) (fun v3 S4=>zT (jI zi 32 x6 (zQ v3) S4) (fun v4 S5=>some ([x0,x1,x2,x3,x4,x5,x6,x7,x8,x9,f,k,g,c,b,o,p,q,r,s,t,u,w,x,y,z,A,B,C,D,E,l,m,i,F,G,H,I,J,K,L,M,N,P,Q,R,U,v0,v1,v2,v3,Z,a0,a1,a2,a3,a4,a5,a6,a7,a8,a9,b0,b1,b2,b3,n,d,b4,b5,b6,b7,b8,b9,c0,c1,c2,c3,c4,c5,c6,c7,c8,c9,d0,d1,d2,d3,d4],S5)) ()) ()) ()) ()) ()):=by kernel_rfl
theorem jr.vP :zW zi ⟨true,false,false⟩ (wW O.hp true (zU zi O)) (reg Try.f4 14) (reg Try.f4 14).toList ([x0,x1,x2,x3,x4,x5,x6,x7,x8,x9,f,k,g,c,b,o,p,q,r,s,t,u,w,x,y,z,A,B,C,D,E,l,m,i,F,G,H,I,J,K,L,M,N,P,Q,R,U,V,W,X,Y,Z,a0,a1,a2,a3,a4,a5,a6,a7,a8,a9,b0,b1,b2,b3,n,d,b4,b5,b6,b7,b8,b9,c0,c1,c2,c3,c4,c5,c6,c7,c8,c9,d0,d1,d2,d3,d4]) S =
  (zT ((zU zi O) 10 [(zQ (zQ x5)),(zQ (zQ x9))] S) (fun v2 S1=>some ([x0,x1,x2,x3,x4,x5,x6,x7,x8,x9,v2,k,g,c,b,o,p,q,r,s,t,u,w,x,y,z,A,B,C,D,E,l,m,i,F,G,H,I,J,K,L,M,N,P,Q,R,U,V,W,X,Y,zQ x5,zQ x9,zQ v2,a2,a3,a4,a5,a6,a7,a8,a9,b0,b1,b2,b3,n,d,b4,b5,b6,b7,b8,b9,c0,c1,c2,c3,c4,c5,c6,c7,c8,c9,d0,d1,d2,d3,d4],S1)) ()):=by kernel_rfl
theorem jr.Zi :zW zi ⟨true,false,false⟩ (wW O.hp true (zU zi O)) (reg Try.f4 15) (reg Try.f4 15).toList ([x0,x1,x2,x3,x4,x5,x6,x7,x8,x9,f,k,g,c,b,o,p,q,r,s,t,u,w,x,y,z,A,B,C,D,E,l,m,i,F,G,H,I,J,K,L,M,N,P,Q,R,U,V,W,X,Y,Z,a0,a1,a2,a3,a4,a5,a6,a7,a8,a9,b0,b1,b2,b3,n,d,b4,b5,b6,b7,b8,b9,c0,c1,c2,c3,c4,c5,c6,c7,c8,c9,d0,d1,d2,d3,d4]) S =
  (zT (zZ zi false 32 x6 S) (fun v0 S1=>zT (jf zi 35 x8 1 S1) (fun v1 S2=>zT (zZ zi false 33 v1 S2) (fun v2 S3=>zT (qN (zU zi O) 14 [(zQ v0),(zQ v2)] S3) (fun v3 S4=>zT (jv v3 0 S4) (fun v5 S5=>zT (jv (jh 0 v3) 1 S5) (fun v6 S6=>zT (wR zi 32 S6) (fun v7 S7=>zT (jI zi 32 v7 (zQ v5) S7) (fun v8 S8=>some ([x0,x1,x2,x3,x4,x5,x6,x7,x8,x9,f,v7,v6,c,b,o,p,q,r,s,t,u,w,x,y,z,A,B,C,D,E,l,m,i,F,G,H,I,J,K,L,M,N,P,Q,R,U,V,W,X,Y,Z,a0,a1,jh 1 (jh 0 v3),v0,v1,v2,zQ v3,v5,zQ v6,a9,b0,b1,b2,b3,n,d,b4,b5,b6,b7,b8,b9,c0,c1,c2,c3,c4,c5,c6,c7,c8,c9,d0,d1,d2,d3,d4],S8)) ()) ()) ()) ()) ()) ()) ()) ()):=by kernel_rfl
theorem jr.r16 :zW zi ⟨true,false,false⟩ (wW O.hp true (zU zi O)) (reg Try.f4 16) (reg Try.f4 16).toList ([x0,x1,x2,x3,x4,x5,x6,x7,x8,x9,f,k,g,c,b,o,p,q,r,s,t,u,w,x,y,z,A,B,C,D,E,l,m,i,F,G,H,I,J,K,L,M,N,P,Q,R,U,V,W,X,Y,Z,a0,a1,a2,a3,a4,a5,a6,a7,a8,a9,b0,b1,b2,b3,n,d,b4,b5,b6,b7,b8,b9,c0,c1,c2,c3,c4,c5,c6,c7,c8,c9,d0,d1,d2,d3,d4]) S =
  (zT (zZ zi false 32 k S) (fun v0 S1=>zT (jI zi 32 x6 (zQ v0) S1) (fun v1 S2=>some ([x0,x1,x2,x3,x4,x5,x6,x7,x8,x9,f,k,g,c,b,o,p,q,r,s,t,u,w,x,y,z,A,B,C,D,E,l,m,i,F,G,H,I,J,K,L,M,N,P,Q,R,U,V,W,X,Y,Z,a0,a1,a2,a3,a4,a5,a6,a7,a8,v0,b0,b1,b2,b3,n,d,b4,b5,b6,b7,b8,b9,c0,c1,c2,c3,c4,c5,c6,c7,c8,c9,d0,d1,d2,d3,d4],S2)) ()) ()):=by kernel_rfl
theorem jr.JX :zW zi ⟨true,false,false⟩ (wW O.hp true (zU zi O)) (reg Try.f4 17) (reg Try.f4 17).toList ([x0,x1,x2,x3,x4,x5,x6,x7,x8,x9,f,k,g,c,b,o,p,q,r,s,t,u,w,x,y,z,A,B,C,D,E,l,m,i,F,G,H,I,J,K,L,M,N,P,Q,R,U,V,W,X,Y,Z,a0,a1,a2,a3,a4,a5,a6,a7,a8,a9,b0,b1,b2,b3,n,d,b4,b5,b6,b7,b8,b9,c0,c1,c2,c3,c4,c5,c6,c7,c8,c9,d0,d1,d2,d3,d4]) S =
  (zT (jd zi BinOp.neq 4 (zQ f) (zQ g) S) (fun v2 S1=>some ([x0,x1,x2,x3,x4,x5,x6,x7,x8,x9,f,k,g,c,b,o,p,q,r,s,t,u,w,x,y,z,A,B,C,D,E,l,m,i,F,G,H,I,J,K,L,M,N,P,Q,R,U,V,W,X,Y,Z,a0,a1,a2,a3,a4,a5,a6,a7,a8,a9,zQ f,zQ g,v2,b3,n,d,b4,b5,b6,b7,b8,b9,c0,c1,c2,c3,c4,c5,c6,c7,c8,c9,d0,d1,d2,d3,d4],S1)) ()):=by kernel_rfl
theorem jr.QO :zW zi ⟨true,false,false⟩ (wW O.hp true (zU zi O)) (reg Try.f4 18) (reg Try.f4 18).toList ([x0,x1,x2,x3,x4,x5,x6,x7,x8,x9,f,k,g,c,b,o,p,q,r,s,t,u,w,x,y,z,A,B,C,D,E,l,m,i,F,G,H,I,J,K,L,M,N,P,Q,R,U,V,W,X,Y,Z,a0,a1,a2,a3,a4,a5,a6,a7,a8,a9,b0,b1,b2,b3,n,d,b4,b5,b6,b7,b8,b9,c0,c1,c2,c3,c4,c5,c6,c7,c8,c9,d0,d1,d2,d3,d4]) S =
  ( some ([x0,x1,x2,x3,Value.bool false,x5,x6,x7,x8,x9,f,k,g,c,b,o,p,q,r,s,t,u,w,x,y,z,A,B,C,D,E,l,m,i,F,G,H,I,J,K,L,M,N,P,Q,R,U,V,W,X,Y,Z,a0,a1,a2,a3,a4,a5,a6,a7,a8,a9,b0,b1,b2,b3,n,d,b4,b5,b6,b7,b8,b9,c0,c1,c2,c3,c4,c5,c6,c7,c8,c9,d0,d1,d2,d3,d4],S)):=by kernel_rfl
theorem jr.QS :zW zi ⟨true,false,false⟩ (wW O.hp true (zU zi O)) (reg Try.f4 19) (reg Try.f4 19).toList ([x0,x1,x2,x3,x4,x5,x6,x7,x8,x9,f,k,g,c,b,o,p,q,r,s,t,u,w,x,y,z,A,B,C,D,E,l,m,i,F,G,H,I,J,K,L,M,N,P,Q,R,U,V,W,X,Y,Z,a0,a1,a2,a3,a4,a5,a6,a7,a8,a9,b0,b1,b2,b3,n,d,b4,b5,b6,b7,b8,b9,c0,c1,c2,c3,c4,c5,c6,c7,c8,c9,d0,d1,d2,d3,d4]) S =
  (zT (yK zi 33 (zQ x9) S) (fun v1 S1=>some ([x0,x1,x2,x3,x4,x5,x6,x7,x8,x9,f,k,g,c,b,o,p,q,r,s,t,u,w,x,y,z,A,B,C,D,E,l,m,i,F,G,H,I,J,K,L,M,N,P,Q,R,U,V,W,X,Y,Z,a0,a1,a2,a3,a4,a5,a6,a7,a8,a9,b0,b1,b2,zQ x9,v1,.int .i64 0,b4,b5,b6,b7,b8,b9,c0,c1,c2,c3,c4,c5,c6,c7,c8,c9,d0,d1,d2,d3,d4],S1)) ()):=by kernel_rfl
theorem jr.VB :zW zi ⟨true,false,false⟩ (wW O.hp true (zU zi O)) (reg Try.f4 20) (reg Try.f4 20).toList ([x0,x1,x2,x3,x4,x5,x6,x7,x8,x9,f,k,g,c,b,o,p,q,r,s,t,u,w,x,y,z,A,B,C,D,E,l,m,i,F,G,H,I,J,K,L,M,N,P,Q,R,U,V,W,X,Y,Z,a0,a1,a2,a3,a4,a5,a6,a7,a8,a9,b0,b1,b2,b3,n,d,b4,b5,b6,b7,b8,b9,c0,c1,c2,c3,c4,c5,c6,c7,c8,c9,d0,d1,d2,d3,d4]) S =
  (zT (jd zi BinOp.lss 3 d n S) (fun v0 S1=>some ([x0,x1,x2,x3,x4,x5,x6,x7,x8,x9,f,k,g,c,b,o,p,q,r,s,t,u,w,x,y,z,A,B,C,D,E,l,m,i,F,G,H,I,J,K,L,M,N,P,Q,R,U,V,W,X,Y,Z,a0,a1,a2,a3,a4,a5,a6,a7,a8,a9,b0,b1,b2,b3,n,d,v0,b5,b6,b7,b8,b9,c0,c1,c2,c3,c4,c5,c6,c7,c8,c9,d0,d1,d2,d3,d4],S1)) ()):=by kernel_rfl
theorem jr.VD :zW zi ⟨true,false,false⟩ (wW O.hp true (zU zi O)) (reg Try.f4 21) (reg Try.f4 21).toList ([x0,x1,x2,x3,x4,x5,x6,x7,x8,x9,f,k,g,c,b,o,p,q,r,s,t,u,w,x,y,z,A,B,C,D,E,l,m,i,F,G,H,I,J,K,L,M,N,P,Q,R,U,V,W,X,Y,Z,a0,a1,a2,a3,a4,a5,a6,a7,a8,a9,b0,b1,b2,b3,n,d,b4,b5,b6,b7,b8,b9,c0,c1,c2,c3,c4,c5,c6,c7,c8,c9,d0,d1,d2,d3,d4]) S =
  ( some ([x0,x1,x2,x3,x4,x5,x6,x7,x8,x9,f,k,g,d,b,o,p,q,r,s,t,u,w,x,y,z,A,B,C,D,E,l,m,i,F,G,H,I,J,K,L,M,N,P,Q,R,U,V,W,X,Y,Z,a0,a1,a2,a3,a4,a5,a6,a7,a8,a9,b0,b1,b2,b3,n,zQ d,b4,zQ d,b6,b7,b8,b9,c0,c1,c2,c3,c4,c5,c6,c7,c8,c9,d0,d1,d2,d3,d4],S)):=by kernel_rfl
theorem jr.r22 :zW zi ⟨true,false,false⟩ (wW O.hp true (zU zi O)) (reg Try.f4 22) (reg Try.f4 22).toList ([x0,x1,x2,x3,x4,x5,x6,x7,x8,x9,f,k,g,c,b,o,p,q,r,s,t,u,w,x,y,z,A,B,C,D,E,l,m,i,F,G,H,I,J,K,L,M,N,P,Q,R,U,V,W,X,Y,Z,a0,a1,a2,a3,a4,a5,a6,a7,a8,a9,b0,b1,b2,b3,n,d,b4,b5,b6,b7,b8,b9,c0,c1,c2,c3,c4,c5,c6,c7,c8,c9,d0,d1,d2,d3,d4]) S =
  (zT (jZ zi 33 (zQ x9) (zQ c) S) (fun v2 S1=>zT (zZ zi false 5 v2 S1) (fun v3 S2=>zT (jd zi BinOp.add 5 v3 (Value.int IntKind.u8 1) S2) (fun v4 S3=>zT (jZ zi 33 (zQ x9) (zQ c) S3) (fun v5 S4=>zT (jI zi 5 v5 (zQ v4) S4) (fun v6 S5=>some ([x0,x1,x2,x3,x4,x5,x6,x7,x8,x9,f,k,g,c,b,o,p,q,r,s,t,u,w,x,y,z,A,B,C,D,E,l,m,i,F,G,H,I,J,K,L,M,N,P,Q,R,U,V,W,X,Y,Z,a0,a1,a2,a3,a4,a5,a6,a7,a8,a9,b0,b1,b2,b3,n,d,b4,b5,zQ x9,zQ c,v2,v3,v4,v5,c2,c3,c4,c5,c6,c7,c8,c9,d0,d1,d2,d3,d4],S5)) ()) ()) ()) ()) ()):=by kernel_rfl
theorem jr.D8 :zW zi ⟨true,false,false⟩ (wW O.hp true (zU zi O)) (reg Try.f4 23) (reg Try.f4 23).toList ([x0,x1,x2,x3,x4,x5,x6,x7,x8,x9,f,k,g,c,b,o,p,q,r,s,t,u,w,x,y,z,A,B,C,D,E,l,m,i,F,G,H,I,J,K,L,M,N,P,Q,R,U,V,W,X,Y,Z,a0,a1,a2,a3,a4,a5,a6,a7,a8,a9,b0,b1,b2,b3,n,d,b4,b5,b6,b7,b8,b9,c0,c1,c2,c3,c4,c5,c6,c7,c8,c9,d0,d1,d2,d3,d4]) S =
  (zT (jd zi BinOp.add 3 d (.int .i64 1) S) (fun v0 S1=>some ([x0,x1,x2,x3,x4,x5,x6,x7,x8,x9,f,k,g,c,b,o,p,q,r,s,t,u,w,x,y,z,A,B,C,D,E,l,m,i,F,G,H,I,J,K,L,M,N,P,Q,R,U,V,W,X,Y,Z,a0,a1,a2,a3,a4,a5,a6,a7,a8,a9,b0,b1,b2,b3,n,zQ v0,b4,b5,b6,b7,b8,b9,c0,c1,v0,c3,c4,c5,c6,c7,c8,c9,d0,d1,d2,d3,d4],S1)) ()):=by kernel_rfl
theorem jr.D9 :zW zi ⟨true,false,false⟩ (wW O.hp true (zU zi O)) (reg Try.f4 24) (reg Try.f4 24).toList ([x0,x1,x2,x3,x4,x5,x6,x7,x8,x9,f,k,g,c,b,o,p,q,r,s,t,u,w,x,y,z,A,B,C,D,E,l,m,i,F,G,H,I,J,K,L,M,N,P,Q,R,U,V,W,X,Y,Z,a0,a1,a2,a3,a4,a5,a6,a7,a8,a9,b0,b1,b2,b3,n,d,b4,b5,b6,b7,b8,b9,c0,c1,c2,c3,c4,c5,c6,c7,c8,c9,d0,d1,d2,d3,d4]) S =
  (zT (jd zi BinOp.add 3 i (.int .i64 1) S) (fun v0 S1=>some ([x0,x1,x2,x3,x4,x5,x6,x7,x8,x9,f,k,g,c,b,o,p,q,r,s,t,u,w,x,y,z,A,B,C,D,E,l,m,zQ v0,F,G,H,I,J,K,L,M,N,P,Q,R,U,V,W,X,Y,Z,a0,a1,a2,a3,a4,a5,a6,a7,a8,a9,b0,b1,b2,b3,n,d,b4,b5,b6,b7,b8,b9,c0,c1,c2,v0,c4,c5,c6,c7,c8,c9,d0,d1,d2,d3,d4],S1)) ()):=by kernel_rfl
theorem jr.r25 :zW zi ⟨true,false,false⟩ (wW O.hp true (zU zi O)) (reg Try.f4 25) (reg Try.f4 25).toList ([x0,x1,x2,x3,x4,x5,x6,x7,x8,x9,f,k,g,c,b,o,p,q,r,s,t,u,w,x,y,z,A,B,C,D,E,l,m,i,F,G,H,I,J,K,L,M,N,P,Q,R,U,V,W,X,Y,Z,a0,a1,a2,a3,a4,a5,a6,a7,a8,a9,b0,b1,b2,b3,n,d,b4,b5,b6,b7,b8,b9,c0,c1,c2,c3,c4,c5,c6,c7,c8,c9,d0,d1,d2,d3,d4]) S =
  ( some ([x0,x1,x2,x3,x4,x5,x6,x7,x8,x9,f,k,g,c,.int .i64 (-1),o,p,q,r,s,t,u,w,x,y,z,A,B,C,D,E,l,m,i,F,G,H,I,J,K,L,M,N,P,Q,R,U,V,W,X,Y,Z,a0,a1,a2,a3,a4,a5,a6,a7,a8,a9,b0,b1,b2,b3,n,d,b4,b5,b6,b7,b8,b9,c0,c1,c2,c3,c4,c5,c6,c7,c8,c9,d0,d1,d2,d3,d4],S)):=by kernel_rfl
theorem jr.Ea :zW zi ⟨true,false,false⟩ (wW O.hp true (zU zi O)) (reg Try.f4 26) (reg Try.f4 26).toList ([x0,x1,x2,x3,x4,x5,x6,x7,x8,x9,f,k,g,c,b,o,p,q,r,s,t,u,w,x,y,z,A,B,C,D,E,l,m,i,F,G,H,I,J,K,L,M,N,P,Q,R,U,V,W,X,Y,Z,a0,a1,a2,a3,a4,a5,a6,a7,a8,a9,b0,b1,b2,b3,n,d,b4,b5,b6,b7,b8,b9,c0,c1,c2,c3,c4,c5,c6,c7,c8,c9,d0,d1,d2,d3,d4]) S =
  (zT (jd zi BinOp.lss 3 (zQ b) (.int .i64 9) S) (fun v1 S1=>some ([x0,x1,x2,x3,x4,x5,x6,x7,x8,x9,f,k,g,c,b,o,p,q,r,s,t,u,w,x,y,z,A,B,C,D,E,l,m,i,F,G,H,I,J,K,L,M,N,P,Q,R,U,V,W,X,Y,Z,a0,a1,a2,a3,a4,a5,a6,a7,a8,a9,b0,b1,b2,b3,n,d,b4,b5,b6,b7,b8,b9,c0,c1,c2,c3,zQ b,v1,c6,c7,c8,c9,d0,d1,d2,d3,d4],S1)) ()):=by kernel_rfl
theorem jr.MH :vg zi (reg Try.f4 28)=true:=by kernel_rfl
theorem jr.Ns :fixed zi (reg Try.f4 28)=false:=by kernel_rfl
theorem jr.k28 :checked zi (reg Try.f4 28)=[3,4]:=by kernel_rfl
theorem jr.NR :again zi (reg Try.f4 28)=[(3,2)]:=by kernel_rfl
theorem jr.r28 :zX zi O true (.region 28 (reg Try.f4 28) true) ([x0,x1,x2,x3,x4,x5,x6,x7,x8,x9,f,k,g,c,b,o,p,q,r,s,t,u,w,x,y,z,A,B,C,D,E,l,m,i,F,G,H,I,J,K,L,M,N,P,Q,R,U,V,W,X,Y,Z,a0,a1,a2,a3,a4,a5,a6,a7,a8,a9,b0,b1,b2,b3,n,d,b4,b5,b6,b7,b8,b9,c0,c1,c2,c3,c4,c5,c6,c7,c8,c9,d0,d1,d2,d3,d4]) S =
  yY (zT (qN (zU zi O) 11 [(zQ (zQ x5)),(zQ (zQ b))] S) (fun v2 S1=>zT (zZ zi false 32 x6 S1) (fun v3 S2=>jK v3 ( jK b ( zT (qN (zU zi O) 15 [(zQ v3),(zQ (zQ b))] S2) (fun v5 S3=>zT (jd zi BinOp.neq 4 v2 v5 S3) (fun v6 S4=>Jy (y8 x6 S S1&&(true)) (some ([x0,x1,x2,x3,x4,x5,x6,x7,x8,x9,f,k,g,c,b,o,p,q,r,s,t,u,w,x,y,z,A,B,C,D,E,l,m,i,F,G,H,I,J,K,L,M,N,P,Q,R,U,V,W,X,Y,Z,a0,a1,a2,a3,a4,a5,a6,a7,a8,a9,b0,b1,b2,b3,n,d,b4,b5,b6,b7,b8,b9,c0,c1,c2,c3,c4,c5,c6,c7,zQ x5,zQ b,v2,v3,zQ b,v5,v6],S4)) ()) ()) ()) ()) ()) ()) ()):=by
 rw[V4 jr.MH jr.Ns jr.k28 jr.NR];refine congrArg yY ?_;refine uP Try.f4 28 0 (v:=x5) (pe:=zh) ?_;refine uP Try.f4 28 1 (v:=b) (pe:=zh) ?_;refine uD Try.f4 28 2 (pe:=zh) (fun v2 S1=>?_)
 refine yH Try.f4 28 3 (pe:=x6) (fun v3 S2=>?_)
 refine Zb Try.f4 28 4 (v:=b) (pe:=zh) ?_;refine uD Try.f4 28 5 (pe:=zh) (fun v5 S3=>?_)
 refine uD Try.f4 28 6 (pe:=zh) (fun v6 S4=>?_)
 kernel_rfl
theorem jr.Eb :zW zi ⟨true,false,false⟩ (wW O.hp true (zU zi O)) (reg Try.f4 29) (reg Try.f4 29).toList ([x0,x1,x2,x3,x4,x5,x6,x7,x8,x9,f,k,g,c,b,o,p,q,r,s,t,u,w,x,y,z,A,B,C,D,E,l,m,i,F,G,H,I,J,K,L,M,N,P,Q,R,U,V,W,X,Y,Z,a0,a1,a2,a3,a4,a5,a6,a7,a8,a9,b0,b1,b2,b3,n,d,b4,b5,b6,b7,b8,b9,c0,c1,c2,c3,c4,c5,c6,c7,c8,c9,d0,d1,d2,d3,d4]) S =
  ( some ([x0,x1,x2,x3,Value.bool false,x5,x6,x7,x8,x9,f,k,g,c,b,o,p,q,r,s,t,u,w,x,y,z,A,B,C,D,E,l,m,i,F,G,H,I,J,K,L,M,N,P,Q,R,U,V,W,X,Y,Z,a0,a1,a2,a3,a4,a5,a6,a7,a8,a9,b0,b1,b2,b3,n,d,b4,b5,b6,b7,b8,b9,c0,c1,c2,c3,c4,c5,c6,c7,c8,c9,d0,d1,d2,d3,d4],S)):=by kernel_rfl
theorem jr.r27 :zW zi ⟨true,false,false⟩ (wW O.hp true (zU zi O)) (reg Try.f4 27) (reg Try.f4 27).toList ([x0,x1,x2,x3,x4,x5,x6,x7,x8,x9,f,k,g,c,b,o,p,q,r,s,t,u,w,x,y,z,A,B,C,D,E,l,m,i,F,G,H,I,J,K,L,M,N,P,Q,R,U,V,W,X,Y,Z,a0,a1,a2,a3,a4,a5,a6,a7,a8,a9,b0,b1,b2,b3,n,d,b4,b5,b6,b7,b8,b9,c0,c1,c2,c3,c4,c5,c6,c7,c8,c9,d0,d1,d2,d3,d4]) S =
  (zT (jd zi BinOp.add 3 (zQ b) (.int .i64 1) S) (fun v1 S1=>some ([x0,x1,x2,x3,x4,x5,x6,x7,x8,x9,f,k,g,c,v1,o,p,q,r,s,t,u,w,x,y,z,A,B,C,D,E,l,m,i,F,G,H,I,J,K,L,M,N,P,Q,R,U,V,W,X,Y,Z,a0,a1,a2,a3,a4,a5,a6,a7,a8,a9,b0,b1,b2,b3,n,d,b4,b5,b6,b7,b8,b9,c0,c1,c2,c3,c4,c5,zQ b,zQ v1,c8,c9,d0,d1,d2,d3,d4],S1)) ()):=by kernel_rfl
theorem jr.Ed :zW zi ⟨true,false,false⟩ (wW O.hp true (zU zi O)) (reg Try.f4 30) (reg Try.f4 30).toList ([x0,x1,x2,x3,x4,x5,x6,x7,x8,x9,f,k,g,c,b,o,p,q,r,s,t,u,w,x,y,z,A,B,C,D,E,l,m,i,F,G,H,I,J,K,L,M,N,P,Q,R,U,V,W,X,Y,Z,a0,a1,a2,a3,a4,a5,a6,a7,a8,a9,b0,b1,b2,b3,n,d,b4,b5,b6,b7,b8,b9,c0,c1,c2,c3,c4,c5,c6,c7,c8,c9,d0,d1,d2,d3,d4]) S =
  ( some ([x0,x1,x2,x3,Value.bool true,x5,x6,x7,x8,x9,f,k,g,c,b,o,p,q,r,s,t,u,w,x,y,z,A,B,C,D,E,l,m,i,F,G,H,I,J,K,L,M,N,P,Q,R,U,V,W,X,Y,Z,a0,a1,a2,a3,a4,a5,a6,a7,a8,a9,b0,b1,b2,b3,n,d,b4,b5,b6,b7,b8,b9,c0,c1,c2,c3,c4,c5,c6,c7,c8,c9,d0,d1,d2,d3,d4],S)):=by kernel_rfl
theorem jr.rs :type_of% (zJ @jr.r0 (zJ @jr.r1 (zJ @jr.r2 (zJ @jr.r3 (zJ @jr.r4 (zJ @jr.r5 (zJ @jr.r6 (zJ @jr.r7 (zJ @jr.r8 (zJ @jr.r9 (zJ @jr.r10 (zJ @jr.r11 (zJ @jr.r12 (zJ @jr.r13 (zJ @jr.vP (zJ @jr.Zi (zJ @jr.r16 (zJ @jr.JX (zJ @jr.QO (zJ @jr.QS (zJ @jr.VB (zJ @jr.VD (zJ @jr.r22 (zJ @jr.D8 (zJ @jr.D9 (zJ @jr.r25 (zJ @jr.Ea (zJ @jr.r28 (zJ @jr.Eb (zJ @jr.r27 (@jr.Ed))))))))))))))))))))))))))))))):=zJ @jr.r0 (zJ @jr.r1 (zJ @jr.r2 (zJ @jr.r3 (zJ @jr.r4 (zJ @jr.r5 (zJ @jr.r6 (zJ @jr.r7 (zJ @jr.r8 (zJ @jr.r9 (zJ @jr.r10 (zJ @jr.r11 (zJ @jr.r12 (zJ @jr.r13 (zJ @jr.vP (zJ @jr.Zi (zJ @jr.r16 (zJ @jr.JX (zJ @jr.QO (zJ @jr.QS (zJ @jr.VB (zJ @jr.VD (zJ @jr.r22 (zJ @jr.D8 (zJ @jr.D9 (zJ @jr.r25 (zJ @jr.Ea (zJ @jr.r28 (zJ @jr.Eb (zJ @jr.r27 (@jr.Ed))))))))))))))))))))))))))))))
theorem jr.runs {x0 x1:zu}{S S1:zS}{e:wC}{T:List zu}(h:zX zi O true jr.code ([x0,x1,zh,zh,zh,zh,zh,zh,zh,zh,zh,zh,zh,zh,zh,zh,zh,zh,zh,zh,zh,zh,zh,zh,zh,zh,zh,zh,zh,zh,zh,zh,zh,zh,zh,zh,zh,zh,zh,zh,zh,zh,zh,zh,zh,zh,zh,zh,zh,zh,zh,zh,zh,zh,zh,zh,zh,zh,zh,zh,zh,zh,zh,zh,zh,zh,zh,zh,zh,zh,zh,zh,zh,zh,zh,zh,zh,zh,zh,zh,zh,zh,zh,zh,zh,zh,zh,zh,zh]) S=some (e,T,S1)) (he:e=.normal∨e=.ret):zU zi O 4 [x0,x1] S=some (T.getD 4 zh,S1) :=
 xX rfl rfl Try.func4 (by decide) jr.body (by exact h) he (qI (a:=T.getD 4 zh) ((show jl zi T S1 Try.f4.results.toList=jl zi T S1 [(ResultVar.tmp 4)] from by kernel_rfl).trans (by simp only[jl])) (by kernel_rfl))
end
section
abbrev vC.id :FuncId:=21
noncomputable def vC.code :Code:=(.seq (.region 0 (reg Try.f21 0) false) (.seq (.region 1 (reg Try.f21 1) false) (.seq (.region 2 (reg Try.f21 2) false) Code.ret)))
theorem vC.body :Try.f21.body=some vC.code:=by kernel_rfl
variable (b c m n s l o p q r d f g i j:zu) (S:zS)
theorem vC.r0 :zW zi ⟨false,false,false⟩ (zU zi O) (reg Try.f21 0) (reg Try.f21 0).toList ([b,c,m,n,s,l,o,p,q,r,d,f,g,i,j]) S =
  (zT (qm (zQ c) S) (fun y k=>some ([b,c,m,y,Value.slice none 0 0,l,o,p,q,r,d,f,g,i,j],k)) ()):=by kernel_rfl
theorem vC.r1 :zW zi ⟨false,false,false⟩ (zU zi O) (reg Try.f21 1) (reg Try.f21 1).toList ([b,c,m,n,s,l,o,p,q,r,d,f,g,i,j]) S =
  (zT (zZ zi false 46 n S) (fun u k=>zT (wS zi 48 [(0,(.int .i64 1)),(1,(zQ (zQ b))),(7,(zQ u))] k) (fun v z=>zT ((zU zi O) 19 [(zQ v)] z) (fun t A=>zT (jv t 0 A) (fun w B=>zT (jv (jh 0 t) 1 B) (fun x C=>some ([b,c,m,n,s,w,x,jh 1 (jh 0 t),zQ b,u,v,zQ t,zQ w,zQ x,j],C)) ()) ()) ()) ()) ()):=by kernel_rfl
theorem vC.r2 :zW zi ⟨false,false,false⟩ (zU zi O) (reg Try.f21 2) (reg Try.f21 2).toList ([b,c,m,n,s,l,o,p,q,r,d,f,g,i,j]) S =
  ( some ([b,c,m,n,l,zQ l,o,p,q,r,d,f,g,i,zQ l],S)):=by kernel_rfl
theorem vC.rs :type_of% (zJ @vC.r0 (zJ @vC.r1 (@vC.r2))):=zJ @vC.r0 (zJ @vC.r1 (@vC.r2))
theorem vC.runs {b c:zu}{S k:zS}{e:wC}{T:List zu}(h:zX zi O false vC.code ([b,c,zh,zh,zh,zh,zh,zh,zh,zh,zh,zh,zh,zh,zh]) S=some (e,T,k)) (he:e=.normal∨e=.ret):zU zi O 21 [b,c] S=some (T.getD 4 zh,k) :=
 xX rfl rfl Try.func21 (by decide) vC.body (by exact h) he (qI (a:=T.getD 4 zh) ((show jl zi T k Try.f21.results.toList=jl zi T k [(ResultVar.tmp 4)] from by kernel_rfl).trans (by simp only[jl])) (by kernel_rfl))
end
section
abbrev qU.id :FuncId:=9
noncomputable def qU.code :Code:=(.seq (.region 0 (reg Try.f9 0) false) (.seq (.region 1 (reg Try.f9 1) false) (.seq (.seq (.region 2 (reg Try.f9 2) false) (.cond (.tmp 8) (.seq (.region 3 (reg Try.f9 3) false) Code.ret) Code.skip)) (.seq (.region 4 (reg Try.f9 4) false) (.seq (.region 5 (reg Try.f9 5) false) (.seq (.region 6 (reg Try.f9 6) false) (.seq (.region 7 (reg Try.f9 7) false) Code.ret)))))))
theorem qU.body :Try.f9.body=some qU.code:=by kernel_rfl
variable (x0 b x2 x3 x4 x5 x6 x7 x8 x9 c d f g i k l m n o p q r s t u w x y z A B C D E F G H I J K L M N P Q R U V W X Y Z a0 a1 a2 a3 a4:zu) (S:zS)
theorem qU.r0 :zW zi ⟨false,false,false⟩ (zU zi O) (reg Try.f9 0) (reg Try.f9 0).toList ([x0,b,x2,x3,x4,x5,x6,x7,x8,x9,c,d,f,g,i,k,l,m,n,o,p,q,r,s,t,u,w,x,y,z,A,B,C,D,E,F,G,H,I,J,K,L,M,N,P,Q,R,U,V,W,X,Y,Z,a0,a1,a2,a3,a4]) S =
  ( some ([Value.bool false,b,x2,x3,x4,x5,x6,x7,x8,x9,c,d,f,g,i,k,l,m,n,o,p,q,r,s,t,u,w,x,y,z,A,B,C,D,E,F,G,H,I,J,K,L,M,N,P,Q,R,U,V,W,X,Y,Z,a0,a1,a2,a3,a4],S)):=by kernel_rfl
theorem qU.r1 :zW zi ⟨false,false,false⟩ (zU zi O) (reg Try.f9 1) (reg Try.f9 1).toList ([x0,b,x2,x3,x4,x5,x6,x7,x8,x9,c,d,f,g,i,k,l,m,n,o,p,q,r,s,t,u,w,x,y,z,A,B,C,D,E,F,G,H,I,J,K,L,M,N,P,Q,R,U,V,W,X,Y,Z,a0,a1,a2,a3,a4]) S =
  (zT (yO zi 24 1 [(0,(.int .i64 2))] S) (fun v0 S1=>zT ((zU zi O) 8 [(zQ v0)] S1) (fun v1 S2=>some ([x0,v1,x2,x3,x4,v0,zQ v1,x7,x8,x9,c,d,f,g,i,k,l,m,n,o,p,q,r,s,t,u,w,x,y,z,A,B,C,D,E,F,G,H,I,J,K,L,M,N,P,Q,R,U,V,W,X,Y,Z,a0,a1,a2,a3,a4],S2)) ()) ()):=by kernel_rfl
theorem qU.r2 :zW zi ⟨false,false,false⟩ (zU zi O) (reg Try.f9 2) (reg Try.f9 2).toList ([x0,b,x2,x3,x4,x5,x6,x7,x8,x9,c,d,f,g,i,k,l,m,n,o,p,q,r,s,t,u,w,x,y,z,A,B,C,D,E,F,G,H,I,J,K,L,M,N,P,Q,R,U,V,W,X,Y,Z,a0,a1,a2,a3,a4]) S =
  (zT (jd zi BinOp.eql 22 (zQ b) (Value.pointer none) S) (fun v1 S1=>some ([x0,b,x2,x3,x4,x5,x6,zQ b,v1,x9,c,d,f,g,i,k,l,m,n,o,p,q,r,s,t,u,w,x,y,z,A,B,C,D,E,F,G,H,I,J,K,L,M,N,P,Q,R,U,V,W,X,Y,Z,a0,a1,a2,a3,a4],S1)) ()):=by kernel_rfl
theorem qU.r3 :zW zi ⟨false,false,false⟩ (zU zi O) (reg Try.f9 3) (reg Try.f9 3).toList ([x0,b,x2,x3,x4,x5,x6,x7,x8,x9,c,d,f,g,i,k,l,m,n,o,p,q,r,s,t,u,w,x,y,z,A,B,C,D,E,F,G,H,I,J,K,L,M,N,P,Q,R,U,V,W,X,Y,Z,a0,a1,a2,a3,a4]) S =
  ( some ([Value.bool false,b,x2,x3,x4,x5,x6,x7,x8,x9,c,d,f,g,i,k,l,m,n,o,p,q,r,s,t,u,w,x,y,z,A,B,C,D,E,F,G,H,I,J,K,L,M,N,P,Q,R,U,V,W,X,Y,Z,a0,a1,a2,a3,a4],S)):=by kernel_rfl
theorem qU.r4 :zW zi ⟨false,false,false⟩ (zU zi O) (reg Try.f9 4) (reg Try.f9 4).toList ([x0,b,x2,x3,x4,x5,x6,x7,x8,x9,c,d,f,g,i,k,l,m,n,o,p,q,r,s,t,u,w,x,y,z,A,B,C,D,E,F,G,H,I,J,K,L,M,N,P,Q,R,U,V,W,X,Y,Z,a0,a1,a2,a3,a4]) S =
  (zT (wS zi 46 [(0,(.int .i64 1)),(1,(.int .i64 1))] S) (fun v0 S1=>zT (wS zi 43 [(0,(.int .i64 1))] S1) (fun v1 S2=>zT (yO zi 44 1 [(0,v1)] S2) (fun v2 S3=>zT (wS zi 46 [(0,(.int .i64 1)),(1,(.int .i64 1)),(4,(zQ v2))] S3) (fun v3 S4=>zT (wR zi 46 S4) (fun v4 S5=>zT (wR zi 46 S5) (fun v5 S6=>zT (jI zi 46 v4 (zQ v0) S6) (fun v6 S7=>zT (jI zi 46 v5 (zQ v3) S7) (fun v7 S8=>some ([x0,b,v4,v5,x4,x5,x6,x7,x8,v0,v1,v2,v3,g,i,k,l,m,n,o,p,q,r,s,t,u,w,x,y,z,A,B,C,D,E,F,G,H,I,J,K,L,M,N,P,Q,R,U,V,W,X,Y,Z,a0,a1,a2,a3,a4],S8)) ()) ()) ()) ()) ()) ()) ()) ()):=by kernel_rfl
theorem qU.r5 :zW zi ⟨false,false,false⟩ (zU zi O) (reg Try.f9 5) (reg Try.f9 5).toList ([x0,b,x2,x3,x4,x5,x6,x7,x8,x9,c,d,f,g,i,k,l,m,n,o,p,q,r,s,t,u,w,x,y,z,A,B,C,D,E,F,G,H,I,J,K,L,M,N,P,Q,R,U,V,W,X,Y,Z,a0,a1,a2,a3,a4]) S =
  (zT (zZ zi false 46 x2 S) (fun v1 S1=>zT ((zU zi O) 21 [(.int .i64 2),(zQ v1)] S1) (fun v2 S2=>zT ((zU zi O) 10 [(zQ (zQ b)),(zQ v2)] S2) (fun v3 S3=>some ([x0,b,x2,x3,v3,x5,x6,x7,x8,x9,c,d,f,zQ b,v1,v2,zQ v3,m,n,o,p,q,r,s,t,u,w,x,y,z,A,B,C,D,E,F,G,H,I,J,K,L,M,N,P,Q,R,U,V,W,X,Y,Z,a0,a1,a2,a3,a4],S3)) ()) ()) ()):=by kernel_rfl
theorem qU.r6 :zW zi ⟨false,false,false⟩ (zU zi O) (reg Try.f9 6) (reg Try.f9 6).toList ([x0,b,x2,x3,x4,x5,x6,x7,x8,x9,c,d,f,g,i,k,l,m,n,o,p,q,r,s,t,u,w,x,y,z,A,B,C,D,E,F,G,H,I,J,K,L,M,N,P,Q,R,U,V,W,X,Y,Z,a0,a1,a2,a3,a4]) S =
  (zT (zZ zi false 46 x2 S) (fun v1 S1=>zT ((zU zi O) 21 [(.int .i64 1),(zQ v1)] S1) (fun v2 S2=>zT ((zU zi O) 12 [(zQ (zQ b)),(zQ v2)] S2) (fun v3 S3=>some ([x0,b,x2,x3,x4,x5,x6,x7,x8,x9,c,d,f,g,i,k,l,zQ b,v1,v2,v3,q,r,s,t,u,w,x,y,z,A,B,C,D,E,F,G,H,I,J,K,L,M,N,P,Q,R,U,V,W,X,Y,Z,a0,a1,a2,a3,a4],S3)) ()) ()) ()):=by kernel_rfl
theorem qU.r7 :zW zi ⟨false,false,false⟩ (zU zi O) (reg Try.f9 7) (reg Try.f9 7).toList ([x0,b,x2,x3,x4,x5,x6,x7,x8,x9,c,d,f,g,i,k,l,m,n,o,p,q,r,s,t,u,w,x,y,z,A,B,C,D,E,F,G,H,I,J,K,L,M,N,P,Q,R,U,V,W,X,Y,Z,a0,a1,a2,a3,a4]) S =
  (zT (qo zi UnOp.not (zQ x4) S) (fun v1 S1=>zY (zQ v1) true (ret b) S1 (fun v3 S2=>zY (zQ v1) true (zZ zi false 46 x2) S2 (fun v4 S3=>zY (zQ v1) true ((zU zi O) 21 [(.int .i64 2),(zQ v4)]) S3 (fun v5 S4=>zY (zQ v1) true ((zU zi O) 10 [(zQ (zQ v3)),(zQ v5)]) S4 (fun v6 S5=>zT (jH (zQ v1) v6 (Value.bool false) S5) (fun v7 S6=>zY (zQ v7) true (ret b) S6 (fun v9 S7=>zY (zQ v7) true (zZ zi false 46 x3) S7 (fun b0 S8=>zY (zQ v7) true ((zU zi O) 21 [(.int .i64 2),(zQ b0)]) S8 (fun b1 S9=>zY (zQ v7) true ((zU zi O) 10 [(zQ (zQ v9)),(zQ b1)]) S9 (fun b2 c8=>zY (zQ v7) true (qo zi UnOp.not b2) c8 (fun b3 c9=>zT (jH (zQ v7) b3 (Value.bool false) c9) (fun a5 d0=>zY (zQ a5) true (ret b) d0 (fun b4 d1=>zY (zQ a5) true (zZ zi false 46 x2) d1 (fun b5 d2=>zY (zQ a5) true ((zU zi O) 21 [(.int .i64 3),(zQ b5)]) d2 (fun b6 d3=>zY (zQ a5) true ((zU zi O) 10 [(zQ (zQ b4)),(zQ b6)]) d3 (fun b7 d4=>zY (zQ a5) true (qo zi UnOp.not b7) d4 (fun b8 d5=>zT (jH (zQ a5) b8 (Value.bool false) d5) (fun a6 d6=>zY (zQ a6) true (ret b) d6 (fun b9 d7=>zY (zQ a6) true (zZ zi false 46 x2) d7 (fun c0 d8=>zY (zQ a6) true ((zU zi O) 21 [(.int .i64 1),(zQ c0)]) d8 (fun c1 d9=>zY (zQ a6) true ((zU zi O) 10 [(zQ (zQ b9)),(zQ c1)]) d9 (fun c2 f0=>zT (jH (zQ a6) c2 (Value.bool false) f0) (fun a8 f1=>zY (zQ a8) true (ret b) f1 (fun c3 f2=>zY (zQ a8) true ((zU zi O) 11 [(zQ (zQ c3)),(.int .i64 2)]) f2 (fun c4 f3=>zT (jH (zQ a8) c4 (Value.bool false) f3) (fun a7 f4=>zY (zQ a7) true (ret b) f4 (fun c5 f5=>zY (zQ a7) true ((zU zi O) 11 [(zQ (zQ c5)),(.int .i64 1)]) f5 (fun c6 f6=>zY (zQ a7) true (qo zi UnOp.not c6) f6 (fun c7 f7=>zT (jH (zQ a7) c7 (Value.bool false) f7) (fun a9 f8=>some ([a9,b,x2,x3,x4,x5,x6,x7,x8,x9,c,d,f,g,i,k,l,m,n,o,p,zQ x4,v1,zQ v1,zQ v3,v4,v5,v6,v7,zQ v7,zQ v9,b0,b1,b2,b3,a5,zQ a5,zQ b4,b5,b6,b7,b8,a6,zQ a6,zQ b9,c0,c1,c2,a8,zQ a8,zQ c3,c4,a7,zQ a7,zQ c5,c6,c7,zQ a9],f8)) ()) ()) ()) ()) ()) ()) ()) ()) ()) ()) ()) ()) ()) ()) ()) ()) ()) ()) ()) ()) ()) ()) ()) ()) ()) ()) ()) ()) ()) ()):=by
 refine sP Try.f9 7 0 (v:=x4) ?_;refine sD Try.f9 7 1 (fun v1 S1=>?_)
 refine sP Try.f9 7 2 (v:=v1) ?_;refine sG Try.f9 7 3 (j:=2) (fun v3 S2=>?_)
 refine sG Try.f9 7 4 (j:=2) (fun v4 S3=>?_)
 refine sG Try.f9 7 5 (j:=2) (fun v5 S4=>?_)
 refine sG Try.f9 7 6 (j:=2) (fun v6 S5=>?_)
 refine sD Try.f9 7 7 (fun v7 S6=>?_)
 refine sP Try.f9 7 8 (v:=v7) ?_;refine sG Try.f9 7 9 (j:=8) (fun v9 S7=>?_)
 refine sG Try.f9 7 10 (j:=8) (fun b0 S8=>?_)
 refine sG Try.f9 7 11 (j:=8) (fun b1 S9=>?_)
 refine sG Try.f9 7 12 (j:=8) (fun b2 c8=>?_)
 refine sG Try.f9 7 13 (j:=8) (fun b3 c9=>?_)
 refine sD Try.f9 7 14 (fun a5 d0=>?_)
 refine sP Try.f9 7 15 (v:=a5) ?_;refine sG Try.f9 7 16 (j:=15) (fun b4 d1=>?_)
 refine sG Try.f9 7 17 (j:=15) (fun b5 d2=>?_)
 refine sG Try.f9 7 18 (j:=15) (fun b6 d3=>?_)
 refine sG Try.f9 7 19 (j:=15) (fun b7 d4=>?_)
 refine sG Try.f9 7 20 (j:=15) (fun b8 d5=>?_)
 refine sD Try.f9 7 21 (fun a6 d6=>?_)
 refine sP Try.f9 7 22 (v:=a6) ?_;refine sG Try.f9 7 23 (j:=22) (fun b9 d7=>?_)
 refine sG Try.f9 7 24 (j:=22) (fun c0 d8=>?_)
 refine sG Try.f9 7 25 (j:=22) (fun c1 d9=>?_)
 refine sG Try.f9 7 26 (j:=22) (fun c2 f0=>?_)
 refine sD Try.f9 7 27 (fun a8 f1=>?_)
 refine sP Try.f9 7 28 (v:=a8) ?_;refine sG Try.f9 7 29 (j:=28) (fun c3 f2=>?_)
 refine sG Try.f9 7 30 (j:=28) (fun c4 f3=>?_)
 refine sD Try.f9 7 31 (fun a7 f4=>?_)
 refine sP Try.f9 7 32 (v:=a7) ?_;refine sG Try.f9 7 33 (j:=32) (fun c5 f5=>?_)
 refine sG Try.f9 7 34 (j:=32) (fun c6 f6=>?_)
 refine sG Try.f9 7 35 (j:=32) (fun c7 f7=>?_)
 refine sD Try.f9 7 36 (fun a9 f8=>?_)
 refine sP Try.f9 7 37 (v:=a9) ?_
 kernel_rfl
theorem qU.rs :type_of% (zJ @qU.r0 (zJ @qU.r1 (zJ @qU.r2 (zJ @qU.r3 (zJ @qU.r4 (zJ @qU.r5 (zJ @qU.r6 (@qU.r7)))))))):=zJ @qU.r0 (zJ @qU.r1 (zJ @qU.r2 (zJ @qU.r3 (zJ @qU.r4 (zJ @qU.r5 (zJ @qU.r6 (@qU.r7)))))))
theorem qU.runs {S S1:zS}{e:wC}{T:List zu}(h:zX zi O false qU.code ([zh,zh,zh,zh,zh,zh,zh,zh,zh,zh,zh,zh,zh,zh,zh,zh,zh,zh,zh,zh,zh,zh,zh,zh,zh,zh,zh,zh,zh,zh,zh,zh,zh,zh,zh,zh,zh,zh,zh,zh,zh,zh,zh,zh,zh,zh,zh,zh,zh,zh,zh,zh,zh,zh,zh,zh,zh,zh]) zS.empty=some (e,T,S1)) (he:e=.normal∨e=.ret) (hca:[].all (jw 16)=true) (hcv:jw 16 (T.getD 0 zh)=true):zU zi O 9 [] S=some (T.getD 0 zh,S) :=
 kC rfl rfl Try.func9 (by decide) qU.body (by exact h) he (qI (a:=T.getD 0 zh) ((show jl zi T S1 Try.f9.results.toList=jl zi T S1 [(ResultVar.tmp 0)] from by kernel_rfl).trans (by simp only[jl])) (by kernel_rfl)) hca hcv
end
section
abbrev yx.id :FuncId:=12
noncomputable def yx.code :Code:=(.seq (.region 0 (reg Try.f12 0) true) (.seq (.region 1 (reg Try.f12 1) false) (.seq (.seq (.region 2 (reg Try.f12 2) false) (.cond (.tmp 26) Code.ret Code.skip)) (.seq (.region 3 (reg Try.f12 3) false) (.seq (.region 4 (reg Try.f12 4) false) (.seq (.region 5 (reg Try.f12 5) false) (.cond (.tmp 40) (.region 6 (reg Try.f12 6) true) Code.skip)))))))
theorem yx.body :Try.f12.body=some yx.code:=by kernel_rfl
variable (b c x2 x3 x4 x5 Y x7 x8 x9 d f g i k l m n o p q r s t u w x y z A B C D E F G H I J K L M N P Q R U V W:zu) (S:zS)
theorem yx.d0 :vg zi (reg Try.f12 0)=true:=by kernel_rfl
theorem yx.Nh :fixed zi (reg Try.f12 0)=false:=by kernel_rfl
theorem yx.k0 :checked zi (reg Try.f12 0)=[]:=by kernel_rfl
theorem yx.g0 :again zi (reg Try.f12 0)=[]:=by kernel_rfl
theorem yx.r0 :zX zi O true (.region 0 (reg Try.f12 0) true) ([b,c,x2,x3,x4,x5,Y,x7,x8,x9,d,f,g,i,k,l,m,n,o,p,q,r,s,t,u,w,x,y,z,A,B,C,D,E,F,G,H,I,J,K,L,M,N,P,Q,R,U,V,W]) S =
  yY (zT (WA (zQ b) S) (fun a Z=>zT (jf zi 62 a 1 Z) (fun v2 S2=>zT (zZ zi false 59 v2 S2) (fun v3 S3=>zT (qB zi true false 33 9 (zQ c) S3) (fun X S4=>zT (ZQ zi 59 v3 X (Value.bool true) S4) (fun v6 S5=>some ([b,c,x2,x3,x4,x5,Y,x7,x8,zQ b,a,v2,v3,zQ c,X,l,m,n,o,p,q,r,s,t,u,w,x,y,z,A,B,C,D,E,F,G,H,I,J,K,L,M,N,P,Q,R,U,V,W],S5)) ()) ()) ()) ()) ()):=by
 rw[V4 yx.d0 yx.Nh yx.k0 yx.g0];refine congrArg yY ?_;refine tP Try.f12 0 0 (v:=b) ?_;refine tD Try.f12 0 1 (fun a Z=>?_)
 refine tD Try.f12 0 2 (fun v2 S2=>?_)
 refine tD Try.f12 0 3 (fun v3 S3=>?_)
 refine tP Try.f12 0 4 (v:=c) ?_;refine tD Try.f12 0 5 (fun X S4=>?_)
 refine tD Try.f12 0 6 (fun v6 S5=>?_)
 kernel_rfl
theorem yx.r1 :zW zi ⟨true,false,false⟩ (wW O.hp true (zU zi O)) (reg Try.f12 1) (reg Try.f12 1).toList ([b,c,x2,x3,x4,x5,Y,x7,x8,x9,d,f,g,i,k,l,m,n,o,p,q,r,s,t,u,w,x,y,z,A,B,C,D,E,F,G,H,I,J,K,L,M,N,P,Q,R,U,V,W]) S =
  (zT (qN (zU zi O) 22 [(zQ (zQ c))] S) (fun a Z=>zT (jv a 0 Z) (fun v3 S2=>zT (jv (jh 0 a) 1 S2) (fun v4 S3=>zT (wR zi 48 S3) (fun X S4=>zT (jI zi 48 X (zQ v3) S4) (fun v6 S5=>some ([b,c,x2,x3,X,v4,Y,x7,x8,x9,d,f,g,i,k,jh 1 (jh 0 a),zQ c,zQ a,v3,zQ v4,q,r,s,t,u,w,x,y,z,A,B,C,D,E,F,G,H,I,J,K,L,M,N,P,Q,R,U,V,W],S5)) ()) ()) ()) ()) ()):=by kernel_rfl
theorem yx.r2 :zW zi ⟨true,false,false⟩ (wW O.hp true (zU zi O)) (reg Try.f12 2) (reg Try.f12 2).toList ([b,c,x2,x3,x4,x5,Y,x7,x8,x9,d,f,g,i,k,l,m,n,o,p,q,r,s,t,u,w,x,y,z,A,B,C,D,E,F,G,H,I,J,K,L,M,N,P,Q,R,U,V,W]) S =
  (zT (jd zi BinOp.neq 64 (zQ x5) (.int .i64 0) S) (fun a Z=>zY (zQ a) false (jf zi 48 x4 0) Z (fun v3 S2=>zY (zQ a) false (zZ zi false 3 v3) S2 (fun v4 S3=>zY (zQ a) false (jd zi BinOp.neq 3 v4 (.int .i64 1)) S3 (fun X S4=>zT (jH (zQ a) (Value.bool true) X S4) (fun v6 S5=>some ([b,c,x2,x3,x4,x5,Y,x7,x8,x9,d,f,g,i,k,l,m,n,o,p,zQ x5,a,zQ a,v3,v4,X,v6,y,z,A,B,C,D,E,F,G,H,I,J,K,L,M,N,P,Q,R,U,V,W],S5)) ()) ()) ()) ()) ()):=by
 refine sP Try.f12 2 0 (v:=x5) ?_;refine sD Try.f12 2 1 (fun a Z=>?_)
 refine sP Try.f12 2 2 (v:=a) ?_;refine sG Try.f12 2 3 (j:=2) (fun v3 S2=>?_)
 refine sG Try.f12 2 4 (j:=2) (fun v4 S3=>?_)
 refine sG Try.f12 2 5 (j:=2) (fun X S4=>?_)
 refine sD Try.f12 2 6 (fun v6 S5=>?_)
 kernel_rfl
theorem yx.r3 :zW zi ⟨true,false,false⟩ (wW O.hp true (zU zi O)) (reg Try.f12 3) (reg Try.f12 3).toList ([b,c,x2,x3,x4,x5,Y,x7,x8,x9,d,f,g,i,k,l,m,n,o,p,q,r,s,t,u,w,x,y,z,A,B,C,D,E,F,G,H,I,J,K,L,M,N,P,Q,R,U,V,W]) S =
  (zT (jf zi 48 x4 7 S) (fun v0 Z=>zT (zZ zi false 46 v0 Z) (fun a S2=>zT (qN (zU zi O) 23 [(zQ a)] S2) (fun v2 S3=>some ([b,c,x2,x3,x4,x5,v2,x7,x8,x9,d,f,g,i,k,l,m,n,o,p,q,r,s,t,u,w,x,v0,a,zQ v2,B,C,D,E,F,G,H,I,J,K,L,M,N,P,Q,R,U,V,W],S3)) ()) ()) ()):=by kernel_rfl
theorem yx.r4 :zW zi ⟨true,false,false⟩ (wW O.hp true (zU zi O)) (reg Try.f12 4) (reg Try.f12 4).toList ([b,c,x2,x3,x4,x5,Y,x7,x8,x9,d,f,g,i,k,l,m,n,o,p,q,r,s,t,u,w,x,y,z,A,B,C,D,E,F,G,H,I,J,K,L,M,N,P,Q,R,U,V,W]) S =
  (zT (WA (zQ b) S) (fun a Z=>zT (jf zi 62 a 2 Z) (fun v2 S2=>zT (zZ zi false 60 v2 S2) (fun v3 S3=>zT (JH zi false 60 v3 (zQ Y) true S3) (fun X S4=>zT (jv X 0 S4) (fun v7 S5=>zT (jv (jh 0 X) 1 S5) (fun v8 S6=>some ([b,c,x2,x3,x4,x5,Y,v7,v8,x9,d,f,g,i,k,l,m,n,o,p,q,r,s,t,u,w,x,y,z,A,jh 1 (jh 0 X),zQ b,a,v2,v3,zQ Y,zQ X,zQ v7,zQ v8,K,L,M,N,P,Q,R,U,V,W],S6)) ()) ()) ()) ()) ()) ()):=by kernel_rfl
theorem yx.r5 :zW zi ⟨true,false,false⟩ (wW O.hp true (zU zi O)) (reg Try.f12 5) (reg Try.f12 5).toList ([b,c,x2,x3,x4,x5,Y,x7,x8,x9,d,f,g,i,k,l,m,n,o,p,q,r,s,t,u,w,x,y,z,A,B,C,D,E,F,G,H,I,J,K,L,M,N,P,Q,R,U,V,W]) S =
  (zT (qo zi UnOp.not (zQ x8) S) (fun a Z=>some ([b,c,x2,x3,x4,x5,Y,x7,x8,x9,d,f,g,i,k,l,m,n,o,p,q,r,s,t,u,w,x,y,z,A,B,C,D,E,F,G,H,I,J,zQ x8,a,M,N,P,Q,R,U,V,W],Z)) ()):=by kernel_rfl
theorem yx.d6 :vg zi (reg Try.f12 6)=true:=by kernel_rfl
theorem yx.KF :fixed zi (reg Try.f12 6)=false:=by kernel_rfl
theorem yx.k6 :checked zi (reg Try.f12 6)=[0,1,2,3,4]:=by kernel_rfl
theorem yx.g6 :again zi (reg Try.f12 6)=[(3,7)]:=by kernel_rfl
theorem yx.r6 :zX zi O true (.region 6 (reg Try.f12 6) true) ([b,c,x2,x3,x4,x5,Y,x7,x8,x9,d,f,g,i,k,l,m,n,o,p,q,r,s,t,u,w,x,y,z,A,B,C,D,E,F,G,H,I,J,K,L,M,N,P,Q,R,U,V,W]) S =
  yY (jK b ( zT (WA (zQ b) S) (fun a Z=>jK a ( zT (jf zi 62 a 2 Z) (fun v2 S2=>jK v2 ( zT (zZ zi false 60 v2 S2) (fun v3 S3=>jK v3 ( jK Y ( zT (jf zi 48 x4 7 S3) (fun X S4=>zT (zZ zi false 46 X S4) (fun v6 S5=>zT (qN (zU zi O) 24 [(zQ v6)] S5) (fun v7 S6=>zT (ZQ zi 60 v3 (zQ Y) (zQ v7) S6) (fun v8 S7=>Jy (y8 v2 S2 S6&&(true)) (some ([b,c,x2,x3,x4,x5,Y,x7,x8,x9,d,f,g,i,k,l,m,n,o,p,q,r,s,t,u,w,x,y,z,A,B,C,D,E,F,G,H,I,J,K,L,zQ b,a,v2,v3,zQ Y,X,v6,v7],S7)) ()) ()) ()) ()) ()) ()) ()) ()) ()) ()) ()) ()) ()):=by
 rw[V4 yx.d6 yx.KF yx.k6 yx.g6];refine congrArg yY ?_;refine Zb Try.f12 6 0 (v:=b) (pe:=zh) ?_;refine yH Try.f12 6 1 (pe:=zh) (fun a Z=>?_)
 refine yH Try.f12 6 2 (pe:=zh) (fun v2 S2=>?_)
 refine yH Try.f12 6 3 (pe:=v2) (fun v3 S3=>?_)
 refine Zb Try.f12 6 4 (v:=Y) (pe:=zh) ?_;refine uD Try.f12 6 5 (pe:=zh) (fun X S4=>?_)
 refine uD Try.f12 6 6 (pe:=X) (fun v6 S5=>?_)
 refine uD Try.f12 6 7 (pe:=zh) (fun v7 S6=>?_)
 refine uD Try.f12 6 8 (pe:=zh) (fun v8 S7=>?_)
 kernel_rfl
theorem yx.rs :type_of% (zJ @yx.r0 (zJ @yx.r1 (zJ @yx.r2 (zJ @yx.r3 (zJ @yx.r4 (zJ @yx.r5 (@yx.r6))))))):=zJ @yx.r0 (zJ @yx.r1 (zJ @yx.r2 (zJ @yx.r3 (zJ @yx.r4 (zJ @yx.r5 (@yx.r6))))))
theorem yx.runs {b c:zu}{S Z:zS}{e:wC}{T:List zu}(h:zX zi O true yx.code ([b,c,zh,zh,zh,zh,zh,zh,zh,zh,zh,zh,zh,zh,zh,zh,zh,zh,zh,zh,zh,zh,zh,zh,zh,zh,zh,zh,zh,zh,zh,zh,zh,zh,zh,zh,zh,zh,zh,zh,zh,zh,zh,zh,zh,zh,zh,zh,zh]) S=some (e,T,Z)) (he:e=.normal∨e=.ret):zU zi O 12 [b,c] S=some (Value.tuple #[],Z) :=
 xX rfl rfl Try.func12 (by decide) yx.body (by exact h) he rfl
end
section
abbrev jJ.id :FuncId:=10
noncomputable def jJ.code :Code:=(.seq (.region 0 (reg Try.f10 0) false) (.seq (.region 1 (reg Try.f10 1) false) (.seq (.block 0 (.seq (.region 2 (reg Try.f10 2) false) (.cond (.tmp 15) (.seq (.region 3 (reg Try.f10 3) false) Code.ret) (.seq (.region 4 (reg Try.f10 4) true) (.cond (.tmp 18) (.seq (.region 5 (reg Try.f10 5) false) Code.ret) (.seq (.region 6 (reg Try.f10 6) false) (.cond (.tmp 26) (.seq (.region 7 (reg Try.f10 7) false) Code.ret) (.seq (.region 8 (reg Try.f10 8) false) (.cond (.tmp 32) (.seq (.region 9 (reg Try.f10 9) false) Code.ret) Code.skip))))))))) (.seq (.region 10 (reg Try.f10 10) false) (.seq (.region 11 (reg Try.f10 11) false) (.seq (.seq (.region 12 (reg Try.f10 12) false) (.cond (.tmp 48) (.seq (.region 13 (reg Try.f10 13) false) Code.ret) Code.skip)) (.seq (.seq (.region 14 (reg Try.f10 14) false) (.cond (.tmp 59) (.seq (.region 15 (reg Try.f10 15) false) Code.ret) Code.skip)) (.seq (.region 16 (reg Try.f10 16) true) (.seq (.region 17 (reg Try.f10 17) false) Code.ret)))))))))
theorem jJ.body :Try.f10.body=some jJ.code:=by kernel_rfl
variable (x0 x1 x2 x3 x4 x5 x6 x7 x8 x9 b c d f g i j k l m n o p q r s t u w x y z A B C D E F G H I J K L M N P Q R U V W X Y Z a0 a1 a2 a3 a4 a5 a6 a7 a8 a9 b0 b1 b2:zu) (S:zS)
theorem jJ.r0 :zW zi ⟨true,false,false⟩ (wW O.hp true (zU zi O)) (reg Try.f10 0) (reg Try.f10 0).toList ([x0,x1,x2,x3,x4,x5,x6,x7,x8,x9,b,c,d,f,g,i,j,k,l,m,n,o,p,q,r,s,t,u,w,x,y,z,A,B,C,D,E,F,G,H,I,J,K,L,M,N,P,Q,R,U,V,W,X,Y,Z,a0,a1,a2,a3,a4,a5,a6,a7,a8,a9,b0,b1,b2]) S =
  ( some ([x0,x1,x2,x3,Value.bool false,x5,x6,x7,x8,x9,b,c,d,f,g,i,j,k,l,m,n,o,p,q,r,s,t,u,w,x,y,z,A,B,C,D,E,F,G,H,I,J,K,L,M,N,P,Q,R,U,V,W,X,Y,Z,a0,a1,a2,a3,a4,a5,a6,a7,a8,a9,b0,b1,b2],S)):=by kernel_rfl
theorem jJ.r1 :zW zi ⟨true,false,false⟩ (wW O.hp true (zU zi O)) (reg Try.f10 1) (reg Try.f10 1).toList ([x0,x1,x2,x3,x4,x5,x6,x7,x8,x9,b,c,d,f,g,i,j,k,l,m,n,o,p,q,r,s,t,u,w,x,y,z,A,B,C,D,E,F,G,H,I,J,K,L,M,N,P,Q,R,U,V,W,X,Y,Z,a0,a1,a2,a3,a4,a5,a6,a7,a8,a9,b0,b1,b2]) S =
  (zT (qN (zU zi O) 22 [(zQ (zQ x1))] S) (fun v1 S1=>zT (jv v1 0 S1) (fun v3 S2=>zT (jv (jh 0 v1) 1 S2) (fun v4 S3=>zT (wR zi 48 S3) (fun v5 S4=>zT (jI zi 48 v5 (zQ v3) S4) (fun v6 S5=>some ([x0,x1,x2,x3,x4,v5,v4,x7,x8,x9,jh 1 (jh 0 v1),zQ x1,zQ v1,v3,zQ v4,i,j,k,l,m,n,o,p,q,r,s,t,u,w,x,y,z,A,B,C,D,E,F,G,H,I,J,K,L,M,N,P,Q,R,U,V,W,X,Y,Z,a0,a1,a2,a3,a4,a5,a6,a7,a8,a9,b0,b1,b2],S5)) ()) ()) ()) ()) ()):=by kernel_rfl
theorem jJ.r2 :zW zi ⟨true,false,false⟩ (wW O.hp true (zU zi O)) (reg Try.f10 2) (reg Try.f10 2).toList ([x0,x1,x2,x3,x4,x5,x6,x7,x8,x9,b,c,d,f,g,i,j,k,l,m,n,o,p,q,r,s,t,u,w,x,y,z,A,B,C,D,E,F,G,H,I,J,K,L,M,N,P,Q,R,U,V,W,X,Y,Z,a0,a1,a2,a3,a4,a5,a6,a7,a8,a9,b0,b1,b2]) S =
  (zT (jd zi BinOp.neq 64 (zQ x6) (.int .i64 0) S) (fun v1 S1=>some ([x0,x1,x2,x3,x4,x5,x6,x7,x8,x9,b,c,d,f,g,v1,zQ x6,zQ v1,l,m,n,o,p,q,r,s,t,u,w,x,y,z,A,B,C,D,E,F,G,H,I,J,K,L,M,N,P,Q,R,U,V,W,X,Y,Z,a0,a1,a2,a3,a4,a5,a6,a7,a8,a9,b0,b1,b2],S1)) ()):=by kernel_rfl
theorem jJ.r3 :zW zi ⟨true,false,false⟩ (wW O.hp true (zU zi O)) (reg Try.f10 3) (reg Try.f10 3).toList ([x0,x1,x2,x3,x4,x5,x6,x7,x8,x9,b,c,d,f,g,i,j,k,l,m,n,o,p,q,r,s,t,u,w,x,y,z,A,B,C,D,E,F,G,H,I,J,K,L,M,N,P,Q,R,U,V,W,X,Y,Z,a0,a1,a2,a3,a4,a5,a6,a7,a8,a9,b0,b1,b2]) S =
  ( some ([x0,x1,x2,x3,Value.bool false,x5,x6,x7,x8,x9,b,c,d,f,g,i,j,k,l,m,n,o,p,q,r,s,t,u,w,x,y,z,A,B,C,D,E,F,G,H,I,J,K,L,M,N,P,Q,R,U,V,W,X,Y,Z,a0,a1,a2,a3,a4,a5,a6,a7,a8,a9,b0,b1,b2],S)):=by kernel_rfl
theorem jJ.d4 :vg zi (reg Try.f10 4)=true:=by kernel_rfl
theorem jJ.KE :fixed zi (reg Try.f10 4)=false:=by kernel_rfl
theorem jJ.k4 :checked zi (reg Try.f10 4)=[]:=by kernel_rfl
theorem jJ.g4 :again zi (reg Try.f10 4)=[]:=by kernel_rfl
theorem jJ.r4 :zX zi O true (.region 4 (reg Try.f10 4) true) ([x0,x1,x2,x3,x4,x5,x6,x7,x8,x9,b,c,d,f,g,i,j,k,l,m,n,o,p,q,r,s,t,u,w,x,y,z,A,B,C,D,E,F,G,H,I,J,K,L,M,N,P,Q,R,U,V,W,X,Y,Z,a0,a1,a2,a3,a4,a5,a6,a7,a8,a9,b0,b1,b2]) S =
  yY (zT (WA (zQ x0) S) (fun v1 S1=>zT (jf zi 62 v1 1 S1) (fun v2 S2=>zT (zZ zi false 59 v2 S2) (fun v3 S3=>zT (qB zi true false 33 9 (zQ x1) S3) (fun v5 S4=>zT (JH zi false 59 v3 v5 false S4) (fun v6 S5=>some ([x0,x1,x2,x3,x4,x5,x6,x7,x8,x9,b,c,d,f,g,i,j,k,v6,zQ x0,v1,v2,v3,zQ x1,v5,zQ v6,t,u,w,x,y,z,A,B,C,D,E,F,G,H,I,J,K,L,M,N,P,Q,R,U,V,W,X,Y,Z,a0,a1,a2,a3,a4,a5,a6,a7,a8,a9,b0,b1,b2],S5)) ()) ()) ()) ()) ()):=by
 rw[V4 jJ.d4 jJ.KE jJ.k4 jJ.g4];refine congrArg yY ?_;refine tP Try.f10 4 0 (v:=x0) ?_;refine tD Try.f10 4 1 (fun v1 S1=>?_)
 refine tD Try.f10 4 2 (fun v2 S2=>?_)
 refine tD Try.f10 4 3 (fun v3 S3=>?_)
 refine tP Try.f10 4 4 (v:=x1) ?_;refine tD Try.f10 4 5 (fun v5 S4=>?_)
 refine tD Try.f10 4 6 (fun v6 S5=>?_)
 refine tP Try.f10 4 7 (v:=v6) ?_
 kernel_rfl
theorem jJ.r5 :zW zi ⟨true,false,false⟩ (wW O.hp true (zU zi O)) (reg Try.f10 5) (reg Try.f10 5).toList ([x0,x1,x2,x3,x4,x5,x6,x7,x8,x9,b,c,d,f,g,i,j,k,l,m,n,o,p,q,r,s,t,u,w,x,y,z,A,B,C,D,E,F,G,H,I,J,K,L,M,N,P,Q,R,U,V,W,X,Y,Z,a0,a1,a2,a3,a4,a5,a6,a7,a8,a9,b0,b1,b2]) S =
  ( some ([x0,x1,x2,x3,Value.bool true,x5,x6,x7,x8,x9,b,c,d,f,g,i,j,k,l,m,n,o,p,q,r,s,t,u,w,x,y,z,A,B,C,D,E,F,G,H,I,J,K,L,M,N,P,Q,R,U,V,W,X,Y,Z,a0,a1,a2,a3,a4,a5,a6,a7,a8,a9,b0,b1,b2],S)):=by kernel_rfl
theorem jJ.r6 :zW zi ⟨true,false,false⟩ (wW O.hp true (zU zi O)) (reg Try.f10 6) (reg Try.f10 6).toList ([x0,x1,x2,x3,x4,x5,x6,x7,x8,x9,b,c,d,f,g,i,j,k,l,m,n,o,p,q,r,s,t,u,w,x,y,z,A,B,C,D,E,F,G,H,I,J,K,L,M,N,P,Q,R,U,V,W,X,Y,Z,a0,a1,a2,a3,a4,a5,a6,a7,a8,a9,b0,b1,b2]) S =
  (zT (jf zi 48 x5 1 S) (fun v1 S1=>zT (zZ zi false 3 v1 S1) (fun v2 S2=>zT (qN (zU zi O) 11 [(zQ (zQ x0)),(zQ v2)] S2) (fun v3 S3=>zT (qo zi UnOp.not v3 S3) (fun v4 S4=>some ([x0,x1,x2,x3,x4,x5,x6,x7,x8,x9,b,c,d,f,g,i,j,k,l,m,n,o,p,q,r,s,v4,zQ x0,v1,v2,v3,zQ v4,A,B,C,D,E,F,G,H,I,J,K,L,M,N,P,Q,R,U,V,W,X,Y,Z,a0,a1,a2,a3,a4,a5,a6,a7,a8,a9,b0,b1,b2],S4)) ()) ()) ()) ()):=by kernel_rfl
theorem jJ.r7 :zW zi ⟨true,false,false⟩ (wW O.hp true (zU zi O)) (reg Try.f10 7) (reg Try.f10 7).toList ([x0,x1,x2,x3,x4,x5,x6,x7,x8,x9,b,c,d,f,g,i,j,k,l,m,n,o,p,q,r,s,t,u,w,x,y,z,A,B,C,D,E,F,G,H,I,J,K,L,M,N,P,Q,R,U,V,W,X,Y,Z,a0,a1,a2,a3,a4,a5,a6,a7,a8,a9,b0,b1,b2]) S =
  ( some ([x0,x1,x2,x3,Value.bool false,x5,x6,x7,x8,x9,b,c,d,f,g,i,j,k,l,m,n,o,p,q,r,s,t,u,w,x,y,z,A,B,C,D,E,F,G,H,I,J,K,L,M,N,P,Q,R,U,V,W,X,Y,Z,a0,a1,a2,a3,a4,a5,a6,a7,a8,a9,b0,b1,b2],S)):=by kernel_rfl
theorem jJ.r8 :zW zi ⟨true,false,false⟩ (wW O.hp true (zU zi O)) (reg Try.f10 8) (reg Try.f10 8).toList ([x0,x1,x2,x3,x4,x5,x6,x7,x8,x9,b,c,d,f,g,i,j,k,l,m,n,o,p,q,r,s,t,u,w,x,y,z,A,B,C,D,E,F,G,H,I,J,K,L,M,N,P,Q,R,U,V,W,X,Y,Z,a0,a1,a2,a3,a4,a5,a6,a7,a8,a9,b0,b1,b2]) S =
  (zT (jf zi 48 x5 0 S) (fun v0 S1=>zT (zZ zi false 3 v0 S1) (fun v1 S2=>zT (jd zi BinOp.neq 3 v1 (.int .i64 1) S2) (fun v2 S3=>some ([x0,x1,x2,x3,x4,x5,x6,x7,x8,x9,b,c,d,f,g,i,j,k,l,m,n,o,p,q,r,s,t,u,w,x,y,z,v2,v0,v1,zQ v2,E,F,G,H,I,J,K,L,M,N,P,Q,R,U,V,W,X,Y,Z,a0,a1,a2,a3,a4,a5,a6,a7,a8,a9,b0,b1,b2],S3)) ()) ()) ()):=by kernel_rfl
theorem jJ.r9 :zW zi ⟨true,false,false⟩ (wW O.hp true (zU zi O)) (reg Try.f10 9) (reg Try.f10 9).toList ([x0,x1,x2,x3,x4,x5,x6,x7,x8,x9,b,c,d,f,g,i,j,k,l,m,n,o,p,q,r,s,t,u,w,x,y,z,A,B,C,D,E,F,G,H,I,J,K,L,M,N,P,Q,R,U,V,W,X,Y,Z,a0,a1,a2,a3,a4,a5,a6,a7,a8,a9,b0,b1,b2]) S =
  ( some ([x0,x1,x2,x3,Value.bool true,x5,x6,x7,x8,x9,b,c,d,f,g,i,j,k,l,m,n,o,p,q,r,s,t,u,w,x,y,z,A,B,C,D,E,F,G,H,I,J,K,L,M,N,P,Q,R,U,V,W,X,Y,Z,a0,a1,a2,a3,a4,a5,a6,a7,a8,a9,b0,b1,b2],S)):=by kernel_rfl
theorem jJ.r10 :zW zi ⟨true,false,false⟩ (wW O.hp true (zU zi O)) (reg Try.f10 10) (reg Try.f10 10).toList ([x0,x1,x2,x3,x4,x5,x6,x7,x8,x9,b,c,d,f,g,i,j,k,l,m,n,o,p,q,r,s,t,u,w,x,y,z,A,B,C,D,E,F,G,H,I,J,K,L,M,N,P,Q,R,U,V,W,X,Y,Z,a0,a1,a2,a3,a4,a5,a6,a7,a8,a9,b0,b1,b2]) S =
  (zT (jf zi 48 x5 7 S) (fun v0 S1=>zT (zZ zi false 46 v0 S1) (fun v1 S2=>zT (qN (zU zi O) 23 [(zQ v1)] S2) (fun v2 S3=>some ([x0,x1,x2,x3,x4,x5,x6,v2,x8,x9,b,c,d,f,g,i,j,k,l,m,n,o,p,q,r,s,t,u,w,x,y,z,A,B,C,D,v0,v1,zQ v2,H,I,J,K,L,M,N,P,Q,R,U,V,W,X,Y,Z,a0,a1,a2,a3,a4,a5,a6,a7,a8,a9,b0,b1,b2],S3)) ()) ()) ()):=by kernel_rfl
theorem jJ.r11 :zW zi ⟨true,false,false⟩ (wW O.hp true (zU zi O)) (reg Try.f10 11) (reg Try.f10 11).toList ([x0,x1,x2,x3,x4,x5,x6,x7,x8,x9,b,c,d,f,g,i,j,k,l,m,n,o,p,q,r,s,t,u,w,x,y,z,A,B,C,D,E,F,G,H,I,J,K,L,M,N,P,Q,R,U,V,W,X,Y,Z,a0,a1,a2,a3,a4,a5,a6,a7,a8,a9,b0,b1,b2]) S =
  (zT (WA (zQ x0) S) (fun v1 S1=>zT (jf zi 62 v1 2 S1) (fun v2 S2=>zT (zZ zi false 60 v2 S2) (fun v3 S3=>zT (JH zi false 60 v3 (zQ x7) true S3) (fun v5 S4=>zT (jv v5 0 S4) (fun v7 S5=>zT (jv (jh 0 v5) 1 S5) (fun v8 S6=>some ([x0,x1,x2,x3,x4,x5,x6,x7,v7,v8,b,c,d,f,g,i,j,k,l,m,n,o,p,q,r,s,t,u,w,x,y,z,A,B,C,D,E,F,G,jh 1 (jh 0 v5),zQ x0,v1,v2,v3,zQ x7,zQ v5,zQ v7,zQ v8,R,U,V,W,X,Y,Z,a0,a1,a2,a3,a4,a5,a6,a7,a8,a9,b0,b1,b2],S6)) ()) ()) ()) ()) ()) ()):=by kernel_rfl
theorem jJ.r12 :zW zi ⟨true,false,false⟩ (wW O.hp true (zU zi O)) (reg Try.f10 12) (reg Try.f10 12).toList ([x0,x1,x2,x3,x4,x5,x6,x7,x8,x9,b,c,d,f,g,i,j,k,l,m,n,o,p,q,r,s,t,u,w,x,y,z,A,B,C,D,E,F,G,H,I,J,K,L,M,N,P,Q,R,U,V,W,X,Y,Z,a0,a1,a2,a3,a4,a5,a6,a7,a8,a9,b0,b1,b2]) S =
  ( some ([x0,x1,x2,x3,x4,x5,x6,x7,x8,x9,b,c,d,f,g,i,j,k,l,m,n,o,p,q,r,s,t,u,w,x,y,z,A,B,C,D,E,F,G,H,I,J,K,L,M,N,P,Q,zQ x9,U,V,W,X,Y,Z,a0,a1,a2,a3,a4,a5,a6,a7,a8,a9,b0,b1,b2],S)):=by kernel_rfl
theorem jJ.r13 :zW zi ⟨true,false,false⟩ (wW O.hp true (zU zi O)) (reg Try.f10 13) (reg Try.f10 13).toList ([x0,x1,x2,x3,x4,x5,x6,x7,x8,x9,b,c,d,f,g,i,j,k,l,m,n,o,p,q,r,s,t,u,w,x,y,z,A,B,C,D,E,F,G,H,I,J,K,L,M,N,P,Q,R,U,V,W,X,Y,Z,a0,a1,a2,a3,a4,a5,a6,a7,a8,a9,b0,b1,b2]) S =
  (zT (jf zi 48 x5 7 S) (fun v1 S1=>zT (zZ zi false 46 v1 S1) (fun v2 S2=>zT (qN (zU zi O) 24 [(zQ v2)] S2) (fun v3 S3=>zT (jd zi BinOp.eql 9 (zQ x8) v3 S3) (fun v4 S4=>some ([x0,x1,x2,x3,v4,x5,x6,x7,x8,x9,b,c,d,f,g,i,j,k,l,m,n,o,p,q,r,s,t,u,w,x,y,z,A,B,C,D,E,F,G,H,I,J,K,L,M,N,P,Q,R,zQ x8,v1,v2,v3,zQ v4,Z,a0,a1,a2,a3,a4,a5,a6,a7,a8,a9,b0,b1,b2],S4)) ()) ()) ()) ()):=by kernel_rfl
theorem jJ.vP :zW zi ⟨true,false,false⟩ (wW O.hp true (zU zi O)) (reg Try.f10 14) (reg Try.f10 14).toList ([x0,x1,x2,x3,x4,x5,x6,x7,x8,x9,b,c,d,f,g,i,j,k,l,m,n,o,p,q,r,s,t,u,w,x,y,z,A,B,C,D,E,F,G,H,I,J,K,L,M,N,P,Q,R,U,V,W,X,Y,Z,a0,a1,a2,a3,a4,a5,a6,a7,a8,a9,b0,b1,b2]) S =
  (zT (jf zi 48 x5 7 S) (fun v1 S1=>zT (jf zi 46 v1 1 S1) (fun v2 S2=>zT (zZ zi false 3 v2 S2) (fun v3 S3=>zT (qN (zU zi O) 11 [(zQ (zQ x0)),(zQ v3)] S3) (fun v4 S4=>zT (qo zi UnOp.not v4 S4) (fun v5 S5=>some ([x0,x1,x2,x3,x4,x5,x6,x7,x8,x9,b,c,d,f,g,i,j,k,l,m,n,o,p,q,r,s,t,u,w,x,y,z,A,B,C,D,E,F,G,H,I,J,K,L,M,N,P,Q,R,U,V,W,X,Y,zQ x0,v1,v2,v3,v4,v5,a5,a6,a7,a8,a9,b0,b1,b2],S5)) ()) ()) ()) ()) ()):=by kernel_rfl
theorem jJ.Zi :zW zi ⟨true,false,false⟩ (wW O.hp true (zU zi O)) (reg Try.f10 15) (reg Try.f10 15).toList ([x0,x1,x2,x3,x4,x5,x6,x7,x8,x9,b,c,d,f,g,i,j,k,l,m,n,o,p,q,r,s,t,u,w,x,y,z,A,B,C,D,E,F,G,H,I,J,K,L,M,N,P,Q,R,U,V,W,X,Y,Z,a0,a1,a2,a3,a4,a5,a6,a7,a8,a9,b0,b1,b2]) S =
  ( some ([x0,x1,x2,x3,Value.bool false,x5,x6,x7,x8,x9,b,c,d,f,g,i,j,k,l,m,n,o,p,q,r,s,t,u,w,x,y,z,A,B,C,D,E,F,G,H,I,J,K,L,M,N,P,Q,R,U,V,W,X,Y,Z,a0,a1,a2,a3,a4,a5,a6,a7,a8,a9,b0,b1,b2],S)):=by kernel_rfl
theorem jJ.gQ :vg zi (reg Try.f10 16)=true:=by kernel_rfl
theorem jJ.gY :fixed zi (reg Try.f10 16)=false:=by kernel_rfl
theorem jJ.k16 :checked zi (reg Try.f10 16)=[0,1,2,3,4]:=by kernel_rfl
theorem jJ.g16 :again zi (reg Try.f10 16)=[(3,7)]:=by kernel_rfl
theorem jJ.r16 :zX zi O true (.region 16 (reg Try.f10 16) true) ([x0,x1,x2,x3,x4,x5,x6,x7,x8,x9,b,c,d,f,g,i,j,k,l,m,n,o,p,q,r,s,t,u,w,x,y,z,A,B,C,D,E,F,G,H,I,J,K,L,M,N,P,Q,R,U,V,W,X,Y,Z,a0,a1,a2,a3,a4,a5,a6,a7,a8,a9,b0,b1,b2]) S =
  yY (jK x0 ( zT (WA (zQ x0) S) (fun v1 S1=>jK v1 ( zT (jf zi 62 v1 2 S1) (fun v2 S2=>jK v2 ( zT (zZ zi false 60 v2 S2) (fun v3 S3=>jK v3 ( jK x7 ( zT (jf zi 48 x5 7 S3) (fun v5 S4=>zT (zZ zi false 46 v5 S4) (fun v6 S5=>zT (qN (zU zi O) 24 [(zQ v6)] S5) (fun v7 S6=>zT (ZQ zi 60 v3 (zQ x7) (zQ v7) S6) (fun v8 S7=>Jy (y8 v2 S2 S6&&(true)) (some ([x0,x1,x2,x3,x4,x5,x6,x7,x8,x9,b,c,d,f,g,i,j,k,l,m,n,o,p,q,r,s,t,u,w,x,y,z,A,B,C,D,E,F,G,H,I,J,K,L,M,N,P,Q,R,U,V,W,X,Y,Z,a0,a1,a2,a3,a4,zQ x0,v1,v2,v3,zQ x7,v5,v6,v7],S7)) ()) ()) ()) ()) ()) ()) ()) ()) ()) ()) ()) ()) ()):=by
 rw[V4 jJ.gQ jJ.gY jJ.k16 jJ.g16];refine congrArg yY ?_;refine Zb Try.f10 16 0 (v:=x0) (pe:=zh) ?_;refine yH Try.f10 16 1 (pe:=zh) (fun v1 S1=>?_)
 refine yH Try.f10 16 2 (pe:=zh) (fun v2 S2=>?_)
 refine yH Try.f10 16 3 (pe:=v2) (fun v3 S3=>?_)
 refine Zb Try.f10 16 4 (v:=x7) (pe:=zh) ?_;refine uD Try.f10 16 5 (pe:=zh) (fun v5 S4=>?_)
 refine uD Try.f10 16 6 (pe:=v5) (fun v6 S5=>?_)
 refine uD Try.f10 16 7 (pe:=zh) (fun v7 S6=>?_)
 refine uD Try.f10 16 8 (pe:=zh) (fun v8 S7=>?_)
 kernel_rfl
theorem jJ.JX :zW zi ⟨true,false,false⟩ (wW O.hp true (zU zi O)) (reg Try.f10 17) (reg Try.f10 17).toList ([x0,x1,x2,x3,x4,x5,x6,x7,x8,x9,b,c,d,f,g,i,j,k,l,m,n,o,p,q,r,s,t,u,w,x,y,z,A,B,C,D,E,F,G,H,I,J,K,L,M,N,P,Q,R,U,V,W,X,Y,Z,a0,a1,a2,a3,a4,a5,a6,a7,a8,a9,b0,b1,b2]) S =
  ( some ([x0,x1,x2,x3,Value.bool true,x5,x6,x7,x8,x9,b,c,d,f,g,i,j,k,l,m,n,o,p,q,r,s,t,u,w,x,y,z,A,B,C,D,E,F,G,H,I,J,K,L,M,N,P,Q,R,U,V,W,X,Y,Z,a0,a1,a2,a3,a4,a5,a6,a7,a8,a9,b0,b1,b2],S)):=by kernel_rfl
theorem jJ.rs :type_of% (zJ @jJ.r0 (zJ @jJ.r1 (zJ @jJ.r2 (zJ @jJ.r3 (zJ @jJ.r4 (zJ @jJ.r5 (zJ @jJ.r6 (zJ @jJ.r7 (zJ @jJ.r8 (zJ @jJ.r9 (zJ @jJ.r10 (zJ @jJ.r11 (zJ @jJ.r12 (zJ @jJ.r13 (zJ @jJ.vP (zJ @jJ.Zi (zJ @jJ.r16 (@jJ.JX)))))))))))))))))):=zJ @jJ.r0 (zJ @jJ.r1 (zJ @jJ.r2 (zJ @jJ.r3 (zJ @jJ.r4 (zJ @jJ.r5 (zJ @jJ.r6 (zJ @jJ.r7 (zJ @jJ.r8 (zJ @jJ.r9 (zJ @jJ.r10 (zJ @jJ.r11 (zJ @jJ.r12 (zJ @jJ.r13 (zJ @jJ.vP (zJ @jJ.Zi (zJ @jJ.r16 (@jJ.JX)))))))))))))))))
theorem jJ.runs {x0 x1:zu}{S S1:zS}{e:wC}{T:List zu}(h:zX zi O true jJ.code ([x0,x1,zh,zh,zh,zh,zh,zh,zh,zh,zh,zh,zh,zh,zh,zh,zh,zh,zh,zh,zh,zh,zh,zh,zh,zh,zh,zh,zh,zh,zh,zh,zh,zh,zh,zh,zh,zh,zh,zh,zh,zh,zh,zh,zh,zh,zh,zh,zh,zh,zh,zh,zh,zh,zh,zh,zh,zh,zh,zh,zh,zh,zh,zh,zh,zh,zh,zh]) S=some (e,T,S1)) (he:e=.normal∨e=.ret):zU zi O 10 [x0,x1] S=some (T.getD 4 zh,S1) :=
 xX rfl rfl Try.func10 (by decide) jJ.body (by exact h) he (qI (a:=T.getD 4 zh) ((show jl zi T S1 Try.f10.results.toList=jl zi T S1 [(ResultVar.tmp 4)] from by kernel_rfl).trans (by simp only[jl])) (by kernel_rfl))
end
end Go.Proofs.Ytfjogganfjkckaa
namespace Go.Abs
open Go.RowKit
abbrev ms (q n:Nat):zu:=.slice (some ⟨q,0,none⟩) n n
theorem PD {k e n:Nat}{cs:List zu}:xQ (sv k e n cs)=false:=by unfold sv;split<;>rfl
theorem Dc {α:Type}{f:α→List zu}{e k:Nat}{l:List α}:xQ (vs f e k l)=false:=PD
theorem Wl {P:Program}{O:J9} {g:FuncId}{args:List zu}{S:zS}{r:Option (zu×zS)}(h:zU P O g args S=r) (ha:args.all (fun x=>!Z7 x)=true):qN (zU P O) g args S=r:=(Lp ha).trans h
theorem uy {α:Type}{f:α→List zu}{e q:Nat}{l:List α}{rest:List zu}{anc:List Nat}{S:zS}(hf:∀x,(f x).length=e) (hg:S.get q=some (.cells (l.flatMap f++rest) (.own anc) e)) :
  QA (ms q l.length) S=some (vs f e 1 l,S.set q .dead):=by
 have hl:=Xq hf l;have e0:QA (ms q l.length) S=YB (ms q l.length) S:=rfl;rw[e0,NH hg (by rw[List.length_append,hl];omega),List.drop_zero,←hl,List.take_left]
 rfl
theorem uq {x y:zu}{args:List zu}{S S1:zS}(h:QA x S=some (y,S1)) (ha:args.all (fun x=>!Z7 x)=true):Yd (x::args) S=some (y::args,S1):=by
 simp only[Yd,h,iG ha]
section
variable {P:Program}{O:J9} {α:Type}{f:α→List zu}{e q:Nat}{l:List α}{rest:List zu}{anc:List Nat}{S:zS}
end
end Go.Abs
namespace Go.Proofs.Ytfjogganfjkckaa
open Go.Abs
section
abbrev ZB.id :FuncId:=8
noncomputable def ZB.code :Code:=(.seq (.region 0 (reg Try.f8 0) false) (.seq (.region 1 (reg Try.f8 1) false) Code.ret))
theorem ZB.body :Try.f8.body=some ZB.code:=by kernel_rfl
variable (b d m f g i j k l:zu) (S:zS)
theorem ZB.r0 :zW zi ⟨false,false,false⟩ (zU zi O) (reg Try.f8 0) (reg Try.f8 0).toList ([b,d,m,f,g,i,j,k,l]) S =
  ( some ([b,d,Value.pointer none,f,g,i,j,k,l],S)):=by kernel_rfl
theorem ZB.r1 :zW zi ⟨false,false,false⟩ (zU zi O) (reg Try.f8 1) (reg Try.f8 1).toList ([b,d,m,f,g,i,j,k,l]) S =
  (zT ((zU zi O) 20 [(zQ (zQ b))] S) (fun n c=>zT (Ya zi 59 none c) (fun o s=>zT (Ya zi 60 none s) (fun p t=>zT (wS zi 62 [(0,(zQ n)),(1,(zQ o)),(2,(zQ p))] t) (fun q u=>zT (qm (zQ q) u) (fun r v=>some ([b,d,r,zQ b,n,o,p,q,zQ r],v)) ()) ()) ()) ()) ()):=by kernel_rfl
theorem ZB.rs :type_of% (zJ @ZB.r0 (@ZB.r1)):=zJ @ZB.r0 (@ZB.r1)
theorem ZB.runs {b:zu}{S c:zS}{e:wC}{T:List zu}(h:zX zi O false ZB.code ([b,zh,zh,zh,zh,zh,zh,zh,zh]) S=some (e,T,c)) (he:e=.normal∨e=.ret):zU zi O 8 [b] S=some (T.getD 2 zh,c) :=
 xX rfl rfl Try.func8 (by decide) ZB.body (by exact h) he (qI (a:=T.getD 2 zh) ((show jl zi T c Try.f8.results.toList=jl zi T c [(ResultVar.tmp 2)] from by kernel_rfl).trans (by simp only[jl])) (by kernel_rfl))
end
section
abbrev vV.id :FuncId:=11
noncomputable def vV.code :Code:=(.seq (.region 0 (reg Try.f11 0) false) (.seq (.region 1 (reg Try.f11 1) false) Code.ret))
theorem vV.body :Try.f11.body=some vV.code:=by kernel_rfl
variable (b c g i o j k l m n f:zu) (S:zS)
theorem vV.r0 :zW zi ⟨false,false,false⟩ (zU zi O) (reg Try.f11 0) (reg Try.f11 0).toList ([b,c,g,i,o,j,k,l,m,n,f]) S =
  ( some ([b,c,g,i,Value.bool false,j,k,l,m,n,f],S)):=by kernel_rfl
theorem vV.r1 :zW zi ⟨false,false,false⟩ (zU zi O) (reg Try.f11 1) (reg Try.f11 1).toList ([b,c,g,i,o,j,k,l,m,n,f]) S =
  (zT (WA (zQ b) S) (fun p d=>zT (jf zi 62 p 0 d) (fun q t=>zT (zZ zi false 24 q t) (fun r u=>zT ((zU zi O) 25 [(zQ r),(zQ (zQ c))] u) (fun s v=>some ([b,c,g,i,s,zQ b,p,q,r,zQ c,zQ s],v)) ()) ()) ()) ()):=by kernel_rfl
theorem vV.rs :type_of% (zJ @vV.r0 (@vV.r1)):=zJ @vV.r0 (@vV.r1)
theorem vV.runs {b c:zu}{S d:zS}{e:wC}{T:List zu}(h:zX zi O false vV.code ([b,c,zh,zh,zh,zh,zh,zh,zh,zh,zh]) S=some (e,T,d)) (he:e=.normal∨e=.ret):zU zi O 11 [b,c] S=some (T.getD 4 zh,d) :=
 xX rfl rfl Try.func11 (by decide) vV.body (by exact h) he (qI (a:=T.getD 4 zh) ((show jl zi T d Try.f11.results.toList=jl zi T d [(ResultVar.tmp 4)] from by kernel_rfl).trans (by simp only[jl])) (by kernel_rfl))
end
section
abbrev Zg.id :FuncId:=24
noncomputable def Zg.code :Code:=(.seq (.region 0 (reg Try.f24 0) false) (.seq (.region 1 (reg Try.f24 1) false) (.seq (.region 2 (reg Try.f24 2) false) Code.ret)))
theorem Zg.body :Try.f24.body=some Zg.code:=by kernel_rfl
variable (b j q g k l m n o p d f:zu) (S:zS)
theorem Zg.r0 :zW zi ⟨false,false,false⟩ (zU zi O) (reg Try.f24 0) (reg Try.f24 0).toList ([b,j,q,g,k,l,m,n,o,p,d,f]) S =
  (zT (qm (zQ b) S) (fun r c=>some ([b,r,Value.string { data:=#[] },g,k,l,m,n,o,p,d,f],c)) ()):=by kernel_rfl
theorem Zg.r1 :zW zi ⟨false,false,false⟩ (zU zi O) (reg Try.f24 1) (reg Try.f24 1).toList ([b,j,q,g,k,l,m,n,o,p,d,f]) S =
  (zT (zZ zi false 46 j S) (fun r c=>zT ((zU zi O) 46 [(zQ r)] c) (fun i u=>zT (jv i 0 u) (fun s v=>zT (jv (jh 0 i) 1 v) (fun t w=>some ([b,j,q,s,t,jh 1 (jh 0 i),r,zQ i,zQ s,zQ t,d,f],w)) ()) ()) ()) ()):=by kernel_rfl
theorem Zg.r2 :zW zi ⟨false,false,false⟩ (zU zi O) (reg Try.f24 2) (reg Try.f24 2).toList ([b,j,q,g,k,l,m,n,o,p,d,f]) S =
  (zT (qB zi false false 33 9 (zQ g) S) (fun i c=>some ([b,j,i,g,k,l,m,n,o,p,zQ g,zQ i],c)) ()):=by kernel_rfl
theorem Zg.rs :type_of% (zJ @Zg.r0 (zJ @Zg.r1 (@Zg.r2))):=zJ @Zg.r0 (zJ @Zg.r1 (@Zg.r2))
theorem Zg.runs {b:zu}{S c:zS}{e:wC}{T:List zu}(h:zX zi O false Zg.code ([b,zh,zh,zh,zh,zh,zh,zh,zh,zh,zh,zh]) zS.empty=some (e,T,c)) (he:e=.normal∨e=.ret) (hca:[b].all (jw 16)=true) (hcv:jw 16 (T.getD 2 zh)=true):zU zi O 24 [b] S=some (T.getD 2 zh,S) :=
 kC rfl rfl Try.func24 (by decide) Zg.body (by exact h) he (qI (a:=T.getD 2 zh) ((show jl zi T c Try.f24.results.toList=jl zi T c [(ResultVar.tmp 2)] from by kernel_rfl).trans (by simp only[jl])) (by kernel_rfl)) hca hcv
end
section
abbrev xW.id :FuncId:=20
noncomputable def xW.code :Code:=(.seq (.region 0 (reg Try.f20 0) false) (.seq (.seq (.region 1 (reg Try.f20 1) false) (.cond (.tmp 4) (.seq (.region 2 (reg Try.f20 2) false) Code.ret) Code.skip)) (.seq (.region 3 (reg Try.f20 3) false) Code.ret)))
theorem xW.body :Try.f20.body=some xW.code:=by kernel_rfl
variable (b c l f g i j k:zu) (S:zS)
theorem xW.r0 :zW zi ⟨false,false,false⟩ (zU zi O) (reg Try.f20 0) (reg Try.f20 0).toList ([b,c,l,f,g,i,j,k]) S =
  ( some ([b,c,Value.slice none 0 0,f,g,i,j,k],S)):=by kernel_rfl
theorem xW.r1 :zW zi ⟨false,false,false⟩ (zU zi O) (reg Try.f20 1) (reg Try.f20 1).toList ([b,c,l,f,g,i,j,k]) S =
  (zT (jd zi BinOp.eql 24 (zQ b) (Value.slice none 0 0) S) (fun o d=>some ([b,c,l,zQ b,o,i,j,k],d)) ()):=by kernel_rfl
theorem xW.r2 :zW zi ⟨false,false,false⟩ (zU zi O) (reg Try.f20 2) (reg Try.f20 2).toList ([b,c,l,f,g,i,j,k]) S =
  ( some ([b,c,Value.slice none 0 0,f,g,i,j,k],S)):=by kernel_rfl
theorem xW.r3 :zW zi ⟨false,false,false⟩ (zU zi O) (reg Try.f20 3) (reg Try.f20 3).toList ([b,c,l,f,g,i,j,k]) S =
  (zT (yO zi 24 0 [] S) (fun m d=>zT (yF zi 24 24 m (zQ b) d) (fun n p=>some ([b,c,n,f,g,zQ m,zQ b,zQ n],p)) ()) ()):=by kernel_rfl
theorem xW.rs :type_of% (zJ @xW.r0 (zJ @xW.r1 (zJ @xW.r2 (@xW.r3)))):=zJ @xW.r0 (zJ @xW.r1 (zJ @xW.r2 (@xW.r3)))
theorem xW.runs {b:zu}{S d:zS}{e:wC}{T:List zu}(h:zX zi O false xW.code ([b,zh,zh,zh,zh,zh,zh,zh]) S=some (e,T,d)) (he:e=.normal∨e=.ret):zU zi O 20 [b] S=some (T.getD 2 zh,d) :=
 xX rfl rfl Try.func20 (by decide) xW.body (by exact h) he (qI (a:=T.getD 2 zh) ((show jl zi T d Try.f20.results.toList=jl zi T d [(ResultVar.tmp 2)] from by kernel_rfl).trans (by simp only[jl])) (by kernel_rfl))
end
end Go.Proofs.Ytfjogganfjkckaa
namespace Go.Abs
section
variable {K:Type}
def MapAt (enc:K→zu) (S:zS) (q:Nat) (m:List (K×zu)):Prop :=
 ∃es c,S.get q=some (.map es c)∧es.map (fun e=>(e.key,e.val))=m.map fun p=>(enc p.1,p.2)
theorem lu {P:Program}{t:TypeId}(enc:K→zu) (S:zS):∃S2,Ya P t none S=some (.map (some S.next),S2)∧MapAt enc S2 S.next []∧S2.next=S.next+1∧(∀j,j<S.next→S2.get j=S.get j)∧Ext S S2 :=
 ⟨_,rfl,⟨[],0,by rw[zS.qO,zN rfl],rfl⟩,by simp,fun j hj=>by rw[zS.qO,zM (by omega)],Ext.push _ _⟩
theorem MapAt.keep {enc:K→zu}{S:zS}{q:Nat}{m:List (K×zu)}{S2:zS}(h:MapAt enc S q m) (hg:S2.get q=S.get q):MapAt enc S2 q m:=by
 obtain⟨es,c,h1,h2⟩:=h;exact⟨es,c,hg.trans h1,h2⟩
variable [DecidableEq K]
def ZU :List (K×zu)→K→Option zu
 | [],_=>none
 |(a,v)::m,k=>if a=k then some v else ZU m k
def midx :List (K×zu)→K→Nat
 | [],_=>0
 |(a,_)::m,k=>if a=k then 0 else midx m k+1
def Qd :List (K×zu)→K→zu→List (K×zu)
 | [],k,x=>[(k,x)]
 |(a,v)::m,k,x=>if a=k then(k,x)::m else(a,v)::Qd m k x
theorem lK {m:List (K×zu)}{k:K}{x:zu}(h:ZU m k=none):Qd m k x=m++[(k,x)]:=by
 induction m with
 |nil=>rfl
 |cons p m ih=>
  obtain⟨a,v⟩:=p;unfold ZU at h;split at h
  ·cases h
  ·rename_i hn;simp only[Qd,zM hn,ih h,List.cons_append]
structure Xd (enc:K→zu) (kd:TypeDesc):Prop where
 kind:∀k,KI kd (enc k)=true
 same:∀a b,Instr.sameNow kd (enc a) (enc b)=some (decide (a=b))
theorem Vm :Xd (fun n:Int=>Value.int .i64 n) (.int .i64):=⟨fun _=>rfl,fun a b=>by
 show(if IntKind.i64=IntKind.i64 then some (a==b)else none)=_;rw[zN rfl];by_cases h:a=b<;>simp[h]⟩
theorem iC {enc:K→zu}{kd:TypeDesc}(hK:Xd enc kd) (k:K):∀(es:List MapEntry) (m:List (K×zu)) (i:Nat),es.map (fun e=>(e.key,e.val))=m.map (fun p=>(enc p.1,p.2)) →
  Instr.findNow kd (enc k) es i=some ((ZU m k).map fun v=>(i+midx m k,v)):=by
 intro es;induction es with
 |nil=>
  intro m i h;cases m with
  |nil=>rfl
  |cons p m=>simp at h
 |cons e es ih=>
  intro m i h;cases m with
  |nil=>simp at h
  |cons p m=>
   obtain⟨a,v⟩:=p;simp only[List.map_cons,List.cons.injEq,Prod.mk.injEq]at h;obtain⟨⟨h1,h2⟩,h3⟩:=h;simp only[Instr.findNow,h1,hK.same,ZU,midx];by_cases hk:k=a
   ·simp[hk,h2]
   ·rw[zK hk,zM (fun h=>hk h.symm),zM (fun h=>hk h.symm)]
    simp only[];rw[ih m (i+1) h3]
    congr 2
    funext x
    congr 1
    omega
theorem Pn {enc:K→zu}{k:K}{x:zu}:∀(es:List MapEntry) (m:List (K×zu)),es.map (fun e=>(e.key,e.val))=m.map (fun p=>(enc p.1,p.2))→ZU m k≠none →
  (es.modify (midx m k) fun e=>{ e with key:=enc k,val:=x }).map (fun e=>(e.key,e.val))=(Qd m k x).map fun p=>(enc p.1,p.2):=by
 intro es;induction es with
 |nil=>
  intro m h hn;cases m with
  |nil=>exact absurd rfl hn
  |cons p m=>simp at h
 |cons e es ih=>
  intro m h hn;cases m with
  |nil=>simp at h
  |cons p m=>
   obtain⟨a,v⟩:=p;simp only[List.map_cons,List.cons.injEq,Prod.mk.injEq]at h;obtain⟨⟨h1,h2⟩,h3⟩:=h;simp only[midx,Qd];by_cases hk:a=k
   ·simp[hk,h3]
   ·rw[zM hk,zM hk,List.modify_succ_cons];have hn':ZU m k≠none:=by unfold ZU at hn;rwa [zM hk]at hn
    simp only[List.map_cons,ih m h3 hn',h1,h2]
variable {P:Program}{t kt et:TypeId}{kd:TypeDesc}{z:zu}{enc:K→zu}{S S0:zS}{q:Nat}{m:List (K×zu)}
theorem CG (hK:Xd enc kd) (hm:MapAt enc S q m) (ht:P.underlying t=some (.map kt et)) (hk:P.underlying kt=some kd) (hz:zeroOf P et=some z) (hg:ground z=true) (k:K) :
  JH P false t (.map (some q)) (enc k) false S=some ((ZU m k).getD z,S):=by
 obtain⟨es,c,h1,h2⟩:=hm;unfold JH vI;simp only[zF,if_false,ht,hk,hK.kind,if_true,h1,iC hK k es m 0 h2];cases ZU m k with
 |none=>simp[hz,hg]
 |some v=>simp
theorem CJ (hK:Xd enc kd) (hm:MapAt enc S q m) (ht:P.underlying t=some (.map kt et)) (hk:P.underlying kt=some kd) (hz:zeroOf P et=some z) (hg:ground z=true) (k:K) :
  JH P false t (.map (some q)) (enc k) true S=some (.tuple #[(ZU m k).getD z,.bool (ZU m k).isSome],S):=by
 obtain⟨es,c,h1,h2⟩:=hm;unfold JH vI;simp only[zF,if_false,ht,hk,hK.kind,if_true,h1,iC hK k es m 0 h2];cases ZU m k with
 |none=>simp[hz,hg]
 |some v=>simp
theorem lC (hK:Xd enc kd) (hm:MapAt enc S q m) (ht:P.underlying t=some (.map kt et)) (hk:P.underlying kt=some kd) (k:K) (x:zu) :
  ∃S2,ZQ P t (.map (some q)) (enc k) x S=some (zh,S2)∧MapAt enc S2 q (Qd m k x)∧S2.next=S.next∧(∀j,j≠q→S2.get j=S.get j)∧(∀S0,Ext S0 S→S0.next≤q→Ext S0 S2):=by
 obtain⟨es,c,h1,h2⟩:=hm;unfold ZQ;simp only[ht,hk,hK.kind,if_true,h1,iC hK k es m 0 h2];cases hg:ZU m k with
 |none=>
  refine⟨_,rfl,⟨es++[{ key:=enc k,val:=x,born:=c }],c+1,by rw[zS.kM,zN rfl],?_⟩,by simp,fun j hj=>by rw[zS.kM,zM hj],fun S0 hE hq=>hE.set hq _⟩
  rw[lK hg];simp[h2]
 |some v=>
  refine⟨_,rfl,⟨_,c,by simp only[Option.map_some,Nat.zero_add,zS.kM,if_true],Pn es m h2 (by rw[hg];simp)⟩,by simp,fun j hj=>by rw[zS.kM,zM hj],fun S0 hE hq=>hE.set hq _⟩
end
end Go.Abs
namespace Go.Proofs.Ytfjogganfjkckaa
open Go.Abs
section
abbrev slices_Index.id :FuncId:=47
noncomputable def slices_Index.jg :Code:=(.seq (.region 2 (reg Try.f47 2) false) (.seq (.cond (.tmp 9) Code.skip (.exit 0)) (.seq (.block 1 (.seq (.region 3 (reg Try.f47 3) false) (.seq (.region 4 (reg Try.f47 4) false) (.cond (.tmp 16) (.seq (.region 5 (reg Try.f47 5) false) Code.ret) Code.skip)))) (.region 6 (reg Try.f47 6) false))))
noncomputable def slices_Index.code :Code:=(.seq (.region 0 (reg Try.f47 0) false) (.seq (.seq (.region 1 (reg Try.f47 1) false) (.block 0 (.loop slices_Index.jg))) (.seq (.region 7 (reg Try.f47 7) false) Code.ret)))
theorem slices_Index.body :Try.f47.body=some slices_Index.code:=by kernel_rfl
theorem slices_Index.eta {T:List zu}(h:T.length=19):T=[T.getD 0 zh,T.getD 1 zh,T.getD 2 zh,T.getD 3 zh,T.getD 4 zh,T.getD 5 zh,T.getD 6 zh,T.getD 7 zh,T.getD 8 zh,T.getD 9 zh,T.getD 10 zh,T.getD 11 zh,T.getD 12 zh,T.getD 13 zh,T.getD 14 zh,T.getD 15 zh,T.getD 16 zh,T.getD 17 zh,T.getD 18 zh]:=(ZE T 19 h).trans (by kernel_rfl)
variable (b n q r v o t s p u c d f g i j k l m:zu) (S:zS)
theorem slices_Index.r0 :zW zi ⟨false,false,false⟩ (zU zi O) (reg Try.f47 0) (reg Try.f47 0).toList ([b,n,q,r,v,o,t,s,p,u,c,d,f,g,i,j,k,l,m]) S =
  ( some ([b,n,q,r,.int .i64 0,o,t,s,p,u,c,d,f,g,i,j,k,l,m],S)):=by kernel_rfl
theorem slices_Index.r1 :zW zi ⟨false,false,false⟩ (zU zi O) (reg Try.f47 1) (reg Try.f47 1).toList ([b,n,q,r,v,o,t,s,p,u,c,d,f,g,i,j,k,l,m]) S =
  (zT (yK zi 24 (zQ b) S) (fun A w=>some ([b,n,q,r,v,o,zQ b,A,.int .i64 0,u,c,d,f,g,i,j,k,l,m],w)) ()):=by kernel_rfl
theorem slices_Index.r2 :zW zi ⟨false,false,false⟩ (zU zi O) (reg Try.f47 2) (reg Try.f47 2).toList ([b,n,q,r,v,o,t,s,p,u,c,d,f,g,i,j,k,l,m]) S =
  (zT (jd zi BinOp.lss 3 p s S) (fun x w=>some ([b,n,q,r,v,o,t,s,p,x,c,d,f,g,i,j,k,l,m],w)) ()):=by kernel_rfl
theorem slices_Index.r3 :zW zi ⟨false,false,false⟩ (zU zi O) (reg Try.f47 3) (reg Try.f47 3).toList ([b,n,q,r,v,o,t,s,p,u,c,d,f,g,i,j,k,l,m]) S =
  ( some ([b,n,q,r,v,p,t,s,zQ p,u,zQ p,d,f,g,i,j,k,l,m],S)):=by kernel_rfl
theorem slices_Index.r4 :zW zi ⟨false,false,false⟩ (zU zi O) (reg Try.f47 4) (reg Try.f47 4).toList ([b,n,q,r,v,o,t,s,p,u,c,d,f,g,i,j,k,l,m]) S =
  (zT (jZ zi 24 (zQ b) (zQ o) S) (fun y w=>zT (zZ zi false 3 y w) (fun z B=>zT (jd zi BinOp.eql 3 (zQ n) z B) (fun C D=>some ([b,n,q,r,v,o,t,s,p,u,c,zQ n,zQ b,zQ o,y,z,C,l,m],D)) ()) ()) ()):=by kernel_rfl
theorem slices_Index.r5 :zW zi ⟨false,false,false⟩ (zU zi O) (reg Try.f47 5) (reg Try.f47 5).toList ([b,n,q,r,v,o,t,s,p,u,c,d,f,g,i,j,k,l,m]) S =
  ( some ([b,n,q,r,o,zQ o,t,s,p,u,c,d,f,g,i,j,k,zQ o,m],S)):=by kernel_rfl
theorem slices_Index.r6 :zW zi ⟨false,false,false⟩ (zU zi O) (reg Try.f47 6) (reg Try.f47 6).toList ([b,n,q,r,v,o,t,s,p,u,c,d,f,g,i,j,k,l,m]) S =
  (zT (jd zi BinOp.add 3 p (.int .i64 1) S) (fun x w=>some ([b,n,q,r,v,o,t,s,zQ x,u,c,d,f,g,i,j,k,l,x],w)) ()):=by kernel_rfl
theorem slices_Index.r7 :zW zi ⟨false,false,false⟩ (zU zi O) (reg Try.f47 7) (reg Try.f47 7).toList ([b,n,q,r,v,o,t,s,p,u,c,d,f,g,i,j,k,l,m]) S =
  ( some ([b,n,q,r,.int .i64 (-1),o,t,s,p,u,c,d,f,g,i,j,k,l,m],S)):=by kernel_rfl
theorem slices_Index.rs :type_of% (zJ @slices_Index.r0 (zJ @slices_Index.r1 (zJ @slices_Index.r2 (zJ @slices_Index.r3 (zJ @slices_Index.r4 (zJ @slices_Index.r5 (zJ @slices_Index.r6 (@slices_Index.r7)))))))):=zJ @slices_Index.r0 (zJ @slices_Index.r1 (zJ @slices_Index.r2 (zJ @slices_Index.r3 (zJ @slices_Index.r4 (zJ @slices_Index.r5 (zJ @slices_Index.r6 (@slices_Index.r7)))))))
theorem slices_Index.runs {b n:zu}{S w:zS}{e:wC}{T:List zu}(h:zX zi O false slices_Index.code ([b,n,zh,zh,zh,zh,zh,zh,zh,zh,zh,zh,zh,zh,zh,zh,zh,zh,zh]) S=some (e,T,w)) (he:e=.normal∨e=.ret):zU zi O 47 [b,n] S=some (T.getD 4 zh,w) :=
 xX rfl rfl Try.func47 (by decide) slices_Index.body (by exact h) he (qI (a:=T.getD 4 zh) ((show jl zi T w Try.f47.results.toList=jl zi T w [(ResultVar.tmp 4)] from by kernel_rfl).trans (by simp only[jl])) (by kernel_rfl))
end
section
abbrev slices_Contains.id :FuncId:=25
noncomputable def slices_Contains.code :Code:=(.seq (.region 0 (reg Try.f25 0) false) (.seq (.region 1 (reg Try.f25 1) false) Code.ret))
theorem slices_Contains.body :Try.f25.body=some slices_Contains.code:=by kernel_rfl
variable (b c f g m i j k l:zu) (S:zS)
theorem slices_Contains.r0 :zW zi ⟨false,false,false⟩ (zU zi O) (reg Try.f25 0) (reg Try.f25 0).toList ([b,c,f,g,m,i,j,k,l]) S =
  ( some ([b,c,f,g,Value.bool false,i,j,k,l],S)):=by kernel_rfl
theorem slices_Contains.r1 :zW zi ⟨false,false,false⟩ (zU zi O) (reg Try.f25 1) (reg Try.f25 1).toList ([b,c,f,g,m,i,j,k,l]) S =
  (zT ((zU zi O) 47 [(zQ (zQ b)),(zQ (zQ c))] S) (fun n d=>zT (jd zi BinOp.geq 3 n (.int .i64 0) d) (fun o p=>some ([b,c,f,g,o,zQ b,zQ c,n,zQ o],p)) ()) ()):=by kernel_rfl
theorem slices_Contains.rs :type_of% (zJ @slices_Contains.r0 (@slices_Contains.r1)):=zJ @slices_Contains.r0 (@slices_Contains.r1)
theorem slices_Contains.runs {b c:zu}{S d:zS}{e:wC}{T:List zu}(h:zX zi O false slices_Contains.code ([b,c,zh,zh,zh,zh,zh,zh,zh]) S=some (e,T,d)) (he:e=.normal∨e=.ret):zU zi O 25 [b,c] S=some (T.getD 4 zh,d) :=
 xX rfl rfl Try.func25 (by decide) slices_Contains.body (by exact h) he (qI (a:=T.getD 4 zh) ((show jl zi T d Try.f25.results.toList=jl zi T d [(ResultVar.tmp 4)] from by kernel_rfl).trans (by simp only[jl])) (by kernel_rfl))
end
end Go.Proofs.Ytfjogganfjkckaa
