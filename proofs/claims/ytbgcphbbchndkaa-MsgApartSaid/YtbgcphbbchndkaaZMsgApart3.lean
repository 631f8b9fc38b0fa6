/-
The law MsgApart returns true for every input, and leaves it as it was; no condition. Part 3 of 5 of the texts (put together by a program: own names are short, what isn't needed is left out).
-/
import Derived.Test.YtbgcphbbchndkaaZMsgApart2
import Derived.KernelRfl
import Derived.Test.YtbgcphbbchndkaaChecked
set_option linter.unusedVariables false
set_option linter.unusedSimpArgs false
set_option maxRecDepth 100000
open Go renaming undef → zh
open Go.Proofs.Try renaming prog → zi
open Nat renaming reduceEqDiff → zk
open Int renaming reduceEq → zn
open Int renaming reduceLT → zo
open Int renaming reduceLE → zq
namespace Go.Abs
open Go.RowKit
def Ws (P:Program) (call:FuncId→List Value→M Value):Prop:=∀ g args aargs S v S',call g args S=some (v,S')→∀ μ H ω,GI μ S H→L0 μ H args aargs→Dom μ H ω→(∀ r s,ω r=some s→s=.ext) →
 ∃ a H' μ' ω',lim P g aargs H=some (a,H')∧GI μ' S' H'∧Later μ H μ' H'∧Kept ω H ω' H'∧Dom μ' H' ω'∧VV μ' H' ω' (some (.res none)) v a
section
variable {P:Program} {call:FuncId→List Value→M Value} {μ:Mu} {ω:Nat→Option yR} {S S' H:zu} {T A:List Value}
theorem aeb (hc:Ws P call) {g:FuncId} {args aargs:List Value} {v:Value} (hG:GI μ S H) (hT:TI μ H ω T A) (h:call g args S=some (v,S')) (ha:L0 μ H args aargs):Out μ ω H A T S' v (lim P g aargs H):=by
 obtain ⟨a,H',μ',ω',h1,h2,h3,h4,h5,h6⟩:=hc g args aargs S v S' h μ H (fun r=>(ω r).map fun _=>.ext) hG ha (fun r s hs=>by
  cases hr:ω r with
  | none=>simp [hr] at hs
  | some s0=>exact hT.dom r s0 hr) (fun r s hs=>by
  cases hr:ω r with
  | none=>simp [hr] at hs
  | some s0=>simp [hr] at hs;exact hs.symm)
 have kept:∀ r s,ω r=some s→ω' r=some .ext∧H'.get r=H.get r:=fun r s hs=>h4 r (by dsimp only;rw [hs];rfl)
 refine ⟨a,H',μ',fun r=>match ω' r with | some .ext=>ω r | some (.slot _ _)=>none | x=>x,h1,h2,h3,fun r hr=>?_,fun r s hs=>?_,hT.len,fun i=>?_,?_⟩
 ·
  obtain ⟨k1,k2⟩:=kept r _ hr
  exact ⟨by (try dsimp only);rw [k1];exact hr,k2⟩
 ·
  dsimp only at hs
  cases hr:ω' r with
  | none=>rw [hr] at hs;cases hs
  | some s0 =>
   have:=h5 r s0 hr
   exact this
 ·
  refine (hT.slots i).later h3 (K:=fun _=>True) (fun _ _ _ _ _=>trivial) (fun r s _ hr=>?_) (fun _ _=>trivial)
  obtain ⟨k1,k2⟩:=kept r s hr
  exact ⟨by (try dsimp only);rw [k1];exact hr,k2⟩
 ·
  refine h6.later (Later.refl _ _) (K:=fun s=>∃ j,s=.res j) (fun s i t ⟨j,hj⟩ ht=>by subst hj;cases j <;> cases ht;exact ⟨_,rfl⟩) (fun r s ⟨j,hj⟩ hr=>?_) (fun s hs=>by cases hs;exact ⟨_,rfl⟩)
  subst hj
  exact ⟨by (try dsimp only);rw [hr],rfl⟩
def Jr (t:Nat):yR→Option yR
 | .slot i j=>if i=t then some (.res j) else some (.slot i j)
 | s=>some s
def WG (t k:Nat):yR→Option yR
 | .slot i (some j)=>if i=t∧j=k then some (.res none) else some (.slot i (some j))
 | s=>some s
theorem aan {x:Operand} (hG:GI μ S H) (hT:TI μ H ω T A) (hx:qN x=true):Out μ ω H A (yg T x) S (jd T x) (some (jd A x,H)):=by
 cases x with
 | const v=>exact Out.same hG hT (VV.yB hx)
 | global g=>cases hx
 | func f=>exact Out.same hG hT (hT.eval (x:=.func f) rfl)
 | tmp t =>
  refine ⟨_,H,μ,fun r=>(ω r).bind (Jr t),rfl,hG,Later.refl μ H,fun r hr=>⟨by dsimp only;rw [hr];rfl,rfl⟩,fun r s hs=>?_,by simp [yg,qJ,hT.len],fun i=>?_,?_⟩
  ·
   dsimp only at hs
   cases hr:ω r with
   | none=>rw [hr] at hs;cases hs
   | some s0=>exact hT.dom r s0 hr
  ·
   dsimp only [yg,qJ]
   rw [y5]
   by_cases hi:i=t
   ·
    subst hi
    by_cases hlt:i < T.length
    ·
     rw [if_pos ⟨rfl,hlt⟩]
     exact (hT.slots i).v0.at0
    ·
     rw [if_neg (fun h=>hlt h.2)]
     rw [List.getD_eq_getElem?_getD,List.getElem?_eq_none (Nat.le_of_not_lt hlt),List.getD_eq_getElem?_getD,List.getElem?_eq_none (by rw [← hT.len];omega)]
     exact .nores
   ·
    rw [if_neg (fun h=>hi h.1)]
    refine (hT.slots i).QY (fun _=>rfl) _ (fun s hs=>?_)
    cases hs
    refine ⟨_,rfl,by simp only [Jr];rw [if_neg hi],fun k t' ht=>?_⟩
    cases ht
    exact ⟨_,rfl,by simp only [Jr];rw [if_neg hi]⟩
  ·
   refine (hT.slots t).QY (fun _=>rfl) _ (fun s hs=>?_)
   cases hs
   refine ⟨_,rfl,by simp only [Jr,if_true],fun k t' ht=>?_⟩
   cases ht
   exact ⟨_,rfl,by simp only [Jr,if_true]⟩
theorem getD_modify (vs:Array Value) (i k:Nat) (f:Value→Value) (hf:f zh=zh):(vs.modify i f).getD k zh=if k=i then f (vs.getD k zh) else vs.getD k zh:=by
 rw [Array.getD_eq_getD_getElem?,Array.getD_eq_getD_getElem?,Array.getElem?_modify]
 by_cases h:i=k
 ·
  subst h
  rw [if_pos rfl,if_pos rfl]
  cases vs[i]? with
  | none=>exact hf.symm
  | some v=>rfl
 ·
  rw [if_neg h,if_neg (fun e=>h e.symm)]
theorem VV.part {ω':Nat→Option yR} {ℓ ℓ':Option yR} {v a:Value} (h:VV μ H ω ℓ v a) (hℓ:∀ s,ℓ=some s→∀ k,s.comp k=none):VV μ H ω' ℓ' (Go.Abs.qM v) a:=by
 by_cases ht:∃ x,v=.tuple x
 ·
  obtain ⟨x,rfl⟩:=ht
  show VV μ H ω' ℓ' (.tuple x) a
  cases h with
  | sg hs=>simp [Go.Abs.sg] at hs
  | nores=>exact .nores
  | tuple hx hh =>
   refine .tuple hx fun i=>?_
   have:=hh i
   cases ℓ with
   | none=>exact this.at0
   | some s =>
    have e:(some s).bind (·.comp i)=none:=hℓ s rfl i
    rw [e] at this
    exact this.at0
 ·
  have e:Go.Abs.dem v=Go.Abs.qM v:=by
   cases v <;> first | rfl | exact absurd ⟨_,rfl⟩ ht
  rw [← e]
  exact h.v0.at0
def J4 (T:List Value) (i:Nat):Operand→List Value
 | .tmp t=>T.set t (jD i (T.getD t zh))
 | _=>T
theorem Vu {x:Operand} {i:Nat} {v:Value} (hG:GI μ S H) (hT:TI μ H ω T A) (hx:qN x=true) (h:zS (jd T x) i S=some (v,S')) :
  Out μ ω H A (J4 T i x) S' v (zS (jd A x) i H):=by
 cases x with
 | const w =>
  exfalso
  unfold zS at h
  split at h
  ·
   rename_i vs he
   simp only [jd] at he
   subst he
   simp [qN,ground,Go.Abs.sg] at hx
  ·
   cases h
 | global g=>cases hx
 | func f=>simp [jd,zS] at h
 | tmp t =>
  simp only [jd,J4] at h ⊢
  unfold zS at h
  split at h
  ·
   rename_i vs hvs
   split at h <;> first | (cases h;done) | skip
   rename_i w hw
   cases h
   have hs:=hT.slots t
   rw [hvs] at hs
   have hil:i < vs.size:=(Array.getElem?_eq_some_iff.1 hw).1
   have hlt:t < T.length:=by
    rcases Nat.lt_or_ge t T.length with h | h
    ·
     exact h
    ·
     rw [List.getD_eq_getElem?_getD,List.getElem?_eq_none h] at hvs
     cases hvs
     simp at hil
   generalize hA:A.getD t zh=at' at hs
   cases hs with
   | sg hs=>simp [Go.Abs.sg] at hs
   | nores=>simp at hil
   | @tuple _ _ y hxs hxx =>
    have hiy:i < y.size:=by rw [← hxs];exact hil
    have hrun:zS (.tuple y) i H=some (y[i],H):=by simp only [zS,Array.getElem?_eq_getElem hiy]
    rw [hrun]
    have hcomp:=hxx i
    rw [Array.getD_eq_getD_getElem?,hw,Array.getD_eq_getD_getElem?,Array.getElem?_eq_getElem hiy] at hcomp
    simp only [Option.getD_some] at hcomp
    refine ⟨_,H,μ,fun r=>(ω r).bind (WG t i),rfl,hG,Later.refl μ H,fun r hr=>⟨by dsimp only;rw [hr];rfl,rfl⟩,fun r s hs=>?_,by simp [hT.len],fun k=>?_,?_⟩
    ·
     dsimp only at hs
     cases hr:ω r with
     | none=>rw [hr] at hs;cases hs
     | some s0=>exact hT.dom r s0 hr
    ·
     rw [y5]
     by_cases hk:k=t
     ·
      subst hk
      rw [if_pos ⟨rfl,hlt⟩,hA,hvs]
      simp only [jD]
      refine .tuple (by simpa using hxs) fun j=>?_
      rw [getD_modify _ _ _ _ rfl]
      by_cases hj:j=i
      ·
       subst hj
       rw [if_pos rfl]
       exact (hxx j).part (fun s hs k=>by cases hs;rfl)
      ·
       rw [if_neg hj]
       refine (hxx j).QY (fun _=>rfl) _ (fun s hs=>?_)
       cases hs
       refine ⟨_,rfl,by simp only [WG];rw [if_neg (fun e=>hj e.2)],fun a b hb=>by cases hb⟩
     ·
      rw [if_neg (fun e=>hk e.1)]
      refine (hT.slots k).QY (fun _=>rfl) _ (fun s hs=>?_)
      cases hs
      refine ⟨_,rfl,rfl,fun a b hb=>?_⟩
      cases hb
      exact ⟨_,rfl,by simp only [WG];rw [if_neg (fun e=>hk e.1)]⟩
    ·
     refine hcomp.QY (fun _=>rfl) _ (fun s hs=>?_)
     cases hs
     exact ⟨_,rfl,by simp [WG],fun a b hb=>by cases hb⟩
  ·
   cases h
theorem agE (hT:TI μ H ω T A):∀ (xs:List Operand),xs.all qN=true→L0 μ H (xs.map fun x=>dem (jd T x)) (xs.map (jd A)):=by
 intro xs h
 exact LV.map fun x hx=>hT.eval (List.all_eq_true.1 h x hx)
theorem Ya {xs:List Operand} (hT:TI μ H ω T A) (h:xs.all qN=true) (hg:(xs.map (jd T)).all ground=true):xs.map (jd A)=xs.map (jd T):=by
 apply List.map_congr_left
 intro x hx
 exact jF (hT.eval (List.all_eq_true.1 h x hx)) (List.all_eq_true.1 hg _ (List.mem_map.2 ⟨x,hx,rfl⟩))
theorem ad9 {o:Oper} (h:hands o=false) (hc:∀ c,o.op≠.call c):moved o T=T:=by
 unfold moved
 unfold hands at h
 split <;> first | rfl | (rename_i he;exact absurd he (hc _)) | (rename_i he;rw [he] at h;cases h)
theorem ad5 {fx:Fx} (hc:Ws P call) {o:Oper} {v:Value} (hG:GI μ S H) (hT:TI μ H ω T A) (h:yu P fx call T o S=some (v,S')):Out μ ω H A (moved o T) S' v (yG P (lim P) A o H):=by
 unfold yu at h
 split at h <;> first | (cases h;done) | skip
 rename_i hok
 unfold yG
 rw [if_pos hok]
 have hargs:o.op.operands.toList.all qN=true:=hok
 have hev:∀ x ∈ o.op.operands.toList,V0 μ H (dem (jd T x)) (jd A x):=fun x hx=>hT.eval (List.all_eq_true.1 hargs x hx)
 have hoka:∀ x ∈ o.op.operands.toList,qN x=true:=fun x hx=>List.all_eq_true.1 hargs x hx
 obtain ⟨dst,op,type,pos,after,guard⟩:=o
 by_cases hcall:∃ c,op=.call c
 ·
  obtain ⟨c,rfl⟩:=hcall
  dsimp only at h hev hoka hargs ⊢
  have hcargs:c.args.toList.all qN=true:=by
   rw [List.all_eq_true]
   intro x hx
   refine hoka x ?_
   simp only [Op.operands,Call.operands]
   cases c.callee <;> simp <;> first | exact .inr (by simpa using hx) | exact (by simpa using hx)
  cases hcal:c.callee with
  | value f =>
   rw [hcal] at h
   dsimp only at h ⊢
   have hf:=hev f (by simp [Op.operands,Call.operands,hcal])
   split at h <;> first | (cases h;done) | skip
   rename_i g first captured hfe
   rw [hfe] at hf
   have hf:V0 μ H (.func (.func g) first captured) (jd A f):=hf
   generalize hfa:jd A f=fa at hf
   cases hf with
   | sg hs=>simp [Go.Abs.sg] at hs
   | func _ hx hcs h1 h2 =>
    rename_i x' c'
    dsimp only
    have l1:L0 μ H first.toList x'.toList:=⟨by simpa using hx,fun i=>by rw [getD_toList,getD_toList];exact h1 i⟩
    have l2:L0 μ H captured.toList c'.toList:=⟨by simpa using hcs,fun i=>by rw [getD_toList,getD_toList];exact h2 i⟩
    have hm:moved ⟨dst,.call c,type,pos,after,guard⟩ T=T:=by simp only [moved,hcal]
    rw [hm]
    exact aeb hc hG hT h ((l1.append (agE hT _ hcargs)).append l2)
  | invoke r m=>rw [hcal] at h;cases h
  | builtin b =>
   rw [hcal] at h
   dsimp only at h ⊢
   unfold Ku at h
   unfold kD
   cases b <;> dsimp only at h ⊢ <;> first | (cases h;done) | skip
   case len =>
    split at h <;> first | (cases h;done) | skip
    rename_i t x0 ht ha
    obtain ⟨x,hx,rfl⟩:∃ x,c.args.toList=[x]∧jd T x=x0:=by
     match hl:c.args.toList with
     | []=>rw [hl] at ha;cases ha
     | [y]=>rw [hl] at ha;simp at ha;exact ⟨y,rfl,ha⟩
     | y::z::w=>rw [hl] at ha;simp at ha
    have hm:moved ⟨dst,.call c,type,pos,after,guard⟩ T=T:=by simp only [moved,hcal]
    rw [hm,ht,hx]
    rw [hx] at hcargs
    obtain ⟨rfl,a,h1,h2⟩:=adO h (hT.eval (List.all_eq_true.1 hcargs x (by simp)))
    simp only [List.map_cons,List.map_nil]
    rw [h1]
    exact Out.same hG hT h2
   case append =>
    split at h <;> first | (cases h;done) | skip
    rename_i t tx s0 x0 ht ha
    obtain ⟨so,x,hx,rfl,rfl⟩:∃ so x,c.args.toList=[so,x]∧jd T so=s0∧jd T x=x0:=by
     match hl:c.args.toList with
     | []=>rw [hl] at ha;cases ha
     | [y]=>rw [hl] at ha;simp at ha
     | [y,z]=>rw [hl] at ha;simp at ha;exact ⟨y,z,rfl,ha.1,ha.2⟩
     | y::z::w::u=>rw [hl] at ha;simp at ha
    rw [hx] at hcargs
    have hso:=List.all_eq_true.1 hcargs so (by simp)
    have hm:moved ⟨dst,.call c,type,pos,after,guard⟩ T=yg T so:=by
     simp only [moved,hcal,hx]
     cases so <;> rfl
    rw [hm,ht,hx]
    exact aaP hG hT hso h (hT.eval (List.all_eq_true.1 hcargs x (by simp)))
   case copy =>
    split at h <;> first | (cases h;done) | skip
    rename_i t tx s0 x0 ht ha
    obtain ⟨so,x,hx,rfl,rfl⟩:∃ so x,c.args.toList=[so,x]∧jd T so=s0∧jd T x=x0:=by
     match hl:c.args.toList with
     | []=>rw [hl] at ha;cases ha
     | [y]=>rw [hl] at ha;simp at ha
     | [y,z]=>rw [hl] at ha;simp at ha;exact ⟨y,z,rfl,ha.1,ha.2⟩
     | y::z::w::u=>rw [hl] at ha;simp at ha
    rw [hx] at hcargs
    have hm:moved ⟨dst,.call c,type,pos,after,guard⟩ T=T:=by simp only [moved,hcal]
    rw [hm,ht,hx]
    exact aea hG hT h (hT.eval (List.all_eq_true.1 hcargs so (by simp))) (hT.eval (List.all_eq_true.1 hcargs x (by simp)))
   case clear =>
    split at h <;> first | (cases h;done) | skip
    rename_i t x0 ht ha
    obtain ⟨x,hx,rfl⟩:∃ x,c.args.toList=[x]∧jd T x=x0:=by
     match hl:c.args.toList with
     | []=>rw [hl] at ha;cases ha
     | [y]=>rw [hl] at ha;simp at ha;exact ⟨y,rfl,ha⟩
     | y::z::w=>rw [hl] at ha;simp at ha
    have hm:moved ⟨dst,.call c,type,pos,after,guard⟩ T=T:=by simp only [moved,hcal]
    rw [hm,ht,hx]
    rw [hx] at hcargs
    exact abR hG hT h (hT.eval (List.all_eq_true.1 hcargs x (by simp)))
   case min =>
    obtain ⟨rfl,hg,hga,hh⟩:=wO (H:=H) h
    have hm:moved ⟨dst,.call c,type,pos,after,guard⟩ T=T:=by simp only [moved,hcal]
    rw [hm,Ya hT hcargs hga,hh]
    exact Out.same hG hT (V0.ground hg)
   case max =>
    obtain ⟨rfl,hg,hga,hh⟩:=wO (H:=H) h
    have hm:moved ⟨dst,.call c,type,pos,after,guard⟩ T=T:=by simp only [moved,hcal]
    rw [hm,Ya hT hcargs hga,hh]
    exact Out.same hG hT (V0.ground hg)
 ·
  have hnc:∀ c,op≠.call c:=fun c hc=>hcall ⟨c,hc⟩
  have hV:vOp P fx (jd T) ⟨dst,op,type,pos,after,guard⟩ S=some (v,S'):=by
   cases op <;> first | exact h | exact absurd rfl (hnc _)
  suffices hs:Out μ ω H A (moved ⟨dst,op,type,pos,after,guard⟩ T) S' v (aOp P (jd A) ⟨dst,op,type,pos,after,guard⟩ H) by
   cases op <;> first | exact hs | exact absurd rfl (hnc _)
  by_cases hh:hands ⟨dst,op,type,pos,after,guard⟩=true
  ·
   cases op <;> first | (cases hh;done) | skip
   case move x =>
    cases hV
    have:=aan hG hT (hoka x (by simp [Op.operands]))
    have hm:moved ⟨dst,.move x,type,pos,after,guard⟩ T=yg T x:=by cases x <;> rfl
    rw [hm];exact this
   case assign x =>
    cases hV
    have:=aan hG hT (hoka x (by simp [Op.operands]))
    have hm:moved ⟨dst,.assign x,type,pos,after,guard⟩ T=yg T x:=by cases x <;> rfl
    rw [hm];exact this
   case extract x i =>
    have:=Vu hG hT (hoka x (by simp [Op.operands])) hV
    have hm:moved ⟨dst,.extract x i,type,pos,after,guard⟩ T=(J4 T i x):=by cases x <;> rfl
    rw [hm];exact this
  ·
   have hh:hands ⟨dst,op,type,pos,after,guard⟩=false:=by simpa using hh
   rw [ad9 hh hnc]
   by_cases hch:Ze P ⟨dst,op,type,pos,after,guard⟩=false
   ·
    obtain ⟨rfl,a,h1,h2,h3⟩:=Xk hV hch hev (.inr hG) (.inr hG)
    rw [h1]
    exact Out.same hG hT (h3 hh)
   ·
    unfold vOp at hV
    unfold aOp
    cases op <;> dsimp only at hV hev ⊢ <;> first | (cases hV;done) | (exact absurd rfl hch) | (cases hh;done) | skip
    case alloc e=>exact abY hG hT hV
    case box x _=>exact af6 hG hT hV (hev x (by simp [Op.operands]))
    case buildSlice t len parts _ =>
     have hps:=Xy (μ:=μ) (H:=H) (parts:=parts.toList) (ρ:=jd T) (ρA:=jd A) fun p hp=>hev p.2 (by simp [Op.operands];exact ⟨p.1,by simpa using hp⟩)
     split at hV
     ·
      exact KY hG hT hV hps
     ·
      exact YM hG hT hV hps
    case makeMap t r _=>exact Va hG hT hV (fun h=>by cases r <;> simp at h ⊢)
    case mapUpdate t x k w _=>exact QI hG hT hV (hev x (by simp [Op.operands])) (hev k (by simp [Op.operands])) (hev w (by simp [Op.operands]))
    case store a x _=>exact acj hG hT hV (hev a (by simp [Op.operands])) (hev x (by simp [Op.operands]))
    case makeSlice l c _ =>
     split at hV
     ·
      exact VE hG hT hV (hev l (by simp [Op.operands])) (hev c (by simp [Op.operands]))
     ·
      exact KE hG hT hV (hev l (by simp [Op.operands])) (hev c (by simp [Op.operands]))
    case convert dst' x _ =>
     have hd:∃ e,P.underlying dst'=some (.slice e):=by
      unfold Ze at hch
      dsimp only at hch
      split at hch
      ·
       exact ⟨_,by assumption⟩
      ·
       exact absurd rfl hch
     obtain ⟨e,hd⟩:=hd
     cases x with
     | tmp t=>exact WW hG hT hV (hT.slots t) hd
     | const w=>exact WW hG hT hV (VV.yB (ℓ:=none) (hoka (.const w) (by simp [Op.operands]))) hd
     | global g=>have:=hoka (.global g) (by simp [Op.operands]);cases this
     | func f=>exact WW hG hT hV (ℓ:=none) ((hT.eval (x:=.func f) rfl).at0) hd
theorem acu {ops:Array Oper} (hT:TI μ H ω T A) (j:Nat):ynd ops T j=ynd ops A j:=by
 unfold ynd
 cases hd:(ops[j]?).bind (·.dst) with
 | none=>rfl
 | some d =>
  simp only [Option.bind_some]
  have:=hT.slots d
  have e:=hT.len
  by_cases hlt:d < T.length
  ·
   have hlt':d < A.length:=by rw [← e];exact hlt
   simp only [List.getD_eq_getElem?_getD,List.getElem?_eq_getElem hlt,List.getElem?_eq_getElem hlt',Option.getD_some] at this
   rw [List.getElem?_eq_getElem hlt,List.getElem?_eq_getElem hlt']
   generalize T[d]=u at *
   generalize A[d]=u' at *
   cases this <;> rfl
  ·
   have hlt':A.length≤d:=by rw [← e];exact Nat.le_of_not_lt hlt
   rw [List.getElem?_eq_none (Nat.le_of_not_lt hlt),List.getElem?_eq_none hlt']
theorem TI.moved (hT:TI μ H ω T A) (o:Oper):TI μ H ω (moved o T) A:=by
 have slot:∀ t,TI μ H ω (qJ T t) A:=by
  intro t
  refine ⟨by simp [qJ,hT.len],fun i=>?_,hT.dom,hT.nores⟩
  rw [qJ,y5]
  split
  ·
   rename_i h;rw [h.1];exact (hT.slots t).dem
  ·
   exact hT.slots i
 unfold Go.Abs.moved
 split
 ·
  exact slot _
 ·
  exact slot _
 ·
  rename_i t i _
  refine ⟨by simp [hT.len],fun k=>?_,hT.dom,hT.nores⟩
  rw [y5]
  split
  ·
   rename_i h
   rw [h.1]
   have:=hT.slots t
   generalize T.getD t zh=w at this
   cases w with
   | tuple vs =>
    simp only [jD]
    generalize A.getD t zh=a at this
    cases this with
    | sg hs=>simp [Go.Abs.sg] at hs
    | nores=>rw [show (#[]:Array Value).modify i Go.Abs.qM=#[] by simp];exact .nores
    | @tuple _ _ y hxs hxx =>
     refine .tuple (by simpa using hxs) fun j=>?_
     rw [getD_modify _ _ _ _ rfl]
     by_cases hj:j=i
     ·
      subst hj
      rw [if_pos rfl]
      exact (hxx j).part (fun s hs k=>by cases hs;rfl)
     ·
      rw [if_neg hj];exact hxx j
   | _=>exact this
  ·
   exact hT.slots k
 ·
  split
  ·
   exact slot _
  ·
   exact hT
 ·
  exact hT
def After (μ:Mu) (ω:Nat→Option yR) (H:zu) (T':List Value) (S':zu) (R:Option (List Value×zu)):Prop :=
 ∃ A' H' μ' ω',R=some (A',H')∧GI μ' S' H'∧Later μ H μ' H'∧Kept ω H ω' H'∧TI μ' H' ω' T' A'
theorem VZ {fx:Fx} (hc:Ws P call) {o:Oper} {rest:List Oper} {v:Value} (hG:GI μ S H) (hT:TI μ H ω T A) (h:yu P fx call T o S=some (v,S')) :
  ∃ a H' μ' ω',yG P (lim P) A o H=some (a,H')∧GI μ' S' H'∧Later μ H μ' H'∧Kept ω H ω' H'∧TI μ' H' ω' (vJ o rest T v) (JG A o.dst a):=by
 unfold vJ
 split
 ·
  rename_i hl
  have hm:∃ x,o.op=.move x:=by
   unfold aiv at hl
   split at hl
   ·
    rename_i x _ he _;exact ⟨x,he⟩
   ·
    cases hl
  obtain ⟨x,hx⟩:=hm
  unfold yu at h
  split at h <;> first | (cases h;done) | skip
  rename_i hok
  have hox:qN x=true:=List.all_eq_true.1 (show o.op.operands.toList.all qN=true from hok) x (by rw [hx];simp [Op.operands])
  rw [hx] at h
  dsimp only at h
  unfold vOp at h
  rw [hx] at h
  cases h
  have ha:yG P (lim P) A o H=some (jd A x,H):=by
   unfold yG
   rw [if_pos hok,hx]
   dsimp only
   unfold aOp
   rw [hx]
   rfl
  rw [ha]
  exact (Out.same hG hT (hT.eval hox)).put o.dst
 ·
  exact (ad5 hc hG hT h).put o.dst
theorem J7 {o:Oper} {rest:List Oper} (hG:GI μ S H) (hT:TI μ H ω T A):∃ μ' ω',GI μ' S H∧Later μ H μ' H∧Kept ω H ω' H∧TI μ' H ω' (vJ o rest T zh) (JG A o.dst zh):=by
 unfold vJ
 split
 ·
  rw [show dem zh=zh from Zw]
  obtain ⟨a,H1,μ1,ω1,h1,h2,h3,h4,h5⟩:=(Out.same hG hT (VV.zh)).put o.dst
  cases h1
  exact ⟨μ1,ω1,h2,h3,h4,h5⟩
 ·
  obtain ⟨a,H1,μ1,ω1,h1,h2,h3,h4,h5⟩:=(Out.same hG (hT.moved o) (VV.zh)).put o.dst
  cases h1
  exact ⟨μ1,ω1,h2,h3,h4,h5⟩
theorem agj {fx:Fx} (hc:Ws P call) {ops:Array Oper}:∀ (l:List Oper) (T T' A:List Value) (S S' H:zu) (μ:Mu) (ω:Nat→Option yR),jI P fx call ops l T S=some (T',S')→GI μ S H→TI μ H ω T A→After μ ω H T' S' (XZ P (lim P) ops l A H):=by
 intro l
 induction l with
 | nil =>
  intro T T' A S S' H μ ω h hG hT
  simp only [jI,Option.some.injEq,Prod.mk.injEq] at h
  obtain ⟨rfl,rfl⟩:=h
  exact ⟨A,H,μ,ω,rfl,hG,Later.refl _ _,Kept.refl _ _,hT⟩
 | cons o l ih =>
  intro T T' A S S' H μ ω h hG hT
  have hy:(ynd ops T)=ynd ops A:=funext fun j=>acu hT j
  simp only [jI] at h
  simp only [XZ,← hy]
  split at h
  ·
   rename_i hw
   split at h
   ·
    rename_i v S1 hs
    obtain ⟨a,H1,μ1,ω1,h1,h2,h3,h4,h5⟩:=VZ (rest:=l) hc hG hT hs
    obtain ⟨A2,H2,μ2,ω2,k1,k2,k3,k4,k5⟩:=ih _ _ _ _ _ _ _ _ h h2 h5
    refine ⟨A2,H2,μ2,ω2,?_,k2,h3.trans k3,h4.trans k4,k5⟩
    rw [if_pos hw,h1]
    exact k1
   ·
    cases h
  ·
   rename_i hw
   obtain ⟨μ1,ω1,h2,h3,h4,h5⟩:=J7 (o:=o) (rest:=l) hG hT
   obtain ⟨A2,H2,μ2,ω2,k1,k2,k3,k4,k5⟩:=ih _ _ _ _ _ _ _ _ h h2 h5
   refine ⟨A2,H2,μ2,ω2,?_,k2,h3.trans k3,h4.trans k4,k5⟩
   rw [if_neg hw]
   exact k1
end
end Go.Abs
namespace Go.Abs
open Go.RowKit
section
variable {P:Program} {call:FuncId→List Value→M Value} {μ μ2:Mu} {S S' G H H2:zu} {T A:List Value}
theorem Zc.two {s:M Value} (hs:Zc s) {a:Value} {G':zu} (h:s G=some (a,G')):∀ H,s H=some (a,H):=by
 obtain ⟨o,ho⟩:=hs
 rw [ho] at h
 cases o with
 | none=>cases h
 | some w =>
  simp only [Option.map_some,Option.some.injEq,Prod.mk.injEq] at h
  intro H
  rw [ho,h.1];rfl
theorem VG {t:TypeId} {ps:List (Nat×Value)}:Zc (xH P t ps):=by
 refine ⟨(xH P t ps zu.empty).map (·.1),fun H=>?_⟩
 unfold xH
 split
 ·
  split
  ·
   split
   ·
    split
    ·
     split <;> rfl
    ·
     rfl
   ·
    split
    ·
     split <;> rfl
    ·
     rfl
   ·
    rfl
  ·
   rfl
 ·
  rfl
theorem YP {x:Value}:Zc (kF x):=by
 refine ⟨(kF x zu.empty).map (·.1),fun H=>?_⟩
 unfold kF
 split <;> rfl
theorem Vb {t:TypeId} {x i:Value}:Zc (xI P t x i):=by
 unfold xI
 refine ⟨(xI P t x i zu.empty).map (·.1),fun H=>?_⟩
 unfold xI
 dsimp only
 split
 ·
  split
  ·
   split
   ·
    split <;> rfl
   ·
    rfl
  ·
   rfl
 ·
  obtain ⟨o,ho⟩:=yK (P:=P) _ _
  rw [ho,ho]
  cases o <;> rfl
 ·
  rfl
theorem acY {t:TypeId} {x:Value} (hx:∀ m,x≠.map m):Zc (Xt P t x):=by
 refine ⟨(Xt P t x zu.empty).map (·.1),fun H=>?_⟩
 unfold Xt
 split <;> first | rfl | exact absurd rfl (hx _)
theorem Yy {d:Nat} {v:Value} (h:okq d v=true):okq d (dem v)=true:=by
 cases v with
 | iface k v=>cases d <;> rfl
 | tuple vs=>cases d <;> cases h
 | _=>exact h
theorem Yq:∀ (d:Nat) {v a:Value},okq d v=true→V0 μ H v a→abA d a a=true:=by
 intro d
 induction d with
 | zero =>
  intro v a h hv
  cases hv <;> first | (cases h;done) | (simp [abA];done) | skip
  rename_i hs
  cases v <;> first | (simp [abA];done) | (simp [Go.Abs.sg] at hs;done) | skip
 | succ d ih =>
  intro v a h hv
  cases hv <;> first | (cases h;done) | (simp [abA];done) | skip
  ·
   rename_i hs
   cases v <;> first | (simp [abA];done) | (simp [Go.Abs.sg] at hs;done) | skip
  ·
   rename_i x x' hx hh
   unfold abA
   simp only [decide_true,Bool.true_and]
   rw [List.all_eq_true]
   intro p hp
   obtain ⟨i,hi,he⟩:=List.mem_iff_getElem.1 hp
   simp only [List.length_zip,Nat.min_self] at hi
   rw [List.getElem_zip] at he
   subst he
   have hi':i < x'.size:=by simpa using hi
   have hi2:i < x.size:=by rw [hx];exact hi'
   have h2:=hh i
   rw [Array.getD_eq_getD_getElem?,Array.getElem?_eq_getElem hi2,Array.getD_eq_getD_getElem?,Array.getElem?_eq_getElem hi'] at h2
   have h3:okq d x[i]=true:=List.all_eq_true.1 (show x.toList.all (okq d)=true from h) _ (by simp)
   have:=ih h3 h2
   simpa using this
theorem VW (x:Value):JH (dem x)=JH x:=by cases x <;> rfl
theorem afE {fx:Fx} {o:Oper} {v:Value} (hdr:fx.dr=true) (h:yu P fx call T o S=some (v,S')) (hn:Ze P o=false) (hr:kH o=false) (ho:∀ x ∈ o.op.operands.toList,V0 μ G (dem (jd T x)) (jd A x)) :
  ∃ a,V0 μ G (dem v) a∧∀ H,aOp P (jd A) o H=some (a,H)∧yG P (lim P) A o H=some (a,H):=by
 have hrm:qR o=false:=by
  unfold kH at hr
  unfold qR
  split <;> simp_all
 unfold yu at h
 split at h <;> first | (cases h;done) | skip
 rename_i hok
 obtain ⟨dst,op,type,pos,after,guard⟩:=o
 by_cases hcall:∃ c,op=.call c
 ·
  obtain ⟨c,rfl⟩:=hcall
  dsimp only at h ho
  unfold Ze at hn
  dsimp only at hn
  have hcargs:∀ x ∈ c.args.toList,V0 μ G (dem (jd T x)) (jd A x):=by
   intro x hx
   refine ho x ?_
   simp only [Op.operands,Call.operands]
   cases c.callee <;> simp <;> first | exact .inr (by simpa using hx) | exact (by simpa using hx)
  have step:∀ {b:Builtin} (a:Value),c.callee=.builtin b→(∀ H,kD P b c.argTypes type (c.args.toList.map (jd A)) H=some (a,H))→∀ H,aOp P (jd A) ⟨dst,.call c,type,pos,after,guard⟩ H=some (a,H)∧yG P (lim P) A ⟨dst,.call c,type,pos,after,guard⟩ H=some (a,H):=by
   intro b a hb hall H
   constructor
   ·
    unfold aOp;dsimp only;rw [hb];exact hall H
   ·
    unfold yG;rw [if_pos hok];dsimp only;rw [hb];exact hall H
  cases hcal:c.callee with
  | value f=>rw [hcal] at hn;cases hn
  | invoke r m=>rw [hcal] at hn;cases hn
  | builtin b =>
   rw [hcal] at h
   dsimp only at h
   unfold Ku at h
   rw [hcal] at hn
   have gargs:(c.args.toList.map (jd T)).all ground=true→c.args.toList.map (jd A)=c.args.toList.map (jd T):=by
    intro hg
    apply List.map_congr_left
    intro x hx
    exact jF (hcargs x hx) (List.all_eq_true.1 hg _ (List.mem_map.2 ⟨x,hx,rfl⟩))
   cases b <;> dsimp only at h hn <;> first | (cases h;done) | (cases hn;done) | skip
   case len =>
    split at h <;> first | (cases h;done) | skip
    rename_i t x0 ht ha
    obtain ⟨x,hx,rfl⟩:∃ x,c.args.toList=[x]∧jd T x=x0:=by
     match hl:c.args.toList with
     | []=>rw [hl] at ha;cases ha
     | [y]=>rw [hl] at ha;simp at ha;exact ⟨y,rfl,ha⟩
     | y::z::w=>rw [hl] at ha;simp at ha
    have hxv:=hcargs x (by rw [hx];simp)
    obtain ⟨rfl,a,h1,h2⟩:=adO h hxv
    have hmap:∀ m,jd A x≠.map m:=by
     intro m hm
     rw [hm] at hxv
     generalize hu:dem (jd T x)=u at hxv
     have hum:∃ m',u=.map m':=by cases hxv <;> exact ⟨_,rfl⟩
     obtain ⟨m',rfl⟩:=hum
     have:jd T x=.map m':=by
      cases hv:jd T x <;> rw [hv] at hu <;> simp [dem,qM] at hu <;> rw [hu]
     rw [this] at h
     simp [ZO] at h
    refine ⟨a,h2.dem,step a hcal fun H=>?_⟩
    unfold kD
    dsimp only
    rw [ht,hx]
    exact (acY hmap).two h1 H
   case min =>
    obtain ⟨rfl,hg,hga,hh⟩:=wO (H:=G) h
    refine ⟨v,(V0.ground hg).dem,step v hcal fun H=>?_⟩
    unfold kD
    dsimp only
    rw [gargs hga]
    exact (yK _ _).two hh H
   case max =>
    obtain ⟨rfl,hg,hga,hh⟩:=wO (H:=G) h
    refine ⟨v,(V0.ground hg).dem,step v hcal fun H=>?_⟩
    unfold kD
    dsimp only
    rw [gargs hga]
    exact (yK _ _).two hh H
 ·
  have hnc:∀ c,op≠.call c:=fun c hc=>hcall ⟨c,hc⟩
  have hV:vOp P fx (jd T) ⟨dst,op,type,pos,after,guard⟩ S=some (v,S'):=by
   cases op <;> first | exact h | exact absurd rfl (hnc _)
  obtain ⟨rfl,a,h1,h2,h3⟩:=Xk (ρA:=jd A) hV hn ho (.inl (JU hrm)) (.inl hdr)
  have hA:∀ H,yG P (lim P) A ⟨dst,op,type,pos,after,guard⟩ H=aOp P (jd A) ⟨dst,op,type,pos,after,guard⟩ H:=by
   intro H
   unfold yG
   rw [if_pos hok]
   cases op <;> first | rfl | exact absurd rfl (hnc _)
  refine ⟨a,h2,fun H=>?_⟩
  rw [hA]
  have key:aOp P (jd A) ⟨dst,op,type,pos,after,guard⟩ H=some (a,H):=by
   have hf:Zc (aOp P (jd A) ⟨dst,op,type,pos,after,guard⟩):=by
    unfold Ze at hn
    unfold kH at hr
    unfold aOp
    unfold vOp at hV
    cases op <;> dsimp only at hn hr hV ⊢ <;> first | (cases hn;done) | (cases hr;done) | (cases hV;done) | skip
    ·
     exact Yc _
    ·
     exact Yc _
    ·
     exact aaW _ _ _
    ·
     exact VG
    ·
     exact YP
    ·
     exact KT _ _ _ _
    ·
     exact aeg _ _
    ·
     exact Yc _
    ·
     exact Yb _ _ _
    ·
     exact Vg _ _ _
    ·
     exact Yv _ _ _
    ·
     exact Vb
    ·
     exact QF _ _
   exact hf.two h1 H
  exact ⟨key,key⟩
theorem abN {t:TypeId} {r o e:Nat} {l:List Value} {own own':Own} {a:Value} (hg:G.get r=some (.cells l own e)) (hg':H2.get r=some (.cells l own' e)) (h:qj P t (.pointer (some ⟨r,o,none⟩)) G=some (a,G)) :
  qj P t (.pointer (some ⟨r,o,none⟩)) H2=some (a,H2):=by
 simp only [qj,hg] at h
 simp only [qj,hg']
 (repeat' split at h) <;> first | (cases h;done) | skip
 all_goals simp_all
theorem VV.backed {v:Value} {r o n c:Nat} (h:V0 μ G v (.slice (some ⟨r,o,none⟩) n c)) (hv:JH v=false):∃ l own e,r < G.next∧Ja μ r∧G.get r=some (.cells l own e):=by
 cases h with
 | sg hs=>simp [Go.Abs.sg] at hs
 | slm hm=>simp [JH] at hv
 | sl hr hp hg _ _ _=>exact ⟨_,_,_,hr,hp,hg⟩
theorem abh {x:Value} {n:Nat} {cs:List Value} (hx:∀ r o n c,x=.slice (some ⟨r,o,none⟩) n c→∃ l own own' e,G.get r=some (.cells l own e)∧H2.get r=some (.cells l own' e)) (h:qm x n G=some cs):qm x n H2=some cs:=by
 unfold qm at h ⊢
 split at h
 ·
  rename_i r o k c
  obtain ⟨l,own,own',e,hg,hg'⟩:=hx _ _ _ _ rfl
  rw [hg] at h
  rw [hg']
  exact h
 ·
  exact h
 ·
  exact h
 ·
  cases h
theorem ab2 {src dst:TypeId} {x a:Value} (hd:∀ e,P.underlying dst≠some (.slice e)) (hx:∀ r o n c,x=.slice (some ⟨r,o,none⟩) n c→∃ l own own' e,G.get r=some (.cells l own e)∧H2.get r=some (.cells l own' e)) (h:yF P src dst x G=some (a,G)) :
  yF P src dst x H2=some (a,H2):=by
 unfold yF at h ⊢
 split at h
 ·
  rename_i b n c
  (try dsimp only)
  split at h
  ·
   rename_i e hs hdd
   split at h <;> first | (cases h;done) | skip
   rename_i he
   split at h <;> first | (cases h;done) | skip
   rename_i cs hcs
   rw [abh hx hcs]
   (try dsimp only)
   split at h <;> first | (cases h;done) | skip
   rename_i bs hbs
   (try rw [hbs])
   cases h
   rfl
  ·
   rename_i e0 e hs hdd
   exact absurd hdd (hd e)
  ·
   cases h
 ·
  rename_i s
  (try dsimp only)
  split at h
  ·
   rename_i d e hs hdd
   exact absurd hdd (hd e)
  ·
   exact (yK _ _).two h H2
 ·
  exact (yK _ _).two h H2
theorem aaS {t:TypeId} {x a:Value} {lo hi:Option Value} (hx:∀ r o n c,x=.slice (some ⟨r,o,none⟩) n c→∃ l own own' e,G.get r=some (.cells l own e)∧H2.get r=some (.cells l own' e)) (h:qY P t x lo hi G=some (a,G)) :
  qY P t x lo hi H2=some (a,H2):=by
 unfold qY at h ⊢
 split at h
 ·
  rename_i s hu
  exact (yK _ _).two h H2
 ·
  rename_i e b n c hu
  (try dsimp only)
  split at h <;> first | (cases h;done) | skip
  rename_i size l hh hs hl hhi
  (try simp only [hs,hl,hhi])
  split at h <;> first | (cases h;done) | skip
  rename_i c0
  split at h <;> first | (cases h;done) | skip
  rename_i c1
  split at h <;> first | (cases h;done) | skip
  rename_i c2
  rw [if_pos c0,if_pos c1,if_pos c2]
  split at h
  ·
   split at h <;> first | (cases h;done) | skip
   rename_i hn
   cases h
   rw [if_pos hn]
  ·
   rename_i r o
   obtain ⟨l2,own,own',e2,hg,hg'⟩:=hx _ _ _ _ rfl
   rw [hg] at h
   rw [hg']
   dsimp only at h ⊢
   split at h <;> first | (cases h;done) | skip
   rename_i he
   rw [if_pos he]
   cases h
   rfl
  ·
   split at h <;> first | (cases h;done) | skip
   rename_i hn
   cases h
   rw [if_pos hn]
  ·
   cases h
 ·
  cases h
theorem aaV {t:TypeId} {r o:Nat} {a:Value} {G':zu} (hg:H2.get r=G.get r) (h:qj P t (.pointer (some ⟨r,o,none⟩)) G=some (a,G')):qj P t (.pointer (some ⟨r,o,none⟩)) H2=some (a,H2):=by
 simp only [qj] at h ⊢
 rw [hg]
 (repeat' split at h) <;> first | (cases h;done) | skip
 all_goals simp_all
theorem XA {t:TypeId} {x k:Value} {ok:Bool} {a:Value} {G':zu} (hg:∀ r,x=.map (some r)→H2.get r=G.get r) (h:wP P t x k ok G=some (a,G')):wP P t x k ok H2=some (a,H2):=by
 have e:∀ H:zu,wP P t x k ok H=(wP P t x k ok H).map (fun r=>(r.1,H)):=by
  intro H
  unfold wP
  (try dsimp only)
  (repeat' split) <;> rfl
 have e2:(wP P t x k ok H2).map (·.1)=(wP P t x k ok G).map (·.1):=by
  cases x with
  | map b =>
   cases b with
   | none=>unfold wP;dsimp only;(repeat' split) <;> rfl
   | some r =>
    unfold wP
    dsimp only
    rw [hg r rfl]
    (repeat' split) <;> rfl
  | _=>unfold wP;(try dsimp only) <;> (try ((repeat' split) <;> rfl))
 rw [h] at e2
 rw [e H2]
 cases hh:wP P t x k ok H2 with
 | none=>rw [hh] at e2;cases e2
 | some w =>
  rw [hh] at e2
  simp only [Option.map_some,Option.some.injEq] at e2 ⊢
  rw [e2]
theorem agJ {fx:Fx} {o:Oper} {v:Value} (hdr:fx.dr=true) (h:yu P fx call T o S=some (v,S')) (hn:Ze P o=false) (hm:vO (jd T) o) (ho:∀ x ∈ o.op.operands.toList,V0 μ G (dem (jd T x)) (jd A x)) (hL:Later μ G μ2 H2) :
  ∃ a,V0 μ G (dem v) a∧aOp P (jd A) o G=some (a,G)∧aOp P (jd A) o H2=some (a,H2)∧yG P (lim P) A o G=some (a,G)∧yG P (lim P) A o H2=some (a,H2):=by
 by_cases hr:kH o=false
 ·
  obtain ⟨a,h1,h2⟩:=afE hdr h hn hr ho
  exact ⟨a,h1,(h2 G).1,(h2 H2).1,(h2 G).2,(h2 H2).2⟩
 ·
  unfold yu at h
  split at h <;> first | (cases h;done) | skip
  rename_i hok
  obtain ⟨dst,op,type,pos,after,guard⟩:=o
  unfold kH at hr
  cases op <;> dsimp only at h hr <;> first | (exact absurd rfl hr) | skip
  case load t addr =>
   obtain ⟨rfl,a,h1,h2,h3⟩:=Xk (ρA:=jd A) h hn ho (.inl hm) (.inl hdr)
   have hA:∀ H,yG P (lim P) A ⟨dst,.load t addr,type,pos,after,guard⟩ H=aOp P (jd A) ⟨dst,.load t addr,type,pos,after,guard⟩ H:=fun H=>by unfold yG;rw [if_pos hok]
   have key:aOp P (jd A) ⟨dst,.load t addr,type,pos,after,guard⟩ H2=some (a,H2):=by
    have hx:=ho addr (by simp [Op.operands])
    have h:zQ P fx.nm t (jd T addr) S'=some (v,S'):=h
    unfold aOp at h1 ⊢
    dsimp only at h1 ⊢
    unfold zQ at h
    split at h
    ·
     rename_i k cs he
     split at h <;> first | (cases h;done) | skip
     rename_i hk
     subst hk
     rw [he] at hx
     have hx:V0 μ G (.iface 3 (.agg cs)) (jd A addr):=hx
     generalize hq:jd A addr=q at hx h1 ⊢
     cases hx with
     | sg hs=>simp [Go.Abs.sg] at hs
     | ep hr hp hg hl hc =>
      obtain ⟨own',hg'⟩:=hL.cells _ _ _ _ hr hp hg
      exact abN hg hg' h1
    ·
     rename_i ad he
     exact absurd he (hm ad)
    ·
     cases h
   exact ⟨a,h2,h1,key,by rw [hA];exact h1,by rw [hA];exact key⟩
  case convert src d x =>
   obtain ⟨rfl,a,h1,h2,h3⟩:=Xk (ρA:=jd A) h hn ho (.inl hm) (.inl hdr)
   have hA:∀ H,yG P (lim P) A ⟨dst,.convert src d x,type,pos,after,guard⟩ H=aOp P (jd A) ⟨dst,.convert src d x,type,pos,after,guard⟩ H:=fun H=>by unfold yG;rw [if_pos hok]
   have key:aOp P (jd A) ⟨dst,.convert src d x,type,pos,after,guard⟩ H2=some (a,H2):=by
    have hx:=ho x (by simp [Op.operands])
    unfold aOp at h1 ⊢
    dsimp only at h1 ⊢
    refine ab2 (fun e he=>?_) (fun r o n c hq=>?_) h1
    ·
     unfold Ze at hn
     dsimp only at hn
     rw [he] at hn;cases hn
    ·
     rw [hq] at hx
     have hh:JH (dem (jd T x))=false:=by
      rw [VW]
      have h:qG P fx.hp fx.dr src d (jd T x) S'=some (v,S'):=h
      unfold qG at h
      split at h
      ·
       first | (cases h;done) | (rw [hdr] at h;simp at h)
      ·
       rename_i hh;simpa using hh
     obtain ⟨l,own,e,hr,hp,hg⟩:=hx.backed hh
     obtain ⟨own',hg'⟩:=hL.cells _ _ _ _ hr hp hg
     exact ⟨l,own,own',e,hg,hg'⟩
   exact ⟨a,h2,h1,key,by rw [hA];exact h1,by rw [hA];exact key⟩
  case slice t x lo hi mx =>
   obtain ⟨rfl,a,h1,h2,h3⟩:=Xk (ρA:=jd A) h hn ho (.inl hm) (.inl hdr)
   have hA:∀ H,yG P (lim P) A ⟨dst,.slice t x lo hi mx,type,pos,after,guard⟩ H=aOp P (jd A) ⟨dst,.slice t x lo hi mx,type,pos,after,guard⟩ H:=fun H=>by unfold yG;rw [if_pos hok]
   have key:aOp P (jd A) ⟨dst,.slice t x lo hi mx,type,pos,after,guard⟩ H2=some (a,H2):=by
    have hx:=ho x (by simp [Op.operands])
    unfold aOp at h1 ⊢
    cases mx with
    | some m=>cases h1
    | none =>
     dsimp only at h1 ⊢
     refine aaS (fun r o n c hq=>?_) h1
     rw [hq] at hx
     have hh:JH (dem (jd T x))=false:=by
      rw [VW]
      have h:vS P fx.dr t (jd T x) (lo.map (jd T)) (hi.map (jd T)) S'=some (v,S'):=h
      unfold vS at h
      split at h
      ·
       first | (cases h;done) | (rw [hdr] at h;simp at h)
      ·
       rename_i hh;simpa using hh
     obtain ⟨l,own,e,hr,hp,hg⟩:=hx.backed hh
     obtain ⟨own',hg'⟩:=hL.cells _ _ _ _ hr hp hg
     exact ⟨l,own,own',e,hg,hg'⟩
   exact ⟨a,h2,h1,key,by rw [hA];exact h1,by rw [hA];exact key⟩
  case lookup t x k ok =>
   exact hm.elim
end
end Go.Abs
namespace Go.Abs
open Go.RowKit
structure Line (P : Program) (fx : Fx) (chk : List Nat) (call : FuncId → List Value → M Value) (ops : Array Oper) (k0 : Nat) (l : List Oper) (Ts As : Nat → List Value) (Ss Hs : Nat → zu) (μs : Nat → Mu) (ωs : Nat → Nat → Option yR) (vs zf : Nat → Value) : Prop where
  inv : ∀ k, k ≤ l.length → GI (μs k) (Ss k) (Hs k) ∧ TI (μs k) (Hs k) (ωs k) (Ts k) (As k)
  step : ∀ k o, l[k]? = some o → Later (μs k) (Hs k) (μs (k + 1)) (Hs (k + 1)) ∧ Kept (ωs k) (Hs k) (ωs (k + 1)) (Hs (k + 1)) ∧
    ((Region.wanted o (ynd ops (As k)) = true ∧ yu P fx call (Ts k) o (Ss k) = some (vs k, Ss (k + 1)) ∧ yG P (lim P) (As k) o (Hs k) = some (zf k, Hs (k + 1)) ∧
        Ts (k + 1) = vJ o (l.drop (k + 1)) (Ts k) (vs k) ∧ As (k + 1) = JG (As k) o.dst (zf k) ∧ (chk.contains (k0 + k) = true → okq 3 (vs k) = true)) ∨
     (Region.wanted o (ynd ops (As k)) = false ∧ zf k = zh ∧ Ts (k + 1) = vJ o (l.drop (k + 1)) (Ts k) zh ∧ As (k + 1) = JG (As k) o.dst zh ∧ Hs (k + 1) = Hs k))
section
variable {P:Program} {call:FuncId→List Value→M Value}
theorem line_of {fx : Fx} {chk : List Nat} {nl : List (Nat × Nat)} (hc : Ws P call) {ops : Array Oper} : ∀ (l : List Oper) (k0 : Nat) (hist : List (Value × zu)) (T T' A : List Value) (S S' H : zu) (μ : Mu) (ω : Nat → Option yR), wu P fx chk nl call ops k0 hist l T S = some (T', S') → GI μ S H → TI μ H ω T A →
    ∃ Ts As Ss Hs μs ωs vs zf tr, Line P fx chk call ops k0 l Ts As Ss Hs μs ωs vs zf ∧ Ts 0 = T ∧ As 0 = A ∧ Ss 0 = S ∧ Hs 0 = H ∧ μs 0 = μ ∧ ωs 0 = ω ∧ Ts l.length = T' ∧ Ss l.length = S' ∧
      qI P (lim P) ops l A H = some (tr, As l.length, Hs l.length) ∧ (∀ k, k < l.length → tr[k]? = some (As k, Hs k, zf k)) ∧ (∀ k, k ≤ l.length → (tr.map (·.2.1) ++ [Hs l.length])[k]? = some (Hs k)) ∧
      ∃ hs : List (Value × zu), hs.length = l.length ∧ (∀ k o, l[k]? = some o → hs[k]? = some (xX (Ts k) o, Ss k)) ∧ (nl.isEmpty = false → nl.all (V8 (hist ++ hs ++ [(zh, S')])) = true) := by
  intro l
  induction l with
  | nil =>
    intro k0 hist T T' A S S' H μ ω h hG hT
    simp only [wu] at h
    split at h <;> first | (cases h; done) | skip
    rename_i hst
    cases h
    refine ⟨fun _ => T, fun _ => A, fun _ => S, fun _ => H, fun _ => μ, fun _ => ω, fun _ => zh, fun _ => zh, [], ⟨fun k _ => ⟨hG, hT⟩, fun k o ho => by simp at ho⟩, rfl, rfl, rfl, rfl, rfl, rfl, rfl, rfl, rfl, fun k hk => by simp at hk, fun k hk => ?_, [], rfl, fun k o ho => by simp at ho, fun he => ?_⟩
    · have : k = 0 := by simpa using hk
      subst this
      rfl
    · simpa [kP, he] using hst
  | cons o l ih =>
    intro k0 hist T T' A S S' H μ ω h hG hT
    have hy : (ynd ops T) = ynd ops A := funext fun j => acu hT j
    simp only [wu] at h
    have glue : ∀ (T1 A1 : List Value) (S1 H1 : zu) (μ1 : Mu) (ω1 : Nat → Option yR) (v a : Value), wu P fx chk nl call ops (k0 + 1) (kP nl hist (xX T o) S) l T1 S1 = some (T', S') → GI μ1 S1 H1 → TI μ1 H1 ω1 T1 A1 → Later μ H μ1 H1 → Kept ω H ω1 H1 →
        ((Region.wanted o (ynd ops A) = true ∧ yu P fx call T o S = some (v, S1) ∧ yG P (lim P) A o H = some (a, H1) ∧ T1 = vJ o l T v ∧ A1 = JG A o.dst a ∧ (chk.contains k0 = true → okq 3 v = true)) ∨
         (Region.wanted o (ynd ops A) = false ∧ a = zh ∧ T1 = vJ o l T zh ∧ A1 = JG A o.dst zh ∧ H1 = H)) →
        (∀ tr A2 H2, qI P (lim P) ops l A1 H1 = some (tr, A2, H2) → qI P (lim P) ops (o :: l) A H = some ((A, H, a) :: tr, A2, H2)) →
        ∃ Ts As Ss Hs μs ωs vs zf tr, Line P fx chk call ops k0 (o :: l) Ts As Ss Hs μs ωs vs zf ∧ Ts 0 = T ∧ As 0 = A ∧ Ss 0 = S ∧ Hs 0 = H ∧ μs 0 = μ ∧ ωs 0 = ω ∧ Ts (o :: l).length = T' ∧ Ss (o :: l).length = S' ∧
          qI P (lim P) ops (o :: l) A H = some (tr, As (o :: l).length, Hs (o :: l).length) ∧ (∀ k, k < (o :: l).length → tr[k]? = some (As k, Hs k, zf k)) ∧ (∀ k, k ≤ (o :: l).length → (tr.map (·.2.1) ++ [Hs (o :: l).length])[k]? = some (Hs k)) ∧
          ∃ hs : List (Value × zu), hs.length = (o :: l).length ∧ (∀ k o', (o :: l)[k]? = some o' → hs[k]? = some (xX (Ts k) o', Ss k)) ∧ (nl.isEmpty = false → nl.all (V8 (hist ++ hs ++ [(zh, S')])) = true) := by
      intro T1 A1 S1 H1 μ1 ω1 v a hrest hG1 hT1 hL hK hstep htr
      obtain ⟨Ts, As, Ss, Hs, μs, ωs, vs, zf, tr, hline, e1, e2, e3, e4, e5, e6, e7, e8, e9, e10, e11, hs, e12, e13, e14⟩ := ih _ _ _ _ _ _ _ _ _ _ hrest hG1 hT1
      refine ⟨fun k => match k with | 0 => T | k + 1 => Ts k, fun k => match k with | 0 => A | k + 1 => As k, fun k => match k with | 0 => S | k + 1 => Ss k, fun k => match k with | 0 => H | k + 1 => Hs k,
        fun k => match k with | 0 => μ | k + 1 => μs k, fun k => match k with | 0 => ω | k + 1 => ωs k, fun k => match k with | 0 => v | k + 1 => vs k, fun k => match k with | 0 => a | k + 1 => zf k, (A, H, a) :: tr,
        ⟨fun k hk => ?_, fun k o' ho => ?_⟩, rfl, rfl, rfl, rfl, rfl, rfl, e7, e8, htr _ _ _ e9, fun k hk => ?_, fun k hk => ?_, (xX T o, S) :: hs, by simp [e12], fun k o' ho => ?_, fun he => ?_⟩
      · cases k with
        | zero => exact ⟨hG, hT⟩
        | succ k => exact hline.inv k (by simpa using hk)
      · cases k with
        | zero =>
          simp only [List.getElem?_cons_zero, Option.some.injEq] at ho
          subst ho
          dsimp only
          rw [e1, e2, e3, e4, e5, e6]
          exact ⟨hL, hK, hstep⟩
        | succ k =>
          have := hline.step k o' (by simpa using ho)
          rw [show k0 + 1 + k = k0 + (k + 1) by omega] at this
          exact this
      · cases k with
        | zero => rfl
        | succ k => simpa using e10 k (by simpa using hk)
      · cases k with
        | zero => rfl
        | succ k => simpa using e11 k (by simpa using hk)
      · cases k with
        | zero =>
          simp only [List.getElem?_cons_zero, Option.some.injEq] at ho
          subst ho
          rfl
        | succ k => simpa using e13 k o' (by simpa using ho)
      · have := e14 he
        rw [show kP nl hist (xX T o) S = hist ++ [(xX T o, S)] by simp [kP, he]] at this
        simpa using this
    split at h
    · rename_i hw
      split at h
      · rename_i v S1 hs
        split at h <;> first | (cases h; done) | skip
        rename_i hchk
        obtain ⟨a, H1, μ1, ω1, h1, h2, h3, h4, h5⟩ := VZ (rest := l) hc hG hT hs
        have hw' : Region.wanted o (ynd ops A) = true := by rw [← hy]; exact hw
        refine glue _ _ _ H1 μ1 ω1 v a h h2 h5 h3 h4 (.inl ⟨hw', hs, h1, rfl, rfl, fun hk => ?_⟩) (fun tr A2 H2 ht => ?_)
        · rw [hk] at hchk; simpa using hchk
        · simp only [qI, hw', if_true, h1, ht]
      · cases h
    · rename_i hw
      obtain ⟨μ1, ω1, h2, h3, h4, h5⟩ := J7 (o := o) (rest := l) hG hT
      have hw' : Region.wanted o (ynd ops A) = false := by rw [← hy]; simpa using hw
      refine glue _ _ _ H μ1 ω1 zh zh h h2 h5 h3 h4 (.inr ⟨hw', rfl, rfl, rfl, rfl⟩) (fun tr A2 H2 ht => ?_)
      simp only [qI, hw', ht]
      rfl
variable {fx:Fx} {chk:List Nat} {ops:Array Oper} {k0:Nat} {l:List Oper} {Ts As:Nat→List Value} {Ss Hs:Nat→zu} {μs:Nat→Mu} {ωs:Nat→Nat→Option yR} {vs zf:Nat→Value}
theorem Line.later (hl:Line P fx chk call ops k0 l Ts As Ss Hs μs ωs vs zf) {i:Nat}:∀ (d:Nat),i+d≤l.length→Later (μs i) (Hs i) (μs (i+d)) (Hs (i+d)):=by
 intro d
 induction d with
 | zero=>intro _;exact Later.refl _ _
 | succ d ih =>
  intro hd
  have ho:l[i+d]?=some l[i+d]:=List.getElem?_eq_getElem (by omega)
  exact (ih (by omega)).trans (hl.step (i+d) _ ho).1
theorem Line.kept (hl:Line P fx chk call ops k0 l Ts As Ss Hs μs ωs vs zf):∀ (d:Nat),d≤l.length→Kept (ωs 0) (Hs 0) (ωs d) (Hs d):=by
 intro d
 induction d with
 | zero=>intro _;exact Kept.refl _ _
 | succ d ih =>
  intro hd
  have ho:l[d]?=some l[d]:=List.getElem?_eq_getElem (by omega)
  exact (ih (by omega)).trans (hl.step d _ ho).2.1
theorem Vm (i:Nat) (w:Value):dem (jD i w)=dem w:=by
 cases w with
 | tuple vs =>
  simp only [jD,dem]
  congr 1
  apply Array.ext (by simp)
  intro k h1 h2
  rw [Array.getElem_map,Array.getElem_map,Array.getElem_modify]
  split
  ·
   have:∀ v,qM (qM v)=qM v:=by
    intro v
    cases v with
    | iface k v =>
     simp only [qM]
     by_cases h:k=2
     ·
      rw [if_pos h,if_neg (by decide)]
     ·
      rw [if_neg h,if_neg h]
    | _=>rfl
   exact this _
  ·
   rfl
 | _=>rfl
theorem Xx (o:Oper) (T:List Value) (t:Nat):dem ((moved o T).getD t zh)=dem (T.getD t zh):=by
 have slot:∀ t',dem ((qJ T t').getD t zh)=dem (T.getD t zh):=by
  intro t'
  rw [qJ,y5]
  split
  ·
   rename_i h;rw [h.1,KO]
  ·
   rfl
 unfold moved
 split
 ·
  exact slot _
 ·
  exact slot _
 ·
  rw [y5]
  split
  ·
   rename_i h;rw [h.1,Vm]
  ·
   rfl
 ·
  split
  ·
   exact slot _
  ·
   rfl
 ·
  rfl
theorem moved_length (o:Oper) (T:List Value):(moved o T).length=T.length:=by
 unfold moved
 split <;> first | simp [qJ] | rfl | skip
 split <;> first | simp [qJ] | rfl
theorem Xa {o:Oper} {rest:List Oper} {T:List Value} {v:Value} (hd:o.dst=none) (t:Nat):dem ((vJ o rest T v).getD t zh)=dem (T.getD t zh):=by
 unfold vJ
 rw [hd]
 split
 ·
  rfl
 ·
  exact Xx o T t
theorem XG {o:Oper} {rest:List Oper} {T:List Value} {v:Value} {d:Nat} (hd:o.dst=some d) (t:Nat):dem ((vJ o rest T v).getD t zh)=if t=d∧d < T.length then dem v else dem (T.getD t zh):=by
 unfold vJ
 rw [hd]
 split
 ·
  simp only [JG]
  rw [y5]
  split
  ·
   exact KO v
  ·
   rfl
 ·
  simp only [JG]
  rw [y5,moved_length]
  split
  ·
   rfl
  ·
   exact Xx o T t
def Clear (μ:Mu) (G:zu) (bad:List Nat) (T A:List Value):Prop:=∀ t,bad.contains t=false→V0 μ G (dem (T.getD t zh)) (A.getD t zh)
theorem Clear.operands {μ:Mu} {G:zu} {bad:List Nat} {T A:List Value} (h:Clear μ G bad T A) {o:Oper} (hok:ae5 o=true) (hc:qC bad o=true):∀ x ∈ o.op.operands.toList,V0 μ G (dem (jd T x)) (jd A x):=by
 intro x hx
 have h1:=List.all_eq_true.1 (show o.op.operands.toList.all qN=true from hok) x hx
 have h2:=List.all_eq_true.1 hc x hx
 cases x with
 | tmp t=>exact h t (by simpa using h2)
 | const v=>exact (VV.yB (μ:=μ) (H:=G) (ω:=W0) (ℓ:=none) h1).v0
 | global g=>cases h1
 | func f =>
  have:V0 μ G (.func (.func f) #[] #[]) (.func (.func f) #[] #[]):=.func _ rfl rfl (fun i=>by simpa using VV.zh) (fun i=>by simpa using VV.zh)
  exact this
theorem ZE {T:List Value} {o:Oper} {S S':zu} {v:Value} (h:yu P fx call T o S=some (v,S')):ae5 o=true:=by
 unfold yu at h
 split at h
 ·
  assumption
 ·
  cases h
theorem aaI {fx:Fx} {o:Oper} {T A:List Value} {v:Value} {S S' H:zu} {μ:Mu} (h:yu P fx call T o S=some (v,S')) (hnm:fx.nm=true) (hm:¬ vO (jd T) o) (hG:GI μ S H) (ho:∀ x ∈ o.op.operands.toList,V0 μ H (dem (jd T x)) (jd A x)) :
  ground v=true∧∃ a,yG P (lim P) A o H=some (a,H)∧a=v:=by
 have hok:=ZE h
 unfold yu at h
 rw [if_pos hok] at h
 obtain ⟨dst,op,type,pos,after,guard⟩:=o
 unfold vO at hm
 cases op <;> dsimp only at h hm <;> first | (exact absurd True.intro hm) | skip
 case load t a =>
  have h:zQ P fx.nm t (jd T a) S=some (v,S'):=h
  obtain ⟨q,hq⟩:∃ q,jd T a=.pointer q:=Classical.byContradiction fun hn=>hm fun q hq=>hn ⟨q,hq⟩
  obtain ⟨rfl,w,k1,k2⟩:=WB h (ho a (by simp [Op.operands])) (.inr hG)
  rw [hnm] at h
  have hgr:ground v=true:=by
   unfold zQ at h
   rw [hq] at h
   dsimp only at h
   split at h <;> first | (cases h;done) | skip
   ·
    split at h
    ·
     split at h <;> first | (cases h;done) | skip
     rename_i hg
     cases h
     exact hg
    ·
     rename_i hf;exact absurd rfl hf
   ·
    split at h
    ·
     split at h <;> first | (cases h;done) | skip
     rename_i hg
     cases h
     exact hg
    ·
     rename_i hf;exact absurd rfl hf
  refine ⟨hgr,w,?_,k2.kJ hgr⟩
  unfold yG
  rw [if_pos hok]
  exact k1
 case lookup t x k ok =>
  have h:xP P fx.nm t (jd T x) (jd T k) ok S=some (v,S'):=h
  unfold xP at h
  rw [hnm] at h
  simp at h
theorem Line.clear (hdr:fx.dr=true) (hl:Line P fx chk call ops k0 l Ts As Ss Hs μs ωs vs zf) {j:Nat} (hj:j≤l.length):∀ (rest:List Oper) (bad:List Nat) (k:Nat),j≤k→l.drop k=rest→Clear (μs j) (Hs j) bad (Ts k) (As k) →
  ∀ d,d≤rest.length→Clear (μs j) (Hs j) ((ady P fx.nm rest bad).getD d []) (Ts (k+d)) (As (k+d)):=by
 intro rest
 induction rest with
 | nil =>
  intro bad k hjk hr hC d hd
  have:d=0:=by simpa using hd
  subst this
  exact hC
 | cons o rest ih =>
  intro bad k hjk hr hC d hd
  have hkl:k < l.length:=by
   have:=congrArg List.length hr
   simp at this;omega
  have ho:l[k]?=some o:=by
   have:=congrArg (·[0]?) hr
   simpa [List.getElem?_drop] using this
  cases d with
  | zero=>exact hC
  | succ d =>
   simp only [ady,List.getD_cons_succ]
   rw [show k+(d+1)=k+1+d by omega]
   refine ih _ (k+1) (by omega) ?_ ?_ d (by simpa using hd)
   ·
    rw [← List.drop_drop,hr];rfl
   ·
    obtain ⟨hL,_,hor⟩:=hl.step k o ho
    obtain ⟨hG,hT⟩:=hl.inv k (by omega)
    have hlen:=hT.len
    intro t ht
    cases hd:o.dst with
    | none =>
     rw [hd] at ht
     rcases hor with ⟨_,_,_,e1,e2,_⟩ | ⟨_,_,e1,e2,_⟩
     ·
      rw [e1,Xa hd,e2,hd];exact hC t ht
     ·
      rw [e1,Xa hd,e2,hd];exact hC t ht
    | some dd =>
     rw [hd] at ht
     dsimp only at ht
     have htb:bad.contains t=false:=by
      split at ht
      ·
       simp only [List.contains_cons,Bool.or_eq_false_iff] at ht;exact ht.2
      ·
       exact ht
     rcases hor with ⟨hw,hv,ha,e1,e2,_⟩ | ⟨_,_,e1,e2,_⟩
     ·
      rw [e1,XG hd,e2,hd]
      simp only [JG]
      rw [y5,hlen]
      by_cases hc:t=dd∧dd < (As k).length
      ·
       rw [if_pos hc,if_pos hc]
       have hcond:¬ (Ze P o || !qC bad o || (qR o && !fx.nm))=true:=by
        intro hh
        rw [if_pos hh] at ht
        simp [hc.1] at ht
       simp only [Bool.or_eq_true,not_or,Bool.not_eq_true,Bool.not_eq_eq_eq_not,Bool.not_true,Bool.and_eq_true,not_and] at hcond
       obtain ⟨⟨q1,q2⟩,q3⟩:=hcond
       have q2':qC bad o=true:=by simpa using q2
       have hLj:Later (μs j) (Hs j) (μs k) (Hs k):=by
        have:=hl.later (i:=j) (k - j) (by omega)
        rwa [show j+(k - j)=k by omega] at this
       by_cases hm:vO (jd (Ts k)) o
       ·
        obtain ⟨a,h1,_,_,_,h5⟩:=agJ hdr hv q1 hm (hC.operands (ZE hv) q2') hLj
        rw [ha] at h5
        have e:zf k=a:=by simpa using congrArg (Option.map Prod.fst) h5
        subst e
        exact h1
       ·
        have hrm:qR o=true:=by
         cases hrm:qR o with
         | true=>rfl
         | false=>exact absurd (JU hrm) hm
        have hnm:fx.nm=true:=by have:=q3 hrm;simpa using this
        obtain ⟨g1,a,g2,g3⟩:=aaI hv hnm hm hG (fun x hx=>hT.eval (List.all_eq_true.1 (show o.op.operands.toList.all qN=true from ZE hv) x hx))
        rw [ha] at g2
        have e:zf k=a:=by simpa using congrArg (Option.map Prod.fst) g2
        subst e
        rw [g3,YW g1]
        exact V0.ground g1
      ·
       rw [if_neg hc,if_neg hc]
       exact hC t htb
     ·
      rw [e1,XG hd,e2,hd]
      simp only [JG]
      rw [y5,hlen]
      by_cases hc:t=dd∧dd < (As k).length
      ·
       rw [if_pos hc,if_pos hc,show dem zh=zh from Zw]
       exact .nores
      ·
       rw [if_neg hc,if_neg hc]
       exact hC t htb
theorem acT {hp0:Bool} (hc:Ws P call) {T T' A:List Value} {S S' H:zu} {μ:Mu} {ω:Nat→Option yR} (hd:kY P ops=true) (h:wu P ⟨hp0,!(checked P ops).isEmpty,fixed P ops⟩ (checked P ops) (again P ops) call ops 0 [] ops.toList T S=some (T',S')) (hG:GI μ S H) (hT:TI μ H ω T A) :
  After μ ω H T' S' (vX P (lim P) ops A H):=by
 obtain ⟨Ts,As,Ss,Hs,μs,ωs,vs,zf,tr,hline,rfl,rfl,rfl,rfl,rfl,rfl,rfl,rfl,e9,e10,e11,hs,e12,e13,e14⟩:=line_of hc _ _ _ _ _ _ _ _ _ _ _ h hG hT
 obtain ⟨hGn,hTn⟩:=hline.inv ops.toList.length (Nat.le_refl _)
 have hLn:=hline.later (i:=0) ops.toList.length (by omega)
 rw [Nat.zero_add] at hLn
 refine ⟨As ops.toList.length,Hs ops.toList.length,μs ops.toList.length,ωs ops.toList.length,?_,hGn,hLn,hline.kept _ (Nat.le_refl _),hTn⟩
 simp only [kY,KG,Bool.and_eq_true] at hd
 refine aev hd.1 e9 fun p hp=>?_
 have hchk:(checked P ops).contains p.1=true:=by
  unfold checked
  simp only [List.contains_eq_mem,decide_eq_true_eq]
  exact List.mem_map.2 ⟨p,hp,rfl⟩
 have hdr:(Fx.mk hp0 (!(checked P ops).isEmpty) (fixed P ops)).dr=true:=by
  show (!(checked P ops).isEmpty)=true
  cases hl:checked P ops with
  | nil=>rw [hl] at hchk;cases hchk
  | cons a b=>rfl
 have hp2:=List.all_eq_true.1 hd.2 p hp
 have hp0:=hp
 unfold need at hp
 obtain ⟨i,hi,hp⟩:=List.mem_flatMap.1 hp
 obtain ⟨j,hj,hp⟩:=List.mem_filterMap.1 hp
 have hi:i < ops.toList.length:=List.mem_range.1 hi
 have hj:j < ops.toList.length:=List.mem_range.1 hj
 split at hp <;> first | (cases hp;done) | skip
 rename_i oi oj hoi hoj
 split at hp <;> first | (cases hp;done) | skip
 rename_i hcond
 cases hp
 simp only [Bool.and_eq_true,Bool.not_eq_true'] at hcond
 obtain ⟨⟨hni,hcj⟩,_⟩:=hcond
 dsimp only at hp2 hchk ⊢
 rw [hoi] at hp2
 dsimp only at hp2
 have hij:i≠j:=by
  intro e;subst e
  rw [hoi] at hoj;cases hoj
  rw [hni] at hcj;cases hcj
 have hGj:(tr.map (·.2.1)++[Hs ops.toList.length])[if j < i then j else j+1]?=some (Hs (if j < i then j else j+1)):=e11 _ (by split <;> omega)
 unfold Yj
 rw [hoi,e10 i hi,hGj]
 dsimp only
 obtain ⟨_,_,hor⟩:=hline.step i oi hoi
 rcases hor with ⟨hw,hv,ha,heT,heA,hq⟩ | ⟨hw,_⟩
 ·
  rw [hw]
  simp only [Bool.not_true,Bool.false_or]
  obtain ⟨hGi,hTi⟩:=hline.inv i (by omega)
  have hops:∀ x ∈ oi.op.operands.toList,V0 (μs i) (Hs i) (dem (jd (Ts i) x)) (jd (As i) x):=fun x hx=>hTi.eval (List.all_eq_true.1 (show oi.op.operands.toList.all qN=true from ZE hv) x hx)
  have hq3:okq 3 (vs i)=true:=hq (by rw [Nat.zero_add];exact hchk)
  have same:∃ G',aOp P (jd (As i)) oi (Hs (if j < i then j else j+1))=some (zf i,G')∧abA 3 (zf i) (zf i)=true:=by
   by_cases hm:vO (jd (Ts i)) oi
   case neg =>
    have hrm:qR oi=true:=by
     cases hrm:qR oi with
     | true=>rfl
     | false=>exact absurd (JU hrm) hm
    have hin:(i,j) ∈ again P ops:=List.mem_filter.2 ⟨hp0,by dsimp only;rw [hoi];exact hrm⟩
    have hne:(again P ops).isEmpty=false:=by
     cases hl:again P ops with
     | nil=>rw [hl] at hin;cases hin
     | cons a b=>rfl
    have hst:=List.all_eq_true.1 (e14 hne) _ hin
    rw [List.nil_append] at hst
    have hi1:(hs++[(zh,Ss ops.toList.length)])[i]?=some (xX (Ts i) oi,Ss i):=by
     rw [List.getElem?_append_left (by omega)];exact e13 i oi hoi
    have hj1:∃ p2,(hs++[(zh,Ss ops.toList.length)])[if j < i then j else j+1]?=some (p2,Ss (if j < i then j else j+1)):=by
     by_cases hjl:(if j < i then j else j+1) < ops.toList.length
     ·
      rw [List.getElem?_append_left (by omega)]
      exact ⟨_,e13 _ _ (List.getElem?_eq_getElem hjl)⟩
     ·
      have:(if j < i then j else j+1)=ops.toList.length:=by split at hjl <;> (rename_i hh;simp only [hh,if_true,if_false];omega)
      rw [this,List.getElem?_append_right (by omega),e12,Nat.sub_self]
      exact ⟨_,rfl⟩
    obtain ⟨p2,hj1⟩:=hj1
    unfold V8 at hst
    dsimp only at hst
    rw [hi1,hj1] at hst
    dsimp only at hst
    have obj:∀ q r b,μs i q=some (r,b)→(∀ Sa Sb,kZ (xX (Ts i) oi) Sa Sb=true→(∃ o,Sa.get q=some o∧o.alive=true)∧q ∉ Sb.log.take (Sb.log.length - Sa.log.length))→(Hs (if j < i then j else j+1)).get r=(Hs i).get r:=by
     intro q r b hq hQ
     by_cases hji:j < i
     ·
      rw [if_pos hji] at hst ⊢
      rw [if_pos hji] at hst
      obtain ⟨⟨o1,g1,g2⟩,g3⟩:=hQ _ _ hst
      obtain ⟨hGj3,_⟩:=hline.inv j (by omega)
      obtain ⟨r0,_,g4,_⟩:=hGj3.obj q o1 g1 g2
      have hL:=hline.later (i:=j) (i - j) (by omega)
      rw [show j+(i - j)=i by omega] at hL
      obtain ⟨b',hb'⟩:=hL.mu q r0 true g4
      rw [hq] at hb'
      cases hb'
      obtain ⟨new,n1,n2⟩:=hL.still
      rw [hGj3.log,hGi.log] at n1
      rw [n1] at g3
      simp only [List.length_append,Nat.add_sub_cancel,List.take_left] at g3
      exact (n2 q r g4 g3).2.symm
     ·
      rw [if_neg hji] at hst ⊢
      rw [if_neg hji] at hst
      obtain ⟨⟨o1,g1,g2⟩,g3⟩:=hQ _ _ hst
      have hb:=hGi.at hq g1 g2
      subst hb
      have hL:=hline.later (i:=i) (j+1 - i) (by omega)
      rw [show i+(j+1 - i)=j+1 by omega] at hL
      obtain ⟨hGj3,_⟩:=hline.inv (j+1) (by omega)
      obtain ⟨new,n1,n2⟩:=hL.still
      rw [hGj3.log,hGi.log] at n1
      rw [n1] at g3
      simp only [List.length_append,Nat.add_sub_cancel,List.take_left] at g3
      exact (n2 q r hq g3).2
    clear hst hi1 hj1
    have hok:=ZE hv
    have hvo:=hv
    unfold yu at hv
    rw [if_pos hok] at hv
    obtain ⟨dst,op,type,pos,after,guard⟩:=oi
    unfold vO at hm
    cases op <;> dsimp only at hv hm <;> first | (exact absurd True.intro hm) | skip
    case load t a =>
     have hv:zQ P (fixed P ops) t (jd (Ts i) a) (Ss i)=some (vs i,Ss (i+1)):=hv
     obtain ⟨ad,hq⟩:∃ q,jd (Ts i) a=.pointer q:=Classical.byContradiction fun hn=>hm fun q hq=>hn ⟨q,hq⟩
     have hx:=hops a (by simp [Op.operands])
     obtain ⟨_,w,k1,k2⟩:=WB hv hx (.inr hGi)
     have hA:yG P (lim P) (As i) ⟨dst,.load t a,type,pos,after,guard⟩ (Hs i)=qj P t (jd (As i) a) (Hs i):=by unfold yG;rw [if_pos hok];rfl
     rw [hA,k1] at ha
     have e:w=zf i:=by simpa using congrArg (Option.map Prod.fst) ha
     subst e
     rw [hq] at hx
     have hx:V0 (μs i) (Hs i) (.pointer ad) (jd (As i) a):=hx
     generalize hpa:jd (As i) a=pa at hx k1
     have hres:qj P t pa (Hs (if j < i then j else j+1))=some (zf i,Hs (if j < i then j else j+1)):=by
      cases hx with
      | sg hs =>
       cases ad with
       | none=>simp [qj] at k1
       | some ad=>simp [Go.Abs.sg] at hs
      | @ptr _ q o r b hmq =>
       refine aaV (obj q r b hmq fun Sa Sb hQ=>?_) k1
       have hQ:kZ (jd (Ts i) a) Sa Sb=true:=hQ
       rw [hq] at hQ
       simp only [kZ,Bool.and_eq_true,Bool.not_eq_true',List.contains_eq_mem,decide_eq_false_iff_not] at hQ
       refine ⟨?_,hQ.2⟩
       have h1:=hQ.1
       split at h1 <;> first | (cases h1;done) | skip
       rename_i hsa
       exact ⟨_,hsa,rfl⟩
     rw [← hpa] at hres
     exact ⟨_,hres,Yq 3 (Yy hq3) k2.dem⟩
    case lookup t x k ok =>
     have hv:xP P (fixed P ops) t (jd (Ts i) x) (jd (Ts i) k) ok (Ss i)=some (vs i,Ss (i+1)):=hv
     have hx:=hops x (by simp [Op.operands])
     obtain ⟨_,w,k1,k2⟩:=Y9 hv hx (hops k (by simp [Op.operands])) (.inr hGi)
     have hA:yG P (lim P) (As i) ⟨dst,.lookup t x k ok,type,pos,after,guard⟩ (Hs i)=wP P t (jd (As i) x) (jd (As i) k) ok (Hs i):=by unfold yG;rw [if_pos hok];rfl
     rw [hA,k1] at ha
     have e:w=zf i:=by simpa using congrArg (Option.map Prod.fst) ha
     subst e
     have hres:wP P t (jd (As i) x) (jd (As i) k) ok (Hs (if j < i then j else j+1))=some (zf i,Hs (if j < i then j else j+1)):=by
      refine XA (fun r hr=>?_) k1
      rw [hr] at hx
      generalize hu:dem (jd (Ts i) x)=u at hx
      have hum:∃ q b,u=.map (some q)∧μs i q=some (r,b):=by
       cases hx with
       | sg hs=>simp [Go.Abs.sg] at hs
       | map hmq=>exact ⟨_,_,rfl,hmq⟩
      obtain ⟨q,b,rfl,hmq⟩:=hum
      have hxe:jd (Ts i) x=.map (some q):=by
       cases hvx:jd (Ts i) x <;> rw [hvx] at hu <;> simp [dem,qM] at hu <;> rw [hu]
      refine obj q r b hmq fun Sa Sb hQ=>?_
      have hQ:kZ (jd (Ts i) x) Sa Sb=true:=hQ
      rw [hxe] at hQ
      simp only [kZ,Bool.and_eq_true,Bool.not_eq_true',List.contains_eq_mem,decide_eq_false_iff_not] at hQ
      refine ⟨?_,hQ.2⟩
      have h1:=hQ.1
      split at h1 <;> first | (cases h1;done) | skip
      rename_i hsa
      exact ⟨_,hsa,rfl⟩
     exact ⟨_,hres,Yq 3 (Yy hq3) k2.dem⟩
   by_cases hrd:kH oi=false
   ·
    obtain ⟨a,h1,h2⟩:=afE hdr hv hni hrd hops
    have h3:=(h2 (Hs i)).2
    rw [ha] at h3
    have e:zf i=a:=by simpa using congrArg (Option.map Prod.fst) h3
    subst e
    exact ⟨_,(h2 _).1,Yq 3 (Yy hq3) h1⟩
   ·
    have hrd:kH oi=true:=by simpa using hrd
    by_cases hlt:i < j
    ·
     rw [if_neg (by omega)]
     have hL:=hline.later (i:=i) (j+1 - i) (by omega)
     rw [show i+(j+1 - i)=j+1 by omega] at hL
     obtain ⟨a,h1,_,h3,h4,_⟩:=agJ hdr hv hni hm hops hL
     rw [ha] at h4
     have e:zf i=a:=by simpa using congrArg (Option.map Prod.fst) h4
     subst e
     exact ⟨_,h3,Yq 3 (Yy hq3) h1⟩
    ·
     rw [if_pos (by omega)]
     rw [hrd] at hp2
     have hcl:qC ((ady P (fixed P ops) (ops.toList.drop j) []).getD (i - j) []) oi=true:=by
      simpa [hlt] using hp2
     obtain ⟨hGj2,hTj⟩:=hline.inv j (by omega)
     have hC0:Clear (μs j) (Hs j) [] (Ts j) (As j):=fun t _=>(hTj.slots t).v0
     have hC:=hline.clear hdr (j:=j) (by omega) _ [] j (Nat.le_refl _) rfl hC0 (i - j) (by rw [List.length_drop];omega)
     rw [show j+(i - j)=i by omega] at hC
     have hL:=hline.later (i:=j) (i - j) (by omega)
     rw [show j+(i - j)=i by omega] at hL
     obtain ⟨a,h1,h2,_,_,h5⟩:=agJ hdr hv hni hm (hC.operands (ZE hv) hcl) hL
     rw [ha] at h5
     have e:zf i=a:=by simpa using congrArg (Option.map Prod.fst) h5
     subst e
     exact ⟨_,h2,Yq 3 (Yy hq3) h1⟩
  obtain ⟨G',h1,h2⟩:=same
  unfold recheck
  rw [h1]
  exact h2
 ·
  rw [hw]
  rfl
end
end Go.Abs
namespace Go.Abs
open Go.RowKit
section
variable {P:Program} {call:FuncId→List Value→M Value}
def afN (μ:Mu) (ω:Nat→Option yR) (H:zu) (e:AEx) (T':List Value) (S':zu) (R:St):Prop :=
 ∃ A' H' μ' ω',R=some (e,A',H')∧GI μ' S' H'∧Later μ H μ' H'∧Kept ω H ω' H'∧TI μ' H' ω' T' A'
theorem ae1 {hp:Bool} (hc:Ws P call) (fuel:Nat):∀ (c:Code) (T T' A:List Value) (S S' H:zu) (μ:Mu) (ω:Nat→Option yR) (e:AEx),yM P hp call fuel c T S=some (e,T',S')→GI μ S H→TI μ H ω T A→afN μ ω H e T' S' (yN P c A H):=by
 intro c
 induction c with
 | skip =>
  intro T T' A S S' H μ ω e h hG hT
  simp only [yM,Option.some.injEq,Prod.mk.injEq] at h
  obtain ⟨rfl,rfl,rfl⟩:=h
  exact ⟨A,H,μ,ω,rfl,hG,Later.refl _ _,Kept.refl _ _,hT⟩
 | exit id =>
  intro T T' A S S' H μ ω e h hG hT
  simp only [yM,Option.some.injEq,Prod.mk.injEq] at h
  obtain ⟨rfl,rfl,rfl⟩:=h
  exact ⟨A,H,μ,ω,rfl,hG,Later.refl _ _,Kept.refl _ _,hT⟩
 | ret =>
  intro T T' A S S' H μ ω e h hG hT
  simp only [yM,Option.some.injEq,Prod.mk.injEq] at h
  obtain ⟨rfl,rfl,rfl⟩:=h
  exact ⟨A,H,μ,ω,rfl,hG,Later.refl _ _,Kept.refl _ _,hT⟩
 | region i ops d =>
  intro T T' A S S' H μ ω e h hG hT
  cases d with
  | false =>
   simp only [yM] at h
   split at h <;> first | (cases h;done) | skip
   rename_i T1 S1 ho
   cases h
   obtain ⟨A',H',μ',ω',h1,h2,h3,h4,h5⟩:=agj hc _ _ _ _ _ _ _ _ _ ho hG hT
   exact ⟨A',H',μ',ω',by simp only [yN,h1],h2,h3,h4,h5⟩
  | true =>
   simp only [yM] at h
   split at h <;> first | (cases h;done) | skip
   rename_i hd
   split at h <;> first | (cases h;done) | skip
   rename_i T1 S1 ho
   cases h
   obtain ⟨A',H',μ',ω',h1,h2,h3,h4,h5⟩:=acT hc hd ho hG hT
   exact ⟨A',H',μ',ω',by simp only [yN,h1],h2,h3,h4,h5⟩
 | seq x y ihx ihy =>
  intro T T' A S S' H μ ω e h hG hT
  simp only [yM] at h
  split at h
  ·
   rename_i T1 S1 hx
   obtain ⟨A1,H1,μ1,ω1,h1,h2,h3,h4,h5⟩:=ihx _ _ _ _ _ _ _ _ _ hx hG hT
   obtain ⟨A2,H2,μ2,ω2,k1,k2,k3,k4,k5⟩:=ihy _ _ _ _ _ _ _ _ _ h h2 h5
   exact ⟨A2,H2,μ2,ω2,by simp only [yN,h1];exact k1,k2,h3.trans k3,h4.trans k4,k5⟩
  ·
   rename_i hne
   obtain ⟨A1,H1,μ1,ω1,h1,h2,h3,h4,h5⟩:=ihx _ _ _ _ _ _ _ _ _ h hG hT
   refine ⟨A1,H1,μ1,ω1,?_,h2,h3,h4,h5⟩
   simp only [yN,h1]
   cases e with
   | normal=>exact absurd h (hne _ _)
   | exit id=>rfl
   | ret=>rfl
 | cond c x y ihx ihy =>
  intro T T' A S S' H μ ω e h hG hT
  simp only [yM] at h
  split at h <;> first | (cases h;done) | skip
  rename_i hok
  have hv:=hT.eval hok
  split at h
  ·
   rename_i hb
   have:jd A c=.bool true:=jF hv (by rw [hb];rfl) |>.trans hb
   obtain ⟨A1,H1,μ1,ω1,h1,h2,h3,h4,h5⟩:=ihx _ _ _ _ _ _ _ _ _ h hG hT
   exact ⟨A1,H1,μ1,ω1,by simp only [yN,hok,if_true,this];exact h1,h2,h3,h4,h5⟩
  ·
   rename_i hb
   have:jd A c=.bool false:=jF hv (by rw [hb];rfl) |>.trans hb
   obtain ⟨A1,H1,μ1,ω1,h1,h2,h3,h4,h5⟩:=ihy _ _ _ _ _ _ _ _ _ h hG hT
   exact ⟨A1,H1,μ1,ω1,by simp only [yN,hok,if_true,this];exact h1,h2,h3,h4,h5⟩
  ·
   cases h
 | block id c ih =>
  intro T T' A S S' H μ ω e h hG hT
  simp only [yM] at h
  split at h
  ·
   rename_i id' T1 S1 hx
   obtain ⟨A1,H1,μ1,ω1,h1,h2,h3,h4,h5⟩:=ih _ _ _ _ _ _ _ _ _ hx hG hT
   by_cases hid:id'=id
   ·
    rw [if_pos hid] at h
    cases h
    exact ⟨A1,H1,μ1,ω1,by simp only [yN,h1,if_pos hid],h2,h3,h4,h5⟩
   ·
    rw [if_neg hid] at h
    cases h
    exact ⟨A1,H1,μ1,ω1,by simp only [yN,h1,if_neg hid],h2,h3,h4,h5⟩
  ·
   rename_i hne
   obtain ⟨A1,H1,μ1,ω1,h1,h2,h3,h4,h5⟩:=ih _ _ _ _ _ _ _ _ _ h hG hT
   refine ⟨A1,H1,μ1,ω1,?_,h2,h3,h4,h5⟩
   simp only [yN,h1]
   cases e with
   | normal=>rfl
   | exit id'=>exact absurd h (hne _ _ _)
   | ret=>rfl
 | loop c ih =>
  have key:∀ (n:Nat) (T T' A:List Value) (S S' H:zu) (μ:Mu) (ω:Nat→Option yR) (e:AEx),qw n (yM P hp call fuel c) T S=some (e,T',S')→GI μ S H→TI μ H ω T A→afN μ ω H e T' S' (qB (yN P c) A H):=by
   intro n
   induction n with
   | zero=>intro T T' A S S' H μ ω e h;cases h
   | succ n ihn =>
    intro T T' A S S' H μ ω e h hG hT
    simp only [qw] at h
    split at h
    ·
     rename_i T1 S1 hx
     obtain ⟨A1,H1,μ1,ω1,h1,h2,h3,h4,h5⟩:=ih _ _ _ _ _ _ _ _ _ hx hG hT
     obtain ⟨A2,H2,μ2,ω2,k1,k2,k3,k4,k5⟩:=ihn _ _ _ _ _ _ _ _ _ h h2 h5
     exact ⟨A2,H2,μ2,ω2,by rw [y9 h1];exact k1,k2,h3.trans k3,h4.trans k4,k5⟩
    ·
     rename_i hne
     obtain ⟨A1,H1,μ1,ω1,h1,h2,h3,h4,h5⟩:=ih _ _ _ _ _ _ _ _ _ h hG hT
     exact ⟨A1,H1,μ1,ω1,wR h1 (fun he=>by subst he;exact hne _ _ h),h2,h3,h4,h5⟩
  intro T T' A S S' H μ ω e h hG hT
  simp only [yM] at h
  obtain ⟨A1,H1,μ1,ω1,h1,h2⟩:=key fuel _ _ _ _ _ _ _ _ _ h hG hT
  exact ⟨A1,H1,μ1,ω1,by simp only [yN];exact h1,h2⟩
 | _=>intro T T' A S S' H μ ω e h;simp only [yM] at h;cases h
theorem VV.ahZ {μ:Mu} {H:zu} {ω ω':Nat→Option yR} {f:yR→Option yR} (hω:∀ r,ω' r=(ω r).bind f) {s s':yR} (hs:f s=some s') {v a:Value} (h:VV μ H ω (some s) v a) (hv:wU v=true):VV μ H ω' (some s') v a:=by
 cases h with
 | sg h=>exact .sg h
 | ptr h=>exact .ptr h
 | map h=>exact .map h
 | slm h=>exact .slm h
 | slE=>exact .slE
 | sl hr hp hg hl hl' hc=>exact .sl hr hp hg hl hl' (fun i hi=>(hc i hi).at0)
 | so h hr hp hg hl hl' hc=>exact .so (by rw [hω,h];exact hs) hr hp hg hl hl' (fun i hi=>(hc i hi).at0)
 | ep hr hp hg hl hc=>exact .ep hr hp hg hl (fun i hi=>(hc i hi).at0)
 | func fn hx hc h1 h2=>exact .func fn hx hc (fun i=>(h1 i).at0) (fun i=>(h2 i).at0)
 | agg hx hh=>exact .agg hx (fun i=>(hh i).at0)
 | nores=>exact .nores
 | @tuple _ x x' hx hh =>
  have h0:x.size=0:=by simpa [wU] using hv
  have e1:x=#[]:=Array.eq_empty_of_size_eq_zero h0
  have e2:x'=#[]:=Array.eq_empty_of_size_eq_zero (by rw [← hx];exact h0)
  subst e1 e2
  exact .nores
def place (rs:List ResultVar):yR→Option yR
 | .ext=>some .ext
 | .res _=>none
 | .slot i j=>match rs with
  | [.tmp t]=>if i=t then some (.res j) else none
  | _=>match j with
   | none=>(rs.findIdx? (aeL i)).map fun k=>.res (some k)
   | some _=>none
theorem abu {rs:List ResultVar} {i:Nat} (h:∀ t,rs≠[.tmp t]):place rs (.slot i none)=(rs.findIdx? (aeL i)).map fun k=>.res (some k):=by
 match rs,h with
 | [],_=>rfl
 | [.tmp t],h=>exact absurd rfl (h t)
 | [.cell _ _],_=>rfl
 | .tmp _::_::_,_=>rfl
 | .cell _ _::_::_,_=>rfl
theorem VB {μ:Mu} {ω:Nat→Option yR} {S H:zu} {T A:List Value} (hG:GI μ S H) (hT:TI μ H ω T A):∀ (l:List ResultVar) (vs:List Value),zL P T S l=some vs →
  ∃ zf,xK P A H l=some zf∧vs.length=l.length∧zf.length=l.length∧∀ i:Nat,match (l[i]?:Option ResultVar) with
   | some (.tmp t)=>vs.getD i zh=T.getD t zh∧zf.getD i zh=A.getD t zh
   | _=>V0 μ H (vs.getD i zh) (zf.getD i zh):=by
 intro l
 induction l with
 | nil =>
  intro vs h
  simp only [zL,Option.some.injEq] at h
  subst h
  exact ⟨[],rfl,rfl,rfl,fun i=>by simpa using VV.zh⟩
 | cons x l ih =>
  intro vs h
  cases x with
  | tmp t =>
   simp only [zL] at h
   split at h <;> first | (cases h;done) | skip
   rename_i vs' hr
   cases h
   obtain ⟨zf,h1,h2,h3,h4⟩:=ih _ hr
   refine ⟨A.getD t zh::zf,by simp only [xK,h1],by simp [h2],by simp [h3],fun i=>?_⟩
   cases i with
   | zero=>exact ⟨rfl,rfl⟩
   | succ i=>simpa using h4 i
  | cell a t =>
   simp only [zL] at h
   split at h <;> first | (cases h;done) | skip
   rename_i v S1 vs' hl hr
   cases h
   obtain ⟨zf,h1,h2,h3,h4⟩:=ih _ hr
   obtain ⟨_,w,k1,k2⟩:=WB hl (hT.slots a).v0 (.inr hG)
   refine ⟨w::zf,by simp only [xK,k1,h1],by simp [h2],by simp [h3],fun i=>?_⟩
   cases i with
   | zero=>exact k2
   | succ i=>simpa using h4 i
theorem afW {μ:Mu} {ω:Nat→Option yR} {S S' H:zu} {T A:List Value} {fn:Func} {v:Value} (hG:GI μ S H) (hT:TI μ H ω T A) (h:abB P fn T S=some (v,S')) :
  S'=S∧∃ a,adW P fn A H=some (a,H)∧VV μ H (fun r=>(ω r).bind (place fn.results.toList)) (some (.res none)) v a:=by
 unfold abB at h
 split at h <;> first | (cases h;done) | skip
 rename_i vs hvs
 split at h <;> first | (cases h;done) | skip
 rename_i hok
 obtain ⟨zf,h1,h2,h3,h4⟩:=VB hG hT _ _ hvs
 generalize hrs:fn.results.toList=rs at *
 split at h
 ·
  rename_i v1
  cases h
  obtain ⟨a,rfl⟩:∃ a,zf=[a]:=by
   match zf,h3.trans h2.symm with
   | [a],_=>exact ⟨a,rfl⟩
  refine ⟨rfl,a,by simp only [adW,hrs,h1],?_⟩
  match rs,h2 with
  | [x],_ =>
   have:=h4 0
   cases x with
   | tmp t =>
    simp only [List.getElem?_cons_zero,List.getD_cons_zero] at this
    obtain ⟨rfl,rfl⟩:=this
    refine (hT.slots t).QY (fun _=>rfl) _ (fun s hs=>?_)
    cases hs
    refine ⟨_,rfl,by simp only [place,if_true],fun k t' ht=>?_⟩
    cases ht
    exact ⟨_,rfl,by simp only [place,if_true]⟩
   | cell b t=>exact (show V0 μ H v a from this).at0
 ·
  rename_i hne
  split at h <;> first | (cases h;done) | skip
  rename_i hnt
  cases h
  refine ⟨rfl,.tuple zf.toArray,?_,.tuple (by simp [h2,h3]) fun i=>?_⟩
  ·
   simp only [adW,hrs,h1]
   match zf,vs,h3.trans h2.symm,hne with
   | [],_,_,_=>rfl
   | [a],[v],_,hne=>exact absurd rfl (hne v)
   | a::b::c,_,_,_=>rfl
  ·
   have e1:vs.toArray.getD i zh=vs.getD i zh:=by rw [← getD_toList,List.toList_toArray]
   have e2:zf.toArray.getD i zh=zf.getD i zh:=by rw [← getD_toList,List.toList_toArray]
   rw [e1,e2]
   have h5:=h4 i
   cases hx:rs[i]? with
   | none=>rw [hx] at h5;exact (show V0 μ H _ _ from h5).at0
   | some x =>
    rw [hx] at h5
    cases x with
    | cell b t=>exact (show V0 μ H _ _ from h5).at0
    | tmp t =>
     dsimp only at h5
     have hi:i < rs.length:=(List.getElem?_eq_some_iff.1 hx).1
     have hid:rs.findIdx? (aeL t)=some i:=by
      have:=List.all_eq_true.1 hok i (List.mem_range.2 hi)
      rw [hx] at this
      simpa using this
     have hnt2:wU (T.getD t zh)=true:=by
      rw [← h5.1,List.getD_eq_getElem?_getD,List.getElem?_eq_getElem (by omega)]
      exact List.all_eq_true.1 hnt _ (List.getElem_mem _)
     rw [h5.1,h5.2]
     refine (hT.slots t).ahZ (fun _=>rfl) (s':=.res (some i)) ?_ hnt2
     have hne1:∀ t',rs≠[.tmp t']:=by
      intro t' e
      rw [e] at h2
      match vs,h2 with
      | [v],_=>exact hne v rfl
     rw [abu hne1,hid];rfl
def acS (P:Program) (O:Ora):Prop:=∀ f q,O.fn f=some q→Ws P (fun g args=>if g=f then q args else fun _=>none)
theorem ag1 {s t:yR} {i:Nat} (h:s.comp i=some t):t≠.ext:=by
 cases s with
 | ext=>cases h
 | slot a b=>cases b <;> first | (cases h;exact fun h=>by cases h) | cases h
 | res b=>cases b <;> first | (cases h;exact fun h=>by cases h) | cases h
theorem VV.qZ {μ μ':Mu} {H:zu} {ω ω':Nat→Option yR} {es:List Nat} (hp:∀ r l own e,H.get r=some (.cells l own e)→e ∉ es→Ja μ r→Ja μ' r) (hω:∀ r s,s≠.ext→ω r=some s→ω' r=some s)
  {ℓ:Option yR} {v a:Value} (h:VV μ H ω ℓ v a):∀ d,Go.Abs.qZ es d v=true→(∀ s,ℓ=some s→s≠.ext)→VV μ' H ω' ℓ v a:=by
 induction h with
 | sg h=>exact fun _ _ _=>.sg h
 | ptr h=>intro d hc;cases d <;> simp [Go.Abs.qZ] at hc
 | map h=>intro d hc;cases d <;> simp [Go.Abs.qZ] at hc
 | slm h=>intro d hc;cases d <;> simp [Go.Abs.qZ] at hc
 | slE=>exact fun _ _ _=>.slE
 | @sl ℓ e n r o cs l own hr hpr hg hl hn hc ih =>
  intro d hcl _
  cases d with
  | zero=>cases hcl
  | succ d =>
   have hv:Go.Abs.qZ es (d+1) (.iface 1 (.iface e (.iface n (.agg cs))))=(!es.contains e && cs.toList.all (Go.Abs.qZ es d)):=rfl
   rw [hv,Bool.and_eq_true] at hcl
   have he:e ∉ es:=by simpa using hcl.1
   refine .sl hr (hp _ _ _ _ hg he hpr) hg hl hn (fun i hi=>ih i hi d ?_ (fun s hs=>by cases hs))
   rw [List.getD_eq_getElem?_getD,List.getElem?_eq_getElem (by omega)]
   exact List.all_eq_true.1 hcl.2 _ (List.getElem_mem _)
 | @so s e n r cs l anc hw hr hpr hg hl hn hc ih =>
  intro d hcl hs
  cases d with
  | zero=>cases hcl
  | succ d =>
   have hv:Go.Abs.qZ es (d+1) (.iface 2 (.iface e (.iface n (.agg cs))))=(!es.contains e && cs.toList.all (Go.Abs.qZ es d)):=rfl
   rw [hv,Bool.and_eq_true] at hcl
   have he:e ∉ es:=by simpa using hcl.1
   refine .so (hω _ _ (hs _ rfl) hw) hr (hp _ _ _ _ hg he hpr) hg hl hn (fun i hi=>ih i hi d ?_ (fun s hs=>by cases hs))
   rw [List.getD_eq_getElem?_getD,List.getElem?_eq_getElem (by omega)]
   exact List.all_eq_true.1 hcl.2 _ (List.getElem_mem _)
 | ep hr hpr hg hl hc ih =>
  intro d hcl
  cases d with
  | zero=>cases hcl
  | succ d=>simp [Go.Abs.qZ,vSl] at hcl
 | func fn hx hc h1 h2=>intro d hc;cases d <;> simp [Go.Abs.qZ] at hc
 | @agg ℓ x x' hx hh ih =>
  intro d hcl _
  cases d with
  | zero=>cases hcl
  | succ d =>
   have hcl:x.toList.all (Go.Abs.qZ es d)=true:=hcl
   refine .agg hx (fun i=>?_)
   by_cases hi:i < x.size
   ·
    refine ih i d ?_ (fun s hs=>by cases hs)
    rw [Array.getD_eq_getD_getElem?,Array.getElem?_eq_getElem hi]
    exact List.all_eq_true.1 hcl _ (by simp)
   ·
    rw [Array.getD_eq_getD_getElem?,Array.getElem?_eq_none (Nat.le_of_not_lt hi),Array.getD_eq_getD_getElem?,Array.getElem?_eq_none (by omega)]
    exact .nores
 | nores=>exact fun _ _ _=>.nores
 | @tuple ℓ x x' hx hh ih =>
  intro d hcl hs
  cases d with
  | zero=>cases hcl
  | succ d =>
   have hcl:x.toList.all (Go.Abs.qZ es d)=true:=hcl
   refine .tuple hx (fun i=>?_)
   by_cases hi:i < x.size
   ·
    refine ih i d ?_ (fun s hb=>?_)
    ·
     rw [Array.getD_eq_getD_getElem?,Array.getElem?_eq_getElem hi]
     exact List.all_eq_true.1 hcl _ (by simp)
    ·
     cases ℓ with
     | none=>cases hb
     | some s0=>exact ag1 (s:=s0) hb
   ·
    rw [Array.getD_eq_getD_getElem?,Array.getElem?_eq_none (Nat.le_of_not_lt hi),Array.getD_eq_getD_getElem?,Array.getElem?_eq_none (by omega)]
    exact .nores
open Classical in
noncomputable def ah3 (μ:Mu) (ω:Nat→Option yR):Nat→Option yR:=fun r=>if ∃ q,μ q=some (r,true) then none else ω r
open Classical in
noncomputable def KQ (μ μ1:Mu) (ω:Nat→Option yR):Nat→Option yR:=fun r=>if ∃ q,μ q=some (r,true)∧¬ μ1 q=some (r,true) then some .ext else ω r
theorem aej {call:FuncId→List Value→M Value} (hc:Ws P call) {hps:FuncId→Bool} {hp:Bool}:Ws P (yE hps hp call):=by
 cases hp with
 | false=>exact hc
 | true =>
  intro g args aargs S v S' h μ H ω hG hA hD hE
  unfold yE at h
  dsimp only at h
  split at h
  ·
   exact hc g args aargs S v S' h μ H ω hG hA hD hE
  ·
   split at h <;> first | (cases h;done) | skip
   rename_i m S1 hf
   obtain ⟨μ1,h1,h2,h3,hsz⟩:=XT _ _ _ _ _ _ hf hG hA
   split at h <;> first | (cases h;done) | skip
   rename_i r0 hr0
   obtain ⟨v0,S2⟩:=r0
   simp only [Option.some.injEq] at h
   unfold aaz at h
   dsimp only at h
   split at h
   ·
    rename_i hb
    cases h
    simp only [Bool.and_eq_true,beq_iff_eq] at hb
    obtain ⟨⟨_,hgr⟩,hlog⟩:=hb
    have hlent:∀ q r,μ q=some (r,true)→¬ μ1 q=some (r,true)→r < H.next∧Ja μ1 r:=fun q r hq hn =>
     ⟨hG.lt q r _ hq,fun q' hq'=>by
      rcases h2.new q' r hq' with h5 | h5
      ·
       have:=hG.inj q q' r hq h5
       subst this
       exact hn hq'
      ·
       have:=hG.lt q r _ hq;omega,by rw [h2.hid];exact hG.vis q r hq⟩
    have hDL:Dom μ1 H (KQ μ μ1 ω):=fun r s hs=>by
     unfold KQ at hs
     split at hs
     ·
      rename_i hx
      obtain ⟨q,hq,hn⟩:=hx
      exact hlent q r hq hn
     ·
      exact ⟨(hD r s hs).1,h2.priv (hD r s hs).1 (hD r s hs).2⟩
    have hEL:∀ r s,KQ μ μ1 ω r=some s→s=.ext:=fun r s hs=>by
     unfold KQ at hs
     split at hs
     ·
      cases hs;rfl
     ·
      exact hE r s hs
    obtain ⟨a,H',μ',ω',k1,k2,k3,k4,k5,k6⟩:=hc g m aargs S1 v S2 hr0 μ1 H (KQ μ μ1 ω) h1 h3 hDL hEL
    have hsame:∀ q r,μ q=some (r,true)→H'.get r=H.get r:=fun q r hq=>by
     by_cases hn:μ1 q=some (r,true)
     ·
      obtain ⟨new,e1,e2⟩:=k3.still
      have:new=[]:=by
       rw [k2.log,h1.log,hlog] at e1
       exact List.append_cancel_right (bs:=S1.log) (by rw [← e1];rfl)
      subst this
      exact (e2 q r hn (by simp)).2
     ·
      exact (k4 r (by unfold KQ;rw [if_pos ⟨q,hq,hn⟩])).2
    have hL:Later μ H μ H':=⟨fun _ _ b h=>⟨b,h⟩,k3.next,fun _ _ h=>.inl h,rfl,fun r hr hh=>k3.same r hr (by rw [h2.hid];exact hh),⟨[],rfl,fun q r hq _=>⟨hq,hsame q r hq⟩⟩,
     fun r l own e hr hp hg=>k3.cells r l own e hr (h2.priv hr hp) hg⟩
    rcases Bool.or_eq_true _ _ |>.mp hgr with hgr | hgr
    ·
     refine ⟨a,H',μ,ω,k1,hG.later hL rfl hsame,hL,fun r hr=>⟨hr,(k4 r ?_).2⟩,fun r s hs=>⟨Nat.lt_of_lt_of_le (hD r s hs).1 k3.next,(hD r s hs).2⟩,?_⟩
     ·
      unfold KQ
      split
      ·
       rfl
      ·
       exact hr
     ·
      rw [VV.kJ hgr k6]
      exact VV.yB hgr
    ·
     have hpr:∀ r l own e,H'.get r=some (.cells l own e)→e ∉ ag6 S args→Ja μ' r→Ja μ r:=fun r l own e hg he hp=>by
      refine ⟨fun q hq=>?_,by rw [← h2.hid,← k3.hid];exact hp.2⟩
      rcases hsz q r hq with hn | ⟨l1,own1,e1,he1,hg1⟩
      ·
       obtain ⟨new,e1,e2⟩:=k3.still
       have:new=[]:=by
        rw [k2.log,h1.log,hlog] at e1
        exact List.append_cancel_right (bs:=S1.log) (by rw [← e1];rfl)
       subst this
       exact hp.1 q (e2 q r hn (by simp)).1
      ·
       rw [hsame q r hq,hg1] at hg
       cases hg
       exact he he1
     have hno:∀ r s,ω r=some s→¬ ∃ q,μ q=some (r,true):=fun r s hs ⟨q,hq⟩=>(hD r s hs).2.1 q hq
     have hst:∀ r,(∃ q,μ q=some (r,true))→∀ s,ω' r=some s→s=.ext:=fun r ⟨q,hq⟩ s hs=>by
      by_cases hn:μ1 q=some (r,true)
      ·
       exfalso
       obtain ⟨new,e1,e2⟩:=k3.still
       have:new=[]:=by
        rw [k2.log,h1.log,hlog] at e1
        exact List.append_cancel_right (bs:=S1.log) (by rw [← e1];rfl)
       subst this
       exact (k5 r s hs).2.1 q (e2 q r hn (by simp)).1
      ·
       have:=(k4 r (by unfold KQ;rw [if_pos ⟨q,hq,hn⟩])).1
       rw [hs] at this
       cases this
       rfl
     refine ⟨a,H',μ,ah3 μ ω',k1,hG.later hL rfl hsame,hL,fun r hr=>?_,fun r s hs=>?_,?_⟩
     ·
      have hnr:=hno r _ hr
      unfold ah3
      rw [if_neg hnr]
      refine k4 r ?_
      unfold KQ
      rw [if_neg (fun ⟨q,hq,_⟩=>hnr ⟨q,hq⟩)]
      exact hr
     ·
      unfold ah3 at hs
      split at hs
      ·
       cases hs
      ·
       rename_i hnr
       exact ⟨(k5 r s hs).1,fun q hq=>hnr ⟨q,hq⟩,by rw [← h2.hid,← k3.hid];exact (k5 r s hs).2.2⟩
     ·
      refine k6.qZ hpr (fun r s hne hs=>?_) 16 hgr (fun s hs=>by cases hs;exact fun h=>by cases h)
      unfold ah3
      rw [if_neg (fun hx=>hne (hst r hx s hs))]
      exact hs
   ·
    cases h
    obtain ⟨a,H',μ',ω',k1,k2,k3,k4,k5,k6⟩:=hc g m aargs S1 v S' hr0 μ1 H ω h1 h3 (fun r s hs=>⟨(hD r s hs).1,h2.priv (hD r s hs).1 (hD r s hs).2⟩) hE
    exact ⟨a,H',μ',ω',k1,k2,h2.trans k3,k4,k5,k6⟩
theorem VV.clean {μ μ':Mu} {H:zu} {ω:Nat→Option yR} (hp:∀ r,Ja μ r→Ja μ' r) {ℓ:Option yR} {v a:Value} (h:VV μ H ω ℓ v a):∀ d,jg d v=true→VV μ' H ω ℓ v a:=by
 induction h with
 | sg h=>exact fun _ _=>.sg h
 | ptr h=>intro d hc;cases d <;> simp [jg] at hc
 | map h=>intro d hc;cases d <;> simp [jg] at hc
 | slm h=>intro d hc;cases d <;> simp [jg] at hc
 | slE=>exact fun _ _=>.slE
 | sl hr hpr hg hl hn hc ih =>
  intro d hcl
  obtain ⟨d,rfl⟩:∃ k,d=k+4:=by
   match d,hcl with
   | 0,h=>cases h
   | 1,h=>simp [jg] at h
   | 2,h=>simp [jg] at h
   | 3,h=>simp [jg] at h
   | k+4,_=>exact ⟨k,rfl⟩
  simp only [jg] at hcl
  refine .sl hr (hp _ hpr) hg hl hn (fun i hi=>ih i hi d ?_)
  rw [List.getD_eq_getElem?_getD,List.getElem?_eq_getElem (by omega)]
  exact List.all_eq_true.1 hcl _ (List.getElem_mem _)
 | so hω hr hpr hg hl hn hc ih =>
  intro d hcl
  obtain ⟨d,rfl⟩:∃ k,d=k+4:=by
   match d,hcl with
   | 0,h=>cases h
   | 1,h=>simp [jg] at h
   | 2,h=>simp [jg] at h
   | 3,h=>simp [jg] at h
   | k+4,_=>exact ⟨k,rfl⟩
  simp only [jg] at hcl
  refine .so hω hr (hp _ hpr) hg hl hn (fun i hi=>ih i hi d ?_)
  rw [List.getD_eq_getElem?_getD,List.getElem?_eq_getElem (by omega)]
  exact List.all_eq_true.1 hcl _ (List.getElem_mem _)
 | ep hr hpr hg hl hc ih =>
  intro d hcl
  obtain ⟨d,rfl⟩:∃ k,d=k+2:=by
   match d,hcl with
   | 0,h=>cases h
   | 1,h=>simp [jg] at h
   | k+2,_=>exact ⟨k,rfl⟩
  simp only [jg] at hcl
  refine .ep hr (hp _ hpr) hg hl (fun i hi=>ih i hi d ?_)
  rw [List.getD_eq_getElem?_getD,List.getElem?_eq_getElem hi]
  exact List.all_eq_true.1 hcl _ (List.getElem_mem _)
 | func fn hx hc h1 h2=>intro d hc;cases d <;> simp [jg] at hc
 | @agg ℓ x x' hx hh ih =>
  intro d hcl
  obtain ⟨d,rfl⟩:∃ k,d=k+1:=by
   match d,hcl with
   | 0,h=>cases h
   | k+1,_=>exact ⟨k,rfl⟩
  simp only [jg] at hcl
  refine .agg hx (fun i=>?_)
  by_cases hi:i < x.size
  ·
   refine ih i d ?_
   rw [Array.getD_eq_getD_getElem?,Array.getElem?_eq_getElem hi]
   exact List.all_eq_true.1 hcl _ (by simp)
  ·
   rw [Array.getD_eq_getD_getElem?,Array.getElem?_eq_none (Nat.le_of_not_lt hi),Array.getD_eq_getD_getElem?,Array.getElem?_eq_none (by omega)]
   exact .nores
 | nores=>exact fun _ _=>.nores
 | @tuple ℓ x x' hx hh ih =>
  intro d hcl
  obtain ⟨d,rfl⟩:∃ k,d=k+1:=by
   match d,hcl with
   | 0,h=>cases h
   | k+1,_=>exact ⟨k,rfl⟩
  simp only [jg] at hcl
  refine .tuple hx (fun i=>?_)
  by_cases hi:i < x.size
  ·
   refine ih i d ?_
   rw [Array.getD_eq_getD_getElem?,Array.getElem?_eq_getElem hi]
   exact List.all_eq_true.1 hcl _ (by simp)
  ·
   rw [Array.getD_eq_getD_getElem?,Array.getElem?_eq_none (Nat.le_of_not_lt hi),Array.getD_eq_getD_getElem?,Array.getElem?_eq_none (by omega)]
   exact .nores
theorem VV.lower {μ μ' : Mu} {S H : zu} {ω : Nat → Option yR} (hG : GI μ S H) (hp : ∀ r, Ja μ r → Ja μ' r) (hq : ∀ q r, μ q = some (r, true) → Ja μ' r) {ℓ : Option yR} {v a : Value} (h : VV μ H ω ℓ v a) :
    ∀ d d', jg d (wK S d' v) = true → VV μ' H ω ℓ (wK S d' v) a := by
  induction h with
  | sg h =>
    intro d d' hc
    rename_i v
    have e : wK S d' v = v := by
      cases d' with
      | zero => rfl
      | succ d' => cases v <;> first | rfl | (simp [Go.Abs.sg] at h; done) | skip
                   rename_i a n c
                   cases a <;> first | rfl | (simp [Go.Abs.sg] at h; done)
    rw [e]; exact .sg h
  | ptr h => intro d d' hc; cases d' <;> cases d <;> simp [wK, jg] at hc
  | map h => intro d d' hc; cases d' <;> cases d <;> simp [wK, jg] at hc
  | @slm ℓ r o r' b n hm =>
    intro d d' hc
    cases d' with
    | zero => cases d <;> simp [wK, jg] at hc
    | succ d' =>
      by_cases ho : o = 0
      · subst ho
        cases hg : S.get r with
        | none => rw [show wK S (d' + 1) (.slice (some ⟨r, 0, none⟩) n n) = .slice (some ⟨r, 0, none⟩) n n by simp only [wK, hg]] at hc; cases d <;> simp [jg] at hc
        | some ob =>
          cases ob with
          | map es c => rw [show wK S (d' + 1) (.slice (some ⟨r, 0, none⟩) n n) = .slice (some ⟨r, 0, none⟩) n n by simp only [wK, hg]] at hc; cases d <;> simp [jg] at hc
          | dead => rw [show wK S (d' + 1) (.slice (some ⟨r, 0, none⟩) n n) = .slice (some ⟨r, 0, none⟩) n n by simp only [wK, hg]] at hc; cases d <;> simp [jg] at hc
          | cells cs own e =>
            by_cases hle : n * e ≤ cs.length
            · have e1 : wK S (d' + 1) (.slice (some ⟨r, 0, none⟩) n n) = SL 1 e n (cs.take (n * e)) := by simp only [wK, hg, hle, and_self, if_true]
              rw [e1] at hc ⊢
              obtain ⟨r2, cs', own', _, hm', hg', hl⟩ := hG.cells hg
              rw [hm] at hm'; cases hm'
              have hlen := hl.1
              refine .sl (o := 0) (hG.lt r r' _ hm) (hq r r' hm) hg' (by omega) (by simp; omega) fun i hi => ?_
              have hv : VV μ H W0 none (cs.getD i Go.undef) (cs'.getD i Go.undef) := hl.2 i
              have e2 : (cs.take (n * e)).toArray.toList.getD i Go.undef = cs.getD i Go.undef := by
                rw [List.toList_toArray, List.getD_eq_getElem?_getD, List.getElem?_take, if_pos hi, ← List.getD_eq_getElem?_getD]
              rw [e2, Nat.zero_add]
              obtain ⟨d, rfl⟩ : ∃ k, d = k + 4 := by
                match d, hc with
                | 0, h => cases h
                | 1, h => simp [SL, jg] at h
                | 2, h => simp [SL, jg] at h
                | 3, h => simp [SL, jg] at h
                | k + 4, _ => exact ⟨k, rfl⟩
              simp only [SL, jg, List.toList_toArray] at hc
              have hci : jg d (cs.getD i Go.undef) = true := by
                have h2 : i < cs.length := by omega
                rw [List.getD_eq_getElem?_getD, List.getElem?_eq_getElem h2, Option.getD_some]
                exact List.all_eq_true.1 hc _ (by rw [List.mem_take_iff_getElem]; exact ⟨i, by omega, rfl⟩)
              exact (hv.clean hp d hci).at0
            · rw [show wK S (d' + 1) (.slice (some ⟨r, 0, none⟩) n n) = .slice (some ⟨r, 0, none⟩) n n by simp only [wK, hg, hle, and_false, if_false]] at hc; cases d <;> simp [jg] at hc
      · rw [show wK S (d' + 1) (.slice (some ⟨r, o, none⟩) n n) = .slice (some ⟨r, o, none⟩) n n by
          simp only [wK]
          split
          · rename_i h; simp only [Value.slice.injEq, Option.some.injEq, Addr.mk.injEq] at h; exact absurd h.1.2.1 ho
          · rename_i h; cases h
          · rename_i h; cases h
          · rfl] at hc
        cases d <;> simp [jg] at hc
  | slE => intro d d' _; cases d' <;> exact .slE
  | sl hr hpr hg hl hn hc ih => intro d d' hcl; cases d' <;> exact (VV.sl hr hpr hg hl hn hc).clean hp d hcl
  | so hω hr hpr hg hl hn hc ih => intro d d' hcl; cases d' <;> exact (VV.so hω hr hpr hg hl hn hc).clean hp d hcl
  | ep hr hpr hg hl hc ih => intro d d' hcl; cases d' <;> exact (VV.ep hr hpr hg hl hc).clean hp d hcl
  | func fn hx hc h1 h2 => intro d d' hcl; cases d' <;> cases d <;> simp [wK, jg] at hcl
  | @agg ℓ x x' hx hh ih =>
    intro d d' hcl
    cases d' with
    | zero => exact (VV.agg hx hh).clean hp d hcl
    | succ d' =>
      have e : wK S (d' + 1) (.agg x) = .agg (x.map (wK S d')) := rfl
      rw [e] at hcl ⊢
      cases d with
      | zero => cases hcl
      | succ d =>
        simp only [jg] at hcl
        refine .agg (by simpa using hx) fun i => ?_
        by_cases hi : i < x.size
        · have e2 : (x.map (wK S d')).getD i Go.undef = wK S d' (x.getD i Go.undef) := by simp [Array.getD_eq_getD_getElem?, Array.getElem?_eq_getElem hi]
          rw [e2]
          refine ih i d d' ?_
          refine List.all_eq_true.1 hcl _ ?_
          simp only [Array.toList_map, List.mem_map]
          exact ⟨x[i], by simp, by rw [Array.getD_eq_getD_getElem?, Array.getElem?_eq_getElem hi]; rfl⟩
        · rw [Array.getD_eq_getD_getElem?, Array.getElem?_eq_none (by simpa using Nat.le_of_not_lt hi), Array.getD_eq_getD_getElem?, Array.getElem?_eq_none (by omega)]
          exact .nores
  | nores =>
    intro d d' hcl
    cases d' with
    | zero => exact .nores
    | succ d' => rw [show wK S (d' + 1) (.tuple #[]) = .tuple #[] by simp [wK]]; exact .nores
  | @tuple ℓ x x' hx hh ih =>
    intro d d' hcl
    cases d' with
    | zero => exact (VV.tuple hx hh).clean hp d hcl
    | succ d' =>
      have e : wK S (d' + 1) (.tuple x) = .tuple (x.map (wK S d')) := rfl
      rw [e] at hcl ⊢
      cases d with
      | zero => cases hcl
      | succ d =>
        simp only [jg] at hcl
        refine .tuple (by simpa using hx) fun i => ?_
        by_cases hi : i < x.size
        · have e2 : (x.map (wK S d')).getD i Go.undef = wK S d' (x.getD i Go.undef) := by simp [Array.getD_eq_getD_getElem?, Array.getElem?_eq_getElem hi]
          rw [e2]
          refine ih i d d' ?_
          refine List.all_eq_true.1 hcl _ ?_
          simp only [Array.toList_map, List.mem_map]
          exact ⟨x[i], by simp, by rw [Array.getD_eq_getD_getElem?, Array.getElem?_eq_getElem hi]; rfl⟩
        · rw [Array.getD_eq_getD_getElem?, Array.getElem?_eq_none (by simpa using Nat.le_of_not_lt hi), Array.getD_eq_getD_getElem?, Array.getElem?_eq_none (by omega)]
          exact .nores
open Classical in
noncomputable def Zp (μ:Mu):Mu:=⟨fun _=>none,fun r=>μ.hid r || decide (∃ q,μ q=some (r,true)),[]⟩
theorem Yo {μ:Mu} {r:Nat} (h:Ja μ r):Ja (Zp μ) r:=⟨fun q hq=>(by cases hq),by
 simp only [Zp,h.2,Bool.false_or,decide_eq_false_iff_not]
 rintro ⟨q,hq⟩
 exact h.1 q hq⟩
theorem abQ {μ:Mu} {r:Nat} (h:(Zp μ).hid r=false):Ja μ r:=by
 simp only [Zp,Bool.or_eq_false_iff,decide_eq_false_iff_not] at h
 exact ⟨fun q hq=>h.2 ⟨q,hq⟩,h.1⟩
def ah5 (P:Program) (g:FuncId) (args:List Value) (run:M Value):Prop:=∀ aargs S v S',run S=some (v,S')→∀ μ H ω,GI μ S H→L0 μ H args aargs→Dom μ H ω→(∀ r s,ω r=some s→s=.ext) →
 ∃ a H' μ' ω',lim P g aargs H=some (a,H')∧GI μ' S' H'∧Later μ H μ' H'∧Kept ω H ω' H'∧Dom μ' H' ω'∧VV μ' H' ω' (some (.res none)) v a
theorem ad2 {g:FuncId} {args:List Value} {run:M Value} (hr:ah5 P g args run):ah5 P g args (adC run args):=by
 intro aargs S v S' h μ H ω hG hA hD hE
 unfold adC at h
 split at h <;> first | (cases h;done) | skip
 rename_i hca
 split at h <;> first | (cases h;done) | skip
 rename_i w S1 hrun
 split at h <;> first | (cases h;done) | skip
 rename_i hcw
 cases h
 have hG0:GI (Zp μ) zu.empty H:=⟨fun q o h=>(by cases h),fun q q' r h=>(by cases h),fun q r b h=>(by cases h),fun q _=>rfl,fun q r h=>(by cases h),fun r h=>by
  simp only [Zp,Bool.or_eq_true,decide_eq_true_eq] at h
  rcases h with h | ⟨q,hq⟩
  ·
   exact hG.hlt r h
  ·
   exact hG.lt q r _ hq,rfl,fun q cs anc e h=>(by cases h)⟩
 have hA0:L0 (Zp μ) H args aargs:=⟨hA.1,fun i=>by
  by_cases hi:i < args.length
  ·
   refine (hA.2 i).clean (fun r h=>Yo h) 16 ?_
   rw [List.getD_eq_getElem?_getD,List.getElem?_eq_getElem hi]
   exact List.all_eq_true.1 hca _ (List.getElem_mem _)
  ·
   rw [List.getD_eq_getElem?_getD,List.getElem?_eq_none (Nat.le_of_not_lt hi),List.getD_eq_getElem?_getD,List.getElem?_eq_none (by rw [← hA.1];omega)]
   exact .nores⟩
 obtain ⟨a,H1,μ1,ω1,k1,k2,k3,k4,k5,k6⟩:=hr aargs _ _ _ hrun (Zp μ) H ω hG0 hA0 (fun r s h=>⟨(hD r s h).1,Yo (hD r s h).2⟩) hE
 have hp1:∀ r,Ja μ1 r→Ja μ r:=fun r h=>abQ (by rw [← k3.hid];exact h.2)
 have hL:Later μ H μ H1:=⟨fun _ _ b h=>⟨b,h⟩,k3.next,fun _ _ h=>.inl h,rfl,fun r hr hh=>k3.same r hr (by simp only [Zp,hh,Bool.true_or]),⟨[],rfl,fun q r hq _=>⟨hq,k3.same r (hG.lt q r _ hq) (by
  simp only [Zp,Bool.or_eq_true,decide_eq_true_eq]
  exact .inr ⟨q,hq⟩)⟩⟩,fun r l own e hr hp hg=>k3.cells r l own e hr (Yo hp) hg⟩
 have hq1:∀ q r,μ1 q=some (r,true)→Ja μ r:=fun q r h=>by
  rcases k3.new q r h with h5 | h5
  ·
   cases h5
  ·
   exact ⟨fun q' hq'=>by have:=hG.lt q' r _ hq';omega,by
    cases hh:μ.hid r with
    | false=>rfl
    | true=>have:=hG.hlt r hh;omega⟩
 refine ⟨a,H1,μ,ω1,k1,?_,hL,k4,fun r s h=>⟨(k5 r s h).1,hp1 r (k5 r s h).2⟩,k6.lower k2 hp1 hq1 16 16 hcw⟩
 exact hG.later hL rfl fun q r hq=>k3.same r (hG.lt q r _ hq) (by
  simp only [Zp,Bool.or_eq_true,decide_eq_true_eq]
  exact .inr ⟨q,hq⟩)
theorem ae3 {O:Ora} (hO:acS P O):∀ n,Ws P (vH P O n):=by
 intro n
 induction n with
 | zero=>intro g args aargs S v S' h;cases h
 | succ n ih =>
  intro g args aargs S v S' h μ H ω hG hA hD hE
  simp only [vH] at h
  cases ho:O.fn g with
  | some q =>
   rw [ho] at h
   exact hO g q ho g args aargs S v S' (by simpa using h) μ H ω hG hA hD hE
  | none =>
   rw [ho] at h
   dsimp only at h
   cases hf:P.funcs[g]? with
   | none=>rw [hf] at h;cases h
   | some fn =>
    rw [hf] at h
    dsimp only at h
    split at h <;> first | (cases h;done) | skip
    rename_i hn
    cases hb:fn.body with
    | none=>rw [hb] at h;cases h
    | some c =>
     rw [hb] at h
     dsimp only at h
     have hrun:ah5 P g args (adR P (O.hp g) (yE O.hp (O.hp g) (vH P O n)) n fn c args):=by
      intro aargs S v S' h μ H ω hG hA hD hE
      have hT0:TI μ H ω (args++List.replicate (fn.ntmps - args.length) zh) (aargs++List.replicate (fn.ntmps - aargs.length) zh):=by
       have hl:L0 μ H (args++List.replicate (fn.ntmps - args.length) zh) (aargs++List.replicate (fn.ntmps - aargs.length) zh):=by
        refine hA.append (VL.ofRange (by rw [hA.1]) fun i hi=>?_)
        have hi2:i < fn.ntmps - args.length:=by simpa using hi
        rw [List.getD_eq_getElem?_getD,List.getElem?_replicate,if_pos hi2,List.getD_eq_getElem?_getD,List.getElem?_replicate,if_pos (by rw [← hA.1];exact hi2)]
        exact .nores
       exact ⟨hl.1,fun i=>(hl.2 i).at0,hD,fun r j hr=>by have:=hE r _ hr;cases this⟩
      have fin:∀ (e:AEx) (T1:List Value) (S1:zu),(e=.normal∨e=.ret)→yM P (O.hp g) (yE O.hp (O.hp g) (vH P O n)) n c (args++List.replicate (fn.ntmps - args.length) zh) S=some (e,T1,S1)→abB P fn T1 S1=some (v,S') →
        ∃ a H' μ' ω',lim P g aargs H=some (a,H')∧GI μ' S' H'∧Later μ H μ' H'∧Kept ω H ω' H'∧Dom μ' H' ω'∧VV μ' H' ω' (some (.res none)) v a:=by
       intro e T1 S1 he hcode hres
       obtain ⟨A1,H1,μ1,ω1,h1,h2,h3,h4,h5⟩:=ae1 (aej ih) n c _ _ _ _ _ _ _ _ _ hcode hG hT0
       obtain ⟨rfl,a,k1,k2⟩:=afW (P:=P) h2 h5 hres
       refine ⟨a,H1,μ1,fun r=>(ω1 r).bind (place fn.results.toList),aen hf hn hb h1 he k1,h2,h3,fun r hr=>?_,fun r s hs=>?_,k2⟩
       ·
        obtain ⟨q1,q2⟩:=h4 r hr
        exact ⟨by simp [q1,place],q2⟩
       ·
        cases hr:ω1 r with
        | none=>simp [hr] at hs
        | some s0=>exact h5.dom r s0 hr
      unfold adR at h
      split at h
      ·
       rename_i T1 S1 hx;exact fin .normal _ _ (.inl rfl) hx h
      ·
       rename_i T1 S1 hx;exact fin .ret _ _ (.inr rfl) hx h
      ·
       cases h
     split at h
     ·
      exact ad2 hrun aargs S v S' h μ H ω hG hA hD hE
     ·
      exact hrun aargs S v S' h μ H ω hG hA hD hE
end
end Go.Abs
namespace Go.Abs
open Go.RowKit
open Classical
noncomputable def jc (P:Program) (O:Ora) (g:FuncId) (args:List Value):M Value:=fun S =>
 if h:∃ r,∃ k0,∀ k,k0≤k→vH P O k g args S=some r then some (Classical.choose h) else none
section
variable {P:Program} {O:Ora}
theorem XM {g:FuncId} {args:List Value} {S:zu} {r:Value×zu} (h:jc P O g args S=some r):∃ k0,∀ k,k0≤k→vH P O k g args S=some r:=by
 unfold jc at h
 split at h
 ·
  rename_i hx
  have:=Classical.choose_spec hx
  cases h
  exact this
 ·
  cases h
theorem X4 {g:FuncId} {args:List Value} {S:zu} {r:Value×zu} (h:∃ k0,∀ k,k0≤k→vH P O k g args S=some r):jc P O g args S=some r:=by
 have hx:∃ r,∃ k0,∀ k,k0≤k→vH P O k g args S=some r:=⟨r,h⟩
 unfold jc
 rw [dif_pos hx]
 obtain ⟨k0,h0⟩:=h
 obtain ⟨k1,h1⟩:=Classical.choose_spec hx
 have e0:=h0 (max k0 k1) (Nat.le_max_left _ _)
 have e1:=h1 (max k0 k1) (Nat.le_max_right _ _)
 rw [e0] at e1
 exact e1.symm
theorem agU (hO:acS P O):Ws P (jc P O):=by
 intro g args aargs S v S' h
 obtain ⟨k,hk⟩:=XM h
 exact ae3 hO k g args aargs S v S' (hk k (Nat.le_refl k))
def ag5 (c:FuncId→List Value→M Value) (ck:Nat→FuncId→List Value→M Value):Prop:=∀ g args S r,c g args S=some r→∃ k0,∀ k,k0≤k→ck k g args S=some r
theorem Xr:ag5 (jc P O) (fun k=>vH P O k):=fun g args S r h=>XM h
theorem YZ {c:FuncId→List Value→M Value} {ck:Nat→FuncId→List Value→M Value} (hl:ag5 c ck) {hps:FuncId→Bool} {hp:Bool}:ag5 (yE hps hp c) (fun k=>yE hps hp (ck k)):=by
 cases hp with
 | false=>exact hl
 | true =>
  intro g args S r h
  unfold yE at h
  dsimp only at h
  split at h
  ·
   rename_i hg
   obtain ⟨k0,h0⟩:=hl _ _ _ _ h
   exact ⟨k0,fun k hk=>by unfold yE;dsimp only;rw [if_pos hg];exact h0 k hk⟩
  ·
   rename_i hg
   split at h <;> first | (cases h;done) | skip
   rename_i m S1 hf
   split at h <;> first | (cases h;done) | skip
   rename_i r0 hr0
   obtain ⟨k0,h0⟩:=hl _ _ _ _ hr0
   exact ⟨k0,fun k hk=>by unfold yE;dsimp only;rw [if_neg hg,hf];dsimp only;rw [h0 k hk];exact h⟩
section
variable {c:FuncId→List Value→M Value} {ck:Nat→FuncId→List Value→M Value}
theorem Xi (hl:ag5 c ck) {fx:Fx} {T:List Value} {o:Oper} {S:zu} {r:Value×zu} (h:yu P fx c T o S=some r):∃ k0,∀ k,k0≤k→yu P fx (ck k) T o S=some r:=by
 unfold yu at h
 split at h
 ·
  rename_i hok
  split at h
  ·
   rename_i q0 hop
   split at h
   ·
    rename_i f hf
    split at h
    ·
     rename_i g first captured hev
     obtain ⟨k0,hk⟩:=hl _ _ _ _ h
     refine ⟨k0,fun k hkk=>?_⟩
     unfold yu
     rw [if_pos hok]
     simp only [hop,hf,hev]
     exact hk k hkk
    ·
     cases h
   ·
    rename_i b hb
    refine ⟨0,fun k _=>?_⟩
    unfold yu
    rw [if_pos hok]
    simp only [hop,hb]
    exact h
   ·
    cases h
  ·
   rename_i hop
   refine ⟨0,fun k _=>?_⟩
   unfold yu
   rw [if_pos hok]
   split
   ·
    rename_i q0 hc;exact absurd hc (hop q0)
   ·
    exact h
 ·
  cases h
theorem aes (hl:ag5 c ck) {fx:Fx} {ops:Array Oper}:∀ (l:List Oper) (T:List Value) (S:zu) (r:List Value×zu),jI P fx c ops l T S=some r→∃ k0,∀ k,k0≤k→jI P fx (ck k) ops l T S=some r:=by
 intro l
 induction l with
 | nil=>intro T S r h;exact ⟨0,fun k _=>h⟩
 | cons o l ih =>
  intro T S r h
  simp only [jI] at h
  split at h
  ·
   rename_i hw
   split at h
   ·
    rename_i v S' hs
    obtain ⟨k1,h1⟩:=Xi hl hs
    obtain ⟨k2,h2⟩:=ih _ _ _ h
    refine ⟨max k1 k2,fun k hk=>?_⟩
    simp only [jI,hw,if_true,h1 k (by omega)]
    exact h2 k (by omega)
   ·
    cases h
  ·
   rename_i hw
   obtain ⟨k2,h2⟩:=ih _ _ _ h
   refine ⟨k2,fun k hk=>?_⟩
   simp only [jI,hw,if_false]
   exact h2 k hk
theorem acL (hl:ag5 c ck) {fx:Fx} {chk:List Nat} {nl:List (Nat×Nat)} {ops:Array Oper}:∀ (l:List Oper) (i:Nat) (hist:List (Value×zu)) (T:List Value) (S:zu) (r:List Value×zu),wu P fx chk nl c ops i hist l T S=some r→∃ k0,∀ k,k0≤k→wu P fx chk nl (ck k) ops i hist l T S=some r:=by
 intro l
 induction l with
 | nil=>intro i hist T S r h;exact ⟨0,fun k _=>h⟩
 | cons o l ih =>
  intro i hist T S r h
  simp only [wu] at h
  split at h
  ·
   rename_i hw
   split at h
   ·
    rename_i v S' hs
    split at h
    ·
     rename_i hq
     obtain ⟨k1,h1⟩:=Xi hl hs
     obtain ⟨k2,h2⟩:=ih _ _ _ _ _ h
     refine ⟨max k1 k2,fun k hk=>?_⟩
     simp only [wu,hw,if_true,h1 k (by omega),hq]
     exact h2 k (by omega)
    ·
     cases h
   ·
    cases h
  ·
   rename_i hw
   obtain ⟨k2,h2⟩:=ih _ _ _ _ _ h
   refine ⟨k2,fun k hk=>?_⟩
   simp only [wu,hw,if_false]
   exact h2 k hk
end
noncomputable def zD (P:Program) (O:Ora) (hp:Bool):Code→List Value→zu→St
 | .skip,T,H=>some (.normal,T,H)
 | .region _ ops false,T,H=>match jI P ⟨hp,false,false⟩ (yE O.hp hp (jc P O)) ops ops.toList T H with
  | some (T1,H1)=>some (.normal,T1,H1)
  | none=>none
 | .region _ ops true,T,H=>if kY P ops then match wu P ⟨hp,!(checked P ops).isEmpty,fixed P ops⟩ (checked P ops) (again P ops) (yE O.hp hp (jc P O)) ops 0 [] ops.toList T H with
  | some (T1,H1)=>some (.normal,T1,H1)
  | none=>none
  else none
 | .seq x y,T,H=>match zD P O hp x T H with
  | some (.normal,T1,H1)=>zD P O hp y T1 H1
  | r=>r
 | .cond c x y,T,H=>if qN c then
   match jd T c with
   | .bool true=>zD P O hp x T H
   | .bool false=>zD P O hp y T H
   | _=>none
  else none
 | .block id c,T,H=>match zD P O hp c T H with
  | some (.exit id',T1,H1)=>if id'=id then some (.normal,T1,H1) else some (.exit id',T1,H1)
  | r=>r
 | .loop c,T,H=>qB (zD P O hp c) T H
 | .exit id,T,H=>some (.exit id,T,H)
 | .ret,T,H=>some (.ret,T,H)
 | _,_,_=>none
theorem Qh {hp:Bool}:∀ (c:Code) (T:List Value) (H:zu) (r),zD P O hp c T H=some r→∃ k0,∀ k fuel,k0≤k→k0≤fuel→yM P hp (yE O.hp hp (vH P O k)) fuel c T H=some r:=by
 intro c
 induction c with
 | skip=>intro T H r h;exact ⟨0,fun k fuel _ _=>h⟩
 | region i ops d =>
  intro T H r h
  cases d with
  | false =>
   simp only [zD] at h
   split at h
   ·
    rename_i T1 H1 ho
    obtain ⟨k0,h0⟩:=aes (YZ Xr) _ _ _ _ ho
    exact ⟨k0,fun k fuel hk _=>by simp only [yM,h0 k hk];exact h⟩
   ·
    cases h
  | true =>
   simp only [zD] at h
   split at h
   ·
    rename_i hd
    split at h
    ·
     rename_i T1 H1 ho
     obtain ⟨k0,h0⟩:=acL (YZ Xr) _ _ _ _ _ _ ho
     exact ⟨k0,fun k fuel hk _=>by simp only [yM,hd,if_true,h0 k hk];exact h⟩
    ·
     cases h
   ·
    cases h
 | seq x y ihx ihy =>
  intro T H r h
  simp only [zD] at h
  split at h
  ·
   rename_i T1 H1 hx
   obtain ⟨k1,h1⟩:=ihx _ _ _ hx
   obtain ⟨k2,h2⟩:=ihy _ _ _ h
   exact ⟨max k1 k2,fun k fuel hk hf=>by simp only [yM,h1 k fuel (by omega) (by omega)];exact h2 k fuel (by omega) (by omega)⟩
  ·
   rename_i hne
   obtain ⟨k1,h1⟩:=ihx _ _ _ h
   refine ⟨k1,fun k fuel hk hf=>?_⟩
   simp only [yM,h1 k fuel hk hf]
   split
   ·
    rename_i T1 H1 he;exact absurd (h.trans he) (hne T1 H1)
   ·
    rfl
 | cond c x y ihx ihy =>
  intro T H r h
  simp only [zD] at h
  split at h
  ·
   rename_i hok
   split at h
   ·
    rename_i hb
    obtain ⟨k1,h1⟩:=ihx _ _ _ h
    exact ⟨k1,fun k fuel hk hf=>by simp only [yM,hok,if_true,hb];exact h1 k fuel hk hf⟩
   ·
    rename_i hb
    obtain ⟨k1,h1⟩:=ihy _ _ _ h
    exact ⟨k1,fun k fuel hk hf=>by simp only [yM,hok,if_true,hb];exact h1 k fuel hk hf⟩
   ·
    cases h
  ·
   cases h
 | block id c ih =>
  intro T H r h
  simp only [zD] at h
  split at h
  ·
   rename_i id' T1 H1 hc
   obtain ⟨k1,h1⟩:=ih _ _ _ hc
   exact ⟨k1,fun k fuel hk hf=>by simp only [yM,h1 k fuel hk hf];exact h⟩
  ·
   rename_i hne
   obtain ⟨k1,h1⟩:=ih _ _ _ h
   refine ⟨k1,fun k fuel hk hf=>?_⟩
   simp only [yM,h1 k fuel hk hf]
   split
   ·
    rename_i id' T1 H1 he;exact absurd (h.trans he) (hne id' T1 H1)
   ·
    rfl
 | loop c ih =>
  intro T H r h
  simp only [zD] at h
  obtain ⟨n,hn⟩:=ZB h
  have key:∀ (n:Nat) (T:List Value) (H:zu),qw n (zD P O hp c) T H=some r→∃ k0,∀ k fuel,k0≤k→k0≤fuel→∀ j,n≤j→qw j (yM P hp (yE O.hp hp (vH P O k)) fuel c) T H=some r:=by
   intro n
   induction n with
   | zero=>intro T H h;cases h
   | succ n ihn =>
    intro T H h
    simp only [qw] at h
    split at h
    ·
     rename_i T1 H1 hf
     obtain ⟨k1,h1⟩:=ih _ _ _ hf
     obtain ⟨k2,h2⟩:=ihn _ _ h
     refine ⟨max k1 k2,fun k fuel hk hfu j hj=>?_⟩
     obtain ⟨j,rfl⟩:∃ i,j=i+1:=⟨j - 1,by omega⟩
     simp only [qw,h1 k fuel (by omega) (by omega)]
     exact h2 k fuel (by omega) (by omega) j (by omega)
    ·
     rename_i hne
     obtain ⟨k1,h1⟩:=ih _ _ _ h
     refine ⟨k1,fun k fuel hk hfu j hj=>?_⟩
     obtain ⟨j,rfl⟩:∃ i,j=i+1:=⟨j - 1,by omega⟩
     simp only [qw,h1 k fuel hk hfu]
     split
     ·
      rename_i T1 H1 he;exact absurd (h.trans he) (hne T1 H1)
     ·
      rfl
  obtain ⟨k0,h0⟩:=key n T H hn
  exact ⟨max k0 n,fun k fuel hk hf=>by simp only [yM];exact h0 k fuel (by omega) (by omega) fuel (by omega)⟩
 | exit id=>intro T H r h;exact ⟨0,fun k fuel _ _=>h⟩
 | ret=>intro T H r h;exact ⟨0,fun k fuel _ _=>h⟩
 | _=>intro T H r h;simp only [zD] at h;cases h
theorem yU {f:FuncId} {fn:Func} {c:Code} {args:List Value} {H H1 H':zu} {e:AEx} {T:List Value} {v:Value} (ho:O.fn f=none) (hpu:O.pu f=false) (hf:P.funcs[f]?=some fn) (hn:fn.name≠ "runtime.NumGoroutine") (hb:fn.body=some c)
  (h:zD P O (O.hp f) c (args++List.replicate (fn.ntmps - args.length) zh) H=some (e,T,H1)) (he:e=.normal∨e=.ret) (hres:abB P fn T H1=some (v,H')):jc P O f args H=some (v,H'):=by
 obtain ⟨k0,h0⟩:=Qh _ _ _ _ h
 refine X4 ⟨k0+1,fun k hk=>?_⟩
 obtain ⟨k,rfl⟩:∃ i,k=i+1:=⟨k - 1,by omega⟩
 simp only [vH,ho,hf,if_neg hn,hb,hpu,Bool.false_eq_true,if_false,adR,h0 k k (by omega) (by omega)]
 rcases he with rfl | rfl <;> exact hres
theorem abk {f:FuncId} {fn:Func} {c:Code} {args:List Value} {S H1 H':zu} {e:AEx} {T:List Value} {v:Value} (ho:O.fn f=none) (hpu:O.pu f=true) (hf:P.funcs[f]?=some fn) (hn:fn.name≠ "runtime.NumGoroutine") (hb:fn.body=some c)
  (h:zD P O (O.hp f) c (args++List.replicate (fn.ntmps - args.length) zh) zu.empty=some (e,T,H1)) (he:e=.normal∨e=.ret) (hres:abB P fn T H1=some (v,H')) (hca:args.all (jg 16)=true) (hcv:jg 16 (wK H' 16 v)=true):jc P O f args S=some (wK H' 16 v,S):=by
 obtain ⟨k0,h0⟩:=Qh _ _ _ _ h
 refine X4 ⟨k0+1,fun k hk=>?_⟩
 obtain ⟨k,rfl⟩:∃ i,k=i+1:=⟨k - 1,by omega⟩
 have hr:adR P (O.hp f) (yE O.hp (O.hp f) (vH P O k)) k fn c args zu.empty=some (v,H'):=by
  simp only [adR,h0 k k (by omega) (by omega)]
  rcases he with rfl | rfl <;> exact hres
 simp only [vH,ho,hf,if_neg hn,hb,hpu,if_true,adC,if_pos hca,hr,if_pos hcv]
theorem Xu (S:zu):∀ (d d':Nat) (v:Value),jg d v=true→wK S d' v=v:=by
 intro d
 induction d with
 | zero=>intro d' v h;cases h
 | succ d ih =>
  intro d' v h
  cases d' with
  | zero=>rfl
  | succ d' =>
   cases v with
   | agg cs =>
    simp only [jg] at h
    show Value.agg (cs.map (wK S d'))=.agg cs
    congr 1
    apply Array.ext (by simp)
    intro i h1 h2
    rw [Array.getElem_map]
    exact ih d' _ (List.all_eq_true.1 h _ (by simp))
   | tuple cs =>
    simp only [jg] at h
    show Value.tuple (cs.map (wK S d'))=.tuple cs
    congr 1
    apply Array.ext (by simp)
    intro i h1 h2
    rw [Array.getElem_map]
    exact ih d' _ (List.all_eq_true.1 h _ (by simp))
   | slice a n c =>
    cases a with
    | none=>rfl
    | some a=>simp [jg] at h
   | _=>rfl
theorem yC {f:FuncId} {fn:Func} {c:Code} {args:List Value} {S H1 H':zu} {e:AEx} {T:List Value} {v:Value} (ho:O.fn f=none) (hpu:O.pu f=true) (hf:P.funcs[f]?=some fn) (hn:fn.name≠ "runtime.NumGoroutine") (hb:fn.body=some c)
  (h:zD P O (O.hp f) c (args++List.replicate (fn.ntmps - args.length) zh) zu.empty=some (e,T,H1)) (he:e=.normal∨e=.ret) (hres:abB P fn T H1=some (v,H')) (hca:args.all (jg 16)=true) (hcv:jg 16 v=true):jc P O f args S=some (v,S):=by
 have e1:=Xu H' 16 16 v hcv
 have:=abk (S:=S) ho hpu hf hn hb h he hres hca (by rw [e1];exact hcv)
 rwa [e1] at this
def Ty.JI:(t:Ty)→t.Val→List Value
 | .int k,n=>[.int k n]
 | .bool,b=>[.bool b]
 | .str,s=>[.string s]
 | .slc _ e,l=>match l with
  | none=>[.slice none 0 0]
  | some l=>[SL 1 e.sz l.length (l.flatMap e.JI)]
 | .pair a b,(x,y)=>a.JI x++b.JI y
 | .unit,_=>[]
theorem Ty.Vo:∀ (t:Ty) (x:t.Val),(t.JI x).length=t.sz:=by
 intro t
 induction t with
 | pair a b iha ihb=>rintro ⟨x,y⟩;simp [Ty.JI,Ty.sz,iha,ihb]
 | slc bytes e ih=>intro x;cases x <;> rfl
 | _=>intro x;rfl
theorem J9 {e:Ty} (l:List e.Val):(l.flatMap e.JI).length=l.length * e.sz:=by
 induction l with
 | nil=>simp
 | cons x l ih=>simp [List.flatMap_cons,Ty.Vo,ih,Nat.add_mul];omega
def M0:Mu:=⟨fun _=>none,fun _=>false,[]⟩
theorem GI.none {H:zu}:GI M0 zu.empty H:=⟨(fun q o h=>by cases h),(fun q q' r h=>by cases h),(fun q r b h=>by cases h),(fun q _=>rfl),(fun q r h=>by cases h),(fun r h=>by cases h),rfl,(fun q cs anc e h=>by cases h)⟩
theorem Ty.QK:∀ (t:Ty) (x:t.Val) (H:zu),Later M0 H M0 (t.place x H).2∧L0 M0 (t.place x H).2 (t.JI x) (t.place x H).1:=by
 intro t
 induction t with
 | int k=>intro x H;exact ⟨Later.refl _ _,VL.cons (.sg rfl) VL.nil⟩
 | bool=>intro x H;exact ⟨Later.refl _ _,VL.cons (.sg rfl) VL.nil⟩
 | str=>intro x H;exact ⟨Later.refl _ _,VL.cons (.sg rfl) VL.nil⟩
 | unit=>intro x H;exact ⟨Later.refl _ _,VL.nil⟩
 | pair a b iha ihb =>
  rintro ⟨x,y⟩ H
  obtain ⟨h1,h2⟩:=iha x H
  obtain ⟨h3,h4⟩:=ihb y (a.place x H).2
  exact ⟨h1.trans h3,(h2.later h3).append h4⟩
 | slc bytes e ih =>
  intro x H
  match x with
  | none=>exact ⟨Later.refl _ _,VL.cons (.sg rfl) VL.nil⟩
  | some []=>exact ⟨Later.refl _ _,VL.cons (.slE (e:=e.sz)) VL.nil⟩
  | some (x::l) =>
   have key:∀ (l:List e.Val) (H:zu),Later M0 H M0 (wV e.place l H).2∧L0 M0 (wV e.place l H).2 (l.flatMap e.JI) (wV e.place l H).1:=by
    intro l
    induction l with
    | nil=>intro H;exact ⟨Later.refl _ _,VL.nil⟩
    | cons x l ihl =>
     intro H
     obtain ⟨h1,h2⟩:=ih x H
     obtain ⟨h3,h4⟩:=ihl (e.place x H).2
     exact ⟨h1.trans h3,(h2.later h3).append h4⟩
   obtain ⟨h1,h2⟩:=key (x::l) H
   have hL:Later M0 (wV e.place (x::l) H).2 M0 ((wV e.place (x::l) H).2.push (.cells (wV e.place (x::l) H).1 .ro e.sz)):=Qm (fun q r h=>by cases h) _
   refine ⟨h1.trans hL,VL.cons ?_ VL.nil⟩
   have hlen:(wV e.place (x::l) H).1.length=(l.length+1) * e.sz:=by rw [← h2.1,J9];rfl
   show V0 M0 ((wV e.place (x::l) H).2.push (.cells (wV e.place (x::l) H).1 .ro e.sz)) (SL 1 e.sz (l.length+1) ((x::l).flatMap e.JI)) (.slice (some ⟨(wV e.place (x::l) H).2.next,0,none⟩) (l.length+1) (l.length+1))
   refine VV.sl (o:=0) (l:=(wV e.place (x::l) H).1) (own:=.ro) (by simp) ⟨fun q h=>(by cases h),rfl⟩ (by rw [zu.jE,if_pos rfl]) (by omega) (by rw [List.toList_toArray,J9];rfl) (fun i hi=>?_)
   rw [Nat.zero_add,List.toList_toArray]
   exact (h2.2 i).xE hL
def Args.JI:(l:List (Bool×Ty))→Args l→List Value
 | [],_=>[]
 | (b,c)::l,(x,xs)=>Zh b (c.JI x)::Args.JI l xs
theorem ae7 {H:zu} {b:Bool} {cs cs':List Value} (h:L0 M0 H cs cs'):V0 M0 H (Zh b cs) (Zh b cs'):=by
 unfold Zh
 split
 ·
  exact Ye h
 ·
  rw [Zz,Zz];exact h.2 0
theorem Args.QK:∀ (l:List (Bool×Ty)) (x:Args l) (H:zu),Later M0 H M0 (Args.place l x H).2∧L0 M0 (Args.place l x H).2 (Args.JI l x) (Args.place l x H).1:=by
 intro l
 induction l with
 | nil=>intro x H;exact ⟨Later.refl _ _,VL.nil⟩
 | cons p l ih =>
  obtain ⟨b,c⟩:=p
  rintro ⟨x,xs⟩ H
  obtain ⟨h1,h2⟩:=c.QK x H
  obtain ⟨h3,h4⟩:=ih xs (c.place x H).2
  exact ⟨h1.trans h3,VL.cons ((ae7 h2).xE h3) h4⟩
theorem VP (hO:acS P O) {f:FuncId} {codes:List (Bool×Ty)} {x:Args codes} {S':zu} (h:jc P O f (Args.JI codes x) zu.empty=some (.bool true,S')) :
  ∃ k,(vk P k f (Args.place codes x zu.empty).1 (Args.place codes x zu.empty).2).map (·.1)=some (.bool true):=by
 obtain ⟨h1,h2⟩:=Args.QK codes x zu.empty
 obtain ⟨a,H',μ',ω',k1,k2,k3,k4,k5,k6⟩:=agU hO f _ _ _ _ _ h M0 _ W0 GI.none h2 (fun r s hs=>by cases hs) (fun r s hs=>by cases hs)
 have:a=.bool true:=jF (k6.v0) rfl
 subst this
 exact aaU k1
theorem aeG {hps pus:FuncId→Bool}:acS P ⟨fun _=>none,hps,pus⟩:=fun f q h=>by cases h
end
end Go.Abs
namespace Go.Abs
open Go.RowKit
section
variable {R:Type} {P:Program} {O:Ora} {fx:Fx} {hp nm:Bool} {chk:List Nat} {call:FuncId→List Value→M Value} {ops:Array Oper}
def okC (v:Value) (r:Option R):Option R:=if okq 3 v=true then r else none
@[simp] theorem aau (b:Bool) (r:Option R):okC (.bool b) r=r:=Eq.trans rfl rfl
@[simp] theorem ac9 (k:IntKind) (n:Int) (r:Option R):okC (.int k n) r=r:=Eq.trans rfl rfl
@[simp] theorem YV (s:ByteArray) (r:Option R):okC (.string s) r=r:=Eq.trans rfl rfl
@[simp] theorem XR (a:Option Addr) (n c:Nat) (r:Option R):okC (.slice a n c) r=r:=Eq.trans rfl rfl
@[simp] theorem XC (k:Nat) (v:Value) (r:Option R):okC (.iface k v) r=r:=Eq.trans rfl rfl
@[simp] theorem agh (a:Option Addr) (r:Option R):okC (.pointer a) r=r:=Eq.trans rfl rfl
def gdC (v:Value) (b:Bool) (s:M Value) (S:zu) (K:Value→zu→Option R):Option R :=
 if (vb v == some b)=true then andThen (s S) (fun v S1=>okC v (K v S1)) else K zh S
@[simp] theorem afw (s:M Value) (H:zu) (K:Value→zu→Option R):gdC (.bool true) true s H K=andThen (s H) (fun v S1=>okC v (K v S1)):=Eq.trans rfl rfl
@[simp] theorem afs (s:M Value) (H:zu) (K:Value→zu→Option R):gdC (.bool false) false s H K=andThen (s H) (fun v S1=>okC v (K v S1)):=Eq.trans rfl rfl
@[simp] theorem aff (s:M Value) (H:zu) (K:Value→zu→Option R):gdC (.bool true) false s H K=K zh H:=Eq.trans rfl rfl
@[simp] theorem ae9 (s:M Value) (H:zu) (K:Value→zu→Option R):gdC (.bool false) true s H K=K zh H:=Eq.trans rfl rfl
@[simp] theorem afv (s:M Value) (b:Bool) (H:zu) (K:Value→zu→Option R):gdC zh b s H K=K zh H:=Eq.trans rfl rfl
abbrev Jd {α:Type} (a:α):Type:=Unit
def zN (s:Option (Value×zu)) (K:Value→zu→Option R) (p:Jd K):Option R:=andThen s K
def gdK (v:Value) (b:Bool) (s:M Value) (S:zu) (K:Value→zu→Option R) (p:Jd K):Option R:=gd v b s S K
def XY (v:Value) (b:Bool) (s:M Value) (S:zu) (K:Value→zu→Option R) (p:Jd K):Option R:=gdC v b s S K
def okK (v:Value) (r:Option R) (p:Jd r):Option R:=okC v r
@[simp] theorem Yp (v:Value) (H:zu) (K:Value→zu→Option R) (p:Jd K):zN (some (v,H)) K p=K v H:=Eq.trans rfl rfl
@[simp] theorem afe (s:M Value) (H:zu) (K:Value→zu→Option R) (p:Jd K):gdK (.bool true) true s H K p=zN (s H) K p:=Eq.trans rfl rfl
@[simp] theorem afL (s:M Value) (H:zu) (K:Value→zu→Option R) (p:Jd K):gdK (.bool false) false s H K p=zN (s H) K p:=Eq.trans rfl rfl
@[simp] theorem afC (s:M Value) (H:zu) (K:Value→zu→Option R) (p:Jd K):gdK (.bool true) false s H K p=K zh H:=Eq.trans rfl rfl
@[simp] theorem afg (s:M Value) (H:zu) (K:Value→zu→Option R) (p:Jd K):gdK (.bool false) true s H K p=K zh H:=Eq.trans rfl rfl
@[simp] theorem afG (s:M Value) (b:Bool) (H:zu) (K:Value→zu→Option R) (p:Jd K):gdK zh b s H K p=K zh H:=Eq.trans rfl rfl
@[simp] theorem VD (s:M Value) (H:zu) (K:Value→zu→Option R) (p:Jd K):XY (.bool true) true s H K p=zN (s H) (fun v S1=>okK v (K v S1) ()) ():=Eq.trans rfl rfl
@[simp] theorem X8 (s:M Value) (H:zu) (K:Value→zu→Option R) (p:Jd K):XY (.bool false) false s H K p=zN (s H) (fun v S1=>okK v (K v S1) ()) ():=Eq.trans rfl rfl
@[simp] theorem acJ (s:M Value) (H:zu) (K:Value→zu→Option R) (p:Jd K):XY (.bool true) false s H K p=K zh H:=Eq.trans rfl rfl
@[simp] theorem ac7 (s:M Value) (H:zu) (K:Value→zu→Option R) (p:Jd K):XY (.bool false) true s H K p=K zh H:=Eq.trans rfl rfl
@[simp] theorem ads (s:M Value) (b:Bool) (H:zu) (K:Value→zu→Option R) (p:Jd K):XY zh b s H K p=K zh H:=Eq.trans rfl rfl
@[simp] theorem V3 (b:Bool) (r:Option R) (p:Jd r):okK (.bool b) r p=r:=Eq.trans rfl rfl
@[simp] theorem vM (k:IntKind) (n:Int) (r:Option R) (p:Jd r):okK (.int k n) r p=r:=Eq.trans rfl rfl
@[simp] theorem Qc (s:ByteArray) (r:Option R) (p:Jd r):okK (.string s) r p=r:=Eq.trans rfl rfl
@[simp] theorem Xd (a:Option Addr) (n c:Nat) (r:Option R) (p:Jd r):okK (.slice a n c) r p=r:=Eq.trans rfl rfl
@[simp] theorem Yt (a:Option Addr) (r:Option R) (p:Jd r):okK (.pointer a) r p=r:=Eq.trans rfl rfl
theorem ahA {v:Value} (h:okq 3 v=true) (r:Option R) (p:Jd r):okK v r p=r:=if_pos h
theorem adK {l rest:List Oper} {o:Oper} {T:List Value} {T1:Value→List Value} {S:zu} {v:Value} {r:Option (List Value×zu)} (hl:l=o::rest) (hg:o.guard=none) (hm:∀ v,vJ o rest T v=T1 v)
  (hs:yu P fx call T o S=some (v,S)) (hK:jI P fx call ops rest (T1 v) S=r):jI P fx call ops l T S=r:=by
 subst hl
 simp only [jI,Region.wanted,hg,if_true,hs,hm]
 exact hK
theorem agd {l rest:List Oper} {o:Oper} {T:List Value} {T1:Value→List Value} {S:zu} {s:Option (Value×zu)} {K:Value→zu→Option (List Value×zu)} (hl:l=o::rest) (hg:o.guard=none) (hm:∀ v,vJ o rest T v=T1 v)
  (hs:yu P fx call T o S=s) (hK:∀ v S1,jI P fx call ops rest (T1 v) S1=K v S1):jI P fx call ops l T S=zN s K ():=by
 show _=andThen s K
 subst hl hs
 simp only [jI,Region.wanted,hg,if_true,hm,hK]
 rfl
theorem aga {l rest:List Oper} {o:Oper} {T:List Value} {T1:Value→List Value} {S:zu} {j:Nat} {b:Bool} {g:Value} {s:M Value} {K:Value→zu→Option (List Value×zu)} (hl:l=o::rest) (hg:o.guard=some (j,b)) (hm:∀ v,vJ o rest T v=T1 v)
  (hy:ynd ops T j=vb g) (hs:yu P fx call T o S=s S) (hK:∀ v S1,jI P fx call ops rest (T1 v) S1=K v S1):jI P fx call ops l T S=gdK g b s S K ():=by
 show _=gd g b s S K
 subst hl
 simp only [jI,Region.wanted,hg,hy,hs,hm,hK,gd]
 rfl
theorem aex {l rest:List Oper} {o:Oper} {T:List Value} {T1:Value→List Value} {S:zu} {k:Nat} {s:Option (Value×zu)} {K:Value→zu→Option (List Value×zu)} (hc:chk.contains k=false) (hl:l=o::rest) (hg:o.guard=none) (hm:∀ v,vJ o rest T v=T1 v)
  (hs:yu P fx call T o S=s) (hK:∀ v S1,wu P fx chk [] call ops (k+1) [] rest (T1 v) S1=K v S1):wu P fx chk [] call ops k [] l T S=zN s K ():=by
 show _=andThen s K
 subst hl hs
 simp only [wu,kP,List.isEmpty_nil,if_true,Region.wanted,hg,if_true,hm,hK,hc,Bool.not_false,Bool.true_or]
 rfl
theorem aaQ {l rest:List Oper} {o:Oper} {T:List Value} {T1:Value→List Value} {S:zu} {k:Nat} {v:Value} {r:Option (List Value×zu)} (hc:chk.contains k=false) (hl:l=o::rest) (hg:o.guard=none) (hm:∀ v,vJ o rest T v=T1 v)
  (hs:yu P fx call T o S=some (v,S)) (hK:wu P fx chk [] call ops (k+1) [] rest (T1 v) S=r):wu P fx chk [] call ops k [] l T S=r:=by
 subst hl
 simp only [wu,kP,List.isEmpty_nil,if_true,Region.wanted,hg,if_true,hs,hm,hc,Bool.not_false,Bool.true_or]
 exact hK
theorem adZ {l rest:List Oper} {o:Oper} {T:List Value} {T1:Value→List Value} {S:zu} {j k:Nat} {b:Bool} {g:Value} {s:M Value} {K:Value→zu→Option (List Value×zu)} (hc:chk.contains k=false) (hl:l=o::rest) (hg:o.guard=some (j,b)) (hm:∀ v,vJ o rest T v=T1 v)
  (hy:ynd ops T j=vb g) (hs:yu P fx call T o S=s S) (hK:∀ v S1,wu P fx chk [] call ops (k+1) [] rest (T1 v) S1=K v S1):wu P fx chk [] call ops k [] l T S=gdK g b s S K ():=by
 show _=gd g b s S K
 subst hl
 simp only [wu,kP,List.isEmpty_nil,if_true,Region.wanted,hg,hy,hs,hm,hK,gd,hc,Bool.not_false,Bool.true_or,if_true]
 rfl
theorem acW {l rest:List Oper} {o:Oper} {T:List Value} {T1:Value→List Value} {S:zu} {j k:Nat} {b:Bool} {g:Value} {s:M Value} {K:Value→zu→Option (List Value×zu)} (hc:chk.contains k=true) (hl:l=o::rest) (hg:o.guard=some (j,b)) (hm:∀ v,vJ o rest T v=T1 v)
  (hy:ynd ops T j=vb g) (hs:yu P fx call T o S=s S) (hK:∀ v S1,wu P fx chk [] call ops (k+1) [] rest (T1 v) S1=K v S1):wu P fx chk [] call ops k [] l T S=XY g b s S K ():=by
 show _=gdC g b s S K
 subst hl
 simp only [wu,kP,List.isEmpty_nil,if_true,Region.wanted,hg,hy,hs,hm,hK,gdC,hc,Bool.not_true,Bool.false_or]
 rfl
theorem aeB {l rest:List Oper} {o:Oper} {T:List Value} {T1:Value→List Value} {S:zu} {k:Nat} {s:Option (Value×zu)} {K:Value→zu→Option (List Value×zu)} (hc:chk.contains k=false) {x:Nat×Nat} {nl:List (Nat×Nat)} {hist:List (Value×zu)} {pe:Value} (hpe:xX T o=pe) (hl:l=o::rest) (hg:o.guard=none) (hm:∀ v,vJ o rest T v=T1 v)
  (hs:yu P fx call T o S=s) (hK:∀ v S1,wu P fx chk (x::nl) call ops (k+1) (hist++[(pe,S)]) rest (T1 v) S1=K v S1):wu P fx chk (x::nl) call ops k hist l T S=zN s K ():=by
 show _=andThen s K
 subst hl hs
 simp only [wu,kP,List.isEmpty_cons,Bool.false_eq_true,if_false,hpe,Region.wanted,hg,if_true,hm,hK,hc,Bool.not_false,Bool.true_or]
 rfl
theorem adJ {l rest:List Oper} {o:Oper} {T:List Value} {T1:Value→List Value} {S:zu} {k:Nat} {s:Option (Value×zu)} {K:Value→zu→Option (List Value×zu)} (hc:chk.contains k=true) {x:Nat×Nat} {nl:List (Nat×Nat)} {hist:List (Value×zu)} {pe:Value} (hpe:xX T o=pe) (hl:l=o::rest) (hg:o.guard=none) (hm:∀ v,vJ o rest T v=T1 v)
  (hs:yu P fx call T o S=s) (hK:∀ v S1,wu P fx chk (x::nl) call ops (k+1) (hist++[(pe,S)]) rest (T1 v) S1=K v S1):wu P fx chk (x::nl) call ops k hist l T S=zN s (fun v S1=>okK v (K v S1) ()) ():=by
 show _=andThen s (fun v S1=>okC v (K v S1))
 subst hl hs
 simp only [wu,kP,List.isEmpty_cons,Bool.false_eq_true,if_false,hpe,Region.wanted,hg,if_true,hm,hK,hc,Bool.not_true,Bool.false_or]
 rfl
theorem aa0 {l rest:List Oper} {o:Oper} {T:List Value} {T1:Value→List Value} {S:zu} {k:Nat} {v:Value} {r:Option (List Value×zu)} (hc:chk.contains k=false) {x:Nat×Nat} {nl:List (Nat×Nat)} {hist:List (Value×zu)} {pe:Value} (hpe:xX T o=pe) (hl:l=o::rest) (hg:o.guard=none) (hm:∀ v,vJ o rest T v=T1 v)
  (hs:yu P fx call T o S=some (v,S)) (hK:wu P fx chk (x::nl) call ops (k+1) (hist++[(pe,S)]) rest (T1 v) S=r):wu P fx chk (x::nl) call ops k hist l T S=r:=by
 subst hl
 simp only [wu,kP,List.isEmpty_cons,Bool.false_eq_true,if_false,hpe,Region.wanted,hg,if_true,hs,hm,hc,Bool.not_false,Bool.true_or]
 exact hK
theorem ae0 {l rest:List Oper} {o:Oper} {T:List Value} {T1:Value→List Value} {S:zu} {j k:Nat} {b:Bool} {g:Value} {s:M Value} {K:Value→zu→Option (List Value×zu)} (hc:chk.contains k=false) {x:Nat×Nat} {nl:List (Nat×Nat)} {hist:List (Value×zu)} {pe:Value} (hpe:xX T o=pe) (hl:l=o::rest) (hg:o.guard=some (j,b)) (hm:∀ v,vJ o rest T v=T1 v)
  (hy:ynd ops T j=vb g) (hs:yu P fx call T o S=s S) (hK:∀ v S1,wu P fx chk (x::nl) call ops (k+1) (hist++[(pe,S)]) rest (T1 v) S1=K v S1):wu P fx chk (x::nl) call ops k hist l T S=gdK g b s S K ():=by
 show _=gd g b s S K
 subst hl
 simp only [wu,kP,List.isEmpty_cons,Bool.false_eq_true,if_false,hpe,Region.wanted,hg,hy,hs,hm,hK,gd,hc,Bool.not_false,Bool.true_or,if_true]
 rfl
theorem acw {l rest:List Oper} {o:Oper} {T:List Value} {T1:Value→List Value} {S:zu} {j k:Nat} {b:Bool} {g:Value} {s:M Value} {K:Value→zu→Option (List Value×zu)} (hc:chk.contains k=true) {x:Nat×Nat} {nl:List (Nat×Nat)} {hist:List (Value×zu)} {pe:Value} (hpe:xX T o=pe) (hl:l=o::rest) (hg:o.guard=some (j,b)) (hm:∀ v,vJ o rest T v=T1 v)
  (hy:ynd ops T j=vb g) (hs:yu P fx call T o S=s S) (hK:∀ v S1,wu P fx chk (x::nl) call ops (k+1) (hist++[(pe,S)]) rest (T1 v) S1=K v S1):wu P fx chk (x::nl) call ops k hist l T S=XY g b s S K ():=by
 show _=gdC g b s S K
 subst hl
 simp only [wu,kP,List.isEmpty_cons,Bool.false_eq_true,if_false,hpe,Region.wanted,hg,hy,hs,hm,hK,gdC,hc,Bool.not_true,Bool.false_or]
 rfl
def ckK (c:Bool) (r:Option R) (p:Jd r):Option R:=if c then r else none
@[simp] theorem aaA (r:Option R) (p:Jd r):ckK true r p=r:=Eq.trans rfl rfl
noncomputable def agN (P:Program) (O:Ora) (hp:Bool) (v:Value) (x y:Code) (T:List Value) (S:zu):St:=adT v (zD P O hp x T S) (zD P O hp y T S)
@[simp] theorem Qp (x y:Code) (T:List Value) (S:zu):agN P O hp (.bool true) x y T S=zD P O hp x T S:=Eq.trans rfl rfl
@[simp] theorem YK (x y:Code) (T:List Value) (S:zu):agN P O hp (.bool false) x y T S=zD P O hp y T S:=Eq.trans rfl rfl
@[simp] theorem Yn (T:List Value) (H:zu):zD P O hp .skip T H=some (.normal,T,H):=Eq.trans rfl rfl
@[simp] theorem Y1 (T:List Value) (H:zu):zD P O hp .ret T H=some (.ret,T,H):=Eq.trans rfl rfl
@[simp] theorem YI (i:Nat) (T:List Value) (H:zu):zD P O hp (.exit i) T H=some (.exit i,T,H):=Eq.trans rfl rfl
@[simp] theorem Jp (i:Nat) (ops:Array Oper) (T:List Value) (H:zu):zD P O false (.region i ops false) T H=KZ (jI P ⟨false,false,false⟩ (jc P O) ops ops.toList T H):=Eq.trans rfl rfl
@[simp] theorem ZT (i:Nat) (ops:Array Oper) (T:List Value) (H:zu):zD P O true (.region i ops false) T H=KZ (jI P ⟨true,false,false⟩ (yE O.hp true (jc P O)) ops ops.toList T H):=Eq.trans rfl rfl
theorem xG {i:Nat} {ops:Array Oper} (hd:kY P ops=true) (hf:fixed P ops=nm) (hc:checked P ops=chk) {nl:List (Nat×Nat)} (hn:again P ops=nl) (T:List Value) (H:zu):zD P O false (.region i ops true) T H=KZ (wu P ⟨false,!chk.isEmpty,nm⟩ chk nl (jc P O) ops 0 [] ops.toList T H):=by
 subst hf hc hn
 simp only [zD,hd,if_true,yE]
 rfl
theorem KA {i:Nat} {ops:Array Oper} (hd:kY P ops=true) (hf:fixed P ops=nm) (hc:checked P ops=chk) {nl:List (Nat×Nat)} (hn:again P ops=nl) (T:List Value) (H:zu):zD P O true (.region i ops true) T H=KZ (wu P ⟨true,!chk.isEmpty,nm⟩ chk nl (yE O.hp true (jc P O)) ops 0 [] ops.toList T H):=by
 subst hf hc hn
 simp only [zD,hd,if_true]
 rfl
@[simp] theorem Qb (x y:Code) (T:List Value) (H:zu):zD P O hp (.seq x y) T H=aek (zD P O hp x T H) (zD P O hp y):=Eq.trans rfl rfl
@[simp] theorem Wj (i:Nat) (c:Code) (T:List Value) (H:zu):zD P O hp (.block i c) T H=Jh i (zD P O hp c T H):=Eq.trans rfl rfl
@[simp] theorem WV (c:Code) (T:List Value) (H:zu):zD P O hp (.loop c) T H=qB (zD P O hp c) T H:=Eq.trans rfl rfl
@[simp] theorem W9 (t:Tmp) (x y:Code) (T:List Value) (H:zu):zD P O hp (.cond (.tmp t) x y) T H=agN P O hp (T.getD t zh) x y T H:=by
 simp only [zD,qN,if_true,jd]
 rfl
@[simp] theorem Yu:dem zh=zh:=Zw
@[simp] theorem acp (k:IntKind) (n:Int):dem (.int k n)=.int k n:=Eq.trans rfl rfl
@[simp] theorem VY (b:Bool):dem (.bool b)=.bool b:=Eq.trans rfl rfl
@[simp] theorem Qj (s:ByteArray):dem (.string s)=.string s:=Eq.trans rfl rfl
@[simp] theorem acH:dem (.slice none 0 0)=.slice none 0 0:=Eq.trans rfl rfl
@[simp] theorem ab7 (x:Array Value):dem (.agg x)=.agg x:=Eq.trans rfl rfl
@[simp] theorem VX (f:Fn) (x c:Array Value):dem (.func f x c)=.func f x c:=Eq.trans rfl rfl
@[simp] theorem Yf (a:Option Addr):dem (.pointer a)=.pointer a:=Eq.trans rfl rfl
@[simp] theorem aij (e n:Nat) (cs:List Value):dem (SL 1 e n cs)=SL 1 e n cs:=Eq.trans rfl rfl
@[simp] theorem aib (e n:Nat) (cs:List Value):dem (SL 2 e n cs)=SL 1 e n cs:=Eq.trans rfl rfl
@[simp] theorem afi (k e n:Nat) (cs:List Value) (r:Option R) (p:Jd r):okK (SL k e n cs) r p=r:=Eq.trans rfl rfl
@[simp] theorem afD (cs:List Value) (r:Option R) (p:Jd r):okK (EP cs) r p=r:=Eq.trans rfl rfl
@[simp] theorem aiu (k e n:Nat) (cs:List Value) (r:Option R):okC (SL k e n cs) r=r:=Eq.trans rfl rfl
@[simp] theorem afh (cs:List Value) (r:Option R):okC (EP cs) r=r:=Eq.trans rfl rfl
def sv (k e n:Nat) (cs:List Value):Value:=if k=0 then .slice none 0 0 else SL k e n cs
structure Okv (k n:Nat) (cs:List Value):Prop where
 le:k≤2
 nil:k=0→n=0∧cs=[]
theorem sv0 {e n:Nat} {cs:List Value}:sv 0 e n cs=.slice none 0 0:=rfl
theorem sv1 {e n:Nat} {cs:List Value}:sv 1 e n cs=SL 1 e n cs:=rfl
theorem sv2 {e n:Nat} {cs:List Value}:sv 2 e n cs=SL 2 e n cs:=rfl
@[simp] theorem V5 (k e n:Nat) (cs:List Value):dem (sv k e n cs)=sv (if k=2 then 1 else k) e n cs:=by
 unfold sv
 by_cases h0:k=0
 ·
  subst h0;rfl
 ·
  by_cases h2:k=2
  ·
   subst h2;rfl
  ·
   rw [if_neg h0,if_neg h2,if_neg h0]
   simp only [SL,dem,qM,if_neg h2]
@[simp] theorem Xh (k e n:Nat) (cs:List Value) (r:Option R):okC (sv k e n cs) r=r:=by
 unfold sv;split <;> rfl
@[simp] theorem afk (k e n:Nat) (cs:List Value) (r:Option R) (p:Jd r):okK (sv k e n cs) r p=r:=Xh k e n cs r
theorem aar {k e n:Nat} {cs:List Value} (h:Okv k n cs):∃ e',vSl (sv k e n cs)=some (e',n,cs)∧(e'=e∨n=0∧cs=[]):=by
 unfold sv
 by_cases h0:k=0
 ·
  obtain ⟨rfl,rfl⟩:=h.nil h0
  rw [if_pos h0]
  exact ⟨0,rfl,.inr ⟨rfl,rfl⟩⟩
 ·
  rw [if_neg h0]
  have:k=1∨k=2:=by have:=h.le;omega
  exact ⟨e,by simp [SL,vSl,this],.inl rfl⟩
theorem afS {t te:TypeId} {k e n:Nat} {cs:List Value} {S:zu} (ht:P.underlying t=some (.slice te)) (h:Okv k n cs):ZO P t (sv k e n cs) S=some (goInt n,S):=by
 by_cases h0:k=0
 ·
  obtain ⟨rfl,rfl⟩:=h.nil h0
  subst h0
  simp only [sv0,ZO,Xt,ht]
 ·
  obtain ⟨e',h1,_⟩:=aar (e:=e) h
  simp only [sv,if_neg h0] at h1 ⊢
  simp only [SL] at h1 ⊢
  simp only [ZO,ht,h1]
theorem Ji {t te:TypeId} {k e n:Nat} {cs:List Value} {S:zu} {ki:IntKind} {i:Int} (ht:P.underlying t=some (.slice te)) (he:kN P te=some e) (h:Okv k n cs) (h0:0≤i) (hi:i < n) :
  jw P t (sv k e n cs) (.int ki i) S=some (EP ((cs.drop (i.toNat * e)).take e),S):=by
 have hk:k≠0:=fun e=>by have:=(h.nil e).1;omega
 have hk2:k=1∨k=2:=by have:=h.le;omega
 have h1:vSl (SL k e n cs)=some (e,n,cs):=by simp [SL,vSl,hk2]
 simp only [sv,if_neg hk]
 simp only [SL] at h1 ⊢
 simp only [jw,ht,h1,he,if_true]
 rw [if_pos ⟨h0,hi⟩]
@[simp] theorem Yw {t:TypeId} {v:Value} {S:zu} (ht:qH P t=some false):zQ P nm t (EP [v]) S=some (v,S):=by
 simp [EP,zQ,ht]
theorem adG {t:TypeId} {n:Nat} {cs:List Value} {S:zu} (ht:qH P t=some true) (hn:kN P t=some n) (hc:cs.length=n):zQ P nm t (EP cs) S=some (.agg cs.toArray,S):=by
 simp only [EP,zQ,ht,hn,if_true,List.toList_toArray]
 rw [if_pos (by omega),← hc,List.take_length]
theorem adY {t te:TypeId} {k e n:Nat} {cs:List Value} {S:zu} (ht:P.underlying t=some (.slice te)) (h:Okv k n cs):jY P .eql t (sv k e n cs) (.slice none 0 0) S=some (.bool (decide (k=0)),S):=by
 by_cases hk:k=0
 ·
  subst hk
  simp only [sv0,jY,Za,qL,ht,Zb]
  rfl
 ·
  have hk2:k=1∨k=2:=by have:=h.le;omega
  have h1:vSl (SL k e n cs)=some (e,n,cs):=by simp [SL,vSl,hk2]
  simp only [sv,if_neg hk]
  simp only [SL] at h1 ⊢
  simp only [jY,ht,h1]
  simp [hk]
@[simp] theorem Yh (k e n:Nat) (cs:List Value):JH (sv k e n cs)=false:=by unfold sv;split <;> rfl
@[simp] theorem JZ (dr:Bool) (t:TypeId) (k e n:Nat) (cs:List Value) (lo hi:Option Value) (S:zu):vS P dr t (sv k e n cs) lo hi S=Y8 P t (sv k e n cs) lo hi S:=by
 unfold vS;rw [Yh];rfl
@[simp] theorem ZP (dr:Bool) (t:TypeId) (s:ByteArray) (lo hi:Option Value) (S:zu):vS P dr t (.string s) lo hi S=Y8 P t (.string s) lo hi S:=Eq.trans rfl rfl
@[simp] theorem Yd (hp dr:Bool) (src dst:TypeId) (k e n:Nat) (cs:List Value) (S:zu):qG P hp dr src dst (sv k e n cs) S=Z7 P src dst (sv k e n cs) S:=by
 unfold qG
 rw [Yh]
 have:∀ s,sv k e n cs≠.string s:=by intro s;unfold sv;split <;> (intro h;cases h)
 cases hp <;> simp only [Bool.false_eq_true,if_false] <;> (split <;> first | rfl | (rename_i h;exact absurd h (this _)) | skip)
@[simp] theorem Y3 (hp dr:Bool) (src dst:TypeId) (k:IntKind) (n:Int) (S:zu):qG P hp dr src dst (.int k n) S=Z7 P src dst (.int k n) S:=by cases hp <;> rfl
@[simp] theorem JB (dr:Bool) (src dst:TypeId) (s:ByteArray) (S:zu):qG P false dr src dst (.string s) S=Z7 P src dst (.string s) S:=Eq.trans rfl rfl
@[simp] theorem ZL (dr:Bool) (src dst:TypeId) (s:ByteArray) (S:zu):qG P true dr src dst (.string s) S=yF P src dst (.string s) S:=Eq.trans rfl rfl
theorem aaJ {t te tx tex:TypeId} {k e n j m bytes:Nat} {cs ds:List Value} {z:Value} {S:zu} (ht:P.underlying t=some (.slice te)) (he:kN P te=some e) (hz:zeroOf P te=some z) (hzs:z.cells.size=e) (hb:bytesOf P te=some bytes) (hp:0 < e)
  (htx:P.underlying tx=some (.slice tex)) (h:Okv k n cs) (hk:k≠1) (hx:Okv j m ds) (hn:cs.length=n * e) (hm:ds.length=m * e) (h1:cs.all (·.oneCell')=true) (h2:ds.all (·.oneCell')=true) (hl:(n+m) * bytes≤140737488355328) (hmax:n+m≤4611686018427387903) :
  yw P t tx (sv k e n cs) (sv j e m ds) S=some (sv (if k=0∧m=0 then 0 else 2) e (n+m) (cs++ds),S):=by
 have hel:qh P t=some te:=by simp only [qh,ht]
 have hsrc:agD P tx e (sv j e m ds)=some (m,ds):=by
  obtain ⟨e',q1,q2⟩:=aar (e:=e) hx
  have hns:∀ s,sv j e m ds≠.string s:=by intro s;unfold sv;split <;> (intro h;cases h)
  have hcond:m=0∨e'=e:=q2.elim .inr fun h=>.inl h.1
  unfold agD
  split
  ·
   rename_i s hs;exact absurd hs (hns s)
  ·
   simp only [htx,q1,if_pos hcond,if_pos hm,h2,if_true]
 have hsrc:YD P tx e (sv j e m ds) S=some (m,ds):=by
  unfold YD
  rw [Yh]
  exact hsrc
 by_cases hk0:k=0
 ·
  obtain ⟨rfl,rfl⟩:=h.nil hk0
  subst hk0
  simp only [sv0,yw,qF,hel,he,hz,hb,if_pos hp,if_pos hzs,hsrc]
  by_cases hm0:m=0
  ·
   subst hm0
   simp [sv0]
  ·
   rw [Nat.zero_add] at hl hmax
   rw [if_neg hm0,if_pos hl,if_pos hmax,if_neg Bool.false_ne_true,if_neg (fun h=>hm0 h.2),sv2,Nat.zero_add,List.nil_append]
 ·
  have hk2:k=2:=by have:=h.le;omega
  subst hk2
  rw [if_neg (fun h=>hk0 h.1)]
  have h1':cs.toArray.toList.all (·.oneCell')=true:=by simpa using h1
  simp only [sv2,SL,yw,qF,hel,he,hz,hb,if_pos hp,if_pos hzs,hsrc,if_true,if_pos hl,if_pos hmax,h1']
@[simp] theorem aag (op:BinOp) (t:TypeId) (k k':IntKind) (a b:Int) (S:zu):jY P op t (.int k a) (.int k' b) S=Za P op t (.int k a) (.int k' b) S:=Eq.trans rfl rfl
@[simp] theorem WX (op:BinOp) (t:TypeId) (a b:ByteArray) (S:zu):jY P op t (.string a) (.string b) S=Za P op t (.string a) (.string b) S:=Eq.trans rfl rfl
@[simp] theorem KW (op:BinOp) (t:TypeId) (a b:Bool) (S:zu):jY P op t (.bool a) (.bool b) S=Za P op t (.bool a) (.bool b) S:=Eq.trans rfl rfl
@[simp] theorem aad (op:BinOp) (t:TypeId) (a b:Array Value) (S:zu):jY P op t (.agg a) (.agg b) S=Za P op t (.agg a) (.agg b) S:=Eq.trans rfl rfl
@[simp] theorem YX (b:Bool) (x y:Value) (S:zu):yj (.bool b) x y S=some (if b then dem x else dem y,S):=Eq.trans rfl rfl
@[simp] theorem Xb {src dst:TypeId} (k:IntKind) (n:Int) (S:zu):Z7 P src dst (.int k n) S=yF P src dst (.int k n) S:=Eq.trans rfl rfl
@[simp] theorem ZM (vs:List Value) (i:Nat) (S:zu):zS (.tuple vs.toArray) i S=(vs[i]?).map (·,S):=by
 simp only [zS,List.getElem?_toArray]
 cases vs[i]? <;> rfl
end
end Go.Abs
namespace Go.Abs
theorem Zv {P:Program} {fn:Func} {a b:Value} {r:List Value} {T:List Value} {S:zu} (h:zL P T S fn.results.toList=some (a::b::r)) (hn:agp fn.results.toList=true) (hall:(a::b::r).all wU=true) :
  abB P fn T S=some (.tuple (a::b::r).toArray,S):=by
 unfold abB
 rw [h]
 dsimp only
 rw [if_pos hn,if_pos hall]
theorem wJ {P:Program} {fn:Func} {a:Value} {T:List Value} {S:zu} (h:zL P T S fn.results.toList=some [a]) (hn:agp fn.results.toList=true):abB P fn T S=some (a,S):=by
 unfold abB
 rw [h]
 dsimp only
 rw [if_pos hn]
@[simp] theorem yx (k:IntKind) (n:Int):wU (.int k n)=true:=rfl
@[simp] theorem wW (b:Bool):wU (.bool b)=true:=rfl
@[simp] theorem Vw (k e n:Nat) (cs:List Value):wU (sv k e n cs)=true:=by unfold sv;split <;> rfl
@[simp] theorem yA (x:Array Value):wU (.agg x)=true:=rfl
@[simp] theorem wF (a:Option Addr) (n c:Nat):wU (.slice a n c)=true:=rfl
end Go.Abs
namespace Go.Abs
open Go.RowKit
def vs {α:Type} (f:α→List Value) (e k:Nat) (l:List α):Value:=sv k e l.length (l.flatMap f)
structure Okl {α:Type} (k:Nat) (l:List α):Prop where
 le:k≤2
 nil:k=0→l=[]
theorem Okl.own {α:Type} {l:List α}:Okl 2 l:=⟨Nat.le_refl 2,(fun h=>by cases h)⟩
theorem Okl.read {α:Type} {l:List α}:Okl 1 l:=⟨by omega,(fun h=>by cases h)⟩
theorem Okl.none {α:Type}:Okl 0 ([]:List α):=⟨by omega,fun _=>rfl⟩
theorem Okl.dem {α:Type} {k:Nat} {l:List α} (h:Okl k l):Okl (if k=2 then 1 else k) l:=⟨by have:=h.le;split <;> omega,fun hk=>h.nil (by split at hk <;> omega)⟩
def cb (b:UInt8):List Value:=[.int .u8 b.toNat]
def ci (n:Int):List Value:=[.int .i64 n]
section
variable {R α:Type} {P:Program} {f:α→List Value} {e k j:Nat} {l m:List α} {t te tx tex:TypeId} {S:zu}
theorem Okl.okv (h:Okl k l):Okv k l.length (l.flatMap f):=⟨h.le,fun h0=>by rw [h.nil h0];exact ⟨rfl,rfl⟩⟩
theorem wQ (hf:∀ x,(f x).length=e) (l:List α):(l.flatMap f).length=l.length * e:=by
 induction l with
 | nil=>simp
 | cons x l ih=>simp only [List.flatMap_cons,List.length_append,hf,ih,List.length_cons,Nat.add_mul];omega
theorem KR (hf:∀ x,(f x).length=e) (l:List α):∀ (i:Nat),(l.flatMap f).drop (i * e)=(l.drop i).flatMap f:=by
 induction l with
 | nil=>intro i;simp
 | cons x l ih =>
  intro i
  cases i with
  | zero=>simp
  | succ i =>
   rw [List.flatMap_cons,List.drop_succ_cons,← ih i,List.drop_append,List.drop_eq_nil_of_le (by rw [hf,Nat.add_mul];omega),List.nil_append,hf]
   congr 1
   rw [Nat.add_mul];omega
theorem XF (hf:∀ x,(f x).length=e) (l:List α):∀ (i:Nat),(l.flatMap f).take (i * e)=(l.take i).flatMap f:=by
 induction l with
 | nil=>intro i;simp
 | cons x l ih =>
  intro i
  cases i with
  | zero=>simp
  | succ i =>
   rw [List.flatMap_cons,List.take_succ_cons,List.flatMap_cons,← ih i,List.take_append,List.take_of_length_le (by rw [hf,Nat.add_mul];omega),hf]
   congr 2
   rw [Nat.add_mul];omega
@[simp] theorem VT:dem (vs f e k l)=vs f e (if k=2 then 1 else k) l:=V5 _ _ _ _
@[simp] theorem afH (r:Option R):okC (vs f e k l) r=r:=Xh _ _ _ _ _
@[simp] theorem afn (r:Option R) (p:Jd r):okK (vs f e k l) r p=r:=Xh _ _ _ _ _
@[simp] theorem air:JH (vs f e k l)=false:=Yh _ _ _ _
@[simp] theorem Y7 (dr:Bool) (lo hi:Option Value):vS P dr t (vs f e k l) lo hi S=Y8 P t (vs f e k l) lo hi S:=JZ _ _ _ _ _ _ _ _ _
@[simp] theorem Xp (hp dr:Bool) (src dst:TypeId):qG P hp dr src dst (vs f e k l) S=Z7 P src dst (vs f e k l) S:=Yd _ _ _ _ _ _ _ _ _
@[simp] theorem yP:wU (vs f e k l)=true:=Vw _ _ _ _
theorem acv (ht:P.underlying t=some (.slice te)) (h:Okl k l):ZO P t (vs f e k l) S=some (goInt l.length,S):=afS ht h.okv
theorem ae4 (ht:P.underlying t=some (.slice te)) (h:Okl k l):jY P .eql t (vs f e k l) (.slice none 0 0) S=some (.bool (decide (k=0)),S):=adY ht h.okv
theorem agX {ki:IntKind} {i:Int} (ht:P.underlying t=some (.slice te)) (he:kN P te=some e) (hf:∀ x,(f x).length=e) (h:Okl k l) (h0:0≤i) (hi:i < l.length) :
  jw P t (vs f e k l) (.int ki i) S=some (EP (f (l[i.toNat]'(by omega))),S):=by
 unfold vs
 rw [Ji ht he h.okv h0 hi,KR hf]
 have hlt:i.toNat < l.length:=by omega
 have:=XF hf (l.drop i.toNat) 1
 rw [Nat.one_mul] at this
 rw [this,List.drop_eq_getElem_cons hlt,List.take_succ_cons,List.take_zero,List.flatMap_cons,List.flatMap_nil,List.append_nil]
theorem Xo {bytes:Nat} {z:Value} (ht:P.underlying t=some (.slice te)) (he:kN P te=some e) (hz:zeroOf P te=some z) (hzs:z.cells.size=e) (hb:bytesOf P te=some bytes) (hp:0 < e) (htx:P.underlying tx=some (.slice tex))
  (hf:∀ x,(f x).length=e) (h1:∀ x,(f x).all (·.oneCell')=true) (h:Okl k l) (hk:k≠1) (hm:Okl j m) (hl:(l.length+m.length) * bytes≤140737488355328) (hmax:l.length+m.length≤4611686018427387903) :
  yw P t tx (vs f e k l) (vs f e j m) S=some (vs f e (if k=0∧m.length=0 then 0 else 2) (l++m),S):=by
 have hone:∀ l:List α,(l.flatMap f).all (·.oneCell')=true:=by
  intro l
  rw [List.all_flatMap,List.all_eq_true]
  exact fun x _=>h1 x
 unfold vs
 rw [aaJ ht he hz hzs hb hp htx h.okv hk hm.okv (wQ hf l) (wQ hf m) (hone l) (hone m) hl hmax,List.flatMap_append,List.length_append]
theorem adx (x:UInt8):(cb x).length=1:=rfl
theorem ahm (x:UInt8):(cb x).all (·.oneCell')=true:=rfl
theorem ahM (x:Int):(ci x).length=1:=rfl
theorem aez (l:List UInt8):yL (l.flatMap cb)=some l:=by
 induction l with
 | nil=>rfl
 | cons b l ih =>
  have:(b::l).flatMap cb=.int .u8 b.toNat::l.flatMap cb:=rfl
  rw [this]
  simp only [yL,WY,ih]
  simp
theorem jJ {v:Value} {i j:Nat} {S:zu} (h:j≠i):zS (jD j v) i S=zS v i S:=by
 cases v with
 | tuple vs=>simp only [jD,zS,Array.getElem?_modify,if_neg h]
 | _=>rfl
theorem acZ {v:Value} {S:zu}:zS (jD 0 v) 1 S=zS v 1 S:=jJ (by decide)
theorem adD {v:Value} {S:zu}:zS (jD 0 v) 2 S=zS v 2 S:=jJ (by decide)
theorem ab9 {v:Value} {S:zu}:zS (jD 1 v) 2 S=zS v 2 S:=jJ (by decide)
theorem abL {v:Value} {S:zu}:zS (jD 0 v) 3 S=zS v 3 S:=jJ (by decide)
theorem acd {v:Value} {S:zu}:zS (jD 1 v) 3 S=zS v 3 S:=jJ (by decide)
theorem abG {v:Value} {S:zu}:zS (jD 2 v) 3 S=zS v 3 S:=jJ (by decide)
theorem adB {v:Value} {S:zu}:zS (jD 0 v) 4 S=zS v 4 S:=jJ (by decide)
theorem acf {v:Value} {S:zu}:zS (jD 1 v) 4 S=zS v 4 S:=jJ (by decide)
theorem ac5 {v:Value} {S:zu}:zS (jD 2 v) 4 S=zS v 4 S:=jJ (by decide)
theorem ac8 {v:Value} {S:zu}:zS (jD 3 v) 4 S=zS v 4 S:=jJ (by decide)
theorem ach {v:Value} {S:zu}:zS (jD 0 v) 5 S=zS v 5 S:=jJ (by decide)
theorem ac2 {v:Value} {S:zu}:zS (jD 1 v) 5 S=zS v 5 S:=jJ (by decide)
theorem ac1 {v:Value} {S:zu}:zS (jD 2 v) 5 S=zS v 5 S:=jJ (by decide)
theorem acy {v:Value} {S:zu}:zS (jD 3 v) 5 S=zS v 5 S:=jJ (by decide)
theorem acD {v:Value} {S:zu}:zS (jD 4 v) 5 S=zS v 5 S:=jJ (by decide)
abbrev by_ (k:Nat) (l:List UInt8):Value:=vs cb 1 k l
abbrev iz (k:Nat) (l:List Int):Value:=vs ci 1 k l
theorem adl {src dst:TypeId} {k:Nat} {l:List UInt8} (hs:P.underlying src=some (.slice te)) (he:P.underlying te=some (.int .u8)) (hd:P.underlying dst=some .string) (h:Okl k l):Z7 P src dst (by_ k l) S=some (.string ⟨l.toArray⟩,S):=by
 obtain ⟨e',h1,_⟩:=aar (e:=1) (h.okv (f:=cb))
 have hlen:(l.flatMap cb).length=l.length:=by rw [wQ adx];omega
 have hns:∀ s,by_ k l≠.string s:=by intro s;unfold by_ vs sv;split <;> (intro h;cases h)
 unfold Z7
 split
 ·
  rename_i s hs;exact absurd hs (hns s)
 ·
  unfold by_ vs
  rw [h1]
  simp only [hs,hd,he,if_pos hlen,aez]
end
end Go.Abs
namespace Go.Abs
open Go.RowKit
def CLe (c d:FuncId→List Value→M Value):Prop:=∀ g a S r,c g a S=some r→d g a S=some r
section
variable {P:Program} {O:Ora} {c d:FuncId→List Value→M Value}
theorem Y6 (h:CLe c d) {fx:Fx} {T:List Value} {o:Oper} {S:zu} {r:Value×zu} (hs:yu P fx c T o S=some r):yu P fx d T o S=some r:=by
 unfold yu at hs ⊢
 split at hs
 ·
  rename_i hok
  rw [if_pos hok]
  cases hop:o.op with
  | call q =>
   rw [hop] at hs
   dsimp only at hs ⊢
   cases hcal:q.callee with
   | value f =>
    rw [hcal] at hs
    dsimp only at hs ⊢
    split at hs
    ·
     rename_i g first captured hev
     exact h _ _ _ _ hs
    ·
     cases hs
   | builtin b=>rw [hcal] at hs;exact hs
   | invoke a b=>rw [hcal] at hs;cases hs
  | _=>rw [hop] at hs;exact hs
 ·
  cases hs
theorem acG (h:CLe c d) {fx:Fx} {ops:Array Oper}:∀ (l:List Oper) (T:List Value) (S:zu) (r:List Value×zu),jI P fx c ops l T S=some r→jI P fx d ops l T S=some r:=by
 intro l
 induction l with
 | nil=>intro T S r hs;exact hs
 | cons o l ih =>
  intro T S r hs
  simp only [jI] at hs ⊢
  split at hs
  ·
   rename_i hw
   rw [if_pos hw]
   split at hs
   ·
    rename_i v S' he
    rw [Y6 h he]
    exact ih _ _ _ hs
   ·
    cases hs
  ·
   rename_i hw
   rw [if_neg hw]
   exact ih _ _ _ hs
theorem aaO (h:CLe c d) {fx:Fx} {chk:List Nat} {nl:List (Nat×Nat)} {ops:Array Oper}:∀ (l:List Oper) (i:Nat) (hist:List (Value×zu)) (T:List Value) (S:zu) (r:List Value×zu),wu P fx chk nl c ops i hist l T S=some r→wu P fx chk nl d ops i hist l T S=some r:=by
 intro l
 induction l with
 | nil=>intro i hist T S r hs;exact hs
 | cons o l ih =>
  intro i hist T S r hs
  simp only [wu] at hs ⊢
  split at hs
  ·
   rename_i hw
   rw [if_pos hw]
   split at hs
   ·
    rename_i v S' he
    rw [Y6 h he]
    dsimp only
    split at hs
    ·
     rename_i hq
     rw [if_pos hq]
     exact ih _ _ _ _ _ hs
    ·
     cases hs
   ·
    cases hs
  ·
   rename_i hw
   rw [if_neg hw]
   exact ih _ _ _ _ _ hs
theorem Y0 (h:CLe c d) {hp:Bool} {n m:Nat} (hn:n≤m):∀ (q:Code) (T:List Value) (S:zu) (r),yM P hp c n q T S=some r→yM P hp d m q T S=some r:=by
 intro q
 induction q with
 | skip=>intro T S r hs;exact hs
 | exit id=>intro T S r hs;exact hs
 | ret=>intro T S r hs;exact hs
 | region i ops dr =>
  intro T S r hs
  cases dr with
  | false =>
   simp only [yM] at hs ⊢
   split at hs
   ·
    rename_i T1 S1 ho
    rw [acG h _ _ _ _ ho];exact hs
   ·
    cases hs
  | true =>
   simp only [yM] at hs ⊢
   split at hs
   ·
    rename_i hd
    rw [if_pos hd]
    split at hs
    ·
     rename_i T1 S1 ho
     rw [aaO h _ _ _ _ _ _ ho];exact hs
    ·
     cases hs
   ·
    cases hs
 | seq x y ihx ihy =>
  intro T S r hs
  simp only [yM] at hs ⊢
  split at hs
  ·
   rename_i T1 S1 hx
   rw [ihx _ _ _ hx]
   exact ihy _ _ _ hs
  ·
   rename_i hne
   rw [ihx _ _ _ hs]
   split
   ·
    rename_i T1 S1 he;exact absurd (hs.trans he) (hne T1 S1)
   ·
    rfl
 | cond x y z ihy ihz =>
  intro T S r hs
  simp only [yM] at hs ⊢
  split at hs
  ·
   rename_i hok
   rw [if_pos hok]
   split at hs
   ·
    rename_i hb;exact ihy _ _ _ hs
   ·
    rename_i hb;exact ihz _ _ _ hs
   ·
    cases hs
  ·
   cases hs
 | block id x ih =>
  intro T S r hs
  simp only [yM] at hs ⊢
  split at hs
  ·
   rename_i id' T1 S1 hx
   rw [ih _ _ _ hx];exact hs
  ·
   rename_i hne
   rw [ih _ _ _ hs]
   split
   ·
    rename_i id' T1 S1 he;exact absurd (hs.trans he) (hne id' T1 S1)
   ·
    rfl
 | loop x ih =>
  intro T S r hs
  simp only [yM] at hs ⊢
  have key:∀ (n:Nat) (T:List Value) (S:zu),∀ k,qw k (yM P hp c n x) T S=some r→(∀ T S r,yM P hp c n x T S=some r→yM P hp d m x T S=some r)→qw k (yM P hp d m x) T S=some r:=by
   intro n T S k hk hx
   induction k generalizing T S with
   | zero=>cases hk
   | succ k ihk =>
    simp only [qw] at hk ⊢
    split at hk
    ·
     rename_i T1 S1 h1
     rw [hx _ _ _ h1]
     exact ihk _ _ hk
    ·
     rename_i hne
     rw [hx _ _ _ hk]
     split
     ·
      rename_i T1 S1 he;exact absurd (hk.trans he) (hne T1 S1)
     ·
      rfl
  exact Qz hn (key n T S n hs ih)
 | _=>intro T S r hs;simp only [yM] at hs;cases hs
theorem abw {hps:FuncId→Bool} {hp:Bool} (h:CLe c d):CLe (yE hps hp c) (yE hps hp d):=by
 cases hp with
 | false=>exact h
 | true =>
  intro g a S r hs
  unfold yE at hs ⊢
  dsimp only at hs ⊢
  split at hs
  ·
   rename_i hg;rw [if_pos hg];exact h _ _ _ _ hs
  ·
   rename_i hg
   rw [if_neg hg]
   split at hs <;> first | (cases hs;done) | skip
   rename_i m S1 hf
   split at hs <;> first | (cases hs;done) | skip
   rename_i r0 hr0
   (try rw [hf])
   (try dsimp only)
   rw [h _ _ _ _ hr0]
   exact hs
theorem KX (h:CLe c d) {hp:Bool} {n m:Nat} (hn:n≤m) {fn:Func} {q:Code} {a:List Value} {S:zu} {r:Value×zu} (hs:adR P hp c n fn q a S=some r):adR P hp d m fn q a S=some r:=by
 unfold adR at hs ⊢
 split at hs
 ·
  rename_i T1 S1 hx
  rw [Y0 h hn _ _ _ _ hx];exact hs
 ·
  rename_i T1 S1 hx
  rw [Y0 h hn _ _ _ _ hx];exact hs
 ·
  cases hs
theorem aec:∀ (n m:Nat),n≤m→CLe (vH P O n) (vH P O m):=by
 intro n
 induction n with
 | zero=>intro m _ g a S r h;cases h
 | succ n ih =>
  intro m hm g a S r h
  obtain ⟨m,rfl⟩:∃ k,m=k+1:=⟨m - 1,by omega⟩
  simp only [vH] at h ⊢
  cases ho:O.fn g with
  | some q=>rw [ho] at h;exact h
  | none =>
   rw [ho] at h
   dsimp only at h ⊢
   cases hf:P.funcs[g]? with
   | none=>rw [hf] at h;cases h
   | some fn =>
    rw [hf] at h
    dsimp only at h ⊢
    split at h
    ·
     cases h
    ·
     rename_i hn
     rw [if_neg hn]
     cases hb:fn.body with
     | none=>rw [hb] at h;cases h
     | some q =>
      rw [hb] at h
      dsimp only at h ⊢
      have hc:=abw (hps:=O.hp) (hp:=O.hp g) (ih m (by omega))
      split at h
      ·
       rename_i hpu
       rw [if_pos hpu]
       unfold adC at h ⊢
       split at h <;> first | (cases h;done) | skip
       rename_i hca
       rw [if_pos hca]
       split at h <;> first | (cases h;done) | skip
       rename_i v1 S1 hr
       rw [KX hc (by omega) hr]
       exact h
      ·
       rename_i hpu
       rw [if_neg hpu]
       exact KX hc (by omega) h
theorem aeO {n:Nat} {g:FuncId} {args:List Value} {S:zu} {r:Value×zu} (h:vH P O n g args S=some r):jc P O g args S=some r :=
 X4 ⟨n,fun k hk=>aec n k hk _ _ _ _ h⟩
end
end Go.Abs
namespace Go.Abs
open Go.RowKit
theorem Jq {n:Int} (h:(Lit.int .i64 n).wf=true):-9223372036854775808≤n∧n < 9223372036854775808:=by
 simp [Lit.wf,IntKind.min,IntKind.max,IntKind.signed,IntKind.bits] at h
 omega
def vT (call:FuncId→List Value→M Value) (g:FuncId) (args:List Value):M Value:=fun S=>match xJ args S with
 | some (m,S1)=>match call g m S1 with
  | some r=>some (aaz S S1 args r)
  | none=>none
 | none=>none
theorem YT {x:Value} {S:zu} (h:JH x=false):Z9 x S=some (x,S):=by
 unfold Z9
 split <;> first | rfl | (simp [JH] at h)
theorem Qk:∀ {l:List Value} {S:zu},l.all (fun x=>!JH x)=true→xO l S=some (l,S)
 | [],S,_=>rfl
 | x::l,S,h=>by
  rw [List.all_cons,Bool.and_eq_true] at h
  have h1:JH x=false:=by simpa using h.1
  simp only [xO,YT h1,Qk h.2]
theorem aa1 {x:Value} {S:zu} (h:YN x=false):Yx x S=some (x,S):=by
 unfold Yx
 split
 ·
  rename_i cs
  have h1:cs.toList.all (fun x=>!JH x)=true:=by
   rw [List.all_eq_true]
   intro y hy
   have:cs.toList.any JH=false:=h
   rw [List.any_eq_false] at this
   simpa using this y hy
  rw [Qk h1]
 ·
  rename_i hne
  refine YT ?_
  cases x <;> first | rfl | exact h | (exact absurd rfl (hne _))
theorem WU:∀ {l:List Value} {S:zu},l.all (fun x=>!YN x)=true→xJ l S=some (l,S)
 | [],S,_=>rfl
 | x::l,S,h=>by
  rw [List.all_cons,Bool.and_eq_true] at h
  have h1:YN x=false:=by simpa using h.1
  simp only [xJ,aa1 h1,WU h.2]
theorem ae6 {call:FuncId→List Value→M Value} {g:FuncId} {args:List Value} {S:zu} (h:args.all (fun x=>!YN x)=true):vT call g args S=call g args S:=by
 have hn:args.any YN=false:=by
  rw [List.any_eq_false];intro x hx
  have:=List.all_eq_true.1 h x hx
  simpa using this
 unfold vT;rw [WU h]
 dsimp only
 cases call g args S with
 | none=>rfl
 | some r=>dsimp only;rw [aaz,hn];rfl
end Go.Abs
namespace Go.Abs
open Go.RowKit
section
variable {P:Program} {μ μ1:Mu} {S S1 H H1:zu} {ω ω1:Nat→Option yR}
structure Ext (S S1:zu):Prop where
 next:S.next≤S1.next
 get:∀ k,k < S.next→S1.get k=S.get k
 log:∃ new,S1.log=new++S.log∧∀ k ∈ new,S.next≤k
theorem Ext.refl (S:zu):Ext S S:=⟨Nat.le_refl _,fun _ _=>rfl,[],rfl,fun k h=>by cases h⟩
theorem Ext.trans {S2:zu} (h:Ext S S1) (k:Ext S1 S2):Ext S S2:=⟨Nat.le_trans h.1 k.1,fun q hq=>(k.2 q (Nat.lt_of_lt_of_le hq h.1)).trans (h.2 q hq),by
 obtain ⟨n1,e1,f1⟩:=h.log
 obtain ⟨n2,e2,f2⟩:=k.log
 refine ⟨n2++n1,by rw [e2,e1,List.append_assoc],fun q hq=>?_⟩
 rcases List.mem_append.1 hq with hq | hq
 ·
  exact Nat.le_trans h.1 (f2 q hq)
 ·
  exact f1 q hq⟩
theorem Ext.push (S:zu) (o:qg):Ext S (S.push o):=⟨by simp,fun k hk=>by rw [zu.jE,if_neg (by omega)],[],rfl,fun k h=>by cases h⟩
theorem Ext.set {S S1:zu} (h:Ext S S1) {r:Nat} (hr:S.next≤r) (o:qg):Ext S (S1.set r o):=⟨by simpa using h.1,fun k hk=>by rw [zu.jU,if_neg (by omega)];exact h.2 k hk,by
 obtain ⟨n1,e1,f1⟩:=h.log
 refine ⟨r::n1,by rw [zu.QC,e1];rfl,fun q hq=>?_⟩
 rcases List.mem_cons.1 hq with rfl | hq
 ·
  exact hr
 ·
  exact f1 q hq⟩
inductive Lower (S:zu) (v1:Value) (S1:zu):Value→Prop
 | same (h:ground v1=true):Lower S v1 S1 v1
 | own {r n e:Nat} {cs:List Value} (hv:v1=.slice (some ⟨r,0,none⟩) n n) (hr:S.next≤r) (hg:S1.get r=some (.cells cs (.own []) e)) (hn:cs.length=n * e) (hs:cs.all sg=true):Lower S v1 S1 (SL 2 e n cs)
end
end Go.Abs
namespace Go.Abs
open Go.RowKit
section
variable {P:Program} {S:zu} {t te tx tex:TypeId} {q o n c e i r:Nat} {cs:List Value} {own:Own} {anc:List Nat} {v x:Value} {hp:Bool}
theorem Wx (h:S.get q=some (.cells cs own e)) (ha:qH P t=some false) (hv:cs[o]?=some v) (hn:∀ l,v≠.agg l):zQ P false t (.pointer (some ⟨q,o,none⟩)) S=some (dem v,S):=by
 unfold zQ
 simp only [Bool.false_eq_true,if_false]
 have:qj P t (.pointer (some ⟨q,o,none⟩)) S=some (v,S):=by simp only [qj,h,ha,hv]
 rw [this]
 split
 ·
  rename_i l S2 he;cases he;exact absurd rfl (hn _)
 ·
  rename_i v2 S2 _ he;cases he;rfl
 ·
  rename_i he;cases he
theorem yT {k:IntKind} {m:Int} (h:S.get q=some (.cells cs own e)) (ha:qH P t=some false) (hv:cs[o]?=some (.int k m)):zQ P false t (.pointer (some ⟨q,o,none⟩)) S=some (.int k m,S) :=
 Wx h ha hv (fun l h=>by cases h)
theorem af7 {a:Option Addr} {n c:Nat} (h:S.get q=some (.cells cs own e)) (ha:qH P t=some false) (hv:cs[o]?=some (.slice a n c)):zQ P false t (.pointer (some ⟨q,o,none⟩)) S=some (.slice a n c,S) :=
 Wx h ha hv (fun l h=>by cases h)
theorem ZC (h:S.get q=some (.cells cs own e)) (ha:qH P t=some true) (hs:kN P t=some n) (hle:o+n≤cs.length):zQ P false t (.pointer (some ⟨q,o,none⟩)) S=some (.agg (((cs.drop o).take n).toArray.map qM),S):=by
 unfold zQ
 simp only [Bool.false_eq_true,if_false]
 have:qj P t (.pointer (some ⟨q,o,none⟩)) S=some (.agg ((cs.drop o).take n).toArray,S):=by simp only [qj,h,ha,hs,if_pos hle]
 rw [this]
theorem qo (h:S.get q=some (.cells cs (.own anc) e)) (hs:kN P t=some n) (hx:x.cells.size=n) (h1:x.cells.toList.all (·.oneCell')=true) (hle:o+n≤cs.length) :
  wo P t (.pointer (some ⟨q,o,none⟩)) x S=some (zh,(S.kills anc).set q (.cells (splice cs o x.cells.toList) (.own []) e)):=by
 simp only [wo,ZQ,h,hs,if_pos hx,if_pos h1,if_pos hle]
theorem agq {k:IntKind} {j:Int} {sz:Nat} (ht:P.underlying t=some (.slice te)) (hs:kN P te=some sz) (h0:0≤j) (hj:j < n):jw P t (.slice (some ⟨q,o,none⟩) n c) (.int k j) S=some (.pointer (some ⟨q,o+j.toNat * sz,none⟩),S):=by
 simp only [jw,wB,ht,hs]
 rw [if_pos ⟨h0,hj⟩]
theorem agf (ht:P.underlying t=some (.slice te)) (a:Option Addr) (n c:Nat) (S:zu):ZO P t (.slice a n c) S=some (goInt n,S):=by
 simp only [ZO,Xt,ht]
theorem agc {k m:Nat} {ds:List Value} (htx:P.underlying tx=some (.slice tex)) (hx:Okv k m ds) (hm:ds.length=m * e) (h2:ds.all (·.oneCell')=true):agD P tx e (sv k e m ds)=some (m,ds):=by
 obtain ⟨e',q1,q2⟩:=aar (e:=e) hx
 have hns:∀ s,sv k e m ds≠.string s:=by intro s;unfold sv;split <;> (intro h;cases h)
 have hcond:m=0∨e'=e:=q2.elim .inr fun h=>.inl h.1
 unfold agD
 split
 ·
  rename_i s hs;exact absurd hs (hns s)
 ·
  simp only [htx,q1,if_pos hcond,if_pos hm,h2,if_true]
theorem aeX {k m:Nat} {ds:List Value} (htx:P.underlying tx=some (.slice tex)) (hx:Okv k m ds) (hm:ds.length=m * e) (h2:ds.all (·.oneCell')=true):YD P tx e (sv k e m ds) S=some (m,ds):=by
 unfold YD
 rw [Yh]
 exact agc htx hx hm h2
theorem Qi {bytes k:Nat} {z:Value} {news:List Value} (hel:P.underlying t=some (.slice te)) (he:kN P te=some e) (hz:zeroOf P te=some z) (hzs:z.cells.size=e) (hb:bytesOf P te=some bytes) (hpos:0 < e) (hsrc:YD P tx e x S=some (k,news))
  (hg:S.get q=some (.cells cs (.own anc) e)) (hle:o+n * e≤cs.length) (hmax:(n+k) * bytes≤140737488355328) (hmax2:n+k≤4611686018427387903) (h1:((cs.drop o).take (n * e)).all (·.oneCell')=true) :
  qF P hp t tx (.slice (some ⟨q,o,none⟩) n c) x S=some (.slice (some ⟨S.next,0,none⟩) (n+k) (n+k),
   if o+n * e=cs.length then (S.set q (.cells cs .ro e)).push (.cells ((cs.drop o).take (n * e)++news) (.own (if n * e=0 then [] else q::anc)) e)
   else ((S.kills anc).set q .dead).push (.cells ((cs.drop o).take (n * e)++news) (.own []) e)):=by
 have hel2:qh P t=some te:=by simp only [qh,hel]
 simp only [qF,hel2,he,hz,hb,if_pos hpos,if_pos hzs,hsrc,hg,if_true,if_pos hle,if_pos hmax,if_pos hmax2,if_pos h1,qP]
 by_cases h:o+n * e=cs.length
 ·
  rw [if_pos h,if_pos h]
 ·
  rw [if_neg h,if_neg h]
theorem aaD {bytes k:Nat} {z:Value} {news:List Value} (hel:P.underlying t=some (.slice te)) (he:kN P te=some e) (hz:zeroOf P te=some z) (hzs:z.cells.size=e) (hb:bytesOf P te=some bytes) (hpos:0 < e) (hsrc:YD P tx e x S=some (k,news))
  (hmax:k * bytes≤140737488355328) (hmax2:k≤4611686018427387903) :
  qF P true t tx (.slice none 0 0) x S=some (if k=0 then .slice none 0 0 else .slice (some ⟨S.next,0,none⟩) k k,if k=0 then S else S.push (.cells news (.own []) e)):=by
 have hel2:qh P t=some te:=by simp only [qh,hel]
 simp only [qF,hel2,he,hz,hb,if_pos hpos,if_pos hzs,hsrc,if_pos hmax,if_pos hmax2,if_true]
 by_cases h:k=0
 ·
  rw [if_pos h,if_pos h,if_pos h]
 ·
  rw [if_neg h,if_neg h,if_neg h]
end
theorem ZF {α:Type} {f:α→List Value} {e k d:Nat} {l:List α} (hk:k≤2) (h:∀ x ∈ l,(f x).all (jg d)=true):jg (d+4) (vs f e k l)=true:=by
 unfold vs sv
 split
 ·
  rfl
 ·
  show ((l.flatMap f).toArray.toList.all (jg d))=true
  rw [List.toList_toArray,List.all_flatMap,List.all_eq_true]
  exact h
theorem WI {k d:Nat} {l:List UInt8} (hk:k≤2):jg (d+5) (by_ k l)=true:=ZF hk (fun _ _=>rfl)
theorem XE {l:List Value} {d:Nat} (h:l.all (jg d)=true):jg (d+1) (.agg l.toArray)=true:=by
 show l.toArray.toList.all (jg d)=true
 simpa using h
theorem vP {l:List Value} {d:Nat} (h:l.all (jg d)=true):jg (d+1) (.tuple l.toArray)=true:=by
 show l.toArray.toList.all (jg d)=true
 simpa using h
theorem all1 {p:Value→Bool} {a:Value} (h:p a=true):[a].all p=true:=by simp [h]
theorem all2 {p:Value→Bool} {a b:Value} (h:p a=true) (k:p b=true):[a,b].all p=true:=by simp [h,k]
theorem aeC {k e n:Nat} {cs:List Value}:(sv k e n cs).cells=#[sv k e n cs]:=by unfold sv;split <;> rfl
theorem QE {α:Type} {f:α→List Value} {e k:Nat} {l:List α}:(vs f e k l).cells=#[vs f e k l]:=aeC
theorem ags {k e n:Nat} {cs:List Value}:qM (sv k e n cs)=sv (if k=2 then 1 else k) e n cs:=by rw [← V5];unfold sv;split <;> rfl
theorem Vt {α:Type} {f:α→List Value} {e k:Nat} {l:List α}:qM (vs f e k l)=vs f e (if k=2 then 1 else k) l:=ags
theorem kS {k:IntKind} {n:Int}:qM (.int k n)=.int k n:=rfl
theorem yV {x:Array Value}:(Value.agg x).cells=x:=rfl
@[simp] theorem XK (a:Option Addr) (n c:Nat):dem (.slice a n c)=.slice a n c:=Eq.trans rfl rfl
@[simp] theorem acF (a:Option Nat):dem (.map a)=.map a:=Eq.trans rfl rfl
theorem wrap_i64 {n:Int} (h0:-9223372036854775808≤n) (h:n < 9223372036854775808):IntKind.i64.wrap n=n:=by
 simp [IntKind.wrap,IntKind.bits,IntKind.signed]
 split <;> omega
theorem abI {l pre suf:List Int} {n:Int} (hl:l=pre++n::suf) (h:Int.toNat (pre.length:Int) < l.length):l[Int.toNat (pre.length:Int)]=n:=by
 subst hl;simp
theorem afJ {α:Type} {l pre suf:List α} {n:α} (hl:l=pre++n::suf) (h:Int.toNat (pre.length:Int) < l.length):l[Int.toNat (pre.length:Int)]=n:=by
 subst hl;simp
theorem J8 (Sa Sb:zu):kZ zh Sa Sb=true:=rfl
theorem Xe (cs:List Value) (Sa Sb:zu):kZ (EP cs) Sa Sb=true:=rfl
theorem qy {q o e:Nat} {cs:List Value} {own:Own} {S:zu} (h:S.get q=some (.cells cs own e)):kZ (.pointer (some ⟨q,o,none⟩)) S S=true:=by
 simp only [kZ,h,Nat.sub_self,List.take_zero,List.contains_nil,Bool.not_false,Bool.and_self]
end Go.Abs
namespace Go.Abs
open Go.RowKit
section
variable {P:Program} {fx:Fx} {chk:List Nat} {call:FuncId→List Value→M Value} {ops:Array Oper}
theorem sP (f:Func) (i n:Nat) {l:List Oper} {T:List Value} {T1:Value→List Value} {S:zu} {v:Value} {r:Option (List Value×zu)} (hK:jI P fx call ops ((reg f i).toList.drop (n+1)) (T1 v) S=r) (hl:l=(opAt f i n)::((reg f i).toList.drop (n+1)):=by kernel_rfl) (hg:(opAt f i n).guard=none:=by kernel_rfl) (hm:∀ v,vJ (opAt f i n) ((reg f i).toList.drop (n+1)) T v=T1 v:=by exact fun _=>rfl) (hs:yu P fx call T (opAt f i n) S=some (v,S):=by kernel_rfl):jI P fx call ops l T S=r :=
 adK hl hg hm hs hK
theorem sD (f:Func) (i n:Nat) {l:List Oper} {T:List Value} {T1:Value→List Value} {S:zu} {s:Option (Value×zu)} {K:Value→zu→Option (List Value×zu)} (hK:∀ v S1,jI P fx call ops ((reg f i).toList.drop (n+1)) (T1 v) S1=K v S1) (hl:l=(opAt f i n)::((reg f i).toList.drop (n+1)):=by kernel_rfl) (hg:(opAt f i n).guard=none:=by kernel_rfl) (hm:∀ v,vJ (opAt f i n) ((reg f i).toList.drop (n+1)) T v=T1 v:=by exact fun _=>rfl) (hs:yu P fx call T (opAt f i n) S=s:=by kernel_rfl):jI P fx call ops l T S=zN s K () :=
 agd hl hg hm hs hK
theorem sG (f:Func) (i n:Nat) {l:List Oper} {T:List Value} {T1:Value→List Value} {S:zu} {j:Nat} {b:Bool} {g:Value} {s:M Value} {K:Value→zu→Option (List Value×zu)} (hK:∀ v S1,jI P fx call ops ((reg f i).toList.drop (n+1)) (T1 v) S1=K v S1) (hl:l=(opAt f i n)::((reg f i).toList.drop (n+1)):=by kernel_rfl) (hg:(opAt f i n).guard=some (j,b):=by kernel_rfl) (hm:∀ v,vJ (opAt f i n) ((reg f i).toList.drop (n+1)) T v=T1 v:=by exact fun _=>rfl) (hy:ynd ops T j=vb g:=by kernel_rfl) (hs:yu P fx call T (opAt f i n) S=s S:=by kernel_rfl):jI P fx call ops l T S=gdK g b s S K () :=
 aga hl hg hm hy hs hK
theorem tD (f:Func) (i n:Nat) {l:List Oper} {T:List Value} {T1:Value→List Value} {S:zu} {k:Nat} {s:Option (Value×zu)} {K:Value→zu→Option (List Value×zu)} (hK:∀ v S1,wu P fx chk [] call ops (k+1) [] ((reg f i).toList.drop (n+1)) (T1 v) S1=K v S1) (hc:chk.contains k=false:=by kernel_rfl) (hl:l=(opAt f i n)::((reg f i).toList.drop (n+1)):=by kernel_rfl) (hg:(opAt f i n).guard=none:=by kernel_rfl) (hm:∀ v,vJ (opAt f i n) ((reg f i).toList.drop (n+1)) T v=T1 v:=by exact fun _=>rfl) (hs:yu P fx call T (opAt f i n) S=s:=by kernel_rfl):wu P fx chk [] call ops k [] l T S=zN s K () :=
 aex hc hl hg hm hs hK
theorem tP (f:Func) (i n:Nat) {l:List Oper} {T:List Value} {T1:Value→List Value} {S:zu} {k:Nat} {v:Value} {r:Option (List Value×zu)} (hK:wu P fx chk [] call ops (k+1) [] ((reg f i).toList.drop (n+1)) (T1 v) S=r) (hc:chk.contains k=false:=by kernel_rfl) (hl:l=(opAt f i n)::((reg f i).toList.drop (n+1)):=by kernel_rfl) (hg:(opAt f i n).guard=none:=by kernel_rfl) (hm:∀ v,vJ (opAt f i n) ((reg f i).toList.drop (n+1)) T v=T1 v:=by exact fun _=>rfl) (hs:yu P fx call T (opAt f i n) S=some (v,S):=by kernel_rfl):wu P fx chk [] call ops k [] l T S=r :=
 aaQ hc hl hg hm hs hK
theorem tG (f:Func) (i n:Nat) {l:List Oper} {T:List Value} {T1:Value→List Value} {S:zu} {j k:Nat} {b:Bool} {g:Value} {s:M Value} {K:Value→zu→Option (List Value×zu)} (hK:∀ v S1,wu P fx chk [] call ops (k+1) [] ((reg f i).toList.drop (n+1)) (T1 v) S1=K v S1) (hc:chk.contains k=false:=by kernel_rfl) (hl:l=(opAt f i n)::((reg f i).toList.drop (n+1)):=by kernel_rfl) (hg:(opAt f i n).guard=some (j,b):=by kernel_rfl) (hm:∀ v,vJ (opAt f i n) ((reg f i).toList.drop (n+1)) T v=T1 v:=by exact fun _=>rfl) (hy:ynd ops T j=vb g:=by kernel_rfl) (hs:yu P fx call T (opAt f i n) S=s S:=by kernel_rfl):wu P fx chk [] call ops k [] l T S=gdK g b s S K () :=
 adZ hc hl hg hm hy hs hK
theorem tGC (f:Func) (i n:Nat) {l:List Oper} {T:List Value} {T1:Value→List Value} {S:zu} {j k:Nat} {b:Bool} {g:Value} {s:M Value} {K:Value→zu→Option (List Value×zu)} (hK:∀ v S1,wu P fx chk [] call ops (k+1) [] ((reg f i).toList.drop (n+1)) (T1 v) S1=K v S1) (hc:chk.contains k=true:=by kernel_rfl) (hl:l=(opAt f i n)::((reg f i).toList.drop (n+1)):=by kernel_rfl) (hg:(opAt f i n).guard=some (j,b):=by kernel_rfl) (hm:∀ v,vJ (opAt f i n) ((reg f i).toList.drop (n+1)) T v=T1 v:=by exact fun _=>rfl) (hy:ynd ops T j=vb g:=by kernel_rfl) (hs:yu P fx call T (opAt f i n) S=s S:=by kernel_rfl):wu P fx chk [] call ops k [] l T S=XY g b s S K () :=
 acW hc hl hg hm hy hs hK
theorem uD (f:Func) (i n:Nat) {l:List Oper} {T:List Value} {T1:Value→List Value} {S:zu} {k:Nat} {s:Option (Value×zu)} {K:Value→zu→Option (List Value×zu)} {x:Nat×Nat} {nl:List (Nat×Nat)} {hist:List (Value×zu)} {pe:Value} (hK:∀ v S1,wu P fx chk (x::nl) call ops (k+1) (hist++[(pe,S)]) ((reg f i).toList.drop (n+1)) (T1 v) S1=K v S1) (hc:chk.contains k=false:=by kernel_rfl) (hpe:xX T (opAt f i n)=pe:=by kernel_rfl) (hl:l=(opAt f i n)::((reg f i).toList.drop (n+1)):=by kernel_rfl) (hg:(opAt f i n).guard=none:=by kernel_rfl) (hm:∀ v,vJ (opAt f i n) ((reg f i).toList.drop (n+1)) T v=T1 v:=by exact fun _=>rfl) (hs:yu P fx call T (opAt f i n) S=s:=by kernel_rfl):wu P fx chk (x::nl) call ops k hist l T S=zN s K () :=
 aeB hc hpe hl hg hm hs hK
theorem uDC (f:Func) (i n:Nat) {l:List Oper} {T:List Value} {T1:Value→List Value} {S:zu} {k:Nat} {s:Option (Value×zu)} {K:Value→zu→Option (List Value×zu)} {x:Nat×Nat} {nl:List (Nat×Nat)} {hist:List (Value×zu)} {pe:Value} (hK:∀ v S1,wu P fx chk (x::nl) call ops (k+1) (hist++[(pe,S)]) ((reg f i).toList.drop (n+1)) (T1 v) S1=K v S1) (hc:chk.contains k=true:=by kernel_rfl) (hpe:xX T (opAt f i n)=pe:=by kernel_rfl) (hl:l=(opAt f i n)::((reg f i).toList.drop (n+1)):=by kernel_rfl) (hg:(opAt f i n).guard=none:=by kernel_rfl) (hm:∀ v,vJ (opAt f i n) ((reg f i).toList.drop (n+1)) T v=T1 v:=by exact fun _=>rfl) (hs:yu P fx call T (opAt f i n) S=s:=by kernel_rfl):wu P fx chk (x::nl) call ops k hist l T S=zN s (fun v S1=>okK v (K v S1) ()) () :=
 adJ hc hpe hl hg hm hs hK
theorem uP (f:Func) (i n:Nat) {l:List Oper} {T:List Value} {T1:Value→List Value} {S:zu} {k:Nat} {v:Value} {r:Option (List Value×zu)} {x:Nat×Nat} {nl:List (Nat×Nat)} {hist:List (Value×zu)} {pe:Value} (hK:wu P fx chk (x::nl) call ops (k+1) (hist++[(pe,S)]) ((reg f i).toList.drop (n+1)) (T1 v) S=r) (hc:chk.contains k=false:=by kernel_rfl) (hpe:xX T (opAt f i n)=pe:=by kernel_rfl) (hl:l=(opAt f i n)::((reg f i).toList.drop (n+1)):=by kernel_rfl) (hg:(opAt f i n).guard=none:=by kernel_rfl) (hm:∀ v,vJ (opAt f i n) ((reg f i).toList.drop (n+1)) T v=T1 v:=by exact fun _=>rfl) (hs:yu P fx call T (opAt f i n) S=some (v,S):=by kernel_rfl):wu P fx chk (x::nl) call ops k hist l T S=r :=
 aa0 hc hpe hl hg hm hs hK
theorem uG (f:Func) (i n:Nat) {l:List Oper} {T:List Value} {T1:Value→List Value} {S:zu} {j k:Nat} {b:Bool} {g:Value} {s:M Value} {K:Value→zu→Option (List Value×zu)} {x:Nat×Nat} {nl:List (Nat×Nat)} {hist:List (Value×zu)} {pe:Value} (hK:∀ v S1,wu P fx chk (x::nl) call ops (k+1) (hist++[(pe,S)]) ((reg f i).toList.drop (n+1)) (T1 v) S1=K v S1) (hc:chk.contains k=false:=by kernel_rfl) (hpe:xX T (opAt f i n)=pe:=by kernel_rfl) (hl:l=(opAt f i n)::((reg f i).toList.drop (n+1)):=by kernel_rfl) (hg:(opAt f i n).guard=some (j,b):=by kernel_rfl) (hm:∀ v,vJ (opAt f i n) ((reg f i).toList.drop (n+1)) T v=T1 v:=by exact fun _=>rfl) (hy:ynd ops T j=vb g:=by kernel_rfl) (hs:yu P fx call T (opAt f i n) S=s S:=by kernel_rfl):wu P fx chk (x::nl) call ops k hist l T S=gdK g b s S K () :=
 ae0 hc hpe hl hg hm hy hs hK
theorem uGC (f:Func) (i n:Nat) {l:List Oper} {T:List Value} {T1:Value→List Value} {S:zu} {j k:Nat} {b:Bool} {g:Value} {s:M Value} {K:Value→zu→Option (List Value×zu)} {x:Nat×Nat} {nl:List (Nat×Nat)} {hist:List (Value×zu)} {pe:Value} (hK:∀ v S1,wu P fx chk (x::nl) call ops (k+1) (hist++[(pe,S)]) ((reg f i).toList.drop (n+1)) (T1 v) S1=K v S1) (hc:chk.contains k=true:=by kernel_rfl) (hpe:xX T (opAt f i n)=pe:=by kernel_rfl) (hl:l=(opAt f i n)::((reg f i).toList.drop (n+1)):=by kernel_rfl) (hg:(opAt f i n).guard=some (j,b):=by kernel_rfl) (hm:∀ v,vJ (opAt f i n) ((reg f i).toList.drop (n+1)) T v=T1 v:=by exact fun _=>rfl) (hy:ynd ops T j=vb g:=by kernel_rfl) (hs:yu P fx call T (opAt f i n) S=s S:=by kernel_rfl):wu P fx chk (x::nl) call ops k hist l T S=XY g b s S K () :=
 acw hc hpe hl hg hm hy hs hK
end
end Go.Abs
namespace Go.Proofs.Ytbgcphbbchndkaa
open Go.Abs
def O:Ora:=⟨fun _=>none,fun f=>([8,20,49,63]:List Nat).contains f,fun f=>([9,10,11,12,13,14,15,18,19,21,25,29,30,31,33,34,37,38,39,40,41,43,44,45,46,47,52,53,56,61,64,65,66]:List Nat).contains f⟩
theorem ahf:acS zi O:=aeG
end Go.Proofs.Ytbgcphbbchndkaa
namespace Go.Proofs.Ytbgcphbbchndkaa
open Go.Abs
noncomputable def zx.jS:Code:=(.seq (.region 10 (reg Try.f8 10) false) (.seq (.cond (.tmp 50) Code.skip (.exit 0)) (.seq (.block 1 (.seq (.region 11 (reg Try.f8 11) false) (.region 12 (reg Try.f8 12) false))) (.region 13 (reg Try.f8 13) false))))
noncomputable def zx.code:Code:=(.seq (.region 0 (reg Try.f8 0) false) (.seq (.seq (.region 1 (reg Try.f8 1) false) (.cond (.tmp 13) (.seq (.region 2 (reg Try.f8 2) false) Code.ret) Code.skip)) (.seq (.region 3 (reg Try.f8 3) false) (.seq (.region 4 (reg Try.f8 4) false) (.seq (.seq (.region 5 (reg Try.f8 5) true) (.cond (.tmp 40) (.seq (.region 6 (reg Try.f8 6) false) Code.ret) Code.skip)) (.seq (.region 7 (reg Try.f8 7) false) (.seq (.region 8 (reg Try.f8 8) false) (.seq (.seq (.region 9 (reg Try.f8 9) false) (.block 0 (.loop zx.jS))) (.seq (.region 14 (reg Try.f8 14) false) Code.ret)))))))))
theorem zx.body:Try.f8.body=some zx.code:=by kernel_rfl
theorem zx.eta {T:List Value} (h:T.length=66):T=[T.getD 0 zh,T.getD 1 zh,T.getD 2 zh,T.getD 3 zh,T.getD 4 zh,T.getD 5 zh,T.getD 6 zh,T.getD 7 zh,T.getD 8 zh,T.getD 9 zh,T.getD 10 zh,T.getD 11 zh,T.getD 12 zh,T.getD 13 zh,T.getD 14 zh,T.getD 15 zh,T.getD 16 zh,T.getD 17 zh,T.getD 18 zh,T.getD 19 zh,T.getD 20 zh,T.getD 21 zh,T.getD 22 zh,T.getD 23 zh,T.getD 24 zh,T.getD 25 zh,T.getD 26 zh,T.getD 27 zh,T.getD 28 zh,T.getD 29 zh,T.getD 30 zh,T.getD 31 zh,T.getD 32 zh,T.getD 33 zh,T.getD 34 zh,T.getD 35 zh,T.getD 36 zh,T.getD 37 zh,T.getD 38 zh,T.getD 39 zh,T.getD 40 zh,T.getD 41 zh,T.getD 42 zh,T.getD 43 zh,T.getD 44 zh,T.getD 45 zh,T.getD 46 zh,T.getD 47 zh,T.getD 48 zh,T.getD 49 zh,T.getD 50 zh,T.getD 51 zh,T.getD 52 zh,T.getD 53 zh,T.getD 54 zh,T.getD 55 zh,T.getD 56 zh,T.getD 57 zh,T.getD 58 zh,T.getD 59 zh,T.getD 60 zh,T.getD 61 zh,T.getD 62 zh,T.getD 63 zh,T.getD 64 zh,T.getD 65 zh]:=(kK T 66 h).trans (by kernel_rfl)
variable (x0 x1 x2 x3 x4 x5 x6 x7 x8 x9 d b g i k l m n o p q r s t u w x y z A B C D E F G H I J K L M N P Q R U V f c W X Y Z a0 a1 a2 a3 a4 a5 a6 a7 a8 a9 b0 b1:Value) (S:zu)
theorem zx.r0 :jI zi ⟨true,false,false⟩ (yE O.hp true (jc zi O)) (reg Try.f8 0) (reg Try.f8 0).toList ([x0,x1,x2,x3,x4,x5,x6,x7,x8,x9,d,b,g,i,k,l,m,n,o,p,q,r,s,t,u,w,x,y,z,A,B,C,D,E,F,G,H,I,J,K,L,M,N,P,Q,R,U,V,f,c,W,X,Y,Z,a0,a1,a2,a3,a4,a5,a6,a7,a8,a9,b0,b1]) S =
  (zN (Zk (dem x0) S) (fun v0 S1=>zN (Zk (dem x1) S1) (fun v1 S2=>some ([x0,x1,v0,v1,Value.bool false,x5,x6,x7,x8,x9,d,b,g,i,k,l,m,n,o,p,q,r,s,t,u,w,x,y,z,A,B,C,D,E,F,G,H,I,J,K,L,M,N,P,Q,R,U,V,f,c,W,X,Y,Z,a0,a1,a2,a3,a4,a5,a6,a7,a8,a9,b0,b1],S2)) ()) ()):=by
 kernel_rfl
theorem zx.r1 :jI zi ⟨true,false,false⟩ (yE O.hp true (jc zi O)) (reg Try.f8 1) (reg Try.f8 1).toList ([x0,x1,x2,x3,x4,x5,x6,x7,x8,x9,d,b,g,i,k,l,m,n,o,p,q,r,s,t,u,w,x,y,z,A,B,C,D,E,F,G,H,I,J,K,L,M,N,P,Q,R,U,V,f,c,W,X,Y,Z,a0,a1,a2,a3,a4,a5,a6,a7,a8,a9,b0,b1]) S =
  (zN (vT (jc zi O) 9 [] S) (fun v0 S1=>zN (aUn zi UnOp.not v0 S1) (fun v1 S2=>some ([x0,x1,x2,x3,x4,x5,x6,x7,x8,x9,d,b,v0,v1,k,l,m,n,o,p,q,r,s,t,u,w,x,y,z,A,B,C,D,E,F,G,H,I,J,K,L,M,N,P,Q,R,U,V,f,c,W,X,Y,Z,a0,a1,a2,a3,a4,a5,a6,a7,a8,a9,b0,b1],S2)) ()) ()):=by
 kernel_rfl
theorem zx.r2 :jI zi ⟨true,false,false⟩ (yE O.hp true (jc zi O)) (reg Try.f8 2) (reg Try.f8 2).toList ([x0,x1,x2,x3,x4,x5,x6,x7,x8,x9,d,b,g,i,k,l,m,n,o,p,q,r,s,t,u,w,x,y,z,A,B,C,D,E,F,G,H,I,J,K,L,M,N,P,Q,R,U,V,f,c,W,X,Y,Z,a0,a1,a2,a3,a4,a5,a6,a7,a8,a9,b0,b1]) S =
  ( some ([x0,x1,x2,x3,Value.bool false,x5,x6,x7,x8,x9,d,b,g,i,k,l,m,n,o,p,q,r,s,t,u,w,x,y,z,A,B,C,D,E,F,G,H,I,J,K,L,M,N,P,Q,R,U,V,f,c,W,X,Y,Z,a0,a1,a2,a3,a4,a5,a6,a7,a8,a9,b0,b1],S)):=by
 kernel_rfl
theorem zx.r3 :jI zi ⟨true,false,false⟩ (yE O.hp true (jc zi O)) (reg Try.f8 3) (reg Try.f8 3).toList ([x0,x1,x2,x3,x4,x5,x6,x7,x8,x9,d,b,g,i,k,l,m,n,o,p,q,r,s,t,u,w,x,y,z,A,B,C,D,E,F,G,H,I,J,K,L,M,N,P,Q,R,U,V,f,c,W,X,Y,Z,a0,a1,a2,a3,a4,a5,a6,a7,a8,a9,b0,b1]) S =
  (zN (zQ zi false 30 x2 S) (fun v0 S1=>zN (vT (jc zi O) 13 [(dem v0)] S1) (fun v1 S2=>zN (zS v1 0 S2) (fun v3 S3=>zN (zS (jD 0 v1) 1 S3) (fun v4 S4=>some ([x0,x1,x2,x3,x4,v3,v4,x7,x8,x9,d,b,g,i,jD 1 (jD 0 v1),v0,dem v1,dem v3,dem v4,p,q,r,s,t,u,w,x,y,z,A,B,C,D,E,F,G,H,I,J,K,L,M,N,P,Q,R,U,V,f,c,W,X,Y,Z,a0,a1,a2,a3,a4,a5,a6,a7,a8,a9,b0,b1],S4)) ()) ()) ()) ()):=by
 kernel_rfl
theorem zx.r4 :jI zi ⟨true,false,false⟩ (yE O.hp true (jc zi O)) (reg Try.f8 4) (reg Try.f8 4).toList ([x0,x1,x2,x3,x4,x5,x6,x7,x8,x9,d,b,g,i,k,l,m,n,o,p,q,r,s,t,u,w,x,y,z,A,B,C,D,E,F,G,H,I,J,K,L,M,N,P,Q,R,U,V,f,c,W,X,Y,Z,a0,a1,a2,a3,a4,a5,a6,a7,a8,a9,b0,b1]) S =
  (zN (zQ zi false 30 x3 S) (fun v0 S1=>zN (vT (jc zi O) 13 [(dem v0)] S1) (fun v1 S2=>zN (zS v1 0 S2) (fun v3 S3=>zN (zS (jD 0 v1) 1 S3) (fun v4 S4=>some ([x0,x1,x2,x3,x4,x5,x6,v3,v4,x9,d,b,g,i,k,l,m,n,o,jD 1 (jD 0 v1),v0,dem v1,dem v3,dem v4,u,w,x,y,z,A,B,C,D,E,F,G,H,I,J,K,L,M,N,P,Q,R,U,V,f,c,W,X,Y,Z,a0,a1,a2,a3,a4,a5,a6,a7,a8,a9,b0,b1],S4)) ()) ()) ()) ()):=by
 kernel_rfl
theorem zx.d5:kY zi (reg Try.f8 5)=true:=by kernel_rfl
theorem zx.ff5:fixed zi (reg Try.f8 5)=false:=by kernel_rfl
theorem zx.k5:checked zi (reg Try.f8 5)=[7,8,9,10,11]:=by kernel_rfl
theorem zx.g5:again zi (reg Try.f8 5)=[]:=by kernel_rfl
theorem zx.r5 :zD zi O true (.region 5 (reg Try.f8 5) true) ([x0,x1,x2,x3,x4,x5,x6,x7,x8,x9,d,b,g,i,k,l,m,n,o,p,q,r,s,t,u,w,x,y,z,A,B,C,D,E,F,G,H,I,J,K,L,M,N,P,Q,R,U,V,f,c,W,X,Y,Z,a0,a1,a2,a3,a4,a5,a6,a7,a8,a9,b0,b1]) S =
  KZ (zN (jY zi BinOp.eql 31 (dem x6) (.int .i64 0) S) (fun v1 S1=>gdK (dem v1) true (ret x8) S1 (fun v3 S2=>gdK (dem v1) true (jY zi BinOp.eql 31 (dem v3) (.int .i64 0)) S2 (fun v4 S3=>zN (yj (dem v1) v4 (Value.bool false) S3) (fun v5 S4=>XY (dem v5) true (ret x5) S4 (fun v7 S5=>XY (dem v5) true (qG zi true true 23 9 (dem v7)) S5 (fun v8 S6=>XY (dem v5) true (ret x7) S6 (fun v9 S7=>XY (dem v5) true (qG zi true true 23 9 (dem v9)) S7 (fun b2 S8=>XY (dem v5) true (jY zi BinOp.eql 9 v8 b2) S8 (fun b4 S9=>gdK (dem v5) true (zQ zi false 30 x2) S9 (fun b5 b3=>gdK (dem v5) true (zQ zi false 30 x3) b3 (fun b6 b9=>gdK (dem v5) true (vT (jc zi O) 15 [(dem b5),(dem b6)]) b9 (fun b7 c0=>gdK (dem v5) true (jY zi BinOp.neq 4 b4 b7) c0 (fun b8 c1=>zN (yj (dem v5) b8 (Value.bool false) c1) (fun c2 c3=>some ([x0,x1,x2,x3,x4,x5,x6,x7,x8,x9,d,b,g,i,k,l,m,n,o,p,q,r,s,t,dem x6,v1,dem v1,dem v3,v4,v5,dem v5,dem v7,v8,dem v9,b2,b4,b5,b6,b7,b8,c2,M,N,P,Q,R,U,V,f,c,W,X,Y,Z,a0,a1,a2,a3,a4,a5,a6,a7,a8,a9,b0,b1],c3)) ()) ()) ()) ()) ()) ()) ()) ()) ()) ()) ()) ()) ()) ()):=by
 rw [KA zx.d5 zx.ff5 zx.k5 zx.g5]
 refine congrArg KZ ?_
 refine tP Try.f8 5 0 (v:=x6) ?_
 refine tD Try.f8 5 1 (fun v1 S1=>?_)
 refine tP Try.f8 5 2 (v:=v1) ?_
 refine tG Try.f8 5 3 (j:=2) (fun v3 S2=>?_)
 refine tG Try.f8 5 4 (j:=2) (fun v4 S3=>?_)
 refine tD Try.f8 5 5 (fun v5 S4=>?_)
 refine tP Try.f8 5 6 (v:=v5) ?_
 refine tGC Try.f8 5 7 (j:=6) (fun v7 S5=>?_)
 refine tGC Try.f8 5 8 (j:=6) (fun v8 S6=>?_)
 refine tGC Try.f8 5 9 (j:=6) (fun v9 S7=>?_)
 refine tGC Try.f8 5 10 (j:=6) (fun b2 S8=>?_)
 refine tGC Try.f8 5 11 (j:=6) (fun b4 S9=>?_)
 refine tG Try.f8 5 12 (j:=6) (fun b5 b3=>?_)
 refine tG Try.f8 5 13 (j:=6) (fun b6 b9=>?_)
 refine tG Try.f8 5 14 (j:=6) (fun b7 c0=>?_)
 refine tG Try.f8 5 15 (j:=6) (fun b8 c1=>?_)
 refine tD Try.f8 5 16 (fun c2 c3=>?_)
 kernel_rfl
theorem zx.r6 :jI zi ⟨true,false,false⟩ (yE O.hp true (jc zi O)) (reg Try.f8 6) (reg Try.f8 6).toList ([x0,x1,x2,x3,x4,x5,x6,x7,x8,x9,d,b,g,i,k,l,m,n,o,p,q,r,s,t,u,w,x,y,z,A,B,C,D,E,F,G,H,I,J,K,L,M,N,P,Q,R,U,V,f,c,W,X,Y,Z,a0,a1,a2,a3,a4,a5,a6,a7,a8,a9,b0,b1]) S =
  ( some ([x0,x1,x2,x3,Value.bool false,x5,x6,x7,x8,x9,d,b,g,i,k,l,m,n,o,p,q,r,s,t,u,w,x,y,z,A,B,C,D,E,F,G,H,I,J,K,L,M,N,P,Q,R,U,V,f,c,W,X,Y,Z,a0,a1,a2,a3,a4,a5,a6,a7,a8,a9,b0,b1],S)):=by
 kernel_rfl
theorem zx.r7 :jI zi ⟨true,false,false⟩ (yE O.hp true (jc zi O)) (reg Try.f8 7) (reg Try.f8 7).toList ([x0,x1,x2,x3,x4,x5,x6,x7,x8,x9,d,b,g,i,k,l,m,n,o,p,q,r,s,t,u,w,x,y,z,A,B,C,D,E,F,G,H,I,J,K,L,M,N,P,Q,R,U,V,f,c,W,X,Y,Z,a0,a1,a2,a3,a4,a5,a6,a7,a8,a9,b0,b1]) S =
  (zN (zQ zi false 30 x2 S) (fun v0 S1=>zN (vT (jc zi O) 21 [(dem v0)] S1) (fun v1 S2=>zN (yc zi 30 S2) (fun v2 S3=>zN (wo zi 30 v2 (dem v1) S3) (fun v3 S4=>some ([x0,x1,x2,x3,x4,x5,x6,x7,x8,v2,d,b,g,i,k,l,m,n,o,p,q,r,s,t,u,w,x,y,z,A,B,C,D,E,F,G,H,I,J,K,L,v0,v1,P,Q,R,U,V,f,c,W,X,Y,Z,a0,a1,a2,a3,a4,a5,a6,a7,a8,a9,b0,b1],S4)) ()) ()) ()) ()):=by
 kernel_rfl
theorem zx.r8 :jI zi ⟨true,false,false⟩ (yE O.hp true (jc zi O)) (reg Try.f8 8) (reg Try.f8 8).toList ([x0,x1,x2,x3,x4,x5,x6,x7,x8,x9,d,b,g,i,k,l,m,n,o,p,q,r,s,t,u,w,x,y,z,A,B,C,D,E,F,G,H,I,J,K,L,M,N,P,Q,R,U,V,f,c,W,X,Y,Z,a0,a1,a2,a3,a4,a5,a6,a7,a8,a9,b0,b1]) S =
  (zN (zQ zi false 30 x2 S) (fun v0 S1=>zN ((jc zi O) 20 [(dem v0)] S1) (fun v1 S2=>zN (yc zi 30 S2) (fun v2 S3=>zN (wo zi 30 v2 (dem v1) S3) (fun v3 S4=>some ([x0,x1,x2,x3,x4,x5,x6,x7,x8,x9,v2,b,g,i,k,l,m,n,o,p,q,r,s,t,u,w,x,y,z,A,B,C,D,E,F,G,H,I,J,K,L,M,N,v0,v1,R,U,V,f,c,W,X,Y,Z,a0,a1,a2,a3,a4,a5,a6,a7,a8,a9,b0,b1],S4)) ()) ()) ()) ()):=by
 kernel_rfl
theorem zx.r9 :jI zi ⟨true,false,false⟩ (yE O.hp true (jc zi O)) (reg Try.f8 9) (reg Try.f8 9).toList ([x0,x1,x2,x3,x4,x5,x6,x7,x8,x9,d,b,g,i,k,l,m,n,o,p,q,r,s,t,u,w,x,y,z,A,B,C,D,E,F,G,H,I,J,K,L,M,N,P,Q,R,U,V,f,c,W,X,Y,Z,a0,a1,a2,a3,a4,a5,a6,a7,a8,a9,b0,b1]) S =
  (zN (zA zi 30 d 7 S) (fun v0 S1=>zN (zA zi 28 v0 4 S1) (fun v1 S2=>zN (zQ zi false 26 v1 S2) (fun v2 S3=>zN (ZO zi 26 v2 S3) (fun v3 S4=>some ([x0,x1,x2,x3,x4,x5,x6,x7,x8,x9,d,b,g,i,k,l,m,n,o,p,q,r,s,t,u,w,x,y,z,A,B,C,D,E,F,G,H,I,J,K,L,M,N,P,Q,v0,v1,v2,v3,.int .i64 0,W,X,Y,Z,a0,a1,a2,a3,a4,a5,a6,a7,a8,a9,b0,b1],S4)) ()) ()) ()) ()):=by
 kernel_rfl
theorem zx.r10 :jI zi ⟨true,false,false⟩ (yE O.hp true (jc zi O)) (reg Try.f8 10) (reg Try.f8 10).toList ([x0,x1,x2,x3,x4,x5,x6,x7,x8,x9,d,b,g,i,k,l,m,n,o,p,q,r,s,t,u,w,x,y,z,A,B,C,D,E,F,G,H,I,J,K,L,M,N,P,Q,R,U,V,f,c,W,X,Y,Z,a0,a1,a2,a3,a4,a5,a6,a7,a8,a9,b0,b1]) S =
  (zN (jY zi BinOp.lss 3 c f S) (fun v0 S1=>some ([x0,x1,x2,x3,x4,x5,x6,x7,x8,x9,d,b,g,i,k,l,m,n,o,p,q,r,s,t,u,w,x,y,z,A,B,C,D,E,F,G,H,I,J,K,L,M,N,P,Q,R,U,V,f,c,v0,X,Y,Z,a0,a1,a2,a3,a4,a5,a6,a7,a8,a9,b0,b1],S1)) ()):=by
 kernel_rfl
theorem zx.r11 :jI zi ⟨true,false,false⟩ (yE O.hp true (jc zi O)) (reg Try.f8 11) (reg Try.f8 11).toList ([x0,x1,x2,x3,x4,x5,x6,x7,x8,x9,d,b,g,i,k,l,m,n,o,p,q,r,s,t,u,w,x,y,z,A,B,C,D,E,F,G,H,I,J,K,L,M,N,P,Q,R,U,V,f,c,W,X,Y,Z,a0,a1,a2,a3,a4,a5,a6,a7,a8,a9,b0,b1]) S =
  ( some ([x0,x1,x2,x3,x4,x5,x6,x7,x8,x9,d,c,g,i,k,l,m,n,o,p,q,r,s,t,u,w,x,y,z,A,B,C,D,E,F,G,H,I,J,K,L,M,N,P,Q,R,U,V,f,dem c,W,dem c,Y,Z,a0,a1,a2,a3,a4,a5,a6,a7,a8,a9,b0,b1],S)):=by
 kernel_rfl
theorem zx.r12 :jI zi ⟨true,false,false⟩ (yE O.hp true (jc zi O)) (reg Try.f8 12) (reg Try.f8 12).toList ([x0,x1,x2,x3,x4,x5,x6,x7,x8,x9,d,b,g,i,k,l,m,n,o,p,q,r,s,t,u,w,x,y,z,A,B,C,D,E,F,G,H,I,J,K,L,M,N,P,Q,R,U,V,f,c,W,X,Y,Z,a0,a1,a2,a3,a4,a5,a6,a7,a8,a9,b0,b1]) S =
  (zN (zA zi 30 d 7 S) (fun v0 S1=>zN (zA zi 28 v0 4 S1) (fun v1 S2=>zN (zQ zi false 26 v1 S2) (fun v2 S3=>zN (jw zi 26 v2 (dem b) S3) (fun v4 S4=>zN (zA zi 25 v4 1 S4) (fun v5 S5=>zN (zQ zi false 3 v5 S5) (fun v6 S6=>zN (jY zi BinOp.add 3 v6 (.int .i64 3) S6) (fun v7 S7=>zN (jw zi 26 v2 (dem b) S7) (fun v8 S8=>zN (zA zi 25 v8 1 S8) (fun v9 S9=>zN (wo zi 3 v9 (dem v7) S9) (fun b2 b3=>some ([x0,x1,x2,x3,x4,x5,x6,x7,x8,x9,d,b,g,i,k,l,m,n,o,p,q,r,s,t,u,w,x,y,z,A,B,C,D,E,F,G,H,I,J,K,L,M,N,P,Q,R,U,V,f,c,W,X,v0,v1,v2,dem b,v4,v5,v6,v7,v8,v9,a8,a9,b0,b1],b3)) ()) ()) ()) ()) ()) ()) ()) ()) ()) ()):=by
 kernel_rfl
theorem zx.r13 :jI zi ⟨true,false,false⟩ (yE O.hp true (jc zi O)) (reg Try.f8 13) (reg Try.f8 13).toList ([x0,x1,x2,x3,x4,x5,x6,x7,x8,x9,d,b,g,i,k,l,m,n,o,p,q,r,s,t,u,w,x,y,z,A,B,C,D,E,F,G,H,I,J,K,L,M,N,P,Q,R,U,V,f,c,W,X,Y,Z,a0,a1,a2,a3,a4,a5,a6,a7,a8,a9,b0,b1]) S =
  (zN (jY zi BinOp.add 3 c (.int .i64 1) S) (fun v0 S1=>some ([x0,x1,x2,x3,x4,x5,x6,x7,x8,x9,d,b,g,i,k,l,m,n,o,p,q,r,s,t,u,w,x,y,z,A,B,C,D,E,F,G,H,I,J,K,L,M,N,P,Q,R,U,V,f,dem v0,W,X,Y,Z,a0,a1,a2,a3,a4,a5,a6,a7,v0,a9,b0,b1],S1)) ()):=by
 kernel_rfl
theorem zx.r14 :jI zi ⟨true,false,false⟩ (yE O.hp true (jc zi O)) (reg Try.f8 14) (reg Try.f8 14).toList ([x0,x1,x2,x3,x4,x5,x6,x7,x8,x9,d,b,g,i,k,l,m,n,o,p,q,r,s,t,u,w,x,y,z,A,B,C,D,E,F,G,H,I,J,K,L,M,N,P,Q,R,U,V,f,c,W,X,Y,Z,a0,a1,a2,a3,a4,a5,a6,a7,a8,a9,b0,b1]) S =
  (zN (zQ zi false 30 x2 S) (fun v0 S1=>zN (zQ zi false 30 x9 S1) (fun v1 S2=>zN (vT (jc zi O) 12 [(dem v0),(dem v1)] S2) (fun v2 S3=>some ([x0,x1,x2,x3,v2,x5,x6,x7,x8,x9,d,b,g,i,k,l,m,n,o,p,q,r,s,t,u,w,x,y,z,A,B,C,D,E,F,G,H,I,J,K,L,M,N,P,Q,R,U,V,f,c,W,X,Y,Z,a0,a1,a2,a3,a4,a5,a6,a7,a8,v0,v1,dem v2],S3)) ()) ()) ()):=by
 kernel_rfl
theorem zx.rs:type_of% (aiJ @zx.r0 (aiJ @zx.r1 (aiJ @zx.r2 (aiJ @zx.r3 (aiJ @zx.r4 (aiJ @zx.r5 (aiJ @zx.r6 (aiJ @zx.r7 (aiJ @zx.r8 (aiJ @zx.r9 (aiJ @zx.r10 (aiJ @zx.r11 (aiJ @zx.r12 (aiJ @zx.r13 (@zx.r14))))))))))))))):=aiJ @zx.r0 (aiJ @zx.r1 (aiJ @zx.r2 (aiJ @zx.r3 (aiJ @zx.r4 (aiJ @zx.r5 (aiJ @zx.r6 (aiJ @zx.r7 (aiJ @zx.r8 (aiJ @zx.r9 (aiJ @zx.r10 (aiJ @zx.r11 (aiJ @zx.r12 (aiJ @zx.r13 (@zx.r14))))))))))))))
theorem zx.runs {x0 x1:Value} {S S1:zu} {e:AEx} {T:List Value} (h:zD zi O true zx.code ([x0,x1,zh,zh,zh,zh,zh,zh,zh,zh,zh,zh,zh,zh,zh,zh,zh,zh,zh,zh,zh,zh,zh,zh,zh,zh,zh,zh,zh,zh,zh,zh,zh,zh,zh,zh,zh,zh,zh,zh,zh,zh,zh,zh,zh,zh,zh,zh,zh,zh,zh,zh,zh,zh,zh,zh,zh,zh,zh,zh,zh,zh,zh,zh,zh,zh]) S=some (e,T,S1)) (he:e=.normal∨e=.ret):jc zi O 8 [x0,x1] S=some (T.getD 4 zh,S1) :=
 yU rfl rfl Try.func8 (by decide) zx.body (by exact h) he (wJ (a:=T.getD 4 zh) ((show zL zi T S1 Try.f8.results.toList=zL zi T S1 [(ResultVar.tmp 4)] from by kernel_rfl).trans (by simp only [zL])) (by kernel_rfl))
end Go.Proofs.Ytbgcphbbchndkaa
namespace Go.Proofs.Ytbgcphbbchndkaa
open Go.Abs
abbrev wC.id:FuncId:=20
noncomputable def wC.code:Code:=(.seq (.region 0 (reg Try.f20 0) false) (.seq (.region 1 (reg Try.f20 1) false) (.seq (.region 2 (reg Try.f20 2) false) Code.ret)))
theorem wC.body:Try.f20.body=some wC.code:=by kernel_rfl
variable (c d g i j k l m:Value) (S:zu)
theorem wC.r0 :jI zi ⟨true,false,false⟩ (yE O.hp true (jc zi O)) (reg Try.f20 0) (reg Try.f20 0).toList ([c,d,g,i,j,k,l,m]) S =
  (zN (Zk (dem c) S) (fun f b=>zN (yc zi 30 b) (fun n o=>some ([c,f,n,i,j,k,l,m],o)) ()) ()):=by
 kernel_rfl
theorem wC.r1 :jI zi ⟨true,false,false⟩ (yE O.hp true (jc zi O)) (reg Try.f20 1) (reg Try.f20 1).toList ([c,d,g,i,j,k,l,m]) S =
  (zN (zA zi 30 d 7 S) (fun f b=>zN (zQ zi false 28 f b) (fun n o=>zN ((jc zi O) 49 [(dem n)] o) (fun p r=>zN (zA zi 30 d 7 r) (fun q s=>zN (wo zi 28 q (dem p) s) (fun u t=>some ([c,d,g,f,n,p,q,m],t)) ()) ()) ()) ()) ()):=by
 kernel_rfl
theorem wC.r2 :jI zi ⟨true,false,false⟩ (yE O.hp true (jc zi O)) (reg Try.f20 2) (reg Try.f20 2).toList ([c,d,g,i,j,k,l,m]) S =
  (zN (zQ zi false 30 d S) (fun f b=>zN (wo zi 30 g (dem f) b) (fun n o=>some ([c,d,g,i,j,k,l,f],o)) ()) ()):=by
 kernel_rfl
theorem wC.rs:type_of% (aiJ @wC.r0 (aiJ @wC.r1 (@wC.r2))):=aiJ @wC.r0 (aiJ @wC.r1 (@wC.r2))
theorem wC.runs {c:Value} {S b:zu} {e:AEx} {T:List Value} (h:zD zi O true wC.code ([c,zh,zh,zh,zh,zh,zh,zh]) S=some (e,T,b)) (he:e=.normal∨e=.ret) {w0:Value} (c0:zQ zi false 30 (T.getD 2 zh) b=some (w0,b)):jc zi O 20 [c] S=some (w0,b) :=
 yU rfl rfl Try.func20 (by decide) wC.body (by exact h) he (wJ (a:=w0) ((show zL zi T b Try.f20.results.toList=zL zi T b [(ResultVar.cell 2 30)] from by kernel_rfl).trans (by simp only [zL,c0])) (by kernel_rfl))
end Go.Proofs.Ytbgcphbbchndkaa
namespace Go.Proofs.Ytbgcphbbchndkaa
open Go.Abs
abbrev zU.id:FuncId:=21
noncomputable def zU.code:Code:=(.seq (.region 0 (reg Try.f21 0) false) (.seq (.region 1 (reg Try.f21 1) false) (.seq (.region 2 (reg Try.f21 2) false) Code.ret)))
theorem zU.body:Try.f21.body=some zU.code:=by kernel_rfl
variable (b d i j k l m n o p f:Value) (S:zu)
theorem zU.r0 :jI zi ⟨false,false,false⟩ (jc zi O) (reg Try.f21 0) (reg Try.f21 0).toList ([b,d,i,j,k,l,m,n,o,p,f]) S =
  (zN (Zk (dem b) S) (fun g c=>zN (yc zi 30 c) (fun q r=>some ([b,g,q,j,k,l,m,n,o,p,f],r)) ()) ()):=by
 kernel_rfl
theorem zU.r1 :jI zi ⟨false,false,false⟩ (jc zi O) (reg Try.f21 1) (reg Try.f21 1).toList ([b,d,i,j,k,l,m,n,o,p,f]) S =
  (zN (jT zi 26 0 [] S) (fun g c=>zN (zA zi 30 d 7 c) (fun q r=>zN (zA zi 28 q 4 r) (fun s x=>zN (zQ zi false 26 s x) (fun t y=>zN (yw zi 26 26 g t y) (fun u z=>zN (zA zi 30 d 7 z) (fun v A=>zN (zA zi 28 v 4 A) (fun w B=>zN (wo zi 26 w (dem u) B) (fun D C=>some ([b,d,i,dem g,q,s,t,u,v,w,f],C)) ()) ()) ()) ()) ()) ()) ()) ()):=by
 kernel_rfl
theorem zU.r2 :jI zi ⟨false,false,false⟩ (jc zi O) (reg Try.f21 2) (reg Try.f21 2).toList ([b,d,i,j,k,l,m,n,o,p,f]) S =
  (zN (zQ zi false 30 d S) (fun g c=>zN (wo zi 30 i (dem g) c) (fun q r=>some ([b,d,i,j,k,l,m,n,o,p,g],r)) ()) ()):=by
 kernel_rfl
theorem zU.rs:type_of% (aiJ @zU.r0 (aiJ @zU.r1 (@zU.r2))):=aiJ @zU.r0 (aiJ @zU.r1 (@zU.r2))
theorem zU.runs {b:Value} {S c:zu} {e:AEx} {T:List Value} (h:zD zi O false zU.code ([b,zh,zh,zh,zh,zh,zh,zh,zh,zh,zh]) zu.empty=some (e,T,c)) (he:e=.normal∨e=.ret) {w0:Value} (c0:zQ zi false 30 (T.getD 2 zh) c=some (w0,c)) (hca:[b].all (jg 16)=true) (hcv:jg 16 (w0)=true):jc zi O 21 [b] S=some (w0,S) :=
 yC rfl rfl Try.func21 (by decide) zU.body (by exact h) he (wJ (a:=w0) ((show zL zi T c Try.f21.results.toList=zL zi T c [(ResultVar.cell 2 30)] from by kernel_rfl).trans (by simp only [zL,c0])) (by kernel_rfl)) hca hcv
end Go.Proofs.Ytbgcphbbchndkaa
namespace Go.Proofs.Ytbgcphbbchndkaa
open Go.Abs
abbrev jQ.id:FuncId:=49
noncomputable def jQ.code:Code:=(.seq (.region 0 (reg Try.f49 0) false) (.seq (.region 1 (reg Try.f49 1) false) (.seq (.region 2 (reg Try.f49 2) false) Code.ret)))
theorem jQ.body:Try.f49.body=some jQ.code:=by kernel_rfl
variable (c d g i j k l m:Value) (S:zu)
theorem jQ.r0 :jI zi ⟨true,false,false⟩ (yE O.hp true (jc zi O)) (reg Try.f49 0) (reg Try.f49 0).toList ([c,d,g,i,j,k,l,m]) S =
  (zN (Zk (dem c) S) (fun f b=>zN (yc zi 28 b) (fun n o=>some ([c,f,n,i,j,k,l,m],o)) ()) ()):=by
 kernel_rfl
theorem jQ.r1 :jI zi ⟨true,false,false⟩ (yE O.hp true (jc zi O)) (reg Try.f49 1) (reg Try.f49 1).toList ([c,d,g,i,j,k,l,m]) S =
  (zN (zA zi 28 d 4 S) (fun f b=>zN (zQ zi false 26 f b) (fun n o=>zN ((jc zi O) 63 [(dem n)] o) (fun p r=>zN (zA zi 28 d 4 r) (fun q s=>zN (wo zi 26 q (dem p) s) (fun u t=>some ([c,d,g,f,n,p,q,m],t)) ()) ()) ()) ()) ()):=by
 kernel_rfl
theorem jQ.r2 :jI zi ⟨true,false,false⟩ (yE O.hp true (jc zi O)) (reg Try.f49 2) (reg Try.f49 2).toList ([c,d,g,i,j,k,l,m]) S =
  (zN (zQ zi false 28 d S) (fun f b=>zN (wo zi 28 g (dem f) b) (fun n o=>some ([c,d,g,i,j,k,l,f],o)) ()) ()):=by
 kernel_rfl
theorem jQ.rs:type_of% (aiJ @jQ.r0 (aiJ @jQ.r1 (@jQ.r2))):=aiJ @jQ.r0 (aiJ @jQ.r1 (@jQ.r2))
theorem jQ.runs {c:Value} {S b:zu} {e:AEx} {T:List Value} (h:zD zi O true jQ.code ([c,zh,zh,zh,zh,zh,zh,zh]) S=some (e,T,b)) (he:e=.normal∨e=.ret) {w0:Value} (c0:zQ zi false 28 (T.getD 2 zh) b=some (w0,b)):jc zi O 49 [c] S=some (w0,b) :=
 yU rfl rfl Try.func49 (by decide) jQ.body (by exact h) he (wJ (a:=w0) ((show zL zi T b Try.f49.results.toList=zL zi T b [(ResultVar.cell 2 28)] from by kernel_rfl).trans (by simp only [zL,c0])) (by kernel_rfl))
end Go.Proofs.Ytbgcphbbchndkaa
namespace Go.Proofs.Ytbgcphbbchndkaa
open Go.Abs
abbrev je.id:FuncId:=63
noncomputable def je.code:Code:=(.seq (.region 0 (reg Try.f63 0) false) (.seq (.seq (.region 1 (reg Try.f63 1) false) (.cond (.tmp 4) (.seq (.region 2 (reg Try.f63 2) false) Code.ret) Code.skip)) (.seq (.region 3 (reg Try.f63 3) false) Code.ret)))
theorem je.body:Try.f63.body=some je.code:=by kernel_rfl
variable (b c l f g i j k:Value) (S:zu)
theorem je.r0 :jI zi ⟨true,false,false⟩ (yE O.hp true (jc zi O)) (reg Try.f63 0) (reg Try.f63 0).toList ([b,c,l,f,g,i,j,k]) S =
  ( some ([b,c,Value.slice none 0 0,f,g,i,j,k],S)):=by
 kernel_rfl
theorem je.r1 :jI zi ⟨true,false,false⟩ (yE O.hp true (jc zi O)) (reg Try.f63 1) (reg Try.f63 1).toList ([b,c,l,f,g,i,j,k]) S =
  (zN (jY zi BinOp.eql 26 (dem b) (Value.slice none 0 0) S) (fun o d=>some ([b,c,l,dem b,o,i,j,k],d)) ()):=by
 kernel_rfl
theorem je.r2 :jI zi ⟨true,false,false⟩ (yE O.hp true (jc zi O)) (reg Try.f63 2) (reg Try.f63 2).toList ([b,c,l,f,g,i,j,k]) S =
  ( some ([b,c,Value.slice none 0 0,f,g,i,j,k],S)):=by
 kernel_rfl
theorem je.r3 :jI zi ⟨true,false,false⟩ (yE O.hp true (jc zi O)) (reg Try.f63 3) (reg Try.f63 3).toList ([b,c,l,f,g,i,j,k]) S =
  (zN (wG zi 26 0 [] S) (fun m d=>zN (qF zi true 26 26 m (dem b) d) (fun n p=>some ([b,c,n,f,g,dem m,dem b,dem n],p)) ()) ()):=by
 kernel_rfl
theorem je.rs:type_of% (aiJ @je.r0 (aiJ @je.r1 (aiJ @je.r2 (@je.r3)))):=aiJ @je.r0 (aiJ @je.r1 (aiJ @je.r2 (@je.r3)))
theorem je.runs {b:Value} {S d:zu} {e:AEx} {T:List Value} (h:zD zi O true je.code ([b,zh,zh,zh,zh,zh,zh,zh]) S=some (e,T,d)) (he:e=.normal∨e=.ret):jc zi O 63 [b] S=some (T.getD 2 zh,d) :=
 yU rfl rfl Try.func63 (by decide) je.body (by exact h) he (wJ (a:=T.getD 2 zh) ((show zL zi T d Try.f63.results.toList=zL zi T d [(ResultVar.tmp 2)] from by kernel_rfl).trans (by simp only [zL])) (by kernel_rfl))
end Go.Proofs.Ytbgcphbbchndkaa
namespace Go.Abs
open Go.RowKit
theorem ahJ {b:Nat} {e:Ty} {α:Type} (f:α→List Value) (Q:α→Prop) (h:∀ x,e.Good x→∃ y,e.JI x=f y∧Q y) (hf:∀ y,(f y).length=e.sz) (x:(Ty.slc b e).Val) (hg:(Ty.slc b e).Good x) :
  ∃ k l,Okl k l∧k≠2∧(Ty.slc b e).JI x=[vs f e.sz k l]∧l.length * b≤140737488351232∧∀ y ∈ l,Q y:=by
 match x,hg with
 | none,_=>exact ⟨0,[],Okl.none,by decide,rfl,by simp,fun y hy=>by cases hy⟩
 | some xs,hg =>
  obtain ⟨h1,h2,h3⟩:=hg
  have key:∀ xs:List e.Val,(∀ n ∈ xs,e.Good n)→∃ l:List α,xs.flatMap e.JI=l.flatMap f∧l.length=xs.length∧∀ y ∈ l,Q y:=by
   intro xs
   induction xs with
   | nil=>intro _;exact ⟨[],rfl,rfl,fun y hy=>by cases hy⟩
   | cons n xs ih =>
    intro hn
    obtain ⟨y,hy,hq⟩:=h n (hn n (by simp))
    obtain ⟨l,k1,k2,k3⟩:=ih (fun m hm=>hn m (by simp [hm]))
    refine ⟨y::l,by rw [List.flatMap_cons,List.flatMap_cons,hy,k1],by simp [k2],fun z hz=>?_⟩
    rcases List.mem_cons.1 hz with rfl | hz
    ·
     exact hq
    ·
     exact k3 z hz
  obtain ⟨l,k1,k2,k3⟩:=key xs h3
  refine ⟨1,l,Okl.read,by decide,?_,by rw [k2];exact h1,k3⟩
  show [SL 1 e.sz (List.length xs) (List.flatMap e.JI xs)]=[_]
  unfold vs
  rw [sv1,k1,k2]
theorem abn {cs xs:List Value} (h:cs.length=xs.length):splice cs 0 xs=xs:=by
 unfold splice
 rw [List.take_zero,List.nil_append,Nat.zero_add,← h,List.drop_length,List.append_nil]
theorem ahw {k e n:Nat} {cs:List Value}:(sv k e n cs).oneCell'=true:=by unfold sv;split <;> rfl
theorem adM {α:Type} {f:α→List Value} {e k:Nat} {l:List α}:(vs f e k l).oneCell'=true:=ahw
theorem acN {k:IntKind} {n:Int}:(Value.int k n).oneCell'=true:=rfl
theorem YH {P:Program} {t:TypeId} {z xs:List Value} {x:Value} (S:zu) (hx:x.cells.toList=xs) (hs:kN P t=some z.length) (hl:xs.length=z.length) (h1:xs.all (·.oneCell')=true) :
  ∃ S2,wo P t (.pointer (some ⟨S.next,0,none⟩)) x (S.push (.cells z (.own []) 0))=some (zh,S2)∧S2.get S.next=some (.cells xs (.own []) 0)∧Ext S S2∧S.next < S2.next:=by
 have hg:(S.push (.cells z (.own []) 0)).get S.next=some (.cells z (.own []) 0):=by rw [zu.jE,if_pos rfl]
 refine ⟨_,qo hg hs (by rw [← Array.length_toList,hx,hl]) (by rw [hx];exact h1) (by simp),?_,(Ext.push S _).set (Nat.le_refl _) _,by simp [zu.kills]⟩
 rw [zu.jU,if_pos rfl,hx,abn hl.symm]
theorem xW {P:Program} {t:TypeId} {q o n:Nat} {cs:List Value} {e:Nat} {x:Value} {S S0:zu} (hg:S.get q=some (.cells cs (.own []) e)) (hs:kN P t=some n) (hn:x.cells.size=n) (h1:x.cells.toList.all (·.oneCell')=true) (hle:o+n≤cs.length) (hE:Ext S0 S) (hq:S0.next≤q) :
  ∃ S2,wo P t (.pointer (some ⟨q,o,none⟩)) x S=some (zh,S2)∧S2.get q=some (.cells (splice cs o x.cells.toList) (.own []) e)∧Ext S0 S2∧S2.next=S.next∧∀ k,k≠q→S2.get k=S.get k:=by
 exact ⟨_,qo hg hs hn h1 hle,by rw [zu.jU,if_pos rfl],hE.set hq _,by simp [zu.kills],fun k hk=>by rw [zu.jU,if_neg hk];rfl⟩
theorem afP (x:Value) (S:zu):∃ S2,Zk x S=some (.pointer (some ⟨S.next,0,none⟩),S2)∧S2.get S.next=some (.cells x.cells.toList (.own []) 0)∧Ext S S2∧S.next < S2.next :=
 ⟨_,rfl,by rw [zu.jE,if_pos rfl],Ext.push _ _,by simp⟩
end Go.Abs
namespace Go.Abs
open Go.RowKit
theorem ah8 {k e n:Nat} {cs:List Value}:JH (sv k e n cs)=false:=by unfold sv;split <;> rfl
theorem ah6 {α:Type} {f:α→List Value} {e k:Nat} {l:List α}:JH (vs f e k l)=false:=ah8
theorem aaE {P:Program} {O:Ora} {g:FuncId} {args:List Value} {S:zu} {r:Option (Value×zu)} (h:jc P O g args S=r) (ha:args.all (fun x=>!YN x)=true):vT (jc P O) g args S=r:=(ae6 ha).trans h
section
variable {P:Program} {O:Ora} {α:Type} {f:α→List Value} {e q:Nat} {l:List α} {rest:List Value} {anc:List Nat} {S:zu}
end
end Go.Abs
namespace Go.Abs
open Go.RowKit
def Fr (fp:List Nat) (S S1:zu):Prop:=S.next≤S1.next∧∀ p,p < S.next→p ∉ fp→S1.get p=S.get p
theorem Fr.refl (fp:List Nat) (S:zu):Fr fp S S:=⟨Nat.le_refl _,fun _ _ _=>rfl⟩
theorem Fr.ext {fp:List Nat} {S S1:zu} (h:Ext S S1):Fr fp S S1:=⟨h.next,fun p hp _=>h.get p hp⟩
theorem Fr.trans {fp fp2:List Nat} {S S1 S2:zu} (h:Fr fp S S1) (k:Fr fp2 S1 S2) (hs:∀ x ∈ fp2,x ∈ fp∨S.next≤x):Fr fp S S2:=⟨Nat.le_trans h.1 k.1,fun p hp hn=>by
 rw [k.2 p (Nat.lt_of_lt_of_le hp h.1) (fun hx=>(hs p hx).elim hn (fun h=>by omega)),h.2 p hp hn]⟩
theorem Fr.set {fp:List Nat} {S S1:zu} (h:Fr fp S S1) {r:Nat} (hr:r ∈ fp∨S.next≤r) (o:qg):Fr fp S (S1.set r o):=⟨h.1,fun p hp hn=>by
 rw [zu.jU,if_neg (fun e=>by subst e;exact hr.elim hn (fun h=>by omega))];exact h.2 p hp hn⟩
theorem Fr.kills {fp:List Nat} {S S1:zu} (h:Fr fp S S1) {l:List Nat} (hl:∀ x ∈ l,x ∈ fp∨S.next≤x):Fr fp S (S1.kills l):=⟨by rw [zu.JM];exact h.1,fun p hp hn=>by
 rw [zu.xk,if_neg (fun e=>(hl p e).elim hn (fun h=>by omega))];exact h.2 p hp hn⟩
theorem Fr.push {fp:List Nat} {S S1:zu} (h:Fr fp S S1) (o:qg):Fr fp S (S1.push o):=⟨by simp;have:=h.1;omega,fun p hp hn=>by
 rw [zu.jE,if_neg (by have:=h.1;omega)];exact h.2 p hp hn⟩
def Many (S:zu) (x:Nat):Prop:=∀ cs own,S.get x≠some (.cells cs own 0)
def Zf {α:Type} (f:α→List Value) (e:Nat) (S:zu) (a:Option Addr) (l:List α) (fp:List Nat):Prop :=
 (a=none∧l=[]∧fp=[])∨∃ r anc rest,a=some ⟨r,0,none⟩∧fp=r::anc∧S.get r=some (.cells (l.flatMap f++rest) (.own anc) e)∧∀ x ∈ fp,x < S.next∧Many S x
theorem JJ {A B C D:List Value} {o:Nat} (h:o=A.length) (hl:B.length=C.length):splice (A++(B++D)) o C=A++(C++D):=by
 subst h
 unfold splice
 rw [List.take_left,← hl,List.drop_append,List.drop_eq_nil_of_le (by omega),List.nil_append,show A.length+B.length - A.length=B.length by omega,List.drop_left,List.append_assoc]
section
variable {α:Type} {f:α→List Value} {e:Nat} {S S1:zu} {a:Option Addr} {l:List α} {fp:List Nat}
theorem Zf.keep (h:Zf f e S a l fp) (hn:S.next≤S1.next) (hk:∀ x ∈ fp,S1.get x=S.get x):Zf f e S1 a l fp:=by
 rcases h with h | ⟨r,anc,rest,h1,h2,h3,h4⟩
 ·
  exact .inl h
 ·
  refine .inr ⟨r,anc,rest,h1,h2,by rw [hk r (by rw [h2];simp)];exact h3,fun x hx=>⟨Nat.lt_of_lt_of_le (h4 x hx).1 hn,fun cs own=>by rw [hk x hx];exact (h4 x hx).2 cs own⟩⟩
theorem Zf.lt (h:Zf f e S a l fp):∀ x ∈ fp,x < S.next:=by
 rcases h with ⟨_,_,rfl⟩ | ⟨r,anc,rest,h1,h2,h3,h4⟩
 ·
  intro x hx;cases hx
 ·
  exact fun x hx=>(h4 x hx).1
theorem Zf.many (h:Zf f e S a l fp):∀ x ∈ fp,Many S x:=by
 rcases h with ⟨_,_,rfl⟩ | ⟨r,anc,rest,h1,h2,h3,h4⟩
 ·
  intro x hx;cases hx
 ·
  exact fun x hx=>(h4 x hx).2
theorem Zf.ext (h:Zf f e S a l fp) (k:Ext S S1):Zf f e S1 a l fp:=h.keep k.next fun x hx=>k.get x (h.lt x hx)
theorem Zf.fr {fp2:List Nat} (h:Zf f e S a l fp) (k:Fr fp2 S S1) (hd:∀ x ∈ fp,x ∉ fp2):Zf f e S1 a l fp:=h.keep k.1 fun x hx=>k.2 x (h.lt x hx) (hd x hx)
theorem Zf.ahp (h:Zf f e S a l fp) {p:Nat} {cs:List Value} {own:Own} (hp:S.get p=some (.cells cs own 0)):p ∉ fp:=fun hx=>h.many p hx cs own hp
theorem Zf.take (h:Zf f e S a l fp) (n:Nat):Zf f e S a (l.take n) fp:=by
 rcases h with ⟨h1,h2,h3⟩ | ⟨r,anc,rest,h1,h2,h3,h4⟩
 ·
  exact .inl ⟨h1,by rw [h2,List.take_nil],h3⟩
 ·
  refine .inr ⟨r,anc,(l.drop n).flatMap f++rest,h1,h2,?_,h4⟩
  rw [h3,← List.append_assoc,← List.flatMap_append,List.take_append_drop]
theorem WA {x r:Nat} {cs:List Value} {own:Own} (he:e≠0) (h:Many S x):Many (S.set r (.cells cs own e)) x:=fun cs' own'=>by
 rw [zu.jU]
 split
 ·
  intro hx;simp only [Option.some.injEq,qg.cells.injEq] at hx;exact he hx.2.2
 ·
  exact h cs' own'
theorem JQ {x:Nat} {l:List Nat} (h:Many S x):Many (S.kills l) x:=fun cs' own'=>by
 rw [zu.xk]
 split
 ·
  intro hx;simp at hx
 ·
  exact h cs' own'
theorem abT {x:Nat} {cs:List Value} {own:Own} (he:e≠0) (h:Many S x):Many (S.push (.cells cs own e)) x:=fun cs' own'=>by
 rw [zu.jE]
 split
 ·
  intro hx;simp only [Option.some.injEq,qg.cells.injEq] at hx;exact he hx.2.2
 ·
  exact h cs' own'
variable {P:Program} {t te tx:TypeId} {z:Value} {bytes:Nat}
theorem Zf.append (u:P.underlying t=some (.slice te)) (us:kN P te=some e) (hz:zeroOf P te=some z) (hzs:z.cells.size=e) (hb:bytesOf P te=some bytes) (hpos:0 < e) (hf:∀ x,(f x).length=e) (h1:∀ x,(f x).all (·.oneCell')=true)
  (hd:Zf f e S a l fp) {x:Value} {b:List α} (hsrc:YD P tx e x S=some (b.length,b.flatMap f)) (hm:(l.length+b.length) * bytes≤140737488355328) (hm2:l.length+b.length≤4611686018427387903) :
  ∃ a' S1 fp',qF P true t tx (.slice a l.length l.length) x S=some (.slice a' (l++b).length (l++b).length,S1)∧Zf f e S1 a' (l++b) fp'∧(∀ x ∈ fp',x ∈ fp∨S.next≤x)∧Fr fp S S1:=by
 have hone:∀ l:List α,(l.flatMap f).all (·.oneCell')=true:=by
  intro l
  rw [List.all_flatMap,List.all_eq_true]
  exact fun x _=>h1 x
 have he:e≠0:=by omega
 rcases hd with ⟨rfl,rfl,rfl⟩ | ⟨r,anc,rest,rfl,rfl,k2,k3⟩
 ·
  have e1:=aaD (t:=t) (tx:=tx) (S:=S) u us hz hzs hb hpos hsrc (by simpa using hm) (by simpa using hm2)
  by_cases h0:b.length=0
  ·
   have hb:b=[]:=List.length_eq_zero_iff.1 h0
   subst hb
   exact ⟨none,S,[],e1,.inl ⟨rfl,rfl,rfl⟩,(fun x hx=>by cases hx),Fr.refl _ _⟩
  ·
   rw [if_neg h0,if_neg h0] at e1
   refine ⟨some ⟨S.next,0,none⟩,_,[S.next],e1,.inr ⟨S.next,[],[],rfl,rfl,?_,fun x hx=>?_⟩,(fun x hx=>by simp at hx;omega),(Fr.refl _ _).push _⟩
   ·
    rw [zu.jE,if_pos rfl,List.append_nil,List.nil_append]
   ·
    simp only [List.mem_singleton] at hx
    subst hx
    refine ⟨by simp,fun cs own=>?_⟩
    rw [zu.jE,if_pos rfl]
    intro hx;simp only [Option.some.injEq,qg.cells.injEq] at hx;exact he hx.2.2
 ·
  have hlen:(l.flatMap f).length=l.length * e:=wQ hf l
  have htk:((l.flatMap f++rest).drop 0).take (l.length * e)=l.flatMap f:=by rw [List.drop_zero,← hlen,List.take_left]
  have e1:=Qi (hp:=true) (t:=t) (tx:=tx) (o:=0) (n:=l.length) (c:=l.length) u us hz hzs hb hpos hsrc k2 (by rw [List.length_append,hlen];omega) hm hm2 (by rw [htk];exact hone l)
  rw [htk,← List.length_append] at e1
  have hnew:∀ {S2:zu} {cs:List Value} {own:Own},Many (S2.push (.cells cs own e)) S2.next:=fun {S2 cs own} cs' own'=>by
   rw [zu.jE,if_pos rfl]
   intro hx;simp only [Option.some.injEq,qg.cells.injEq] at hx;exact he hx.2.2
  by_cases h0:0+l.length * e=(l.flatMap f++rest).length
  ·
   rw [if_pos h0] at e1
   refine ⟨some ⟨S.next,0,none⟩,_,_,e1,.inr ⟨S.next,_,[],rfl,rfl,by rw [zu.jE,zu.ZG,if_pos rfl,List.append_nil,List.flatMap_append],fun x hx=>?_⟩,fun x hx=>?_,((Fr.refl _ _).set (.inl (by simp)) _).push _⟩
   ·
    rcases List.mem_cons.1 hx with rfl | hx
    ·
     exact ⟨by simp,hnew (S2:=S.set r (.cells (l.flatMap f++rest) .ro e))⟩
    ·
     have hx:x ∈ r::anc:=by
      split at hx
      ·
       cases hx
      ·
       exact hx
     exact ⟨by have:=(k3 x hx).1;simp;omega,abT he (WA he (k3 x hx).2)⟩
   ·
    rcases List.mem_cons.1 hx with rfl | hx
    ·
     exact .inr (Nat.le_refl _)
    ·
     left
     split at hx
     ·
      cases hx
     ·
      exact hx
  ·
   rw [if_neg h0] at e1
   refine ⟨some ⟨S.next,0,none⟩,_,[S.next],e1,.inr ⟨S.next,[],[],rfl,rfl,by rw [zu.jE,zu.ZG,zu.JM,if_pos rfl,List.append_nil,List.flatMap_append],fun x hx=>?_⟩,fun x hx=>?_,(((Fr.refl _ _).kills (l:=anc) (fun x hx=>.inl (by simp [hx]))).set (.inl (by simp)) _).push _⟩
   ·
    simp only [List.mem_singleton] at hx
    subst hx
    exact ⟨by simp,by have:=hnew (S2:=(S.kills anc).set r .dead) (cs:=l.flatMap f++b.flatMap f) (own:=.own []);rwa [zu.ZG,zu.JM] at this⟩
   ·
    simp only [List.mem_singleton] at hx
    exact .inr (by omega)
theorem Zf.afj (hf:∀ x,(f x).length=e) {x:α} {pre suf:List α} {rest:List Value}:(((pre++x::suf).flatMap f++rest).drop (0+pre.length * e)).take e=f x:=by
 rw [List.flatMap_append,List.flatMap_cons,List.append_assoc,List.append_assoc,Nat.zero_add,← wQ hf pre,List.drop_left,← hf x,List.take_left]
theorem Zf.load (g:qH P te=some true) (us:kN P te=some e) (hf:∀ x,(f x).length=e) (hdm:∀ x,(f x).map qM=f x) {r:Nat} {own:Own} {x:α} {pre suf:List α} {rest:List Value} (hg:S.get r=some (.cells ((pre++x::suf).flatMap f++rest) own e)) :
  zQ P false te (.pointer (some ⟨r,0+pre.length * e,none⟩)) S=some (.agg (f x).toArray,S):=by
 have hle:0+pre.length * e+e≤((pre++x::suf).flatMap f++rest).length:=by
  rw [List.length_append,wQ hf,List.length_append,List.length_cons,Nat.add_mul,Nat.add_mul];omega
 rw [ZC hg g us hle,afj hf]
 simp only [List.map_toArray,hdm]
theorem Zf.put (us:kN P te=some e) (hf:∀ x,(f x).length=e) (h1:∀ x,(f x).all (·.oneCell')=true) (he:e≠0) {r:Nat} {anc:List Nat} {x y:α} {pre suf:List α} {rest:List Value} (hg:S.get r=some (.cells ((pre++x::suf).flatMap f++rest) (.own anc) e))
  (hx:∀ k ∈ r::anc,k < S.next∧Many S k) :
  ∃ S1,wo P te (.pointer (some ⟨r,0+pre.length * e,none⟩)) (.agg (f y).toArray) S=some (zh,S1)∧S1.get r=some (.cells ((pre++y::suf).flatMap f++rest) (.own []) e)∧S1.next=S.next∧Fr (r::anc) S S1∧Many S1 r:=by
 have hle:0+pre.length * e+e≤((pre++x::suf).flatMap f++rest).length:=by
  rw [List.length_append,wQ hf,List.length_append,List.length_cons,Nat.add_mul,Nat.add_mul];omega
 have hs:splice ((pre++x::suf).flatMap f++rest) (0+pre.length * e) (f y)=(pre++y::suf).flatMap f++rest:=by
  rw [List.flatMap_append,List.flatMap_cons,List.append_assoc,List.append_assoc,JJ (by rw [wQ hf,Nat.zero_add]) (by rw [hf,hf]),List.flatMap_append,List.flatMap_cons,List.append_assoc,List.append_assoc]
 have:=qo (P:=P) (t:=te) (o:=0+pre.length * e) (n:=e) (x:=.agg (f y).toArray) hg us (by rw [yV,List.size_toArray,hf]) (by rw [yV];exact h1 y) hle
 refine ⟨_,this,?_,by simp,((Fr.refl _ _).kills (fun k hk=>.inl (by simp [hk]))).set (.inl (by simp)) _,?_⟩
 ·
  rw [zu.jU,if_pos rfl,yV]
  show some (qg.cells (splice _ _ (f y)) _ _)=_
  rw [hs]
 ·
  refine WA he (JQ (hx r (by simp)).2)
theorem Zf.clear (u:P.underlying t=some (.slice te)) (us:kN P te=some e) (hz:zeroOf P te=some z) (hgz:ground z=true) (hzs:z.cells.size=e) (hz1:z.cells.toList.all (·.oneCell')=true) (hpos:0 < e) (hf:∀ x,(f x).length=e)
  {r:Nat} {anc:List Nat} {pre suf:List α} {rest:List Value} (hg:S.get r=some (.cells ((pre++suf).flatMap f++rest) (.own anc) e)) (hn:suf.length≠0) (hx:∀ k ∈ r::anc,k < S.next∧Many S k) (c:Nat) :
  ∃ S1 rest1,Xg P t (.slice (some ⟨r,0+pre.length * e,none⟩) suf.length c) S=some (zh,S1)∧S1.get r=some (.cells (pre.flatMap f++rest1) (.own []) e)∧S1.next=S.next∧Fr (r::anc) S S1∧Many S1 r:=by
 have hel:qh P t=some te:=by simp only [qh,u]
 have hle:0+pre.length * e+suf.length * e≤((pre++suf).flatMap f++rest).length:=by
  rw [List.length_append,wQ hf,List.length_append,Nat.add_mul];omega
 have hs:splice ((pre++suf).flatMap f++rest) (0+pre.length * e) (zl z.cells.toList suf.length)=pre.flatMap f++(zl z.cells.toList suf.length++rest):=by
  rw [List.flatMap_append,List.append_assoc,JJ (by rw [wQ hf,Nat.zero_add]) (by rw [acA,wQ hf,show z.cells.toList.length=e from hzs])]
 refine ⟨(S.kills anc).set r (.cells (splice ((pre++suf).flatMap f++rest) (0+pre.length * e) (zl z.cells.toList suf.length)) (.own []) e),zl z.cells.toList suf.length++rest,?_,by rw [zu.jU,if_pos rfl,hs],by simp,((Fr.refl _ _).kills (fun k hk=>.inl (by simp [hk]))).set (.inl (by simp)) _,WA (by omega) (JQ (hx r (by simp)).2)⟩
 simp only [Xg,xY,hel,us,hz,hg]
 rw [if_neg hn,if_pos hgz,if_pos hzs,if_pos hz1,if_pos hpos,if_pos hle]
end
end Go.Abs
namespace Go.Proofs.Ytbgcphbbchndkaa
open Go.Abs
abbrev jq.id:FuncId:=41
noncomputable def jq.code:Code:=(.seq (.region 0 (reg Try.f41 0) false) (.seq (.region 1 (reg Try.f41 1) false) Code.ret))
theorem jq.body:Try.f41.body=some jq.code:=by kernel_rfl
variable (g i k l x4 x5 x6 x7 x8 x9 o p q r s t u w x y z A B C D E F G H I J K L M N P Q R:Value) (S:zu)
theorem jq.r0 :jI zi ⟨false,false,false⟩ (jc zi O) (reg Try.f41 0) (reg Try.f41 0).toList ([g,i,k,l,x4,x5,x6,x7,x8,x9,o,p,q,r,s,t,u,w,x,y,z,A,B,C,D,E,F,G,H,I,J,K,L,M,N,P,Q,R]) S =
  (zN (Zk (dem g) S) (fun U m=>zN (Zk (dem i) m) (fun V S2=>some ([g,i,U,V,Value.bool false,x5,x6,x7,x8,x9,o,p,q,r,s,t,u,w,x,y,z,A,B,C,D,E,F,G,H,I,J,K,L,M,N,P,Q,R],S2)) ()) ()):=by
 kernel_rfl
theorem jq.r1 :jI zi ⟨false,false,false⟩ (jc zi O) (reg Try.f41 1) (reg Try.f41 1).toList ([g,i,k,l,x4,x5,x6,x7,x8,x9,o,p,q,r,s,t,u,w,x,y,z,A,B,C,D,E,F,G,H,I,J,K,L,M,N,P,Q,R]) S =
  (zN (zA zi 28 k 0 S) (fun U m=>zN (zQ zi false 3 U m) (fun V S2=>zN (zA zi 28 l 0 S2) (fun v2 S3=>zN (zQ zi false 3 v2 S3) (fun v3 S4=>zN (jY zi BinOp.eql 3 V v3 S4) (fun f S5=>gdK (dem f) true (zA zi 28 k 1) S5 (fun v6 S6=>gdK (dem f) true (zQ zi false 3 v6) S6 (fun v7 S7=>gdK (dem f) true (zA zi 28 l 1) S7 (fun v8 S8=>gdK (dem f) true (zQ zi false 3 v8) S8 (fun v9 S9=>gdK (dem f) true (jY zi BinOp.eql 3 v7 v9) S9 (fun W b2=>zN (yj (dem f) W (Value.bool false) b2) (fun b b3=>gdK (dem b) true (zA zi 28 k 2) b3 (fun X b4=>gdK (dem b) true (zQ zi false 3 X) b4 (fun Y b5=>gdK (dem b) true (zA zi 28 l 2) b5 (fun Z b6=>gdK (dem b) true (zQ zi false 3 Z) b6 (fun a0 b7=>gdK (dem b) true (jY zi BinOp.eql 3 Y a0) b7 (fun a1 b8=>zN (yj (dem b) a1 (Value.bool false) b8) (fun c b9=>gdK (dem c) true (zA zi 28 k 3) b9 (fun a2 c0=>gdK (dem c) true (zQ zi false 3 a2) c0 (fun a3 c1=>gdK (dem c) true (zA zi 28 l 3) c1 (fun a4 c2=>gdK (dem c) true (zQ zi false 3 a4) c2 (fun a5 c3=>gdK (dem c) true (jY zi BinOp.eql 3 a3 a5) c3 (fun a6 c4=>zN (yj (dem c) a6 (Value.bool false) c4) (fun d c5=>gdK (dem d) true (zA zi 28 k 4) c5 (fun a7 c6=>gdK (dem d) true (zQ zi false 26 a7) c6 (fun a8 c7=>gdK (dem d) true (zA zi 28 l 4) c7 (fun a9 c8=>gdK (dem d) true (zQ zi false 26 a9) c8 (fun b0 c9=>gdK (dem d) true ((jc zi O) 60 [(dem a8),(dem b0)]) c9 (fun b1 d0=>zN (yj (dem d) b1 (Value.bool false) d0) (fun n d1=>some ([g,i,k,l,n,U,V,v2,v3,f,dem f,v6,v7,v8,v9,W,b,dem b,X,Y,Z,a0,a1,c,dem c,a2,a3,a4,a5,a6,d,dem d,a7,a8,a9,b0,b1,dem n],d1)) ()) ()) ()) ()) ()) ()) ()) ()) ()) ()) ()) ()) ()) ()) ()) ()) ()) ()) ()) ()) ()) ()) ()) ()) ()) ()) ()) ()) ()):=by
 refine sD Try.f41 1 0 (fun U m=>?_)
 refine sD Try.f41 1 1 (fun V S2=>?_)
 refine sD Try.f41 1 2 (fun v2 S3=>?_)
 refine sD Try.f41 1 3 (fun v3 S4=>?_)
 refine sD Try.f41 1 4 (fun f S5=>?_)
 refine sP Try.f41 1 5 (v:=f) ?_
 refine sG Try.f41 1 6 (j:=5) (fun v6 S6=>?_)
 refine sG Try.f41 1 7 (j:=5) (fun v7 S7=>?_)
 refine sG Try.f41 1 8 (j:=5) (fun v8 S8=>?_)
 refine sG Try.f41 1 9 (j:=5) (fun v9 S9=>?_)
 refine sG Try.f41 1 10 (j:=5) (fun W b2=>?_)
 refine sD Try.f41 1 11 (fun b b3=>?_)
 refine sP Try.f41 1 12 (v:=b) ?_
 refine sG Try.f41 1 13 (j:=12) (fun X b4=>?_)
 refine sG Try.f41 1 14 (j:=12) (fun Y b5=>?_)
 refine sG Try.f41 1 15 (j:=12) (fun Z b6=>?_)
 refine sG Try.f41 1 16 (j:=12) (fun a0 b7=>?_)
 refine sG Try.f41 1 17 (j:=12) (fun a1 b8=>?_)
 refine sD Try.f41 1 18 (fun c b9=>?_)
 refine sP Try.f41 1 19 (v:=c) ?_
 refine sG Try.f41 1 20 (j:=19) (fun a2 c0=>?_)
 refine sG Try.f41 1 21 (j:=19) (fun a3 c1=>?_)
 refine sG Try.f41 1 22 (j:=19) (fun a4 c2=>?_)
 refine sG Try.f41 1 23 (j:=19) (fun a5 c3=>?_)
 refine sG Try.f41 1 24 (j:=19) (fun a6 c4=>?_)
 refine sD Try.f41 1 25 (fun d c5=>?_)
 refine sP Try.f41 1 26 (v:=d) ?_
 refine sG Try.f41 1 27 (j:=26) (fun a7 c6=>?_)
 refine sG Try.f41 1 28 (j:=26) (fun a8 c7=>?_)
 refine sG Try.f41 1 29 (j:=26) (fun a9 c8=>?_)
 refine sG Try.f41 1 30 (j:=26) (fun b0 c9=>?_)
 refine sG Try.f41 1 31 (j:=26) (fun b1 d0=>?_)
 refine sD Try.f41 1 32 (fun n d1=>?_)
 refine sP Try.f41 1 33 (v:=n) ?_
 kernel_rfl
theorem jq.rs:type_of% (aiJ @jq.r0 (@jq.r1)):=aiJ @jq.r0 (@jq.r1)
theorem jq.runs {g i:Value} {S m:zu} {e:AEx} {T:List Value} (h:zD zi O false jq.code ([g,i,zh,zh,zh,zh,zh,zh,zh,zh,zh,zh,zh,zh,zh,zh,zh,zh,zh,zh,zh,zh,zh,zh,zh,zh,zh,zh,zh,zh,zh,zh,zh,zh,zh,zh,zh,zh]) zu.empty=some (e,T,m)) (he:e=.normal∨e=.ret) (hca:[g,i].all (jg 16)=true) (hcv:jg 16 (T.getD 4 zh)=true):jc zi O 41 [g,i] S=some (T.getD 4 zh,S) :=
 yC rfl rfl Try.func41 (by decide) jq.body (by exact h) he (wJ (a:=T.getD 4 zh) ((show zL zi T m Try.f41.results.toList=zL zi T m [(ResultVar.tmp 4)] from by kernel_rfl).trans (by simp only [zL])) (by kernel_rfl)) hca hcv
end Go.Proofs.Ytbgcphbbchndkaa
namespace Go.Proofs.Ytbgcphbbchndkaa
open Go.Abs
abbrev zF.id:FuncId:=31
noncomputable def zF.code:Code:=(.seq (.region 0 (reg Try.f31 0) false) (.seq (.region 1 (reg Try.f31 1) false) Code.ret))
theorem zF.body:Try.f31.body=some zF.code:=by kernel_rfl
variable (g i k l x4 x5 x6 x7 x8 x9 o p q r s t u w x y z A B C D E F G H I J K L M N P Q R:Value) (S:zu)
theorem zF.r0 :jI zi ⟨false,false,false⟩ (jc zi O) (reg Try.f31 0) (reg Try.f31 0).toList ([g,i,k,l,x4,x5,x6,x7,x8,x9,o,p,q,r,s,t,u,w,x,y,z,A,B,C,D,E,F,G,H,I,J,K,L,M,N,P,Q,R]) S =
  (zN (Zk (dem g) S) (fun U m=>zN (Zk (dem i) m) (fun V S2=>some ([g,i,U,V,Value.bool false,x5,x6,x7,x8,x9,o,p,q,r,s,t,u,w,x,y,z,A,B,C,D,E,F,G,H,I,J,K,L,M,N,P,Q,R],S2)) ()) ()):=by
 kernel_rfl
theorem zF.r1 :jI zi ⟨false,false,false⟩ (jc zi O) (reg Try.f31 1) (reg Try.f31 1).toList ([g,i,k,l,x4,x5,x6,x7,x8,x9,o,p,q,r,s,t,u,w,x,y,z,A,B,C,D,E,F,G,H,I,J,K,L,M,N,P,Q,R]) S =
  (zN (zA zi 28 k 0 S) (fun U m=>zN (zQ zi false 3 U m) (fun V S2=>zN (zA zi 28 l 0 S2) (fun v2 S3=>zN (zQ zi false 3 v2 S3) (fun v3 S4=>zN (jY zi BinOp.eql 3 V v3 S4) (fun f S5=>gdK (dem f) true (zA zi 28 k 1) S5 (fun v6 S6=>gdK (dem f) true (zQ zi false 3 v6) S6 (fun v7 S7=>gdK (dem f) true (zA zi 28 l 1) S7 (fun v8 S8=>gdK (dem f) true (zQ zi false 3 v8) S8 (fun v9 S9=>gdK (dem f) true (jY zi BinOp.eql 3 v7 v9) S9 (fun W b2=>zN (yj (dem f) W (Value.bool false) b2) (fun b b3=>gdK (dem b) true (zA zi 28 k 2) b3 (fun X b4=>gdK (dem b) true (zQ zi false 3 X) b4 (fun Y b5=>gdK (dem b) true (zA zi 28 l 2) b5 (fun Z b6=>gdK (dem b) true (zQ zi false 3 Z) b6 (fun a0 b7=>gdK (dem b) true (jY zi BinOp.eql 3 Y a0) b7 (fun a1 b8=>zN (yj (dem b) a1 (Value.bool false) b8) (fun c b9=>gdK (dem c) true (zA zi 28 k 3) b9 (fun a2 c0=>gdK (dem c) true (zQ zi false 3 a2) c0 (fun a3 c1=>gdK (dem c) true (zA zi 28 l 3) c1 (fun a4 c2=>gdK (dem c) true (zQ zi false 3 a4) c2 (fun a5 c3=>gdK (dem c) true (jY zi BinOp.eql 3 a3 a5) c3 (fun a6 c4=>zN (yj (dem c) a6 (Value.bool false) c4) (fun d c5=>gdK (dem d) true (zA zi 28 k 4) c5 (fun a7 c6=>gdK (dem d) true (zQ zi false 26 a7) c6 (fun a8 c7=>gdK (dem d) true (zA zi 28 l 4) c7 (fun a9 c8=>gdK (dem d) true (zQ zi false 26 a9) c8 (fun b0 c9=>gdK (dem d) true ((jc zi O) 55 [(dem a8),(dem b0)]) c9 (fun b1 d0=>zN (yj (dem d) b1 (Value.bool false) d0) (fun n d1=>some ([g,i,k,l,n,U,V,v2,v3,f,dem f,v6,v7,v8,v9,W,b,dem b,X,Y,Z,a0,a1,c,dem c,a2,a3,a4,a5,a6,d,dem d,a7,a8,a9,b0,b1,dem n],d1)) ()) ()) ()) ()) ()) ()) ()) ()) ()) ()) ()) ()) ()) ()) ()) ()) ()) ()) ()) ()) ()) ()) ()) ()) ()) ()) ()) ()) ()):=by
 refine sD Try.f31 1 0 (fun U m=>?_)
 refine sD Try.f31 1 1 (fun V S2=>?_)
 refine sD Try.f31 1 2 (fun v2 S3=>?_)
 refine sD Try.f31 1 3 (fun v3 S4=>?_)
 refine sD Try.f31 1 4 (fun f S5=>?_)
 refine sP Try.f31 1 5 (v:=f) ?_
 refine sG Try.f31 1 6 (j:=5) (fun v6 S6=>?_)
 refine sG Try.f31 1 7 (j:=5) (fun v7 S7=>?_)
 refine sG Try.f31 1 8 (j:=5) (fun v8 S8=>?_)
 refine sG Try.f31 1 9 (j:=5) (fun v9 S9=>?_)
 refine sG Try.f31 1 10 (j:=5) (fun W b2=>?_)
 refine sD Try.f31 1 11 (fun b b3=>?_)
 refine sP Try.f31 1 12 (v:=b) ?_
 refine sG Try.f31 1 13 (j:=12) (fun X b4=>?_)
 refine sG Try.f31 1 14 (j:=12) (fun Y b5=>?_)
 refine sG Try.f31 1 15 (j:=12) (fun Z b6=>?_)
 refine sG Try.f31 1 16 (j:=12) (fun a0 b7=>?_)
 refine sG Try.f31 1 17 (j:=12) (fun a1 b8=>?_)
 refine sD Try.f31 1 18 (fun c b9=>?_)
 refine sP Try.f31 1 19 (v:=c) ?_
 refine sG Try.f31 1 20 (j:=19) (fun a2 c0=>?_)
 refine sG Try.f31 1 21 (j:=19) (fun a3 c1=>?_)
 refine sG Try.f31 1 22 (j:=19) (fun a4 c2=>?_)
 refine sG Try.f31 1 23 (j:=19) (fun a5 c3=>?_)
 refine sG Try.f31 1 24 (j:=19) (fun a6 c4=>?_)
 refine sD Try.f31 1 25 (fun d c5=>?_)
 refine sP Try.f31 1 26 (v:=d) ?_
 refine sG Try.f31 1 27 (j:=26) (fun a7 c6=>?_)
 refine sG Try.f31 1 28 (j:=26) (fun a8 c7=>?_)
 refine sG Try.f31 1 29 (j:=26) (fun a9 c8=>?_)
 refine sG Try.f31 1 30 (j:=26) (fun b0 c9=>?_)
 refine sG Try.f31 1 31 (j:=26) (fun b1 d0=>?_)
 refine sD Try.f31 1 32 (fun n d1=>?_)
 refine sP Try.f31 1 33 (v:=n) ?_
 kernel_rfl
theorem zF.rs:type_of% (aiJ @zF.r0 (@zF.r1)):=aiJ @zF.r0 (@zF.r1)
theorem zF.runs {g i:Value} {S m:zu} {e:AEx} {T:List Value} (h:zD zi O false zF.code ([g,i,zh,zh,zh,zh,zh,zh,zh,zh,zh,zh,zh,zh,zh,zh,zh,zh,zh,zh,zh,zh,zh,zh,zh,zh,zh,zh,zh,zh,zh,zh,zh,zh,zh,zh,zh,zh]) zu.empty=some (e,T,m)) (he:e=.normal∨e=.ret) (hca:[g,i].all (jg 16)=true) (hcv:jg 16 (T.getD 4 zh)=true):jc zi O 31 [g,i] S=some (T.getD 4 zh,S) :=
 yC rfl rfl Try.func31 (by decide) zF.body (by exact h) he (wJ (a:=T.getD 4 zh) ((show zL zi T m Try.f31.results.toList=zL zi T m [(ResultVar.tmp 4)] from by kernel_rfl).trans (by simp only [zL])) (by kernel_rfl)) hca hcv
end Go.Proofs.Ytbgcphbbchndkaa
namespace Go.Proofs.Ytbgcphbbchndkaa
open Go.Abs
abbrev ji.id:FuncId:=34
noncomputable def ji.code:Code:=(.seq (.region 0 (reg Try.f34 0) false) (.seq (.seq (.region 1 (reg Try.f34 1) false) (.cond (.tmp 10) (.seq (.region 2 (reg Try.f34 2) false) Code.ret) Code.skip)) (.seq (.region 3 (reg Try.f34 3) false) (.seq (.region 4 (reg Try.f34 4) false) (.seq (.region 5 (reg Try.f34 5) false) Code.ret)))))
theorem ji.body:Try.f34.body=some ji.code:=by kernel_rfl
variable (a b K L B F C G H I c d f g i j k l m n o p q r s t u v w x y z A:Value) (S:zu)
theorem ji.r0 :jI zi ⟨false,false,false⟩ (jc zi O) (reg Try.f34 0) (reg Try.f34 0).toList ([a,b,K,L,B,F,C,G,H,I,c,d,f,g,i,j,k,l,m,n,o,p,q,r,s,t,u,v,w,x,y,z,A]) S =
  (zN (Zk (dem a) S) (fun J D=>some ([a,J,Value.slice none 0 0,.int .i64 0,B,F,C,G,H,I,c,d,f,g,i,j,k,l,m,n,o,p,q,r,s,t,u,v,w,x,y,z,A],D)) ()):=by
 kernel_rfl
theorem ji.r1 :jI zi ⟨false,false,false⟩ (jc zi O) (reg Try.f34 1) (reg Try.f34 1).toList ([a,b,K,L,B,F,C,G,H,I,c,d,f,g,i,j,k,l,m,n,o,p,q,r,s,t,u,v,w,x,y,z,A]) S =
  (zN (zQ zi false 28 b S) (fun J D=>zN ((jc zi O) 39 [(dem J)] D) (fun M N=>zN (aUn zi UnOp.not M N) (fun E P=>some ([a,b,K,L,B,F,C,G,J,M,E,d,f,g,i,j,k,l,m,n,o,p,q,r,s,t,u,v,w,x,y,z,A],P)) ()) ()) ()):=by
 kernel_rfl
theorem ji.r2 :jI zi ⟨false,false,false⟩ (jc zi O) (reg Try.f34 2) (reg Try.f34 2).toList ([a,b,K,L,B,F,C,G,H,I,c,d,f,g,i,j,k,l,m,n,o,p,q,r,s,t,u,v,w,x,y,z,A]) S =
  ( some ([a,b,Value.slice none 0 0,.int .i64 71,B,F,C,G,H,I,c,d,f,g,i,j,k,l,m,n,o,p,q,r,s,t,u,v,w,x,y,z,A],S)):=by
 kernel_rfl
theorem ji.r3 :jI zi ⟨false,false,false⟩ (jc zi O) (reg Try.f34 3) (reg Try.f34 3).toList ([a,b,K,L,B,F,C,G,H,I,c,d,f,g,i,j,k,l,m,n,o,p,q,r,s,t,u,v,w,x,y,z,A]) S =
  (zN (zA zi 28 b 0 S) (fun J D=>zN (zQ zi false 3 J D) (fun M N=>zN (zA zi 28 b 1 N) (fun E P=>zN (zQ zi false 3 E P) (fun Z X=>zN (zA zi 28 b 2 X) (fun Q Y=>zN (zQ zi false 3 Q Y) (fun R S6=>zN (zA zi 28 b 3 S6) (fun v6 S7=>zN (zQ zi false 3 v6 S7) (fun v7 S8=>zN (jT zi 57 4 [(0,M),(1,Z),(2,R),(3,v7)] S8) (fun v8 S9=>zN ((jc zi O) 32 [(dem v8)] S9) (fun U a0=>zN (zS U 0 a0) (fun V a1=>zN (zS (jD 0 U) 1 a1) (fun W a2=>some ([a,b,K,L,V,W,C,G,H,I,c,jD 1 (jD 0 U),J,M,E,Z,Q,R,v6,v7,v8,dem U,dem V,dem W,s,t,u,v,w,x,y,z,A],a2)) ()) ()) ()) ()) ()) ()) ()) ()) ()) ()) ()) ()):=by
 kernel_rfl
theorem ji.r4 :jI zi ⟨false,false,false⟩ (jc zi O) (reg Try.f34 4) (reg Try.f34 4).toList ([a,b,K,L,B,F,C,G,H,I,c,d,f,g,i,j,k,l,m,n,o,p,q,r,s,t,u,v,w,x,y,z,A]) S =
  (zN (zA zi 28 b 4 S) (fun J D=>zN (zQ zi false 26 J D) (fun M N=>zN ((jc zi O) 56 [(dem M)] N) (fun E P=>zN (zS E 0 P) (fun Q X=>zN (zS (jD 0 E) 1 X) (fun R Y=>some ([a,b,K,L,B,F,Q,R,H,I,c,d,f,g,i,j,k,l,m,n,o,p,q,r,jD 1 (jD 0 E),J,M,dem E,dem Q,dem R,y,z,A],Y)) ()) ()) ()) ()) ()):=by
 kernel_rfl
theorem ji.r5 :jI zi ⟨false,false,false⟩ (jc zi O) (reg Try.f34 5) (reg Try.f34 5).toList ([a,b,K,L,B,F,C,G,H,I,c,d,f,g,i,j,k,l,m,n,o,p,q,r,s,t,u,v,w,x,y,z,A]) S =
  (zN (yw zi 23 23 B (dem C) S) (fun E D=>some ([a,b,E,.int .i64 0,dem B,F,C,G,H,I,c,d,f,g,i,j,k,l,m,n,o,p,q,r,s,t,u,v,w,x,dem B,dem C,dem E],D)) ()):=by
 kernel_rfl
theorem ji.rs:type_of% (aiJ @ji.r0 (aiJ @ji.r1 (aiJ @ji.r2 (aiJ @ji.r3 (aiJ @ji.r4 (@ji.r5)))))):=aiJ @ji.r0 (aiJ @ji.r1 (aiJ @ji.r2 (aiJ @ji.r3 (aiJ @ji.r4 (@ji.r5)))))
theorem ji.runs {a:Value} {S D:zu} {e:AEx} {T:List Value} (h:zD zi O false ji.code ([a,zh,zh,zh,zh,zh,zh,zh,zh,zh,zh,zh,zh,zh,zh,zh,zh,zh,zh,zh,zh,zh,zh,zh,zh,zh,zh,zh,zh,zh,zh,zh,zh]) zu.empty=some (e,T,D)) (he:e=.normal∨e=.ret)  (h0:wU (T.getD 2 zh)=true) (h1:wU (T.getD 3 zh)=true) (hca:[a].all (jg 16)=true) (hcv:jg 16 (Value.tuple #[T.getD 2 zh,T.getD 3 zh])=true):jc zi O 34 [a] S=some (Value.tuple #[T.getD 2 zh,T.getD 3 zh],S) :=
 yC rfl rfl Try.func34 (by decide) ji.body (by exact h) he ((Zv ((show zL zi T D Try.f34.results.toList=zL zi T D [(ResultVar.tmp 2),(ResultVar.tmp 3)] from by kernel_rfl).trans (by simp only [zL])) (by kernel_rfl) (by simp only [List.all_cons,List.all_nil,h0,h1,Bool.and_true])).trans rfl) hca hcv
end Go.Proofs.Ytbgcphbbchndkaa
namespace Go.Proofs.Ytbgcphbbchndkaa
open Go.Abs
abbrev zH.id:FuncId:=39
noncomputable def zH.code:Code:=(.seq (.region 0 (reg Try.f39 0) false) (.seq (.seq (.region 1 (reg Try.f39 1) false) (.cond (.tmp 20) (.seq (.region 2 (reg Try.f39 2) false) Code.ret) Code.skip)) (.seq (.seq (.region 3 (reg Try.f39 3) false) (.cond (.tmp 37) (.seq (.region 4 (reg Try.f39 4) false) Code.ret) Code.skip)) (.seq (.region 5 (reg Try.f39 5) false) (.seq (.region 6 (reg Try.f39 6) false) Code.ret)))))
theorem zH.body:Try.f39.body=some zH.code:=by kernel_rfl
variable (U b x2 X V Y Z x7 x8 x9 c d f g i k l m n o p q r s t u w x y z A B C D E F G H I J K L M N P Q:Value) (S:zu)
theorem zH.r0 :jI zi ⟨false,false,false⟩ (jc zi O) (reg Try.f39 0) (reg Try.f39 0).toList ([U,b,x2,X,V,Y,Z,x7,x8,x9,c,d,f,g,i,k,l,m,n,o,p,q,r,s,t,u,w,x,y,z,A,B,C,D,E,F,G,H,I,J,K,L,M,N,P,Q]) S =
  (zN (Zk (dem U) S) (fun v0 W=>some ([U,v0,Value.bool false,X,V,Y,Z,x7,x8,x9,c,d,f,g,i,k,l,m,n,o,p,q,r,s,t,u,w,x,y,z,A,B,C,D,E,F,G,H,I,J,K,L,M,N,P,Q],W)) ()):=by
 kernel_rfl
theorem zH.r1 :jI zi ⟨false,false,false⟩ (jc zi O) (reg Try.f39 1) (reg Try.f39 1).toList ([U,b,x2,X,V,Y,Z,x7,x8,x9,c,d,f,g,i,k,l,m,n,o,p,q,r,s,t,u,w,x,y,z,A,B,C,D,E,F,G,H,I,J,K,L,M,N,P,Q]) S =
  (zN (zA zi 28 b 0 S) (fun v0 W=>zN (zQ zi false 3 v0 W) (fun v1 S2=>zN ((jc zi O) 57 [(dem v1),(.int .i64 1),(.int .i64 4095)] S2) (fun R S3=>zN (aUn zi UnOp.not R S3) (fun v3 S4=>gdK (dem v3) false (zA zi 28 b 1) S4 (fun v5 S5=>gdK (dem v3) false (zQ zi false 3 v5) S5 (fun v6 S6=>gdK (dem v3) false ((jc zi O) 57 [(dem v6),(.int .i64 0),(.int .i64 6)]) S6 (fun v7 S7=>gdK (dem v3) false (aUn zi UnOp.not v7) S7 (fun v8 S8=>zN (yj (dem v3) (Value.bool true) v8 S8) (fun v9 S9=>gdK (dem v9) false (zA zi 28 b 2) S9 (fun a0 a5=>gdK (dem v9) false (zQ zi false 3 a0) a5 (fun a1 a6=>gdK (dem v9) false ((jc zi O) 57 [(dem a1),(.int .i64 0),(.int .i64 255)]) a6 (fun a2 a7=>gdK (dem v9) false (aUn zi UnOp.not a2) a7 (fun a3 a8=>zN (yj (dem v9) (Value.bool true) a3 a8) (fun a4 a9=>some ([U,b,x2,X,V,v0,v1,R,v3,dem v3,v5,v6,v7,v8,v9,dem v9,a0,a1,a2,a3,a4,q,r,s,t,u,w,x,y,z,A,B,C,D,E,F,G,H,I,J,K,L,M,N,P,Q],a9)) ()) ()) ()) ()) ()) ()) ()) ()) ()) ()) ()) ()) ()) ()):=by
 refine sD Try.f39 1 0 (fun v0 W=>?_)
 refine sD Try.f39 1 1 (fun v1 S2=>?_)
 refine sD Try.f39 1 2 (fun R S3=>?_)
 refine sD Try.f39 1 3 (fun v3 S4=>?_)
 refine sP Try.f39 1 4 (v:=v3) ?_
 refine sG Try.f39 1 5 (j:=4) (fun v5 S5=>?_)
 refine sG Try.f39 1 6 (j:=4) (fun v6 S6=>?_)
 refine sG Try.f39 1 7 (j:=4) (fun v7 S7=>?_)
 refine sG Try.f39 1 8 (j:=4) (fun v8 S8=>?_)
 refine sD Try.f39 1 9 (fun v9 S9=>?_)
 refine sP Try.f39 1 10 (v:=v9) ?_
 refine sG Try.f39 1 11 (j:=10) (fun a0 a5=>?_)
 refine sG Try.f39 1 12 (j:=10) (fun a1 a6=>?_)
 refine sG Try.f39 1 13 (j:=10) (fun a2 a7=>?_)
 refine sG Try.f39 1 14 (j:=10) (fun a3 a8=>?_)
 refine sD Try.f39 1 15 (fun a4 a9=>?_)
 kernel_rfl
theorem zH.r2 :jI zi ⟨false,false,false⟩ (jc zi O) (reg Try.f39 2) (reg Try.f39 2).toList ([U,b,x2,X,V,Y,Z,x7,x8,x9,c,d,f,g,i,k,l,m,n,o,p,q,r,s,t,u,w,x,y,z,A,B,C,D,E,F,G,H,I,J,K,L,M,N,P,Q]) S =
  ( some ([U,b,Value.bool false,X,V,Y,Z,x7,x8,x9,c,d,f,g,i,k,l,m,n,o,p,q,r,s,t,u,w,x,y,z,A,B,C,D,E,F,G,H,I,J,K,L,M,N,P,Q],S)):=by
 kernel_rfl
theorem zH.r3 :jI zi ⟨false,false,false⟩ (jc zi O) (reg Try.f39 3) (reg Try.f39 3).toList ([U,b,x2,X,V,Y,Z,x7,x8,x9,c,d,f,g,i,k,l,m,n,o,p,q,r,s,t,u,w,x,y,z,A,B,C,D,E,F,G,H,I,J,K,L,M,N,P,Q]) S =
  (zN (zA zi 28 b 3 S) (fun v0 W=>zN (zQ zi false 3 v0 W) (fun v1 S2=>zN (jY zi BinOp.neq 3 v1 (.int .i64 0) S2) (fun R S3=>gdK (dem R) true (zA zi 28 b 3) S3 (fun v4 S4=>gdK (dem R) true (zQ zi false 3 v4) S4 (fun v5 S5=>gdK (dem R) true ((jc zi O) 58 [(dem v5)]) S5 (fun v6 S6=>gdK (dem R) true (aUn zi UnOp.not v6) S6 (fun v7 S7=>gdK (dem R) true (ret v7) S7 (fun v8 S8=>gdK (dem v8) false (zA zi 28 b 3) S8 (fun v9 S9=>gdK (dem v8) false (zQ zi false 3 v9) S9 (fun b0 a5=>gdK (dem v8) false (jY zi BinOp.quo 3 b0 (.int .i64 65536)) a5 (fun a0 a6=>gdK (dem v8) false (zA zi 28 b 0) a6 (fun a1 a7=>gdK (dem v8) false (zQ zi false 3 a1) a7 (fun a2 a8=>gdK (dem v8) false (jY zi BinOp.geq 3 a0 a2) a8 (fun a3 a9=>gdK (dem R) true (yj (dem v8) (Value.bool true) a3) a9 (fun a4 b1=>zN (yj (dem R) a4 (Value.bool false) b1) (fun b2 b3=>some ([U,b,x2,X,V,Y,Z,x7,x8,x9,c,d,f,g,i,k,l,m,n,o,p,v0,v1,R,dem R,v4,v5,v6,v7,dem v8,v9,b0,a0,a1,a2,a3,a4,b2,I,J,K,L,M,N,P,Q],b3)) ()) ()) ()) ()) ()) ()) ()) ()) ()) ()) ()) ()) ()) ()) ()) ()):=by
 refine sD Try.f39 3 0 (fun v0 W=>?_)
 refine sD Try.f39 3 1 (fun v1 S2=>?_)
 refine sD Try.f39 3 2 (fun R S3=>?_)
 refine sP Try.f39 3 3 (v:=R) ?_
 refine sG Try.f39 3 4 (j:=3) (fun v4 S4=>?_)
 refine sG Try.f39 3 5 (j:=3) (fun v5 S5=>?_)
 refine sG Try.f39 3 6 (j:=3) (fun v6 S6=>?_)
 refine sG Try.f39 3 7 (j:=3) (fun v7 S7=>?_)
 refine sG Try.f39 3 8 (j:=3) (fun v8 S8=>?_)
 refine sG Try.f39 3 9 (j:=8) (fun v9 S9=>?_)
 refine sG Try.f39 3 10 (j:=8) (fun b0 a5=>?_)
 refine sG Try.f39 3 11 (j:=8) (fun a0 a6=>?_)
 refine sG Try.f39 3 12 (j:=8) (fun a1 a7=>?_)
 refine sG Try.f39 3 13 (j:=8) (fun a2 a8=>?_)
 refine sG Try.f39 3 14 (j:=8) (fun a3 a9=>?_)
 refine sG Try.f39 3 15 (j:=3) (fun a4 b1=>?_)
 refine sD Try.f39 3 16 (fun b2 b3=>?_)
 kernel_rfl
theorem zH.r4 :jI zi ⟨false,false,false⟩ (jc zi O) (reg Try.f39 4) (reg Try.f39 4).toList ([U,b,x2,X,V,Y,Z,x7,x8,x9,c,d,f,g,i,k,l,m,n,o,p,q,r,s,t,u,w,x,y,z,A,B,C,D,E,F,G,H,I,J,K,L,M,N,P,Q]) S =
  ( some ([U,b,Value.bool false,X,V,Y,Z,x7,x8,x9,c,d,f,g,i,k,l,m,n,o,p,q,r,s,t,u,w,x,y,z,A,B,C,D,E,F,G,H,I,J,K,L,M,N,P,Q],S)):=by
 kernel_rfl
theorem zH.r5 :jI zi ⟨false,false,false⟩ (jc zi O) (reg Try.f39 5) (reg Try.f39 5).toList ([U,b,x2,X,V,Y,Z,x7,x8,x9,c,d,f,g,i,k,l,m,n,o,p,q,r,s,t,u,w,x,y,z,A,B,C,D,E,F,G,H,I,J,K,L,M,N,P,Q]) S =
  (zN (zA zi 28 b 4 S) (fun v0 W=>zN (zQ zi false 26 v0 W) (fun v1 S2=>zN ((jc zi O) 56 [(dem v1)] S2) (fun R S3=>zN (zS R 0 S3) (fun v4 S4=>zN (zS (jD 0 R) 1 S4) (fun v5 S5=>some ([U,b,x2,v4,v5,Y,Z,x7,x8,x9,c,d,f,g,i,k,l,m,n,o,p,q,r,s,t,u,w,x,y,z,A,B,C,D,E,F,G,H,jD 1 (jD 0 R),v0,v1,dem R,dem v4,dem v5,P,Q],S5)) ()) ()) ()) ()) ()):=by
 kernel_rfl
theorem zH.r6 :jI zi ⟨false,false,false⟩ (jc zi O) (reg Try.f39 6) (reg Try.f39 6).toList ([U,b,x2,X,V,Y,Z,x7,x8,x9,c,d,f,g,i,k,l,m,n,o,p,q,r,s,t,u,w,x,y,z,A,B,C,D,E,F,G,H,I,J,K,L,M,N,P,Q]) S =
  (zN (jY zi BinOp.eql 31 (dem V) (.int .i64 0) S) (fun v1 W=>some ([U,b,v1,X,V,Y,Z,x7,x8,x9,c,d,f,g,i,k,l,m,n,o,p,q,r,s,t,u,w,x,y,z,A,B,C,D,E,F,G,H,I,J,K,L,M,N,dem V,dem v1],W)) ()):=by
 kernel_rfl
theorem zH.rs:type_of% (aiJ @zH.r0 (aiJ @zH.r1 (aiJ @zH.r2 (aiJ @zH.r3 (aiJ @zH.r4 (aiJ @zH.r5 (@zH.r6))))))):=aiJ @zH.r0 (aiJ @zH.r1 (aiJ @zH.r2 (aiJ @zH.r3 (aiJ @zH.r4 (aiJ @zH.r5 (@zH.r6))))))
theorem zH.runs {U:Value} {S W:zu} {e:AEx} {T:List Value} (h:zD zi O false zH.code ([U,zh,zh,zh,zh,zh,zh,zh,zh,zh,zh,zh,zh,zh,zh,zh,zh,zh,zh,zh,zh,zh,zh,zh,zh,zh,zh,zh,zh,zh,zh,zh,zh,zh,zh,zh,zh,zh,zh,zh,zh,zh,zh,zh,zh,zh]) zu.empty=some (e,T,W)) (he:e=.normal∨e=.ret) (hca:[U].all (jg 16)=true) (hcv:jg 16 (T.getD 2 zh)=true):jc zi O 39 [U] S=some (T.getD 2 zh,S) :=
 yC rfl rfl Try.func39 (by decide) zH.body (by exact h) he (wJ (a:=T.getD 2 zh) ((show zL zi T W Try.f39.results.toList=zL zi T W [(ResultVar.tmp 2)] from by kernel_rfl).trans (by simp only [zL])) (by kernel_rfl)) hca hcv
end Go.Proofs.Ytbgcphbbchndkaa
namespace Go.Proofs.Ytbgcphbbchndkaa
open Go.Abs
abbrev zW.id:FuncId:=57
noncomputable def zW.code:Code:=(.seq (.region 0 (reg Try.f57 0) false) (.seq (.region 1 (reg Try.f57 1) false) Code.ret))
theorem zW.body:Try.f57.body=some zW.code:=by kernel_rfl
variable (b c d o p q z s t u i k l m n:Value) (S:zu)
theorem zW.r0 :jI zi ⟨false,false,false⟩ (jc zi O) (reg Try.f57 0) (reg Try.f57 0).toList ([b,c,d,o,p,q,z,s,t,u,i,k,l,m,n]) S =
  ( some ([b,c,d,o,p,q,Value.bool false,s,t,u,i,k,l,m,n],S)):=by
 kernel_rfl
theorem zW.r1 :jI zi ⟨false,false,false⟩ (jc zi O) (reg Try.f57 1) (reg Try.f57 1).toList ([b,c,d,o,p,q,z,s,t,u,i,k,l,m,n]) S =
  (zN (jY zi BinOp.geq 3 (dem b) (dem c) S) (fun f g=>gdK (dem f) true (ret b) g (fun w A=>gdK (dem f) true (ret d) A (fun x B=>gdK (dem f) true (jY zi BinOp.leq 3 (dem w) (dem x)) B (fun y C=>zN (yj (dem f) y (Value.bool false) C) (fun r D=>some ([b,c,d,o,p,q,r,dem b,dem c,f,dem f,dem w,dem x,y,dem r],D)) ()) ()) ()) ()) ()):=by
 refine sP Try.f57 1 0 (v:=b) ?_
 refine sP Try.f57 1 1 (v:=c) ?_
 refine sD Try.f57 1 2 (fun f g=>?_)
 refine sP Try.f57 1 3 (v:=f) ?_
 refine sG Try.f57 1 4 (j:=3) (fun w A=>?_)
 refine sG Try.f57 1 5 (j:=3) (fun x B=>?_)
 refine sG Try.f57 1 6 (j:=3) (fun y C=>?_)
 refine sD Try.f57 1 7 (fun r D=>?_)
 refine sP Try.f57 1 8 (v:=r) ?_
 kernel_rfl
theorem zW.rs:type_of% (aiJ @zW.r0 (@zW.r1)):=aiJ @zW.r0 (@zW.r1)
theorem zW.runs {b c d:Value} {S g:zu} {e:AEx} {T:List Value} (h:zD zi O false zW.code ([b,c,d,zh,zh,zh,zh,zh,zh,zh,zh,zh,zh,zh,zh]) S=some (e,T,g)) (he:e=.normal∨e=.ret):jc zi O 57 [b,c,d] S=some (T.getD 6 zh,g) :=
 yU rfl rfl Try.func57 (by decide) zW.body (by exact h) he (wJ (a:=T.getD 6 zh) ((show zL zi T g Try.f57.results.toList=zL zi T g [(ResultVar.tmp 6)] from by kernel_rfl).trans (by simp only [zL])) (by kernel_rfl))
end Go.Proofs.Ytbgcphbbchndkaa
namespace Go.Proofs.Ytbgcphbbchndkaa
open Go.Abs
abbrev jo.id:FuncId:=58
noncomputable def jo.code:Code:=(.seq (.region 0 (reg Try.f58 0) false) (.seq (.region 1 (reg Try.f58 1) false) Code.ret))
theorem jo.body:Try.f58.body=some jo.code:=by kernel_rfl
variable (b g w k l m n o p q f:Value) (S:zu)
theorem jo.r0 :jI zi ⟨false,false,false⟩ (jc zi O) (reg Try.f58 0) (reg Try.f58 0).toList ([b,g,w,k,l,m,n,o,p,q,f]) S =
  ( some ([b,g,Value.bool false,k,l,m,n,o,p,q,f],S)):=by
 kernel_rfl
theorem jo.r1 :jI zi ⟨false,false,false⟩ (jc zi O) (reg Try.f58 1) (reg Try.f58 1).toList ([b,g,w,k,l,m,n,o,p,q,f]) S =
  (zN ((jc zi O) 57 [(dem (dem b)),(.int .i64 65536),(.int .i64 268435455)] S) (fun c d=>gdK (dem c) true (ret b) d (fun r x=>gdK (dem c) true (jY zi BinOp.rem 3 (dem r) (.int .i64 65536)) x (fun s y=>gdK (dem c) true (jY zi BinOp.quo 3 s (.int .i64 256)) y (fun t z=>gdK (dem c) true (jY zi BinOp.lss 3 t (.int .i64 7)) z (fun u A=>zN (yj (dem c) u (Value.bool false) A) (fun i B=>some ([b,g,i,dem b,c,dem c,dem r,s,t,u,dem i],B)) ()) ()) ()) ()) ()) ()):=by
 refine sP Try.f58 1 0 (v:=b) ?_
 refine sD Try.f58 1 1 (fun c d=>?_)
 refine sP Try.f58 1 2 (v:=c) ?_
 refine sG Try.f58 1 3 (j:=2) (fun r x=>?_)
 refine sG Try.f58 1 4 (j:=2) (fun s y=>?_)
 refine sG Try.f58 1 5 (j:=2) (fun t z=>?_)
 refine sG Try.f58 1 6 (j:=2) (fun u A=>?_)
 refine sD Try.f58 1 7 (fun i B=>?_)
 refine sP Try.f58 1 8 (v:=i) ?_
 kernel_rfl
theorem jo.rs:type_of% (aiJ @jo.r0 (@jo.r1)):=aiJ @jo.r0 (@jo.r1)
theorem jo.runs {b:Value} {S d:zu} {e:AEx} {T:List Value} (h:zD zi O false jo.code ([b,zh,zh,zh,zh,zh,zh,zh,zh,zh,zh]) S=some (e,T,d)) (he:e=.normal∨e=.ret):jc zi O 58 [b] S=some (T.getD 2 zh,d) :=
 yU rfl rfl Try.func58 (by decide) jo.body (by exact h) he (wJ (a:=T.getD 2 zh) ((show zL zi T d Try.f58.results.toList=zL zi T d [(ResultVar.tmp 2)] from by kernel_rfl).trans (by simp only [zL])) (by kernel_rfl))
end Go.Proofs.Ytbgcphbbchndkaa
namespace Go.Proofs.Ytbgcphbbchndkaa
open Go.Abs
abbrev jG.id:FuncId:=59
noncomputable def jG.code:Code:=(.seq (.region 0 (reg Try.f59 0) false) (.seq (.seq (.region 1 (reg Try.f59 1) false) (.cond (.tmp 5) (.seq (.region 2 (reg Try.f59 2) false) Code.ret) Code.skip)) (.seq (.region 3 (reg Try.f59 3) false) Code.ret)))
theorem jG.body:Try.f59.body=some jG.code:=by kernel_rfl
variable (b c l f g i j k:Value) (S:zu)
theorem jG.r0 :jI zi ⟨false,false,false⟩ (jc zi O) (reg Try.f59 0) (reg Try.f59 0).toList ([b,c,l,f,g,i,j,k]) S =
  ( some ([b,c,.int .i64 0,f,g,i,j,k],S)):=by
 kernel_rfl
theorem jG.r1 :jI zi ⟨false,false,false⟩ (jc zi O) (reg Try.f59 1) (reg Try.f59 1).toList ([b,c,l,f,g,i,j,k]) S =
  (zN ((jc zi O) 58 [(dem (dem b))] S) (fun m d=>zN (aUn zi UnOp.not m d) (fun n o=>some ([b,c,l,dem b,m,n,j,k],o)) ()) ()):=by
 kernel_rfl
theorem jG.r2 :jI zi ⟨false,false,false⟩ (jc zi O) (reg Try.f59 2) (reg Try.f59 2).toList ([b,c,l,f,g,i,j,k]) S =
  ( some ([b,c,.int .i64 0,f,g,i,j,k],S)):=by
 kernel_rfl
theorem jG.r3 :jI zi ⟨false,false,false⟩ (jc zi O) (reg Try.f59 3) (reg Try.f59 3).toList ([b,c,l,f,g,i,j,k]) S =
  (zN (jY zi BinOp.quo 3 (dem b) (.int .i64 65536) S) (fun m d=>some ([b,c,m,f,g,i,dem b,dem m],d)) ()):=by
 kernel_rfl
theorem jG.rs:type_of% (aiJ @jG.r0 (aiJ @jG.r1 (aiJ @jG.r2 (@jG.r3)))):=aiJ @jG.r0 (aiJ @jG.r1 (aiJ @jG.r2 (@jG.r3)))
theorem jG.runs {b:Value} {S d:zu} {e:AEx} {T:List Value} (h:zD zi O false jG.code ([b,zh,zh,zh,zh,zh,zh,zh]) S=some (e,T,d)) (he:e=.normal∨e=.ret):jc zi O 59 [b] S=some (T.getD 2 zh,d) :=
 yU rfl rfl Try.func59 (by decide) jG.body (by exact h) he (wJ (a:=T.getD 2 zh) ((show zL zi T d Try.f59.results.toList=zL zi T d [(ResultVar.tmp 2)] from by kernel_rfl).trans (by simp only [zL])) (by kernel_rfl))
end Go.Proofs.Ytbgcphbbchndkaa
namespace Go.Proofs.Ytbgcphbbchndkaa
open Go.Abs
theorem aeP:zi.underlying 3=some (TypeDesc.int IntKind.i64):=by kernel_rfl
theorem aa3:kN zi 3=some 1:=by kernel_rfl
theorem Zt:qH zi 3=some false:=by kernel_rfl
theorem ahL:zeroOf zi 4=(some (Value.bool false)):=by kernel_rfl
theorem Vp:zi.underlying 5=some (TypeDesc.int IntKind.u8):=by kernel_rfl
theorem ada:kN zi 5=some 1:=by kernel_rfl
theorem agF:bytesOf zi 5=some 1:=by kernel_rfl
theorem afX:zeroOf zi 5=(some (Value.int IntKind.u8 0)):=by kernel_rfl
theorem af8:qH zi 5=some false:=by kernel_rfl
theorem aeQ:zi.underlying 9=some TypeDesc.string:=by kernel_rfl
theorem Zi:zi.underlying 23=some (TypeDesc.slice 5):=by kernel_rfl
theorem ab1:kN zi 23=some 1:=by kernel_rfl
theorem acU:qH zi 23=some false:=by kernel_rfl
theorem aeF:zi.underlying 25=some (TypeDesc.struct #[{ name:= "ID",type:=3,offset:=0,embedded:=false,tag:= "",pkgPath:= "",byteOffset:=0 },{ name:= "Fee",type:=3,offset:=1,embedded:=false,tag:= "",pkgPath:= "",byteOffset:=8 }]):=by kernel_rfl
theorem kR:kN zi 25=some 2:=by kernel_rfl
theorem aaw:bytesOf zi 25=some 16:=by kernel_rfl
theorem aam:zeroOf zi 25=(some (Value.agg #[(Value.int IntKind.i64 0),(Value.int IntKind.i64 0)])):=by kernel_rfl
theorem Kw:qH zi 25=some true:=by kernel_rfl
theorem qA:zi.underlying 26=some (TypeDesc.slice 25):=by kernel_rfl
theorem Qn:kN zi 26=some 1:=by kernel_rfl
theorem JR:qH zi 26=some false:=by kernel_rfl
theorem xg:kN zi 28=some 5:=by kernel_rfl
theorem Yr:qH zi 28=some true:=by kernel_rfl
theorem vw:kN zi 30=some 13:=by kernel_rfl
theorem acr:qH zi 30=some true:=by kernel_rfl
theorem WJ:zi.underlying 42=some (TypeDesc.int IntKind.u64):=by kernel_rfl
theorem acO:zi.underlying 57=some (TypeDesc.slice 3):=by kernel_rfl
theorem VN:zi.underlying 88=some (TypeDesc.slice 23):=by kernel_rfl
theorem Wi:zi.underlying 100=some (TypeDesc.map 3 4):=by kernel_rfl
theorem vV (q o:Nat) (S:zu):zA zi 25 (.pointer (some ⟨q,o,none⟩)) 0 S=some (.pointer (some ⟨q,o+0,none⟩),S):=by kernel_rfl
theorem ZV (q o:Nat) (S:zu):zA zi 25 (.pointer (some ⟨q,o,none⟩)) 1 S=some (.pointer (some ⟨q,o+1,none⟩),S):=by kernel_rfl
theorem jB (q o:Nat) (S:zu):zA zi 28 (.pointer (some ⟨q,o,none⟩)) 0 S=some (.pointer (some ⟨q,o+0,none⟩),S):=by kernel_rfl
theorem jy (q o:Nat) (S:zu):zA zi 28 (.pointer (some ⟨q,o,none⟩)) 1 S=some (.pointer (some ⟨q,o+1,none⟩),S):=by kernel_rfl
theorem jC (q o:Nat) (S:zu):zA zi 28 (.pointer (some ⟨q,o,none⟩)) 2 S=some (.pointer (some ⟨q,o+2,none⟩),S):=by kernel_rfl
theorem jA (q o:Nat) (S:zu):zA zi 28 (.pointer (some ⟨q,o,none⟩)) 3 S=some (.pointer (some ⟨q,o+3,none⟩),S):=by kernel_rfl
theorem jh (q o:Nat) (S:zu):zA zi 28 (.pointer (some ⟨q,o,none⟩)) 4 S=some (.pointer (some ⟨q,o+4,none⟩),S):=by kernel_rfl
theorem zI (q o:Nat) (S:zu):zA zi 30 (.pointer (some ⟨q,o,none⟩)) 0 S=some (.pointer (some ⟨q,o+0,none⟩),S):=by kernel_rfl
theorem zT (q o:Nat) (S:zu):zA zi 30 (.pointer (some ⟨q,o,none⟩)) 1 S=some (.pointer (some ⟨q,o+1,none⟩),S):=by kernel_rfl
theorem zY (q o:Nat) (S:zu):zA zi 30 (.pointer (some ⟨q,o,none⟩)) 2 S=some (.pointer (some ⟨q,o+2,none⟩),S):=by kernel_rfl
theorem jf (q o:Nat) (S:zu):zA zi 30 (.pointer (some ⟨q,o,none⟩)) 3 S=some (.pointer (some ⟨q,o+3,none⟩),S):=by kernel_rfl
theorem zM (q o:Nat) (S:zu):zA zi 30 (.pointer (some ⟨q,o,none⟩)) 4 S=some (.pointer (some ⟨q,o+4,none⟩),S):=by kernel_rfl
theorem jm (q o:Nat) (S:zu):zA zi 30 (.pointer (some ⟨q,o,none⟩)) 5 S=some (.pointer (some ⟨q,o+5,none⟩),S):=by kernel_rfl
theorem jv (q o:Nat) (S:zu):zA zi 30 (.pointer (some ⟨q,o,none⟩)) 6 S=some (.pointer (some ⟨q,o+6,none⟩),S):=by kernel_rfl
theorem jk (q o:Nat) (S:zu):zA zi 30 (.pointer (some ⟨q,o,none⟩)) 7 S=some (.pointer (some ⟨q,o+8,none⟩),S):=by kernel_rfl
theorem kL {fx:Bool} {x0 x1:Value} {S:zu}:zQ zi fx 25 (EP [x0,x1]) S=some (.agg [x0,x1].toArray,S):=adG Kw kR rfl
theorem Xj {q:Nat} {x0 x1:Value} {own:Own} {e:Nat} {S:zu} (h:S.get q=some (.cells [x0,x1] own e)):zQ zi false 25 (.pointer (some ⟨q,0,none⟩)) S=some (.agg [qM x0,qM x1].toArray,S):=(ZC (o:=0) h Kw kR (by simp)).trans (by simp)
theorem Zl {q:Nat} {x0 x1 x2 x3 x4:Value} {own:Own} {e:Nat} {S:zu} (h:S.get q=some (.cells [x0,x1,x2,x3,x4] own e)):zQ zi false 28 (.pointer (some ⟨q,0,none⟩)) S=some (.agg [qM x0,qM x1,qM x2,qM x3,qM x4].toArray,S):=(ZC (o:=0) h Yr xg (by simp)).trans (by simp)
theorem JO {q:Nat} {x0 x1 x2 x3 x4 x5 x6 x7 x8 x9 x10 x11 x12:Value} {own:Own} {e:Nat} {S:zu} (h:S.get q=some (.cells [x0,x1,x2,x3,x4,x5,x6,x7,x8,x9,x10,x11,x12] own e)):zQ zi false 30 (.pointer (some ⟨q,0,none⟩)) S=some (.agg [qM x0,qM x1,qM x2,qM x3,qM x4,qM x5,qM x6,qM x7,qM x8,qM x9,qM x10,qM x11,qM x12].toArray,S):=(ZC (o:=0) h acr vw (by simp)).trans (by simp)
theorem yO {y0 y1:Value} (h0:y0.cells=#[y0]) (h1:y1.cells=#[y1]) (S:zu):xH zi 30 [(0,y0),(1,y1)] S=some (.agg [y0,y1,(Value.int IntKind.i64 0),(Value.int IntKind.i64 0),(Value.int IntKind.i64 0),(Value.int IntKind.i64 0),(Value.int IntKind.i64 0),(Value.int IntKind.i64 0),(Value.int IntKind.i64 0),(Value.int IntKind.i64 0),(Value.int IntKind.i64 0),(Value.int IntKind.i64 0),(Value.slice none 0 0)].toArray,S):=by
 rw [show xH zi 30 [(0,y0),(1,y1)] S=(match ZJ ([(0,1),(1,1),(2,1),(3,1),(4,1),(5,1),(6,2),(8,5)][·]?) [(Value.int IntKind.i64 0),(Value.int IntKind.i64 0),(Value.int IntKind.i64 0),(Value.int IntKind.i64 0),(Value.int IntKind.i64 0),(Value.int IntKind.i64 0),(Value.int IntKind.i64 0),(Value.int IntKind.i64 0),(Value.int IntKind.i64 0),(Value.int IntKind.i64 0),(Value.int IntKind.i64 0),(Value.int IntKind.i64 0),(Value.slice none 0 0)] [(0,y0),(1,y1)] with | some l=>some (.agg l.toArray,S) | none=>none) from by kernel_rfl]
 simp [ZJ,splice,yV,h0,h1]
@[simp] theorem Jf (k:IntKind) (n:Int) (H:zu):yF zi 3 42 (.int k n) H=some (.int IntKind.u64 (IntKind.wrap IntKind.u64 n),H):=Jt aeP WJ k n
@[simp] theorem YJ (k:IntKind) (n:Int) (H:zu):yF zi 5 42 (.int k n) H=some (.int IntKind.u64 (IntKind.wrap IntKind.u64 n),H):=Jt Vp WJ k n
@[simp] theorem aeh (k:IntKind) (n:Int) (H:zu):yF zi 42 3 (.int k n) H=some (.int IntKind.i64 (IntKind.wrap IntKind.i64 n),H):=Jt WJ aeP k n
@[simp] theorem Zm (k:IntKind) (n:Int) (H:zu):yF zi 42 5 (.int k n) H=some (.int IntKind.u8 (IntKind.wrap IntKind.u8 n),H):=Jt WJ Vp k n
theorem Xn (S:zu):jT zi 23 0 [] S=some (sv 2 1 0 [],S):=by kernel_rfl
theorem J5 (x0:Int) (S:zu):jT zi 23 1 [(0,.int IntKind.u8 x0)] S=some (sv 2 1 1 [.int IntKind.u8 x0],S):=by kernel_rfl
theorem Kq (S:zu):jT zi 26 0 [] S=some (sv 2 2 0 [],S):=by kernel_rfl
theorem abt (x0:Int) (S:zu):jT zi 57 1 [(0,.int IntKind.i64 x0)] S=some (sv 2 1 1 [.int IntKind.i64 x0],S):=by kernel_rfl
theorem aby (x0 x1:Int) (S:zu):jT zi 57 2 [(0,.int IntKind.i64 x0),(1,.int IntKind.i64 x1)] S=some (sv 2 1 2 [.int IntKind.i64 x0,.int IntKind.i64 x1],S):=by kernel_rfl
theorem ahr {k:Nat} {l:List UInt8} {S:zu} (h:Okl k l):ZO zi 23 (by_ k l) S=some (goInt l.length,S):=acv Zi h
theorem ah9 {k:Nat} {l:List UInt8} {S:zu} {ki:IntKind} {i:Int} (h:Okl k l) (h0:0≤i) (hi:i < l.length):jw zi 23 (by_ k l) (.int ki i) S=some (EP [.int .u8 (l[i.toNat]'(by omega)).toNat],S):=agX Zi ada adx h h0 hi
theorem agy {fx:Bool} {v:Value} {S:zu}:zQ zi fx 5 (EP [v]) S=some (v,S):=Yw af8
theorem xB {k:Nat} {l:List UInt8} {S:zu} {j:Nat} {m:List UInt8} (h:Okl k l) (hk:k≠1) (hm:Okl j m) (hl:l.length+m.length≤140737488355328):yw zi 23 23 (by_ k l) (by_ j m) S=some (by_ (if k=0∧m.length=0 then 0 else 2) (l++m),S):=Xo Zi ada afX rfl agF (by omega) Zi adx ahm h hk hm (by omega) (by omega)
theorem ahS {k:Nat} {l:List UInt8} {S:zu} (h:Okl k l):Z7 zi 23 9 (by_ k l) S=some (.string ⟨l.toArray⟩,S):=adl Zi Vp aeQ h
theorem afp {k:Nat} {l:List Int} {S:zu} (h:Okl k l):ZO zi 57 (iz k l) S=some (goInt l.length,S):=acv acO h
theorem ais {k:Nat} {l:List Int} {S:zu} {ki:IntKind} {i:Int} (h:Okl k l) (h0:0≤i) (hi:i < l.length):jw zi 57 (iz k l) (.int ki i) S=some (EP [.int .i64 (l[i.toNat]'(by omega))],S):=agX acO aa3 ahM h h0 hi
theorem acg {fx:Bool} {v:Value} {S:zu}:zQ zi fx 3 (EP [v]) S=some (v,S):=Yw Zt
theorem wk:type_of% (aiJ @Qb (aiJ @Jp (aiJ @Wj (aiJ @Yn (aiJ @Y1 (aiJ @YI (aiJ @W9 (aiJ @WV (aiJ @Wh (aiJ @XQ (aiJ @WO (aiJ @Xv (aiJ @aae (aiJ @JE (aiJ @Qd (aiJ @WZ (aiJ @Qp (aiJ @YK (aiJ @Yp (aiJ @afe (aiJ @afL (aiJ @afC (aiJ @afg (aiJ @afG (aiJ @VD (aiJ @X8 (aiJ @acJ (aiJ @ac7 (aiJ @ads (aiJ @aaA (aiJ @J8 (aiJ @Xe (aiJ @Bool.and_true (aiJ @Bool.true_and (aiJ @Bool.and_self (aiJ @V3 (aiJ @vM (aiJ @Qc (aiJ @Xd (aiJ @Yt (aiJ @afi (aiJ @afD (aiJ @afk (aiJ @afn (aiJ @ahz (aiJ @ahq (aiJ @aht (aiJ @ahP (aiJ @ahU (aiJ @afw (aiJ @afs (aiJ @aff (aiJ @ae9 (aiJ @afv (aiJ @abW (aiJ @YX (aiJ @Bool.false_eq_true (aiJ @aau (aiJ @ac9 (aiJ @YV (aiJ @XR (aiJ @XC (aiJ @afH (aiJ @Xh (aiJ @afh (aiJ @Yu (aiJ @acp (aiJ @VY (aiJ @Qj (aiJ @acH (aiJ @ab7 (aiJ @VX (aiJ @Yf (aiJ @XK (aiJ @acF (aiJ @VT (aiJ @V5 (aiJ @KO (aiJ @aag (aiJ @WX (aiJ @KW (aiJ @Xb (aiJ @Y3 (aiJ @JB (aiJ @ZL (aiJ @Yd (aiJ @Xp (aiJ @JZ (aiJ @Y7 (aiJ @ZP (aiJ @ZT (aiJ @ZM (aiJ @Ko (aiJ @QV (aiJ @WC (aiJ @QX (aiJ @QD (aiJ @QB (aiJ @Kv (aiJ @Qy (aiJ @Kz (aiJ @acX (aiJ @Bool.not_true (aiJ @Bool.not_false (aiJ @Bool.true_eq_false (aiJ @decide_true (aiJ @decide_false (aiJ @acZ (aiJ @adD (aiJ @ab9 (aiJ @abL (aiJ @acd (aiJ @abG (aiJ @adB (aiJ @acf (aiJ @ac5 (aiJ @ac8 (aiJ @ach (aiJ @ac2 (aiJ @ac1 (aiJ @acy (@acD)))))))))))))))))))))))))))))))))))))))))))))))))))))))))))))))))))))))))))))))))))))))))))))))))))))))))))))))))))))))))):=aiJ @Qb (aiJ @Jp (aiJ @Wj (aiJ @Yn (aiJ @Y1 (aiJ @YI (aiJ @W9 (aiJ @WV (aiJ @Wh (aiJ @XQ (aiJ @WO (aiJ @Xv (aiJ @aae (aiJ @JE (aiJ @Qd (aiJ @WZ (aiJ @Qp (aiJ @YK (aiJ @Yp (aiJ @afe (aiJ @afL (aiJ @afC (aiJ @afg (aiJ @afG (aiJ @VD (aiJ @X8 (aiJ @acJ (aiJ @ac7 (aiJ @ads (aiJ @aaA (aiJ @J8 (aiJ @Xe (aiJ @Bool.and_true (aiJ @Bool.true_and (aiJ @Bool.and_self (aiJ @V3 (aiJ @vM (aiJ @Qc (aiJ @Xd (aiJ @Yt (aiJ @afi (aiJ @afD (aiJ @afk (aiJ @afn (aiJ @ahz (aiJ @ahq (aiJ @aht (aiJ @ahP (aiJ @ahU (aiJ @afw (aiJ @afs (aiJ @aff (aiJ @ae9 (aiJ @afv (aiJ @abW (aiJ @YX (aiJ @Bool.false_eq_true (aiJ @aau (aiJ @ac9 (aiJ @YV (aiJ @XR (aiJ @XC (aiJ @afH (aiJ @Xh (aiJ @afh (aiJ @Yu (aiJ @acp (aiJ @VY (aiJ @Qj (aiJ @acH (aiJ @ab7 (aiJ @VX (aiJ @Yf (aiJ @XK (aiJ @acF (aiJ @VT (aiJ @V5 (aiJ @KO (aiJ @aag (aiJ @WX (aiJ @KW (aiJ @Xb (aiJ @Y3 (aiJ @JB (aiJ @ZL (aiJ @Yd (aiJ @Xp (aiJ @JZ (aiJ @Y7 (aiJ @ZP (aiJ @ZT (aiJ @ZM (aiJ @Ko (aiJ @QV (aiJ @WC (aiJ @QX (aiJ @QD (aiJ @QB (aiJ @Kv (aiJ @Qy (aiJ @Kz (aiJ @acX (aiJ @Bool.not_true (aiJ @Bool.not_false (aiJ @Bool.true_eq_false (aiJ @decide_true (aiJ @decide_false (aiJ @acZ (aiJ @adD (aiJ @ab9 (aiJ @abL (aiJ @acd (aiJ @abG (aiJ @adB (aiJ @acf (aiJ @ac5 (aiJ @ac8 (aiJ @ach (aiJ @ac2 (aiJ @ac1 (aiJ @acy (@acD)))))))))))))))))))))))))))))))))))))))))))))))))))))))))))))))))))))))))))))))))))))))))))))))))))))))))))))))))))))))))
theorem zSs:type_of% (aiJ wk (aiJ (@List.getD_cons_succ Value) (aiJ (@List.getD_cons_zero Value) (aiJ @if_true.{1} (aiJ @if_false.{1} (aiJ (@List.getElem?_cons_succ Value) (aiJ (@List.getElem?_cons_zero Value) (aiJ @Option.map_some.{0,0} @eq_self.{1})))))))):=aiJ wk (aiJ (@List.getD_cons_succ Value) (aiJ (@List.getD_cons_zero Value) (aiJ @if_true.{1} (aiJ @if_false.{1} (aiJ (@List.getElem?_cons_succ Value) (aiJ (@List.getElem?_cons_zero Value) (aiJ @Option.map_some.{0,0} @eq_self.{1})))))))
end Go.Proofs.Ytbgcphbbchndkaa
namespace Go.Proofs.Ytbgcphbbchndkaa
open Go.Abs
theorem ah7 (x:Int):sv 2 1 1 [.int .i64 x]=iz 2 [x]:=rfl
end Go.Proofs.Ytbgcphbbchndkaa
namespace Go.Proofs.Ytbgcphbbchndkaa
open Go.Abs
def btw (n a b:Int):Bool:=decide (a≤n) && decide (n≤b)
theorem abD {n a b:Int}:btw n a b=true ↔ a≤n∧n≤b:=by simp [btw]
def vY (n:Int):Bool:=btw n 65536 268435455 && decide (n % 65536 / 256 < 7)
theorem Zr {n:Int}:vY n=true ↔ 65536≤n∧n≤268435455∧n % 65536 / 256 < 7:=by simp [vY,btw,and_assoc]
def Js (n:Int):Int:=if vY n=true then n / 65536 else 0
theorem aeJ {n m:Int} (h:0≤n):n.tmod m=n % m:=Int.tmod_eq_emod_of_nonneg h
theorem QN {n m:Int} (h:0≤n):n.tdiv m=n / m:=Int.tdiv_eq_ediv_of_nonneg h
theorem XJ:(65536:Int)≠0:=by decide
theorem aiI:(256:Int)≠0:=by decide
theorem zW.v (n a b:Int) (S:zu):jc zi O zW.id [.int .i64 n,.int .i64 a,.int .i64 b] S=some (.bool (btw n a b),S):=by
 obtain ⟨T,hTe⟩:∃ T,T=(.int .i64 n::.int .i64 a::.int .i64 b::zh::zh::zh::zh::zh::zh::zh::zh::zh::zh::zh::zh::[]):=⟨_,rfl⟩
 have hr:zD zi O false zW.code T S=zD zi O false zW.code T S:=rfl
 unfold btw
 by_cases h1:a≤n
 ·
  conv at hr =>
   rhs
   rw [hTe]
   simp only [zW.code,zW.rs,zSs,reduceIte,zk,zn,zo,zq,decide_eq_true h1]
  rw [decide_eq_true h1,Bool.true_and]
  rw [hTe] at hr
  exact zW.runs hr (.inr rfl)
 ·
  conv at hr =>
   rhs
   rw [hTe]
   simp only [zW.code,zW.rs,zSs,reduceIte,zk,zn,zo,zq,decide_eq_false h1]
  rw [decide_eq_false h1,Bool.false_and]
  rw [hTe] at hr
  exact zW.runs hr (.inr rfl)
theorem jo.v (n:Int) (S:zu):jc zi O jo.id [.int .i64 n] S=some (.bool (vY n),S):=by
 obtain ⟨T,hTe⟩:∃ T,T=(.int .i64 n::zh::zh::zh::zh::zh::zh::zh::zh::zh::zh::[]):=⟨_,rfl⟩
 have hr:zD zi O false jo.code T S=zD zi O false jo.code T S:=rfl
 unfold vY
 cases h1:btw n 65536 268435455
 ·
  conv at hr =>
   rhs
   rw [hTe]
   simp only [jo.code,jo.rs,zSs,reduceIte,zk,zn,zo,zq,zW.v,h1]
  rw [hTe] at hr
  exact jo.runs hr (.inr rfl)
 ·
  have hb:=abD.mp h1
  have q1:IntKind.i64.wrap ((n.tmod 65536).tdiv 256)=n % 65536 / 256:=by
   rw [aeJ (by omega),QN (by omega),wrap_i64 (by omega) (by omega)]
  conv at hr =>
   rhs
   rw [hTe]
   simp only [jo.code,jo.rs,zSs,reduceIte,zk,zn,zo,zq,zW.v,h1,aeV _ _ _ XJ,Jk _ _ _ aiI,q1]
  rw [hTe] at hr
  rw [Bool.true_and]
  exact jo.runs hr (.inr rfl)
theorem jG.v (n:Int) (S:zu):jc zi O jG.id [.int .i64 n] S=some (.int .i64 (Js n),S):=by
 obtain ⟨T,hTe⟩:∃ T,T=(.int .i64 n::zh::zh::zh::zh::zh::zh::zh::[]):=⟨_,rfl⟩
 have hr:zD zi O false jG.code T S=zD zi O false jG.code T S:=rfl
 unfold Js
 cases h1:vY n
 ·
  conv at hr =>
   rhs
   rw [hTe]
   simp only [jG.code,jG.rs,zSs,reduceIte,zk,zn,zo,zq,jo.v,h1]
  rw [hTe] at hr
  exact jG.runs hr (.inr rfl)
 ·
  have hb:=Zr.mp h1
  have q1:IntKind.i64.wrap (n.tdiv 65536)=n / 65536:=by
   rw [QN (by omega),wrap_i64 (by omega) (by omega)]
  conv at hr =>
   rhs
   rw [hTe]
   simp only [jG.code,jG.rs,zSs,reduceIte,zk,zn,zo,zq,jo.v,h1,Jk _ _ _ XJ,q1]
  rw [hTe] at hr
  exact jG.runs hr (.inr rfl)
end Go.Proofs.Ytbgcphbbchndkaa
namespace Go.Proofs.Ytbgcphbbchndkaa
open Go.Abs
abbrev zy.id:FuncId:=55
noncomputable def zy.jS:Code:=(.seq (.region 4 (reg Try.f55 4) false) (.seq (.cond (.tmp 14) Code.skip (.exit 0)) (.seq (.block 1 (.seq (.region 5 (reg Try.f55 5) false) (.seq (.region 6 (reg Try.f55 6) true) (.cond (.tmp 24) (.seq (.region 7 (reg Try.f55 7) false) Code.ret) Code.skip)))) (.region 8 (reg Try.f55 8) false))))
noncomputable def zy.code:Code:=(.seq (.region 0 (reg Try.f55 0) false) (.seq (.seq (.region 1 (reg Try.f55 1) false) (.cond (.tmp 10) (.seq (.region 2 (reg Try.f55 2) false) Code.ret) Code.skip)) (.seq (.seq (.region 3 (reg Try.f55 3) false) (.block 0 (.loop zy.jS))) (.seq (.region 9 (reg Try.f55 9) false) Code.ret))))
theorem zy.body:Try.f55.body=some zy.code:=by kernel_rfl
theorem zy.eta {T:List Value} (h:T.length=26):T=[T.getD 0 zh,T.getD 1 zh,T.getD 2 zh,T.getD 3 zh,T.getD 4 zh,T.getD 5 zh,T.getD 6 zh,T.getD 7 zh,T.getD 8 zh,T.getD 9 zh,T.getD 10 zh,T.getD 11 zh,T.getD 12 zh,T.getD 13 zh,T.getD 14 zh,T.getD 15 zh,T.getD 16 zh,T.getD 17 zh,T.getD 18 zh,T.getD 19 zh,T.getD 20 zh,T.getD 21 zh,T.getD 22 zh,T.getD 23 zh,T.getD 24 zh,T.getD 25 zh]:=(kK T 26 h).trans (by kernel_rfl)
variable (d u x y D w z A B C f g c b i j k l m n o p q r s t:Value) (S:zu)
theorem zy.r0 :jI zi ⟨false,false,false⟩ (jc zi O) (reg Try.f55 0) (reg Try.f55 0).toList ([d,u,x,y,D,w,z,A,B,C,f,g,c,b,i,j,k,l,m,n,o,p,q,r,s,t]) S =
  ( some ([d,u,x,y,Value.bool false,w,z,A,B,C,f,g,c,b,i,j,k,l,m,n,o,p,q,r,s,t],S)):=by
 kernel_rfl
theorem zy.r1 :jI zi ⟨false,false,false⟩ (jc zi O) (reg Try.f55 1) (reg Try.f55 1).toList ([d,u,x,y,D,w,z,A,B,C,f,g,c,b,i,j,k,l,m,n,o,p,q,r,s,t]) S =
  (zN (ZO zi 26 (dem d) S) (fun G E=>zN (ZO zi 26 (dem u) E) (fun F H=>zN (jY zi BinOp.neq 3 G F H) (fun R I=>some ([d,u,x,y,D,w,dem d,G,dem u,F,R,g,c,b,i,j,k,l,m,n,o,p,q,r,s,t],I)) ()) ()) ()):=by
 kernel_rfl
theorem zy.r2 :jI zi ⟨false,false,false⟩ (jc zi O) (reg Try.f55 2) (reg Try.f55 2).toList ([d,u,x,y,D,w,z,A,B,C,f,g,c,b,i,j,k,l,m,n,o,p,q,r,s,t]) S =
  ( some ([d,u,x,y,Value.bool false,w,z,A,B,C,f,g,c,b,i,j,k,l,m,n,o,p,q,r,s,t],S)):=by
 kernel_rfl
theorem zy.r3 :jI zi ⟨false,false,false⟩ (jc zi O) (reg Try.f55 3) (reg Try.f55 3).toList ([d,u,x,y,D,w,z,A,B,C,f,g,c,b,i,j,k,l,m,n,o,p,q,r,s,t]) S =
  (zN (ZO zi 26 (dem d) S) (fun G E=>some ([d,u,x,y,D,w,z,A,B,C,f,dem d,G,.int .i64 0,i,j,k,l,m,n,o,p,q,r,s,t],E)) ()):=by
 kernel_rfl
theorem zy.r4 :jI zi ⟨false,false,false⟩ (jc zi O) (reg Try.f55 4) (reg Try.f55 4).toList ([d,u,x,y,D,w,z,A,B,C,f,g,c,b,i,j,k,l,m,n,o,p,q,r,s,t]) S =
  (zN (jY zi BinOp.lss 3 b c S) (fun J E=>some ([d,u,x,y,D,w,z,A,B,C,f,g,c,b,J,j,k,l,m,n,o,p,q,r,s,t],E)) ()):=by
 kernel_rfl
theorem zy.r5 :jI zi ⟨false,false,false⟩ (jc zi O) (reg Try.f55 5) (reg Try.f55 5).toList ([d,u,x,y,D,w,z,A,B,C,f,g,c,b,i,j,k,l,m,n,o,p,q,r,s,t]) S =
  ( some ([d,u,x,y,D,b,z,A,B,C,f,g,c,dem b,i,dem b,k,l,m,n,o,p,q,r,s,t],S)):=by
 kernel_rfl
theorem zy.d6:kY zi (reg Try.f55 6)=true:=by kernel_rfl
theorem zy.ff6:fixed zi (reg Try.f55 6)=false:=by kernel_rfl
theorem zy.k6:checked zi (reg Try.f55 6)=[]:=by kernel_rfl
theorem zy.g6:again zi (reg Try.f55 6)=[]:=by kernel_rfl
theorem zy.r6 :zD zi O false (.region 6 (reg Try.f55 6) true) ([d,u,x,y,D,w,z,A,B,C,f,g,c,b,i,j,k,l,m,n,o,p,q,r,s,t]) S =
  KZ (zN (jw zi 26 (dem d) (dem w) S) (fun K E=>zN (zQ zi false 25 K E) (fun F H=>zN (jw zi 26 (dem u) (dem w) H) (fun L I=>zN (zQ zi false 25 L I) (fun M N=>zN (jY zi BinOp.neq 25 F M N) (fun P Q=>some ([d,u,x,y,D,w,z,A,B,C,f,g,c,b,i,j,dem d,dem w,K,F,dem u,dem w,L,M,P,t],Q)) ()) ()) ()) ()) ()):=by
 rw [xG zy.d6 zy.ff6 zy.k6 zy.g6]
 refine congrArg KZ ?_
 refine tP Try.f55 6 0 (v:=d) ?_
 refine tP Try.f55 6 1 (v:=w) ?_
 refine tD Try.f55 6 2 (fun K E=>?_)
 refine tD Try.f55 6 3 (fun F H=>?_)
 refine tP Try.f55 6 4 (v:=u) ?_
 refine tP Try.f55 6 5 (v:=w) ?_
 refine tD Try.f55 6 6 (fun L I=>?_)
 refine tD Try.f55 6 7 (fun M N=>?_)
 refine tD Try.f55 6 8 (fun P Q=>?_)
 kernel_rfl
theorem zy.r7 :jI zi ⟨false,false,false⟩ (jc zi O) (reg Try.f55 7) (reg Try.f55 7).toList ([d,u,x,y,D,w,z,A,B,C,f,g,c,b,i,j,k,l,m,n,o,p,q,r,s,t]) S =
  ( some ([d,u,x,y,Value.bool false,w,z,A,B,C,f,g,c,b,i,j,k,l,m,n,o,p,q,r,s,t],S)):=by
 kernel_rfl
theorem zy.r8 :jI zi ⟨false,false,false⟩ (jc zi O) (reg Try.f55 8) (reg Try.f55 8).toList ([d,u,x,y,D,w,z,A,B,C,f,g,c,b,i,j,k,l,m,n,o,p,q,r,s,t]) S =
  (zN (jY zi BinOp.add 3 b (.int .i64 1) S) (fun J E=>some ([d,u,x,y,D,w,z,A,B,C,f,g,c,dem J,i,j,k,l,m,n,o,p,q,r,s,J],E)) ()):=by
 kernel_rfl
theorem zy.r9 :jI zi ⟨false,false,false⟩ (jc zi O) (reg Try.f55 9) (reg Try.f55 9).toList ([d,u,x,y,D,w,z,A,B,C,f,g,c,b,i,j,k,l,m,n,o,p,q,r,s,t]) S =
  ( some ([d,u,x,y,Value.bool true,w,z,A,B,C,f,g,c,b,i,j,k,l,m,n,o,p,q,r,s,t],S)):=by
 kernel_rfl
theorem zy.rs:type_of% (aiJ @zy.r0 (aiJ @zy.r1 (aiJ @zy.r2 (aiJ @zy.r3 (aiJ @zy.r4 (aiJ @zy.r5 (aiJ @zy.r6 (aiJ @zy.r7 (aiJ @zy.r8 (@zy.r9)))))))))):=aiJ @zy.r0 (aiJ @zy.r1 (aiJ @zy.r2 (aiJ @zy.r3 (aiJ @zy.r4 (aiJ @zy.r5 (aiJ @zy.r6 (aiJ @zy.r7 (aiJ @zy.r8 (@zy.r9)))))))))
theorem zy.runs {d u:Value} {S E:zu} {e:AEx} {T:List Value} (h:zD zi O false zy.code ([d,u,zh,zh,zh,zh,zh,zh,zh,zh,zh,zh,zh,zh,zh,zh,zh,zh,zh,zh,zh,zh,zh,zh,zh,zh]) S=some (e,T,E)) (he:e=.normal∨e=.ret):jc zi O 55 [d,u] S=some (T.getD 4 zh,E) :=
 yU rfl rfl Try.func55 (by decide) zy.body (by exact h) he (wJ (a:=T.getD 4 zh) ((show zL zi T E Try.f55.results.toList=zL zi T E [(ResultVar.tmp 4)] from by kernel_rfl).trans (by simp only [zL])) (by kernel_rfl))
end Go.Proofs.Ytbgcphbbchndkaa
namespace Go.Proofs.Ytbgcphbbchndkaa
open Go.Abs
abbrev slices_Equal.id:FuncId:=60
noncomputable def slices_Equal.jS:Code:=(.seq (.region 4 (reg Try.f60 4) false) (.seq (.cond (.tmp 14) Code.skip (.exit 0)) (.seq (.block 1 (.seq (.region 5 (reg Try.f60 5) false) (.seq (.region 6 (reg Try.f60 6) true) (.cond (.tmp 24) (.seq (.region 7 (reg Try.f60 7) false) Code.ret) Code.skip)))) (.region 8 (reg Try.f60 8) false))))
noncomputable def slices_Equal.code:Code:=(.seq (.region 0 (reg Try.f60 0) false) (.seq (.seq (.region 1 (reg Try.f60 1) false) (.cond (.tmp 10) (.seq (.region 2 (reg Try.f60 2) false) Code.ret) Code.skip)) (.seq (.seq (.region 3 (reg Try.f60 3) false) (.block 0 (.loop slices_Equal.jS))) (.seq (.region 9 (reg Try.f60 9) false) Code.ret))))
theorem slices_Equal.body:Try.f60.body=some slices_Equal.code:=by kernel_rfl
theorem slices_Equal.eta {T:List Value} (h:T.length=26):T=[T.getD 0 zh,T.getD 1 zh,T.getD 2 zh,T.getD 3 zh,T.getD 4 zh,T.getD 5 zh,T.getD 6 zh,T.getD 7 zh,T.getD 8 zh,T.getD 9 zh,T.getD 10 zh,T.getD 11 zh,T.getD 12 zh,T.getD 13 zh,T.getD 14 zh,T.getD 15 zh,T.getD 16 zh,T.getD 17 zh,T.getD 18 zh,T.getD 19 zh,T.getD 20 zh,T.getD 21 zh,T.getD 22 zh,T.getD 23 zh,T.getD 24 zh,T.getD 25 zh]:=(kK T 26 h).trans (by kernel_rfl)
variable (d u x y D w z A B C f g c b i j k l m n o p q r s t:Value) (S:zu)
theorem slices_Equal.r0 :jI zi ⟨false,false,false⟩ (jc zi O) (reg Try.f60 0) (reg Try.f60 0).toList ([d,u,x,y,D,w,z,A,B,C,f,g,c,b,i,j,k,l,m,n,o,p,q,r,s,t]) S =
  ( some ([d,u,x,y,Value.bool false,w,z,A,B,C,f,g,c,b,i,j,k,l,m,n,o,p,q,r,s,t],S)):=by
 kernel_rfl
theorem slices_Equal.r1 :jI zi ⟨false,false,false⟩ (jc zi O) (reg Try.f60 1) (reg Try.f60 1).toList ([d,u,x,y,D,w,z,A,B,C,f,g,c,b,i,j,k,l,m,n,o,p,q,r,s,t]) S =
  (zN (ZO zi 26 (dem d) S) (fun G E=>zN (ZO zi 26 (dem u) E) (fun F H=>zN (jY zi BinOp.neq 3 G F H) (fun R I=>some ([d,u,x,y,D,w,dem d,G,dem u,F,R,g,c,b,i,j,k,l,m,n,o,p,q,r,s,t],I)) ()) ()) ()):=by
 kernel_rfl
theorem slices_Equal.r2 :jI zi ⟨false,false,false⟩ (jc zi O) (reg Try.f60 2) (reg Try.f60 2).toList ([d,u,x,y,D,w,z,A,B,C,f,g,c,b,i,j,k,l,m,n,o,p,q,r,s,t]) S =
  ( some ([d,u,x,y,Value.bool false,w,z,A,B,C,f,g,c,b,i,j,k,l,m,n,o,p,q,r,s,t],S)):=by
 kernel_rfl
theorem slices_Equal.r3 :jI zi ⟨false,false,false⟩ (jc zi O) (reg Try.f60 3) (reg Try.f60 3).toList ([d,u,x,y,D,w,z,A,B,C,f,g,c,b,i,j,k,l,m,n,o,p,q,r,s,t]) S =
  (zN (ZO zi 26 (dem d) S) (fun G E=>some ([d,u,x,y,D,w,z,A,B,C,f,dem d,G,.int .i64 0,i,j,k,l,m,n,o,p,q,r,s,t],E)) ()):=by
 kernel_rfl
theorem slices_Equal.r4 :jI zi ⟨false,false,false⟩ (jc zi O) (reg Try.f60 4) (reg Try.f60 4).toList ([d,u,x,y,D,w,z,A,B,C,f,g,c,b,i,j,k,l,m,n,o,p,q,r,s,t]) S =
  (zN (jY zi BinOp.lss 3 b c S) (fun J E=>some ([d,u,x,y,D,w,z,A,B,C,f,g,c,b,J,j,k,l,m,n,o,p,q,r,s,t],E)) ()):=by
 kernel_rfl
theorem slices_Equal.r5 :jI zi ⟨false,false,false⟩ (jc zi O) (reg Try.f60 5) (reg Try.f60 5).toList ([d,u,x,y,D,w,z,A,B,C,f,g,c,b,i,j,k,l,m,n,o,p,q,r,s,t]) S =
  ( some ([d,u,x,y,D,b,z,A,B,C,f,g,c,dem b,i,dem b,k,l,m,n,o,p,q,r,s,t],S)):=by
 kernel_rfl
theorem slices_Equal.d6:kY zi (reg Try.f60 6)=true:=by kernel_rfl
theorem slices_Equal.ff6:fixed zi (reg Try.f60 6)=false:=by kernel_rfl
theorem slices_Equal.k6:checked zi (reg Try.f60 6)=[]:=by kernel_rfl
theorem slices_Equal.g6:again zi (reg Try.f60 6)=[]:=by kernel_rfl
theorem slices_Equal.r6 :zD zi O false (.region 6 (reg Try.f60 6) true) ([d,u,x,y,D,w,z,A,B,C,f,g,c,b,i,j,k,l,m,n,o,p,q,r,s,t]) S =
  KZ (zN (jw zi 26 (dem d) (dem w) S) (fun K E=>zN (zQ zi false 25 K E) (fun F H=>zN (jw zi 26 (dem u) (dem w) H) (fun L I=>zN (zQ zi false 25 L I) (fun M N=>zN (jY zi BinOp.neq 25 F M N) (fun P Q=>some ([d,u,x,y,D,w,z,A,B,C,f,g,c,b,i,j,dem d,dem w,K,F,dem u,dem w,L,M,P,t],Q)) ()) ()) ()) ()) ()):=by
 rw [xG slices_Equal.d6 slices_Equal.ff6 slices_Equal.k6 slices_Equal.g6]
 refine congrArg KZ ?_
 refine tP Try.f60 6 0 (v:=d) ?_
 refine tP Try.f60 6 1 (v:=w) ?_
 refine tD Try.f60 6 2 (fun K E=>?_)
 refine tD Try.f60 6 3 (fun F H=>?_)
 refine tP Try.f60 6 4 (v:=u) ?_
 refine tP Try.f60 6 5 (v:=w) ?_
 refine tD Try.f60 6 6 (fun L I=>?_)
 refine tD Try.f60 6 7 (fun M N=>?_)
 refine tD Try.f60 6 8 (fun P Q=>?_)
 kernel_rfl
theorem slices_Equal.r7 :jI zi ⟨false,false,false⟩ (jc zi O) (reg Try.f60 7) (reg Try.f60 7).toList ([d,u,x,y,D,w,z,A,B,C,f,g,c,b,i,j,k,l,m,n,o,p,q,r,s,t]) S =
  ( some ([d,u,x,y,Value.bool false,w,z,A,B,C,f,g,c,b,i,j,k,l,m,n,o,p,q,r,s,t],S)):=by
 kernel_rfl
theorem slices_Equal.r8 :jI zi ⟨false,false,false⟩ (jc zi O) (reg Try.f60 8) (reg Try.f60 8).toList ([d,u,x,y,D,w,z,A,B,C,f,g,c,b,i,j,k,l,m,n,o,p,q,r,s,t]) S =
  (zN (jY zi BinOp.add 3 b (.int .i64 1) S) (fun J E=>some ([d,u,x,y,D,w,z,A,B,C,f,g,c,dem J,i,j,k,l,m,n,o,p,q,r,s,J],E)) ()):=by
 kernel_rfl
theorem slices_Equal.r9 :jI zi ⟨false,false,false⟩ (jc zi O) (reg Try.f60 9) (reg Try.f60 9).toList ([d,u,x,y,D,w,z,A,B,C,f,g,c,b,i,j,k,l,m,n,o,p,q,r,s,t]) S =
  ( some ([d,u,x,y,Value.bool true,w,z,A,B,C,f,g,c,b,i,j,k,l,m,n,o,p,q,r,s,t],S)):=by
 kernel_rfl
theorem slices_Equal.rs:type_of% (aiJ @slices_Equal.r0 (aiJ @slices_Equal.r1 (aiJ @slices_Equal.r2 (aiJ @slices_Equal.r3 (aiJ @slices_Equal.r4 (aiJ @slices_Equal.r5 (aiJ @slices_Equal.r6 (aiJ @slices_Equal.r7 (aiJ @slices_Equal.r8 (@slices_Equal.r9)))))))))):=aiJ @slices_Equal.r0 (aiJ @slices_Equal.r1 (aiJ @slices_Equal.r2 (aiJ @slices_Equal.r3 (aiJ @slices_Equal.r4 (aiJ @slices_Equal.r5 (aiJ @slices_Equal.r6 (aiJ @slices_Equal.r7 (aiJ @slices_Equal.r8 (@slices_Equal.r9)))))))))
theorem slices_Equal.runs {d u:Value} {S E:zu} {e:AEx} {T:List Value} (h:zD zi O false slices_Equal.code ([d,u,zh,zh,zh,zh,zh,zh,zh,zh,zh,zh,zh,zh,zh,zh,zh,zh,zh,zh,zh,zh,zh,zh,zh,zh]) S=some (e,T,E)) (he:e=.normal∨e=.ret):jc zi O 60 [d,u] S=some (T.getD 4 zh,E) :=
 yU rfl rfl Try.func60 (by decide) slices_Equal.body (by exact h) he (wJ (a:=T.getD 4 zh) ((show zL zi T E Try.f60.results.toList=zL zi T E [(ResultVar.tmp 4)] from by kernel_rfl).trans (by simp only [zL])) (by kernel_rfl))
end Go.Proofs.Ytbgcphbbchndkaa
