/-
The law DiskRuns returns true for every input, and leaves it as it was; no condition. Part 3 of 4 of the texts (put together by a program: own names are short, what isn't needed is left out).
-/
import Derived.Test.YtgfpjnblookppaaZDiskRuns2
import Derived.KernelRfl
import Derived.Test.YtgfpjnblookppaaChecked
set_option linter.unusedVariables false
set_option linter.unusedSimpArgs false
set_option maxRecDepth 100000
open Go renaming undef → zh
open Go.Proofs.Try renaming prog → zi
open Nat renaming reduceEqDiff → zk
open Int renaming reduceEq → zn
open Int renaming reduceLT → zo
open Int renaming reduceLE → zq
namespace Go.Abs
open Go.RowKit
def vS (P:Program) (call:FuncId→List Value→M Value):Prop:=∀ g args aargs S v S',call g args S=some (v,S')→∀ μ H ω,GI μ S H→L0 μ H args aargs→Dom μ H ω→(∀ r s,ω r=some s→s=.ext) →
 ∃ a H' μ' ω',lim P g aargs H=some (a,H')∧GI μ' S' H'∧Later μ H μ' H'∧Kept ω H ω' H'∧Dom μ' H' ω'∧VV μ' H' ω' (some (.res none)) v a
section
variable {P:Program} {call:FuncId→List Value→M Value} {μ:Mu} {ω:Nat→Option wB} {S S' H:zx} {T A:List Value}
theorem abb (hc:vS P call) {g:FuncId} {args aargs:List Value} {v:Value} (hG:GI μ S H) (hT:TI μ H ω T A) (h:call g args S=some (v,S')) (ha:L0 μ H args aargs):Out μ ω H A T S' v (lim P g aargs H):=by
 obtain ⟨a,H',μ',ω',h1,h2,h3,h4,h5,h6⟩:=hc g args aargs S v S' h μ H (fun r=>(ω r).map fun _=>.ext) hG ha (fun r s hs=>by
  cases hr:ω r with
  | none=>simp [hr] at hs
  | some s0=>exact hT.dom r s0 hr) (fun r s hs=>by
  cases hr:ω r with
  | none=>simp [hr] at hs
  | some s0=>simp [hr] at hs;exact hs.symm)
 have kept:∀ r s,ω r=some s→ω' r=some .ext∧H'.get r=H.get r:=fun r s hs=>h4 r (by dsimp only;rw [hs];rfl)
 refine ⟨a,H',μ',fun r=>match ω' r with | some .ext=>ω r | some (.slot _ _)=>none | x=>x,h1,h2,h3,fun r hr=>?_,fun r s hs=>?_,hT.len,fun i=>?_,?_⟩
 ·
  obtain ⟨k1,k2⟩:=kept r _ hr
  exact ⟨by (try dsimp only);rw [k1];exact hr,k2⟩
 ·
  dsimp only at hs
  cases hr:ω' r with
  | none=>rw [hr] at hs;cases hs
  | some s0 =>
   have:=h5 r s0 hr
   exact this
 ·
  refine (hT.slots i).later h3 (K:=fun _=>True) (fun _ _ _ _ _=>trivial) (fun r s _ hr=>?_) (fun _ _=>trivial)
  obtain ⟨k1,k2⟩:=kept r s hr
  exact ⟨by (try dsimp only);rw [k1];exact hr,k2⟩
 ·
  refine h6.later (Later.refl _ _) (K:=fun s=>∃ j,s=.res j) (fun s i t ⟨j,hj⟩ ht=>by subst hj;cases j <;> cases ht;exact ⟨_,rfl⟩) (fun r s ⟨j,hj⟩ hr=>?_) (fun s hs=>by cases hs;exact ⟨_,rfl⟩)
  subst hj
  exact ⟨by (try dsimp only);rw [hr],rfl⟩
def vZ (t:Nat):wB→Option wB
 | .slot i j=>if i=t then some (.res j) else some (.slot i j)
 | s=>some s
def ZT (t k:Nat):wB→Option wB
 | .slot i (some j)=>if i=t∧j=k then some (.res none) else some (.slot i (some j))
 | s=>some s
theorem KI {x:Operand} (hG:GI μ S H) (hT:TI μ H ω T A) (hx:yA x=true):Out μ ω H A (jP T x) S (zN T x) (some (zN A x,H)):=by
 cases x with
 | const v=>exact Out.same hG hT (VV.jQ hx)
 | global g=>cases hx
 | func f=>exact Out.same hG hT (hT.eval (x:=.func f) rfl)
 | tmp t =>
  refine ⟨_,H,μ,fun r=>(ω r).bind (vZ t),rfl,hG,Later.refl μ H,fun r hr=>⟨by dsimp only;rw [hr];rfl,rfl⟩,fun r s hs=>?_,by simp [jP,yu,hT.len],fun i=>?_,?_⟩
  ·
   dsimp only at hs
   cases hr:ω r with
   | none=>rw [hr] at hs;cases hs
   | some s0=>exact hT.dom r s0 hr
  ·
   dsimp only [jP,yu]
   rw [wL]
   by_cases hi:i=t
   ·
    subst hi
    by_cases hlt:i < T.length
    ·
     rw [if_pos ⟨rfl,hlt⟩]
     exact (hT.slots i).v0.at0
    ·
     rw [if_neg (fun h=>hlt h.2)]
     rw [List.getD_eq_getElem?_getD,List.getElem?_eq_none (Nat.le_of_not_lt hlt),List.getD_eq_getElem?_getD,List.getElem?_eq_none (by rw [← hT.len];omega)]
     exact .nores
   ·
    rw [if_neg (fun h=>hi h.1)]
    refine (hT.slots i).WW (fun _=>rfl) _ (fun s hs=>?_)
    cases hs
    refine ⟨_,rfl,by simp only [vZ];rw [if_neg hi],fun k t' ht=>?_⟩
    cases ht
    exact ⟨_,rfl,by simp only [vZ];rw [if_neg hi]⟩
  ·
   refine (hT.slots t).WW (fun _=>rfl) _ (fun s hs=>?_)
   cases hs
   refine ⟨_,rfl,by simp only [vZ,if_true],fun k t' ht=>?_⟩
   cases ht
   exact ⟨_,rfl,by simp only [vZ,if_true]⟩
theorem getD_modify (vs:Array Value) (i k:Nat) (f:Value→Value) (hf:f zh=zh):(vs.modify i f).getD k zh=if k=i then f (vs.getD k zh) else vs.getD k zh:=by
 rw [Array.getD_eq_getD_getElem?,Array.getD_eq_getD_getElem?,Array.getElem?_modify]
 by_cases h:i=k
 ·
  subst h
  rw [if_pos rfl,if_pos rfl]
  cases vs[i]? with
  | none=>exact hf.symm
  | some v=>rfl
 ·
  rw [if_neg h,if_neg (fun e=>h e.symm)]
theorem VV.part {ω':Nat→Option wB} {ℓ ℓ':Option wB} {v a:Value} (h:VV μ H ω ℓ v a) (hℓ:∀ s,ℓ=some s→∀ k,s.comp k=none):VV μ H ω' ℓ' (Go.Abs.qC v) a:=by
 by_cases ht:∃ x,v=.tuple x
 ·
  obtain ⟨x,rfl⟩:=ht
  show VV μ H ω' ℓ' (.tuple x) a
  cases h with
  | sg hs=>simp [Go.Abs.sg] at hs
  | nores=>exact .nores
  | tuple hx hh =>
   refine .tuple hx fun i=>?_
   have:=hh i
   cases ℓ with
   | none=>exact this.at0
   | some s =>
    have e:(some s).bind (·.comp i)=none:=hℓ s rfl i
    rw [e] at this
    exact this.at0
 ·
  have e:Go.Abs.dem v=Go.Abs.qC v:=by
   cases v <;> first | rfl | exact absurd ⟨_,rfl⟩ ht
  rw [← e]
  exact h.v0.at0
def ZC (T:List Value) (i:Nat):Operand→List Value
 | .tmp t=>T.set t (jM i (T.getD t zh))
 | _=>T
theorem QE {x:Operand} {i:Nat} {v:Value} (hG:GI μ S H) (hT:TI μ H ω T A) (hx:yA x=true) (h:zU (zN T x) i S=some (v,S')) :
  Out μ ω H A (ZC T i x) S' v (zU (zN A x) i H):=by
 cases x with
 | const w =>
  exfalso
  unfold zU at h
  split at h
  ·
   rename_i vs he
   simp only [zN] at he
   subst he
   simp [yA,ground,Go.Abs.sg] at hx
  ·
   cases h
 | global g=>cases hx
 | func f=>simp [zN,zU] at h
 | tmp t =>
  simp only [zN,ZC] at h ⊢
  unfold zU at h
  split at h
  ·
   rename_i vs hvs
   split at h <;> first | (cases h;done) | skip
   rename_i w hw
   cases h
   have hs:=hT.slots t
   rw [hvs] at hs
   have hil:i < vs.size:=(Array.getElem?_eq_some_iff.1 hw).1
   have hlt:t < T.length:=by
    rcases Nat.lt_or_ge t T.length with h | h
    ·
     exact h
    ·
     rw [List.getD_eq_getElem?_getD,List.getElem?_eq_none h] at hvs
     cases hvs
     simp at hil
   generalize hA:A.getD t zh=at' at hs
   cases hs with
   | sg hs=>simp [Go.Abs.sg] at hs
   | nores=>simp at hil
   | @tuple _ _ y hxs hxx =>
    have hiy:i < y.size:=by rw [← hxs];exact hil
    have hrun:zU (.tuple y) i H=some (y[i],H):=by simp only [zU,Array.getElem?_eq_getElem hiy]
    rw [hrun]
    have hcomp:=hxx i
    rw [Array.getD_eq_getD_getElem?,hw,Array.getD_eq_getD_getElem?,Array.getElem?_eq_getElem hiy] at hcomp
    simp only [Option.getD_some] at hcomp
    refine ⟨_,H,μ,fun r=>(ω r).bind (ZT t i),rfl,hG,Later.refl μ H,fun r hr=>⟨by dsimp only;rw [hr];rfl,rfl⟩,fun r s hs=>?_,by simp [hT.len],fun k=>?_,?_⟩
    ·
     dsimp only at hs
     cases hr:ω r with
     | none=>rw [hr] at hs;cases hs
     | some s0=>exact hT.dom r s0 hr
    ·
     rw [wL]
     by_cases hk:k=t
     ·
      subst hk
      rw [if_pos ⟨rfl,hlt⟩,hA,hvs]
      simp only [jM]
      refine .tuple (by simpa using hxs) fun j=>?_
      rw [getD_modify _ _ _ _ rfl]
      by_cases hj:j=i
      ·
       subst hj
       rw [if_pos rfl]
       exact (hxx j).part (fun s hs k=>by cases hs;rfl)
      ·
       rw [if_neg hj]
       refine (hxx j).WW (fun _=>rfl) _ (fun s hs=>?_)
       cases hs
       refine ⟨_,rfl,by simp only [ZT];rw [if_neg (fun e=>hj e.2)],fun a b hb=>by cases hb⟩
     ·
      rw [if_neg (fun e=>hk e.1)]
      refine (hT.slots k).WW (fun _=>rfl) _ (fun s hs=>?_)
      cases hs
      refine ⟨_,rfl,rfl,fun a b hb=>?_⟩
      cases hb
      exact ⟨_,rfl,by simp only [ZT];rw [if_neg (fun e=>hk e.1)]⟩
    ·
     refine hcomp.WW (fun _=>rfl) _ (fun s hs=>?_)
     cases hs
     exact ⟨_,rfl,by simp [ZT],fun a b hb=>by cases hb⟩
  ·
   cases h
theorem acP (hT:TI μ H ω T A):∀ (xs:List Operand),xs.all yA=true→L0 μ H (xs.map fun x=>dem (zN T x)) (xs.map (zN A)):=by
 intro xs h
 exact LV.map fun x hx=>hT.eval (List.all_eq_true.1 h x hx)
theorem JD {xs:List Operand} (hT:TI μ H ω T A) (h:xs.all yA=true) (hg:(xs.map (zN T)).all ground=true):xs.map (zN A)=xs.map (zN T):=by
 apply List.map_congr_left
 intro x hx
 exact zY (hT.eval (List.all_eq_true.1 h x hx)) (List.all_eq_true.1 hg _ (List.mem_map.2 ⟨x,hx,rfl⟩))
theorem aa3 {o:Oper} (h:hands o=false) (hc:∀ c,o.op≠.call c):moved o T=T:=by
 unfold moved
 unfold hands at h
 split <;> first | rfl | (rename_i he;exact absurd he (hc _)) | (rename_i he;rw [he] at h;cases h)
theorem aa7 {fx:Fx} (hc:vS P call) {o:Oper} {v:Value} (hG:GI μ S H) (hT:TI μ H ω T A) (h:jW P fx call T o S=some (v,S')):Out μ ω H A (moved o T) S' v (jT P (lim P) A o H):=by
 unfold jW at h
 split at h <;> first | (cases h;done) | skip
 rename_i hok
 unfold jT
 rw [if_pos hok]
 have hargs:o.op.operands.toList.all yA=true:=hok
 have hev:∀ x ∈ o.op.operands.toList,V0 μ H (dem (zN T x)) (zN A x):=fun x hx=>hT.eval (List.all_eq_true.1 hargs x hx)
 have hoka:∀ x ∈ o.op.operands.toList,yA x=true:=fun x hx=>List.all_eq_true.1 hargs x hx
 obtain ⟨dst,op,type,pos,after,guard⟩:=o
 by_cases hcall:∃ c,op=.call c
 ·
  obtain ⟨c,rfl⟩:=hcall
  dsimp only at h hev hoka hargs ⊢
  have hcargs:c.args.toList.all yA=true:=by
   rw [List.all_eq_true]
   intro x hx
   refine hoka x ?_
   simp only [Op.operands,Call.operands]
   cases c.callee <;> simp <;> first | exact .inr (by simpa using hx) | exact (by simpa using hx)
  cases hcal:c.callee with
  | value f =>
   rw [hcal] at h
   dsimp only at h ⊢
   have hf:=hev f (by simp [Op.operands,Call.operands,hcal])
   split at h <;> first | (cases h;done) | skip
   rename_i g first captured hfe
   rw [hfe] at hf
   have hf:V0 μ H (.func (.func g) first captured) (zN A f):=hf
   generalize hfa:zN A f=fa at hf
   cases hf with
   | sg hs=>simp [Go.Abs.sg] at hs
   | func _ hx hcs h1 h2 =>
    rename_i x' c'
    dsimp only
    have l1:L0 μ H first.toList x'.toList:=⟨by simpa using hx,fun i=>by rw [getD_toList,getD_toList];exact h1 i⟩
    have l2:L0 μ H captured.toList c'.toList:=⟨by simpa using hcs,fun i=>by rw [getD_toList,getD_toList];exact h2 i⟩
    have hm:moved ⟨dst,.call c,type,pos,after,guard⟩ T=T:=by simp only [moved,hcal]
    rw [hm]
    exact abb hc hG hT h ((l1.append (acP hT _ hcargs)).append l2)
  | invoke r m=>rw [hcal] at h;cases h
  | builtin b =>
   rw [hcal] at h
   dsimp only at h ⊢
   unfold yc at h
   unfold yY
   cases b <;> dsimp only at h ⊢ <;> first | (cases h;done) | skip
   case len =>
    split at h <;> first | (cases h;done) | skip
    rename_i t x0 ht ha
    obtain ⟨x,hx,rfl⟩:∃ x,c.args.toList=[x]∧zN T x=x0:=by
     match hl:c.args.toList with
     | []=>rw [hl] at ha;cases ha
     | [y]=>rw [hl] at ha;simp at ha;exact ⟨y,rfl,ha⟩
     | y::z::w=>rw [hl] at ha;simp at ha
    have hm:moved ⟨dst,.call c,type,pos,after,guard⟩ T=T:=by simp only [moved,hcal]
    rw [hm,ht,hx]
    rw [hx] at hcargs
    obtain ⟨rfl,a,h1,h2⟩:=VO h (hT.eval (List.all_eq_true.1 hcargs x (by simp)))
    simp only [List.map_cons,List.map_nil]
    rw [h1]
    exact Out.same hG hT h2
   case append =>
    split at h <;> first | (cases h;done) | skip
    rename_i t tx s0 x0 ht ha
    obtain ⟨so,x,hx,rfl,rfl⟩:∃ so x,c.args.toList=[so,x]∧zN T so=s0∧zN T x=x0:=by
     match hl:c.args.toList with
     | []=>rw [hl] at ha;cases ha
     | [y]=>rw [hl] at ha;simp at ha
     | [y,z]=>rw [hl] at ha;simp at ha;exact ⟨y,z,rfl,ha.1,ha.2⟩
     | y::z::w::u=>rw [hl] at ha;simp at ha
    rw [hx] at hcargs
    have hso:=List.all_eq_true.1 hcargs so (by simp)
    have hm:moved ⟨dst,.call c,type,pos,after,guard⟩ T=jP T so:=by
     simp only [moved,hcal,hx]
     cases so <;> rfl
    rw [hm,ht,hx]
    exact Xd hG hT hso h (hT.eval (List.all_eq_true.1 hcargs x (by simp)))
   case copy =>
    split at h <;> first | (cases h;done) | skip
    rename_i t tx s0 x0 ht ha
    obtain ⟨so,x,hx,rfl,rfl⟩:∃ so x,c.args.toList=[so,x]∧zN T so=s0∧zN T x=x0:=by
     match hl:c.args.toList with
     | []=>rw [hl] at ha;cases ha
     | [y]=>rw [hl] at ha;simp at ha
     | [y,z]=>rw [hl] at ha;simp at ha;exact ⟨y,z,rfl,ha.1,ha.2⟩
     | y::z::w::u=>rw [hl] at ha;simp at ha
    rw [hx] at hcargs
    have hm:moved ⟨dst,.call c,type,pos,after,guard⟩ T=T:=by simp only [moved,hcal]
    rw [hm,ht,hx]
    exact abx hG hT h (hT.eval (List.all_eq_true.1 hcargs so (by simp))) (hT.eval (List.all_eq_true.1 hcargs x (by simp)))
   case clear =>
    split at h <;> first | (cases h;done) | skip
    rename_i t x0 ht ha
    obtain ⟨x,hx,rfl⟩:∃ x,c.args.toList=[x]∧zN T x=x0:=by
     match hl:c.args.toList with
     | []=>rw [hl] at ha;cases ha
     | [y]=>rw [hl] at ha;simp at ha;exact ⟨y,rfl,ha⟩
     | y::z::w=>rw [hl] at ha;simp at ha
    have hm:moved ⟨dst,.call c,type,pos,after,guard⟩ T=T:=by simp only [moved,hcal]
    rw [hm,ht,hx]
    rw [hx] at hcargs
    exact Ve hG hT h (hT.eval (List.all_eq_true.1 hcargs x (by simp)))
   case min =>
    obtain ⟨rfl,hg,hga,hh⟩:=jI (H:=H) h
    have hm:moved ⟨dst,.call c,type,pos,after,guard⟩ T=T:=by simp only [moved,hcal]
    rw [hm,JD hT hcargs hga,hh]
    exact Out.same hG hT (V0.ground hg)
   case max =>
    obtain ⟨rfl,hg,hga,hh⟩:=jI (H:=H) h
    have hm:moved ⟨dst,.call c,type,pos,after,guard⟩ T=T:=by simp only [moved,hcal]
    rw [hm,JD hT hcargs hga,hh]
    exact Out.same hG hT (V0.ground hg)
 ·
  have hnc:∀ c,op≠.call c:=fun c hc=>hcall ⟨c,hc⟩
  have hV:vOp P fx (zN T) ⟨dst,op,type,pos,after,guard⟩ S=some (v,S'):=by
   cases op <;> first | exact h | exact absurd rfl (hnc _)
  suffices hs:Out μ ω H A (moved ⟨dst,op,type,pos,after,guard⟩ T) S' v (aOp P (zN A) ⟨dst,op,type,pos,after,guard⟩ H) by
   cases op <;> first | exact hs | exact absurd rfl (hnc _)
  by_cases hh:hands ⟨dst,op,type,pos,after,guard⟩=true
  ·
   cases op <;> first | (cases hh;done) | skip
   case move x =>
    cases hV
    have:=KI hG hT (hoka x (by simp [Op.operands]))
    have hm:moved ⟨dst,.move x,type,pos,after,guard⟩ T=jP T x:=by cases x <;> rfl
    rw [hm];exact this
   case assign x =>
    cases hV
    have:=KI hG hT (hoka x (by simp [Op.operands]))
    have hm:moved ⟨dst,.assign x,type,pos,after,guard⟩ T=jP T x:=by cases x <;> rfl
    rw [hm];exact this
   case extract x i =>
    have:=QE hG hT (hoka x (by simp [Op.operands])) hV
    have hm:moved ⟨dst,.extract x i,type,pos,after,guard⟩ T=(ZC T i x):=by cases x <;> rfl
    rw [hm];exact this
  ·
   have hh:hands ⟨dst,op,type,pos,after,guard⟩=false:=by simpa using hh
   rw [aa3 hh hnc]
   by_cases hch:kR P ⟨dst,op,type,pos,after,guard⟩=false
   ·
    obtain ⟨rfl,a,h1,h2,h3⟩:=YV hV hch hev (.inr hG) (.inr hG)
    rw [h1]
    exact Out.same hG hT (h3 hh)
   ·
    unfold vOp at hV
    unfold aOp
    cases op <;> dsimp only at hV hev ⊢ <;> first | (cases hV;done) | (exact absurd rfl hch) | (cases hh;done) | skip
    case alloc e=>exact XR hG hT hV
    case box x _=>exact acJ hG hT hV (hev x (by simp [Op.operands]))
    case buildSlice t len parts _ =>
     have hps:=YF (μ:=μ) (H:=H) (parts:=parts.toList) (ρ:=zN T) (ρA:=zN A) fun p hp=>hev p.2 (by simp [Op.operands];exact ⟨p.1,by simpa using hp⟩)
     split at hV
     ·
      exact YK hG hT hV hps
     ·
      exact JK hG hT hV hps
    case makeMap t r _=>exact Ql hG hT hV (fun h=>by cases r <;> simp at h ⊢)
    case mapUpdate t x k w _=>exact WM hG hT hV (hev x (by simp [Op.operands])) (hev k (by simp [Op.operands])) (hev w (by simp [Op.operands]))
    case store a x _=>exact aaC hG hT hV (hev a (by simp [Op.operands])) (hev x (by simp [Op.operands]))
    case makeSlice l c _ =>
     split at hV
     ·
      exact Qu hG hT hV (hev l (by simp [Op.operands])) (hev c (by simp [Op.operands]))
     ·
      exact WU hG hT hV (hev l (by simp [Op.operands])) (hev c (by simp [Op.operands]))
    case convert dst' x _ =>
     have hd:∃ e,P.underlying dst'=some (.slice e):=by
      unfold kR at hch
      dsimp only at hch
      split at hch
      ·
       exact ⟨_,by assumption⟩
      ·
       exact absurd rfl hch
     obtain ⟨e,hd⟩:=hd
     cases x with
     | tmp t=>exact Jw hG hT hV (hT.slots t) hd
     | const w=>exact Jw hG hT hV (VV.jQ (ℓ:=none) (hoka (.const w) (by simp [Op.operands]))) hd
     | global g=>have:=hoka (.global g) (by simp [Op.operands]);cases this
     | func f=>exact Jw hG hT hV (ℓ:=none) ((hT.eval (x:=.func f) rfl).at0) hd
theorem Vd {ops:Array Oper} (hT:TI μ H ω T A) (j:Nat):ynd ops T j=ynd ops A j:=by
 unfold ynd
 cases hd:(ops[j]?).bind (·.dst) with
 | none=>rfl
 | some d =>
  simp only [Option.bind_some]
  have:=hT.slots d
  have e:=hT.len
  by_cases hlt:d < T.length
  ·
   have hlt':d < A.length:=by rw [← e];exact hlt
   simp only [List.getD_eq_getElem?_getD,List.getElem?_eq_getElem hlt,List.getElem?_eq_getElem hlt',Option.getD_some] at this
   rw [List.getElem?_eq_getElem hlt,List.getElem?_eq_getElem hlt']
   generalize T[d]=u at *
   generalize A[d]=u' at *
   cases this <;> rfl
  ·
   have hlt':A.length≤d:=by rw [← e];exact Nat.le_of_not_lt hlt
   rw [List.getElem?_eq_none (Nat.le_of_not_lt hlt),List.getElem?_eq_none hlt']
theorem TI.moved (hT:TI μ H ω T A) (o:Oper):TI μ H ω (moved o T) A:=by
 have slot:∀ t,TI μ H ω (yu T t) A:=by
  intro t
  refine ⟨by simp [yu,hT.len],fun i=>?_,hT.dom,hT.nores⟩
  rw [yu,wL]
  split
  ·
   rename_i h;rw [h.1];exact (hT.slots t).dem
  ·
   exact hT.slots i
 unfold Go.Abs.moved
 split
 ·
  exact slot _
 ·
  exact slot _
 ·
  rename_i t i _
  refine ⟨by simp [hT.len],fun k=>?_,hT.dom,hT.nores⟩
  rw [wL]
  split
  ·
   rename_i h
   rw [h.1]
   have:=hT.slots t
   generalize T.getD t zh=w at this
   cases w with
   | tuple vs =>
    simp only [jM]
    generalize A.getD t zh=a at this
    cases this with
    | sg hs=>simp [Go.Abs.sg] at hs
    | nores=>rw [show (#[]:Array Value).modify i Go.Abs.qC=#[] by simp];exact .nores
    | @tuple _ _ y hxs hxx =>
     refine .tuple (by simpa using hxs) fun j=>?_
     rw [getD_modify _ _ _ _ rfl]
     by_cases hj:j=i
     ·
      subst hj
      rw [if_pos rfl]
      exact (hxx j).part (fun s hs k=>by cases hs;rfl)
     ·
      rw [if_neg hj];exact hxx j
   | _=>exact this
  ·
   exact hT.slots k
 ·
  split
  ·
   exact slot _
  ·
   exact hT
 ·
  exact hT
def After (μ:Mu) (ω:Nat→Option wB) (H:zx) (T':List Value) (S':zx) (R:Option (List Value×zx)):Prop :=
 ∃ A' H' μ' ω',R=some (A',H')∧GI μ' S' H'∧Later μ H μ' H'∧Kept ω H ω' H'∧TI μ' H' ω' T' A'
theorem Kt {fx:Fx} (hc:vS P call) {o:Oper} {rest:List Oper} {v:Value} (hG:GI μ S H) (hT:TI μ H ω T A) (h:jW P fx call T o S=some (v,S')) :
  ∃ a H' μ' ω',jT P (lim P) A o H=some (a,H')∧GI μ' S' H'∧Later μ H μ' H'∧Kept ω H ω' H'∧TI μ' H' ω' (xG o rest T v) (vX A o.dst a):=by
 unfold xG
 split
 ·
  rename_i hl
  have hm:∃ x,o.op=.move x:=by
   unfold aew at hl
   split at hl
   ·
    rename_i x _ he _;exact ⟨x,he⟩
   ·
    cases hl
  obtain ⟨x,hx⟩:=hm
  unfold jW at h
  split at h <;> first | (cases h;done) | skip
  rename_i hok
  have hox:yA x=true:=List.all_eq_true.1 (show o.op.operands.toList.all yA=true from hok) x (by rw [hx];simp [Op.operands])
  rw [hx] at h
  dsimp only at h
  unfold vOp at h
  rw [hx] at h
  cases h
  have ha:jT P (lim P) A o H=some (zN A x,H):=by
   unfold jT
   rw [if_pos hok,hx]
   dsimp only
   unfold aOp
   rw [hx]
   rfl
  rw [ha]
  exact (Out.same hG hT (hT.eval hox)).put o.dst
 ·
  exact (aa7 hc hG hT h).put o.dst
theorem ZI {o:Oper} {rest:List Oper} (hG:GI μ S H) (hT:TI μ H ω T A):∃ μ' ω',GI μ' S H∧Later μ H μ' H∧Kept ω H ω' H∧TI μ' H ω' (xG o rest T zh) (vX A o.dst zh):=by
 unfold xG
 split
 ·
  rw [show dem zh=zh from xg]
  obtain ⟨a,H1,μ1,ω1,h1,h2,h3,h4,h5⟩:=(Out.same hG hT (VV.zh)).put o.dst
  cases h1
  exact ⟨μ1,ω1,h2,h3,h4,h5⟩
 ·
  obtain ⟨a,H1,μ1,ω1,h1,h2,h3,h4,h5⟩:=(Out.same hG (hT.moved o) (VV.zh)).put o.dst
  cases h1
  exact ⟨μ1,ω1,h2,h3,h4,h5⟩
theorem acv {fx:Fx} (hc:vS P call) {ops:Array Oper}:∀ (l:List Oper) (T T' A:List Value) (S S' H:zx) (μ:Mu) (ω:Nat→Option wB),jC P fx call ops l T S=some (T',S')→GI μ S H→TI μ H ω T A→After μ ω H T' S' (Qg P (lim P) ops l A H):=by
 intro l
 induction l with
 | nil =>
  intro T T' A S S' H μ ω h hG hT
  simp only [jC,Option.some.injEq,Prod.mk.injEq] at h
  obtain ⟨rfl,rfl⟩:=h
  exact ⟨A,H,μ,ω,rfl,hG,Later.refl _ _,Kept.refl _ _,hT⟩
 | cons o l ih =>
  intro T T' A S S' H μ ω h hG hT
  have hy:(ynd ops T)=ynd ops A:=funext fun j=>Vd hT j
  simp only [jC] at h
  simp only [Qg,← hy]
  split at h
  ·
   rename_i hw
   split at h
   ·
    rename_i v S1 hs
    obtain ⟨a,H1,μ1,ω1,h1,h2,h3,h4,h5⟩:=Kt (rest:=l) hc hG hT hs
    obtain ⟨A2,H2,μ2,ω2,k1,k2,k3,k4,k5⟩:=ih _ _ _ _ _ _ _ _ h h2 h5
    refine ⟨A2,H2,μ2,ω2,?_,k2,h3.trans k3,h4.trans k4,k5⟩
    rw [if_pos hw,h1]
    exact k1
   ·
    cases h
  ·
   rename_i hw
   obtain ⟨μ1,ω1,h2,h3,h4,h5⟩:=ZI (o:=o) (rest:=l) hG hT
   obtain ⟨A2,H2,μ2,ω2,k1,k2,k3,k4,k5⟩:=ih _ _ _ _ _ _ _ _ h h2 h5
   refine ⟨A2,H2,μ2,ω2,?_,k2,h3.trans k3,h4.trans k4,k5⟩
   rw [if_neg hw]
   exact k1
end
end Go.Abs
namespace Go.Abs
open Go.RowKit
section
variable {P:Program} {call:FuncId→List Value→M Value} {μ μ2:Mu} {S S' G H H2:zx} {T A:List Value}
theorem kP.two {s:M Value} (hs:kP s) {a:Value} {G':zx} (h:s G=some (a,G')):∀ H,s H=some (a,H):=by
 obtain ⟨o,ho⟩:=hs
 rw [ho] at h
 cases o with
 | none=>cases h
 | some w =>
  simp only [Option.map_some,Option.some.injEq,Prod.mk.injEq] at h
  intro H
  rw [ho,h.1];rfl
theorem QM {t:TypeId} {ps:List (Nat×Value)}:kP (yH P t ps):=by
 refine ⟨(yH P t ps zx.empty).map (·.1),fun H=>?_⟩
 unfold yH
 split
 ·
  split
  ·
   split
   ·
    split
    ·
     split <;> rfl
    ·
     rfl
   ·
    split
    ·
     split <;> rfl
    ·
     rfl
   ·
    rfl
  ·
   rfl
 ·
  rfl
theorem JJ {x:Value}:kP (y7 x):=by
 refine ⟨(y7 x zx.empty).map (·.1),fun H=>?_⟩
 unfold y7
 split <;> rfl
theorem Qi {t:TypeId} {x i:Value}:kP (qL P t x i):=by
 unfold qL
 refine ⟨(qL P t x i zx.empty).map (·.1),fun H=>?_⟩
 unfold qL
 dsimp only
 split
 ·
  split
  ·
   split
   ·
    split <;> rfl
   ·
    rfl
  ·
   rfl
 ·
  obtain ⟨o,ho⟩:=wz (P:=P) _ _
  rw [ho,ho]
  cases o <;> rfl
 ·
  rfl
theorem Vp {t:TypeId} {x:Value} (hx:∀ m,x≠.map m):kP (Y5 P t x):=by
 refine ⟨(Y5 P t x zx.empty).map (·.1),fun H=>?_⟩
 unfold Y5
 split <;> first | rfl | exact absurd rfl (hx _)
theorem Jl {d:Nat} {v:Value} (h:okq d v=true):okq d (dem v)=true:=by
 cases v with
 | iface k v=>cases d <;> rfl
 | tuple vs=>cases d <;> cases h
 | _=>exact h
theorem Ji:∀ (d:Nat) {v a:Value},okq d v=true→V0 μ H v a→XO d a a=true:=by
 intro d
 induction d with
 | zero =>
  intro v a h hv
  cases hv <;> first | (cases h;done) | (simp [XO];done) | skip
  rename_i hs
  cases v <;> first | (simp [XO];done) | (simp [Go.Abs.sg] at hs;done) | skip
 | succ d ih =>
  intro v a h hv
  cases hv <;> first | (cases h;done) | (simp [XO];done) | skip
  ·
   rename_i hs
   cases v <;> first | (simp [XO];done) | (simp [Go.Abs.sg] at hs;done) | skip
  ·
   rename_i x x' hx hh
   unfold XO
   simp only [decide_true,Bool.true_and]
   rw [List.all_eq_true]
   intro p hp
   obtain ⟨i,hi,he⟩:=List.mem_iff_getElem.1 hp
   simp only [List.length_zip,Nat.min_self] at hi
   rw [List.getElem_zip] at he
   subst he
   have hi':i < x'.size:=by simpa using hi
   have hi2:i < x.size:=by rw [hx];exact hi'
   have h2:=hh i
   rw [Array.getD_eq_getD_getElem?,Array.getElem?_eq_getElem hi2,Array.getD_eq_getD_getElem?,Array.getElem?_eq_getElem hi'] at h2
   have h3:okq d x[i]=true:=List.all_eq_true.1 (show x.toList.all (okq d)=true from h) _ (by simp)
   have:=ih h3 h2
   simpa using this
theorem Kv (x:Value):vJ (dem x)=vJ x:=by cases x <;> rfl
theorem abT {fx:Fx} {o:Oper} {v:Value} (hdr:fx.dr=true) (h:jW P fx call T o S=some (v,S')) (hn:kR P o=false) (hr:ql o=false) (ho:∀ x ∈ o.op.operands.toList,V0 μ G (dem (zN T x)) (zN A x)) :
  ∃ a,V0 μ G (dem v) a∧∀ H,aOp P (zN A) o H=some (a,H)∧jT P (lim P) A o H=some (a,H):=by
 have hrm:yP o=false:=by
  unfold ql at hr
  unfold yP
  split <;> simp_all
 unfold jW at h
 split at h <;> first | (cases h;done) | skip
 rename_i hok
 obtain ⟨dst,op,type,pos,after,guard⟩:=o
 by_cases hcall:∃ c,op=.call c
 ·
  obtain ⟨c,rfl⟩:=hcall
  dsimp only at h ho
  unfold kR at hn
  dsimp only at hn
  have hcargs:∀ x ∈ c.args.toList,V0 μ G (dem (zN T x)) (zN A x):=by
   intro x hx
   refine ho x ?_
   simp only [Op.operands,Call.operands]
   cases c.callee <;> simp <;> first | exact .inr (by simpa using hx) | exact (by simpa using hx)
  have step:∀ {b:Builtin} (a:Value),c.callee=.builtin b→(∀ H,yY P b c.argTypes type (c.args.toList.map (zN A)) H=some (a,H))→∀ H,aOp P (zN A) ⟨dst,.call c,type,pos,after,guard⟩ H=some (a,H)∧jT P (lim P) A ⟨dst,.call c,type,pos,after,guard⟩ H=some (a,H):=by
   intro b a hb hall H
   constructor
   ·
    unfold aOp;dsimp only;rw [hb];exact hall H
   ·
    unfold jT;rw [if_pos hok];dsimp only;rw [hb];exact hall H
  cases hcal:c.callee with
  | value f=>rw [hcal] at hn;cases hn
  | invoke r m=>rw [hcal] at hn;cases hn
  | builtin b =>
   rw [hcal] at h
   dsimp only at h
   unfold yc at h
   rw [hcal] at hn
   have gargs:(c.args.toList.map (zN T)).all ground=true→c.args.toList.map (zN A)=c.args.toList.map (zN T):=by
    intro hg
    apply List.map_congr_left
    intro x hx
    exact zY (hcargs x hx) (List.all_eq_true.1 hg _ (List.mem_map.2 ⟨x,hx,rfl⟩))
   cases b <;> dsimp only at h hn <;> first | (cases h;done) | (cases hn;done) | skip
   case len =>
    split at h <;> first | (cases h;done) | skip
    rename_i t x0 ht ha
    obtain ⟨x,hx,rfl⟩:∃ x,c.args.toList=[x]∧zN T x=x0:=by
     match hl:c.args.toList with
     | []=>rw [hl] at ha;cases ha
     | [y]=>rw [hl] at ha;simp at ha;exact ⟨y,rfl,ha⟩
     | y::z::w=>rw [hl] at ha;simp at ha
    have hxv:=hcargs x (by rw [hx];simp)
    obtain ⟨rfl,a,h1,h2⟩:=VO h hxv
    have hmap:∀ m,zN A x≠.map m:=by
     intro m hm
     rw [hm] at hxv
     generalize hu:dem (zN T x)=u at hxv
     have hum:∃ m',u=.map m':=by cases hxv <;> exact ⟨_,rfl⟩
     obtain ⟨m',rfl⟩:=hum
     have:zN T x=.map m':=by
      cases hv:zN T x <;> rw [hv] at hu <;> simp [dem,qC] at hu <;> rw [hu]
     rw [this] at h
     simp [vK] at h
    refine ⟨a,h2.dem,step a hcal fun H=>?_⟩
    unfold yY
    dsimp only
    rw [ht,hx]
    exact (Vp hmap).two h1 H
   case min =>
    obtain ⟨rfl,hg,hga,hh⟩:=jI (H:=G) h
    refine ⟨v,(V0.ground hg).dem,step v hcal fun H=>?_⟩
    unfold yY
    dsimp only
    rw [gargs hga]
    exact (wz _ _).two hh H
   case max =>
    obtain ⟨rfl,hg,hga,hh⟩:=jI (H:=G) h
    refine ⟨v,(V0.ground hg).dem,step v hcal fun H=>?_⟩
    unfold yY
    dsimp only
    rw [gargs hga]
    exact (wz _ _).two hh H
 ·
  have hnc:∀ c,op≠.call c:=fun c hc=>hcall ⟨c,hc⟩
  have hV:vOp P fx (zN T) ⟨dst,op,type,pos,after,guard⟩ S=some (v,S'):=by
   cases op <;> first | exact h | exact absurd rfl (hnc _)
  obtain ⟨rfl,a,h1,h2,h3⟩:=YV (ρA:=zN A) hV hn ho (.inl (Zv hrm)) (.inl hdr)
  have hA:∀ H,jT P (lim P) A ⟨dst,op,type,pos,after,guard⟩ H=aOp P (zN A) ⟨dst,op,type,pos,after,guard⟩ H:=by
   intro H
   unfold jT
   rw [if_pos hok]
   cases op <;> first | rfl | exact absurd rfl (hnc _)
  refine ⟨a,h2,fun H=>?_⟩
  rw [hA]
  have key:aOp P (zN A) ⟨dst,op,type,pos,after,guard⟩ H=some (a,H):=by
   have hf:kP (aOp P (zN A) ⟨dst,op,type,pos,after,guard⟩):=by
    unfold kR at hn
    unfold ql at hr
    unfold aOp
    unfold vOp at hV
    cases op <;> dsimp only at hn hr hV ⊢ <;> first | (cases hn;done) | (cases hr;done) | (cases hV;done) | skip
    ·
     exact Je _
    ·
     exact Je _
    ·
     exact Xe _ _ _
    ·
     exact QM
    ·
     exact JJ
    ·
     exact Yv _ _ _ _
    ·
     exact abI _ _
    ·
     exact Je _
    ·
     exact Z4 _ _ _
    ·
     exact Qy _ _ _
    ·
     exact JF _ _ _
    ·
     exact Qi
    ·
     exact Yj _ _
   exact hf.two h1 H
  exact ⟨key,key⟩
theorem V9 {t:TypeId} {r o e:Nat} {l:List Value} {own own':Own} {a:Value} (hg:G.get r=some (.cells l own e)) (hg':H2.get r=some (.cells l own' e)) (h:wI P t (.pointer (some ⟨r,o,none⟩)) G=some (a,G)) :
  wI P t (.pointer (some ⟨r,o,none⟩)) H2=some (a,H2):=by
 simp only [wI,hg] at h
 simp only [wI,hg']
 (repeat' split at h) <;> first | (cases h;done) | skip
 all_goals simp_all
theorem VV.backed {v:Value} {r o n c:Nat} (h:V0 μ G v (.slice (some ⟨r,o,none⟩) n c)) (hv:vJ v=false):∃ l own e,r < G.next∧xH μ r∧G.get r=some (.cells l own e):=by
 cases h with
 | sg hs=>simp [Go.Abs.sg] at hs
 | slm hm=>simp [vJ] at hv
 | sl hr hp hg _ _ _=>exact ⟨_,_,_,hr,hp,hg⟩
theorem Xl {x:Value} {n:Nat} {cs:List Value} (hx:∀ r o n c,x=.slice (some ⟨r,o,none⟩) n c→∃ l own own' e,G.get r=some (.cells l own e)∧H2.get r=some (.cells l own' e)) (h:wK x n G=some cs):wK x n H2=some cs:=by
 unfold wK at h ⊢
 split at h
 ·
  rename_i r o k c
  obtain ⟨l,own,own',e,hg,hg'⟩:=hx _ _ _ _ rfl
  rw [hg] at h
  rw [hg']
  exact h
 ·
  exact h
 ·
  exact h
 ·
  cases h
theorem X3 {src dst:TypeId} {x a:Value} (hd:∀ e,P.underlying dst≠some (.slice e)) (hx:∀ r o n c,x=.slice (some ⟨r,o,none⟩) n c→∃ l own own' e,G.get r=some (.cells l own e)∧H2.get r=some (.cells l own' e)) (h:wG P src dst x G=some (a,G)) :
  wG P src dst x H2=some (a,H2):=by
 unfold wG at h ⊢
 split at h
 ·
  rename_i b n c
  (try dsimp only)
  split at h
  ·
   rename_i e hs hdd
   split at h <;> first | (cases h;done) | skip
   rename_i he
   split at h <;> first | (cases h;done) | skip
   rename_i cs hcs
   rw [Xl hx hcs]
   (try dsimp only)
   split at h <;> first | (cases h;done) | skip
   rename_i bs hbs
   (try rw [hbs])
   cases h
   rfl
  ·
   rename_i e0 e hs hdd
   exact absurd hdd (hd e)
  ·
   cases h
 ·
  rename_i s
  (try dsimp only)
  split at h
  ·
   rename_i d e hs hdd
   exact absurd hdd (hd e)
  ·
   exact (wz _ _).two h H2
 ·
  exact (wz _ _).two h H2
theorem KU {t:TypeId} {x a:Value} {lo hi:Option Value} (hx:∀ r o n c,x=.slice (some ⟨r,o,none⟩) n c→∃ l own own' e,G.get r=some (.cells l own e)∧H2.get r=some (.cells l own' e)) (h:yO P t x lo hi G=some (a,G)) :
  yO P t x lo hi H2=some (a,H2):=by
 unfold yO at h ⊢
 split at h
 ·
  rename_i s hu
  exact (wz _ _).two h H2
 ·
  rename_i e b n c hu
  (try dsimp only)
  split at h <;> first | (cases h;done) | skip
  rename_i size l hh hs hl hhi
  (try simp only [hs,hl,hhi])
  split at h <;> first | (cases h;done) | skip
  rename_i c0
  split at h <;> first | (cases h;done) | skip
  rename_i c1
  split at h <;> first | (cases h;done) | skip
  rename_i c2
  rw [if_pos c0,if_pos c1,if_pos c2]
  split at h
  ·
   split at h <;> first | (cases h;done) | skip
   rename_i hn
   cases h
   rw [if_pos hn]
  ·
   rename_i r o
   obtain ⟨l2,own,own',e2,hg,hg'⟩:=hx _ _ _ _ rfl
   rw [hg] at h
   rw [hg']
   dsimp only at h ⊢
   split at h <;> first | (cases h;done) | skip
   rename_i he
   rw [if_pos he]
   cases h
   rfl
  ·
   split at h <;> first | (cases h;done) | skip
   rename_i hn
   cases h
   rw [if_pos hn]
  ·
   cases h
 ·
  cases h
theorem Zq {t:TypeId} {r o:Nat} {a:Value} {G':zx} (hg:H2.get r=G.get r) (h:wI P t (.pointer (some ⟨r,o,none⟩)) G=some (a,G')):wI P t (.pointer (some ⟨r,o,none⟩)) H2=some (a,H2):=by
 simp only [wI] at h ⊢
 rw [hg]
 (repeat' split at h) <;> first | (cases h;done) | skip
 all_goals simp_all
theorem Yu {t:TypeId} {x k:Value} {ok:Bool} {a:Value} {G':zx} (hg:∀ r,x=.map (some r)→H2.get r=G.get r) (h:jL P t x k ok G=some (a,G')):jL P t x k ok H2=some (a,H2):=by
 have e:∀ H:zx,jL P t x k ok H=(jL P t x k ok H).map (fun r=>(r.1,H)):=by
  intro H
  unfold jL
  (try dsimp only)
  (repeat' split) <;> rfl
 have e2:(jL P t x k ok H2).map (·.1)=(jL P t x k ok G).map (·.1):=by
  cases x with
  | map b =>
   cases b with
   | none=>unfold jL;dsimp only;(repeat' split) <;> rfl
   | some r =>
    unfold jL
    dsimp only
    rw [hg r rfl]
    (repeat' split) <;> rfl
  | _=>unfold jL;(try dsimp only) <;> (try ((repeat' split) <;> rfl))
 rw [h] at e2
 rw [e H2]
 cases hh:jL P t x k ok H2 with
 | none=>rw [hh] at e2;cases e2
 | some w =>
  rw [hh] at e2
  simp only [Option.map_some,Option.some.injEq] at e2 ⊢
  rw [e2]
theorem acR {fx:Fx} {o:Oper} {v:Value} (hdr:fx.dr=true) (h:jW P fx call T o S=some (v,S')) (hn:kR P o=false) (hm:qG (zN T) o) (ho:∀ x ∈ o.op.operands.toList,V0 μ G (dem (zN T x)) (zN A x)) (hL:Later μ G μ2 H2) :
  ∃ a,V0 μ G (dem v) a∧aOp P (zN A) o G=some (a,G)∧aOp P (zN A) o H2=some (a,H2)∧jT P (lim P) A o G=some (a,G)∧jT P (lim P) A o H2=some (a,H2):=by
 by_cases hr:ql o=false
 ·
  obtain ⟨a,h1,h2⟩:=abT hdr h hn hr ho
  exact ⟨a,h1,(h2 G).1,(h2 H2).1,(h2 G).2,(h2 H2).2⟩
 ·
  unfold jW at h
  split at h <;> first | (cases h;done) | skip
  rename_i hok
  obtain ⟨dst,op,type,pos,after,guard⟩:=o
  unfold ql at hr
  cases op <;> dsimp only at h hr <;> first | (exact absurd rfl hr) | skip
  case load t addr =>
   obtain ⟨rfl,a,h1,h2,h3⟩:=YV (ρA:=zN A) h hn ho (.inl hm) (.inl hdr)
   have hA:∀ H,jT P (lim P) A ⟨dst,.load t addr,type,pos,after,guard⟩ H=aOp P (zN A) ⟨dst,.load t addr,type,pos,after,guard⟩ H:=fun H=>by unfold jT;rw [if_pos hok]
   have key:aOp P (zN A) ⟨dst,.load t addr,type,pos,after,guard⟩ H2=some (a,H2):=by
    have hx:=ho addr (by simp [Op.operands])
    have h:je P fx.nm t (zN T addr) S'=some (v,S'):=h
    unfold aOp at h1 ⊢
    dsimp only at h1 ⊢
    unfold je at h
    split at h
    ·
     rename_i k cs he
     split at h <;> first | (cases h;done) | skip
     rename_i hk
     subst hk
     rw [he] at hx
     have hx:V0 μ G (.iface 3 (.agg cs)) (zN A addr):=hx
     generalize hq:zN A addr=q at hx h1 ⊢
     cases hx with
     | sg hs=>simp [Go.Abs.sg] at hs
     | ep hr hp hg hl hc =>
      obtain ⟨own',hg'⟩:=hL.cells _ _ _ _ hr hp hg
      exact V9 hg hg' h1
    ·
     rename_i ad he
     exact absurd he (hm ad)
    ·
     cases h
   exact ⟨a,h2,h1,key,by rw [hA];exact h1,by rw [hA];exact key⟩
  case convert src d x =>
   obtain ⟨rfl,a,h1,h2,h3⟩:=YV (ρA:=zN A) h hn ho (.inl hm) (.inl hdr)
   have hA:∀ H,jT P (lim P) A ⟨dst,.convert src d x,type,pos,after,guard⟩ H=aOp P (zN A) ⟨dst,.convert src d x,type,pos,after,guard⟩ H:=fun H=>by unfold jT;rw [if_pos hok]
   have key:aOp P (zN A) ⟨dst,.convert src d x,type,pos,after,guard⟩ H2=some (a,H2):=by
    have hx:=ho x (by simp [Op.operands])
    unfold aOp at h1 ⊢
    dsimp only at h1 ⊢
    refine X3 (fun e he=>?_) (fun r o n c hq=>?_) h1
    ·
     unfold kR at hn
     dsimp only at hn
     rw [he] at hn;cases hn
    ·
     rw [hq] at hx
     have hh:vJ (dem (zN T x))=false:=by
      rw [Kv]
      have h:qF P fx.hp fx.dr src d (zN T x) S'=some (v,S'):=h
      unfold qF at h
      split at h
      ·
       first | (cases h;done) | (rw [hdr] at h;simp at h)
      ·
       rename_i hh;simpa using hh
     obtain ⟨l,own,e,hr,hp,hg⟩:=hx.backed hh
     obtain ⟨own',hg'⟩:=hL.cells _ _ _ _ hr hp hg
     exact ⟨l,own,own',e,hg,hg'⟩
   exact ⟨a,h2,h1,key,by rw [hA];exact h1,by rw [hA];exact key⟩
  case slice t x lo hi mx =>
   obtain ⟨rfl,a,h1,h2,h3⟩:=YV (ρA:=zN A) h hn ho (.inl hm) (.inl hdr)
   have hA:∀ H,jT P (lim P) A ⟨dst,.slice t x lo hi mx,type,pos,after,guard⟩ H=aOp P (zN A) ⟨dst,.slice t x lo hi mx,type,pos,after,guard⟩ H:=fun H=>by unfold jT;rw [if_pos hok]
   have key:aOp P (zN A) ⟨dst,.slice t x lo hi mx,type,pos,after,guard⟩ H2=some (a,H2):=by
    have hx:=ho x (by simp [Op.operands])
    unfold aOp at h1 ⊢
    cases mx with
    | some m=>cases h1
    | none =>
     dsimp only at h1 ⊢
     refine KU (fun r o n c hq=>?_) h1
     rw [hq] at hx
     have hh:vJ (dem (zN T x))=false:=by
      rw [Kv]
      have h:wQ P fx.dr t (zN T x) (lo.map (zN T)) (hi.map (zN T)) S'=some (v,S'):=h
      unfold wQ at h
      split at h
      ·
       first | (cases h;done) | (rw [hdr] at h;simp at h)
      ·
       rename_i hh;simpa using hh
     obtain ⟨l,own,e,hr,hp,hg⟩:=hx.backed hh
     obtain ⟨own',hg'⟩:=hL.cells _ _ _ _ hr hp hg
     exact ⟨l,own,own',e,hg,hg'⟩
   exact ⟨a,h2,h1,key,by rw [hA];exact h1,by rw [hA];exact key⟩
  case lookup t x k ok =>
   exact hm.elim
end
end Go.Abs
namespace Go.Abs
open Go.RowKit
structure Line (P : Program) (fx : Fx) (chk : List Nat) (call : FuncId → List Value → M Value) (ops : Array Oper) (k0 : Nat) (l : List Oper) (Ts As : Nat → List Value) (Ss Hs : Nat → zx) (μs : Nat → Mu) (ωs : Nat → Nat → Option wB) (vs zf : Nat → Value) : Prop where
  inv : ∀ k, k ≤ l.length → GI (μs k) (Ss k) (Hs k) ∧ TI (μs k) (Hs k) (ωs k) (Ts k) (As k)
  step : ∀ k o, l[k]? = some o → Later (μs k) (Hs k) (μs (k + 1)) (Hs (k + 1)) ∧ Kept (ωs k) (Hs k) (ωs (k + 1)) (Hs (k + 1)) ∧
    ((Region.wanted o (ynd ops (As k)) = true ∧ jW P fx call (Ts k) o (Ss k) = some (vs k, Ss (k + 1)) ∧ jT P (lim P) (As k) o (Hs k) = some (zf k, Hs (k + 1)) ∧
        Ts (k + 1) = xG o (l.drop (k + 1)) (Ts k) (vs k) ∧ As (k + 1) = vX (As k) o.dst (zf k) ∧ (chk.contains (k0 + k) = true → okq 3 (vs k) = true)) ∨
     (Region.wanted o (ynd ops (As k)) = false ∧ zf k = zh ∧ Ts (k + 1) = xG o (l.drop (k + 1)) (Ts k) zh ∧ As (k + 1) = vX (As k) o.dst zh ∧ Hs (k + 1) = Hs k))
section
variable {P:Program} {call:FuncId→List Value→M Value}
theorem line_of {fx : Fx} {chk : List Nat} {nl : List (Nat × Nat)} (hc : vS P call) {ops : Array Oper} : ∀ (l : List Oper) (k0 : Nat) (hist : List (Value × zx)) (T T' A : List Value) (S S' H : zx) (μ : Mu) (ω : Nat → Option wB), jS P fx chk nl call ops k0 hist l T S = some (T', S') → GI μ S H → TI μ H ω T A →
    ∃ Ts As Ss Hs μs ωs vs zf tr, Line P fx chk call ops k0 l Ts As Ss Hs μs ωs vs zf ∧ Ts 0 = T ∧ As 0 = A ∧ Ss 0 = S ∧ Hs 0 = H ∧ μs 0 = μ ∧ ωs 0 = ω ∧ Ts l.length = T' ∧ Ss l.length = S' ∧
      yj P (lim P) ops l A H = some (tr, As l.length, Hs l.length) ∧ (∀ k, k < l.length → tr[k]? = some (As k, Hs k, zf k)) ∧ (∀ k, k ≤ l.length → (tr.map (·.2.1) ++ [Hs l.length])[k]? = some (Hs k)) ∧
      ∃ hs : List (Value × zx), hs.length = l.length ∧ (∀ k o, l[k]? = some o → hs[k]? = some (qh (Ts k) o, Ss k)) ∧ (nl.isEmpty = false → nl.all (YQ (hist ++ hs ++ [(zh, S')])) = true) := by
  intro l
  induction l with
  | nil =>
    intro k0 hist T T' A S S' H μ ω h hG hT
    simp only [jS] at h
    split at h <;> first | (cases h; done) | skip
    rename_i hst
    cases h
    refine ⟨fun _ => T, fun _ => A, fun _ => S, fun _ => H, fun _ => μ, fun _ => ω, fun _ => zh, fun _ => zh, [], ⟨fun k _ => ⟨hG, hT⟩, fun k o ho => by simp at ho⟩, rfl, rfl, rfl, rfl, rfl, rfl, rfl, rfl, rfl, fun k hk => by simp at hk, fun k hk => ?_, [], rfl, fun k o ho => by simp at ho, fun he => ?_⟩
    · have : k = 0 := by simpa using hk
      subst this
      rfl
    · simpa [qX, he] using hst
  | cons o l ih =>
    intro k0 hist T T' A S S' H μ ω h hG hT
    have hy : (ynd ops T) = ynd ops A := funext fun j => Vd hT j
    simp only [jS] at h
    have glue : ∀ (T1 A1 : List Value) (S1 H1 : zx) (μ1 : Mu) (ω1 : Nat → Option wB) (v a : Value), jS P fx chk nl call ops (k0 + 1) (qX nl hist (qh T o) S) l T1 S1 = some (T', S') → GI μ1 S1 H1 → TI μ1 H1 ω1 T1 A1 → Later μ H μ1 H1 → Kept ω H ω1 H1 →
        ((Region.wanted o (ynd ops A) = true ∧ jW P fx call T o S = some (v, S1) ∧ jT P (lim P) A o H = some (a, H1) ∧ T1 = xG o l T v ∧ A1 = vX A o.dst a ∧ (chk.contains k0 = true → okq 3 v = true)) ∨
         (Region.wanted o (ynd ops A) = false ∧ a = zh ∧ T1 = xG o l T zh ∧ A1 = vX A o.dst zh ∧ H1 = H)) →
        (∀ tr A2 H2, yj P (lim P) ops l A1 H1 = some (tr, A2, H2) → yj P (lim P) ops (o :: l) A H = some ((A, H, a) :: tr, A2, H2)) →
        ∃ Ts As Ss Hs μs ωs vs zf tr, Line P fx chk call ops k0 (o :: l) Ts As Ss Hs μs ωs vs zf ∧ Ts 0 = T ∧ As 0 = A ∧ Ss 0 = S ∧ Hs 0 = H ∧ μs 0 = μ ∧ ωs 0 = ω ∧ Ts (o :: l).length = T' ∧ Ss (o :: l).length = S' ∧
          yj P (lim P) ops (o :: l) A H = some (tr, As (o :: l).length, Hs (o :: l).length) ∧ (∀ k, k < (o :: l).length → tr[k]? = some (As k, Hs k, zf k)) ∧ (∀ k, k ≤ (o :: l).length → (tr.map (·.2.1) ++ [Hs (o :: l).length])[k]? = some (Hs k)) ∧
          ∃ hs : List (Value × zx), hs.length = (o :: l).length ∧ (∀ k o', (o :: l)[k]? = some o' → hs[k]? = some (qh (Ts k) o', Ss k)) ∧ (nl.isEmpty = false → nl.all (YQ (hist ++ hs ++ [(zh, S')])) = true) := by
      intro T1 A1 S1 H1 μ1 ω1 v a hrest hG1 hT1 hL hK hstep htr
      obtain ⟨Ts, As, Ss, Hs, μs, ωs, vs, zf, tr, hline, e1, e2, e3, e4, e5, e6, e7, e8, e9, e10, e11, hs, e12, e13, e14⟩ := ih _ _ _ _ _ _ _ _ _ _ hrest hG1 hT1
      refine ⟨fun k => match k with | 0 => T | k + 1 => Ts k, fun k => match k with | 0 => A | k + 1 => As k, fun k => match k with | 0 => S | k + 1 => Ss k, fun k => match k with | 0 => H | k + 1 => Hs k,
        fun k => match k with | 0 => μ | k + 1 => μs k, fun k => match k with | 0 => ω | k + 1 => ωs k, fun k => match k with | 0 => v | k + 1 => vs k, fun k => match k with | 0 => a | k + 1 => zf k, (A, H, a) :: tr,
        ⟨fun k hk => ?_, fun k o' ho => ?_⟩, rfl, rfl, rfl, rfl, rfl, rfl, e7, e8, htr _ _ _ e9, fun k hk => ?_, fun k hk => ?_, (qh T o, S) :: hs, by simp [e12], fun k o' ho => ?_, fun he => ?_⟩
      · cases k with
        | zero => exact ⟨hG, hT⟩
        | succ k => exact hline.inv k (by simpa using hk)
      · cases k with
        | zero =>
          simp only [List.getElem?_cons_zero, Option.some.injEq] at ho
          subst ho
          dsimp only
          rw [e1, e2, e3, e4, e5, e6]
          exact ⟨hL, hK, hstep⟩
        | succ k =>
          have := hline.step k o' (by simpa using ho)
          rw [show k0 + 1 + k = k0 + (k + 1) by omega] at this
          exact this
      · cases k with
        | zero => rfl
        | succ k => simpa using e10 k (by simpa using hk)
      · cases k with
        | zero => rfl
        | succ k => simpa using e11 k (by simpa using hk)
      · cases k with
        | zero =>
          simp only [List.getElem?_cons_zero, Option.some.injEq] at ho
          subst ho
          rfl
        | succ k => simpa using e13 k o' (by simpa using ho)
      · have := e14 he
        rw [show qX nl hist (qh T o) S = hist ++ [(qh T o, S)] by simp [qX, he]] at this
        simpa using this
    split at h
    · rename_i hw
      split at h
      · rename_i v S1 hs
        split at h <;> first | (cases h; done) | skip
        rename_i hchk
        obtain ⟨a, H1, μ1, ω1, h1, h2, h3, h4, h5⟩ := Kt (rest := l) hc hG hT hs
        have hw' : Region.wanted o (ynd ops A) = true := by rw [← hy]; exact hw
        refine glue _ _ _ H1 μ1 ω1 v a h h2 h5 h3 h4 (.inl ⟨hw', hs, h1, rfl, rfl, fun hk => ?_⟩) (fun tr A2 H2 ht => ?_)
        · rw [hk] at hchk; simpa using hchk
        · simp only [yj, hw', if_true, h1, ht]
      · cases h
    · rename_i hw
      obtain ⟨μ1, ω1, h2, h3, h4, h5⟩ := ZI (o := o) (rest := l) hG hT
      have hw' : Region.wanted o (ynd ops A) = false := by rw [← hy]; simpa using hw
      refine glue _ _ _ H μ1 ω1 zh zh h h2 h5 h3 h4 (.inr ⟨hw', rfl, rfl, rfl, rfl⟩) (fun tr A2 H2 ht => ?_)
      simp only [yj, hw', ht]
      rfl
variable {fx:Fx} {chk:List Nat} {ops:Array Oper} {k0:Nat} {l:List Oper} {Ts As:Nat→List Value} {Ss Hs:Nat→zx} {μs:Nat→Mu} {ωs:Nat→Nat→Option wB} {vs zf:Nat→Value}
theorem Line.later (hl:Line P fx chk call ops k0 l Ts As Ss Hs μs ωs vs zf) {i:Nat}:∀ (d:Nat),i+d≤l.length→Later (μs i) (Hs i) (μs (i+d)) (Hs (i+d)):=by
 intro d
 induction d with
 | zero=>intro _;exact Later.refl _ _
 | succ d ih =>
  intro hd
  have ho:l[i+d]?=some l[i+d]:=List.getElem?_eq_getElem (by omega)
  exact (ih (by omega)).trans (hl.step (i+d) _ ho).1
theorem Line.kept (hl:Line P fx chk call ops k0 l Ts As Ss Hs μs ωs vs zf):∀ (d:Nat),d≤l.length→Kept (ωs 0) (Hs 0) (ωs d) (Hs d):=by
 intro d
 induction d with
 | zero=>intro _;exact Kept.refl _ _
 | succ d ih =>
  intro hd
  have ho:l[d]?=some l[d]:=List.getElem?_eq_getElem (by omega)
  exact (ih (by omega)).trans (hl.step d _ ho).2.1
theorem Qv (i:Nat) (w:Value):dem (jM i w)=dem w:=by
 cases w with
 | tuple vs =>
  simp only [jM,dem]
  congr 1
  apply Array.ext (by simp)
  intro k h1 h2
  rw [Array.getElem_map,Array.getElem_map,Array.getElem_modify]
  split
  ·
   have:∀ v,qC (qC v)=qC v:=by
    intro v
    cases v with
    | iface k v =>
     simp only [qC]
     by_cases h:k=2
     ·
      rw [if_pos h,if_neg (by decide)]
     ·
      rw [if_neg h,if_neg h]
    | _=>rfl
   exact this _
  ·
   rfl
 | _=>rfl
theorem Yt (o:Oper) (T:List Value) (t:Nat):dem ((moved o T).getD t zh)=dem (T.getD t zh):=by
 have slot:∀ t',dem ((yu T t').getD t zh)=dem (T.getD t zh):=by
  intro t'
  rw [yu,wL]
  split
  ·
   rename_i h;rw [h.1,Yp]
  ·
   rfl
 unfold moved
 split
 ·
  exact slot _
 ·
  exact slot _
 ·
  rw [wL]
  split
  ·
   rename_i h;rw [h.1,Qv]
  ·
   rfl
 ·
  split
  ·
   exact slot _
  ·
   rfl
 ·
  rfl
theorem moved_length (o:Oper) (T:List Value):(moved o T).length=T.length:=by
 unfold moved
 split <;> first | simp [yu] | rfl | skip
 split <;> first | simp [yu] | rfl
theorem Y9 {o:Oper} {rest:List Oper} {T:List Value} {v:Value} (hd:o.dst=none) (t:Nat):dem ((xG o rest T v).getD t zh)=dem (T.getD t zh):=by
 unfold xG
 rw [hd]
 split
 ·
  rfl
 ·
  exact Yt o T t
theorem YU {o:Oper} {rest:List Oper} {T:List Value} {v:Value} {d:Nat} (hd:o.dst=some d) (t:Nat):dem ((xG o rest T v).getD t zh)=if t=d∧d < T.length then dem v else dem (T.getD t zh):=by
 unfold xG
 rw [hd]
 split
 ·
  simp only [vX]
  rw [wL]
  split
  ·
   exact Yp v
  ·
   rfl
 ·
  simp only [vX]
  rw [wL,moved_length]
  split
  ·
   rfl
  ·
   exact Yt o T t
def Clear (μ:Mu) (G:zx) (bad:List Nat) (T A:List Value):Prop:=∀ t,bad.contains t=false→V0 μ G (dem (T.getD t zh)) (A.getD t zh)
theorem Clear.operands {μ:Mu} {G:zx} {bad:List Nat} {T A:List Value} (h:Clear μ G bad T A) {o:Oper} (hok:aa6 o=true) (hc:wY bad o=true):∀ x ∈ o.op.operands.toList,V0 μ G (dem (zN T x)) (zN A x):=by
 intro x hx
 have h1:=List.all_eq_true.1 (show o.op.operands.toList.all yA=true from hok) x hx
 have h2:=List.all_eq_true.1 hc x hx
 cases x with
 | tmp t=>exact h t (by simpa using h2)
 | const v=>exact (VV.jQ (μ:=μ) (H:=G) (ω:=W0) (ℓ:=none) h1).v0
 | global g=>cases h1
 | func f =>
  have:V0 μ G (.func (.func f) #[] #[]) (.func (.func f) #[] #[]):=.func _ rfl rfl (fun i=>by simpa using VV.zh) (fun i=>by simpa using VV.zh)
  exact this
theorem qI {T:List Value} {o:Oper} {S S':zx} {v:Value} (h:jW P fx call T o S=some (v,S')):aa6 o=true:=by
 unfold jW at h
 split at h
 ·
  assumption
 ·
  cases h
theorem KZ {fx:Fx} {o:Oper} {T A:List Value} {v:Value} {S S' H:zx} {μ:Mu} (h:jW P fx call T o S=some (v,S')) (hnm:fx.nm=true) (hm:¬ qG (zN T) o) (hG:GI μ S H) (ho:∀ x ∈ o.op.operands.toList,V0 μ H (dem (zN T x)) (zN A x)) :
  ground v=true∧∃ a,jT P (lim P) A o H=some (a,H)∧a=v:=by
 have hok:=qI h
 unfold jW at h
 rw [if_pos hok] at h
 obtain ⟨dst,op,type,pos,after,guard⟩:=o
 unfold qG at hm
 cases op <;> dsimp only at h hm <;> first | (exact absurd True.intro hm) | skip
 case load t a =>
  have h:je P fx.nm t (zN T a) S=some (v,S'):=h
  obtain ⟨q,hq⟩:∃ q,zN T a=.pointer q:=Classical.byContradiction fun hn=>hm fun q hq=>hn ⟨q,hq⟩
  obtain ⟨rfl,w,k1,k2⟩:=Zc h (ho a (by simp [Op.operands])) (.inr hG)
  rw [hnm] at h
  have hgr:ground v=true:=by
   unfold je at h
   rw [hq] at h
   dsimp only at h
   split at h <;> first | (cases h;done) | skip
   ·
    split at h
    ·
     split at h <;> first | (cases h;done) | skip
     rename_i hg
     cases h
     exact hg
    ·
     rename_i hf;exact absurd rfl hf
   ·
    split at h
    ·
     split at h <;> first | (cases h;done) | skip
     rename_i hg
     cases h
     exact hg
    ·
     rename_i hf;exact absurd rfl hf
  refine ⟨hgr,w,?_,k2.y9 hgr⟩
  unfold jT
  rw [if_pos hok]
  exact k1
 case lookup t x k ok =>
  have h:ZF P fx.nm t (zN T x) (zN T k) ok S=some (v,S'):=h
  unfold ZF at h
  rw [hnm] at h
  simp at h
theorem Line.abd (hl:Line P fx chk call ops k0 l Ts As Ss Hs μs ωs vs zf) {j k:Nat} (hjk:j≤k) (hk:k≤l.length) {q r:Nat} {b:Bool} (hmq:μs j q=some (r,b)) {o:wU} (g1:(Ss j).get q=some o) (g2:o.alive=true) (g3:q ∉ (Ss k).log.take ((Ss k).log.length - (Ss j).log.length)):(Hs k).get r=(Hs j).get r:=by
 obtain ⟨hGj,_⟩:=hl.inv j (by omega)
 obtain ⟨hGk,_⟩:=hl.inv k hk
 obtain ⟨r0,_,g4,_⟩:=hGj.obj q o g1 g2
 rw [hmq] at g4
 cases g4
 have hL:=hl.later (i:=j) (k - j) (by omega)
 rw [show j+(k - j)=k by omega] at hL
 obtain ⟨new,n1,n2⟩:=hL.still
 rw [hGk.log,hGj.log] at n1
 rw [n1] at g3
 simp only [List.length_append,Nat.add_sub_cancel,List.take_left] at g3
 exact (n2 q r hmq g3).2
theorem KX {fx:Bool} {t:TypeId} {q o:Nat} {v:Value} {S S2 S':zx} (e:S2.get q=S.get q) (h:je P fx t (.pointer (some ⟨q,o,none⟩)) S=some (v,S')):je P fx t (.pointer (some ⟨q,o,none⟩)) S2=some (v,S2):=by
 unfold je at h ⊢
 dsimp only at h ⊢
 cases hl:wI P t (.pointer (some ⟨q,o,none⟩)) S with
 | none=>rw [hl] at h;cases h
 | some p =>
  obtain ⟨a,G⟩:=p
  rw [hl] at h
  rw [Zq e hl]
  cases a <;> dsimp only at h ⊢ <;> (repeat' split at h) <;> first | (cases h;done) | (cases h;simp_all;done) | skip
  all_goals (cases h;try simp_all)
theorem Line.Xc (hl:Line P fx chk call ops k0 l Ts As Ss Hs μs ωs vs zf) {j k:Nat} (hjk:j≤k) (hk:k≤l.length) {o:Oper} (hm:¬ qG (zN (Ts k)) o) (hL:isLoad o=true) (hv:jW P fx call (Ts k) o (Ss k)=some (vs k,Ss (k+1))) (ha:jT P (lim P) (As k) o (Hs k)=some (zf k,Hs (k+1)))
  (hx0:∀ x ∈ o.op.operands.toList,V0 (μs j) (Hs j) (dem (zN (Ts k) x)) (zN (As k) x)) (s1:yM (qh (Ts k) o) (Ss j) (Ss k)=true) (s2:JL (qh (Ts k) o) (Ss j) (Ss k)=true):V0 (μs j) (Hs j) (dem (vs k)) (zf k):=by
 have hok:=qI hv
 unfold jW at hv
 rw [if_pos hok] at hv
 obtain ⟨dst,op,type,pos,after,guard⟩:=o
 unfold qG at hm
 cases op <;> first | (cases hL;done) | skip
 case load t a =>
  dsimp only at hm
  have hv:je P fx.nm t (zN (Ts k) a) (Ss k)=some (vs k,Ss (k+1)):=hv
  obtain ⟨ad,hq⟩:∃ q,zN (Ts k) a=.pointer q:=Classical.byContradiction fun hn=>hm fun q hq=>hn ⟨q,hq⟩
  have hx:=hx0 a (by simp [Op.operands])
  have hA:jT P (lim P) (As k) ⟨dst,.load t a,type,pos,after,guard⟩ (Hs k)=wI P t (zN (As k) a) (Hs k):=by unfold jT;rw [if_pos hok];rfl
  rw [hA] at ha
  have s1:yM (zN (Ts k) a) (Ss j) (Ss k)=true:=s1
  have s2:JL (zN (Ts k) a) (Ss j) (Ss k)=true:=s2
  rw [hq] at hx hv s1 s2
  have hx:V0 (μs j) (Hs j) (.pointer ad) (zN (As k) a):=hx
  generalize zN (As k) a=pa at hx ha
  cases hx with
  | sg hs =>
   cases ad with
   | none=>simp [je,wI] at hv
   | some ad=>simp [Go.Abs.sg] at hs
  | @ptr _ q o r b hmq =>
   simp only [yM,Bool.and_eq_true,Bool.not_eq_true',List.contains_eq_mem,decide_eq_false_iff_not] at s1
   obtain ⟨h1,h3⟩:=s1
   split at h1 <;> first | (cases h1;done) | skip
   rename_i hsa
   have g:=hl.abd hjk hk hmq hsa rfl h3
   have e:(Ss j).get q=(Ss k).get q:=@of_decide_eq_true _ (Classical.propDecidable _) s2
   have k1:=Zq g.symm ha
   have hvj:=KX e hv
   obtain ⟨hGj,_⟩:=hl.inv j (by omega)
   obtain ⟨_,w,k2,k3⟩:=Zc hvj (show V0 (μs j) (Hs j) (dem (.pointer (some ⟨q,o,none⟩))) _ from .ptr hmq) (.inr hGj)
   rw [k1] at k2
   cases k2
   exact k3.dem
theorem Line.clear (hdr:fx.dr=true) (hl:Line P fx chk call ops k0 l Ts As Ss Hs μs ωs vs zf) {j:Nat} (hj:j≤l.length) {cl:Nat→Bool} (hcl:∀ k o,j≤k→l[k]?=some o→isLoad o=true→cl k=true→yM (qh (Ts k) o) (Ss j) (Ss k)=true∧JL (qh (Ts k) o) (Ss j) (Ss k)=true):∀ (rest:List Oper) (bad:List Nat) (k:Nat),j≤k→l.drop k=rest→Clear (μs j) (Hs j) bad (Ts k) (As k) →
  ∀ d,d≤rest.length→Clear (μs j) (Hs j) ((aae P fx.nm cl k rest bad).getD d []) (Ts (k+d)) (As (k+d)):=by
 intro rest
 induction rest with
 | nil =>
  intro bad k hjk hr hC d hd
  have:d=0:=by simpa using hd
  subst this
  exact hC
 | cons o rest ih =>
  intro bad k hjk hr hC d hd
  have hkl:k < l.length:=by
   have:=congrArg List.length hr
   simp at this;omega
  have ho:l[k]?=some o:=by
   have:=congrArg (·[0]?) hr
   simpa [List.getElem?_drop] using this
  cases d with
  | zero=>exact hC
  | succ d =>
   simp only [aae,List.getD_cons_succ]
   rw [show k+(d+1)=k+1+d by omega]
   refine ih _ (k+1) (by omega) ?_ ?_ d (by simpa using hd)
   ·
    rw [← List.drop_drop,hr];rfl
   ·
    obtain ⟨hL,_,hor⟩:=hl.step k o ho
    obtain ⟨hG,hT⟩:=hl.inv k (by omega)
    have hlen:=hT.len
    intro t ht
    cases hd:o.dst with
    | none =>
     rw [hd] at ht
     rcases hor with ⟨_,_,_,e1,e2,_⟩ | ⟨_,_,e1,e2,_⟩
     ·
      rw [e1,Y9 hd,e2,hd];exact hC t ht
     ·
      rw [e1,Y9 hd,e2,hd];exact hC t ht
    | some dd =>
     rw [hd] at ht
     dsimp only at ht
     have htb:bad.contains t=false:=by
      split at ht
      ·
       simp only [List.contains_cons,Bool.or_eq_false_iff] at ht;exact ht.2
      ·
       exact ht
     rcases hor with ⟨hw,hv,ha,e1,e2,_⟩ | ⟨_,_,e1,e2,_⟩
     ·
      rw [e1,YU hd,e2,hd]
      simp only [vX]
      rw [wL,hlen]
      by_cases hc:t=dd∧dd < (As k).length
      ·
       rw [if_pos hc,if_pos hc]
       have hcond:¬ (kR P o || !wY bad o || (yP o && !fx.nm && !(isLoad o && cl k)))=true:=by
        intro hh
        rw [if_pos hh] at ht
        simp [hc.1] at ht
       rw [Bool.not_eq_true,Bool.or_eq_false_iff,Bool.or_eq_false_iff] at hcond
       obtain ⟨⟨q1,q2⟩,q3⟩:=hcond
       have q2':wY bad o=true:=by simpa using q2
       have hLj:Later (μs j) (Hs j) (μs k) (Hs k):=by
        have:=hl.later (i:=j) (k - j) (by omega)
        rwa [show j+(k - j)=k by omega] at this
       by_cases hm:qG (zN (Ts k)) o
       ·
        obtain ⟨a,h1,_,_,_,h5⟩:=acR hdr hv q1 hm (hC.operands (qI hv) q2') hLj
        rw [ha] at h5
        have e:zf k=a:=by simpa using congrArg (Option.map Prod.fst) h5
        subst e
        exact h1
       ·
        have hrm:yP o=true:=by
         cases hrm:yP o with
         | true=>rfl
         | false=>exact absurd (Zv hrm) hm
        by_cases hnm:fx.nm=true
        rotate_left
        ·
         rw [Bool.not_eq_true] at hnm
         rw [hrm,hnm] at q3
         have q4:isLoad o=true∧cl k=true:=by simpa using q3
         obtain ⟨s1,s2⟩:=hcl k o hjk ho q4.1 q4.2
         exact hl.Xc hjk (by omega) hm q4.1 hv ha (hC.operands (qI hv) q2') s1 s2
        obtain ⟨g1,a,g2,g3⟩:=KZ hv hnm hm hG (fun x hx=>hT.eval (List.all_eq_true.1 (show o.op.operands.toList.all yA=true from qI hv) x hx))
        rw [ha] at g2
        have e:zf k=a:=by simpa using congrArg (Option.map Prod.fst) g2
        subst e
        rw [g3,J4 g1]
        exact V0.ground g1
      ·
       rw [if_neg hc,if_neg hc]
       exact hC t htb
     ·
      rw [e1,YU hd,e2,hd]
      simp only [vX]
      rw [wL,hlen]
      by_cases hc:t=dd∧dd < (As k).length
      ·
       rw [if_pos hc,if_pos hc,show dem zh=zh from xg]
       exact .nores
      ·
       rw [if_neg hc,if_neg hc]
       exact hC t htb
theorem Vm {hp0:Bool} (hc:vS P call) {T T' A:List Value} {S S' H:zx} {μ:Mu} {ω:Nat→Option wB} (hd:qE P ops=true) (h:jS P ⟨hp0,!(checked P ops).isEmpty,fixed P ops⟩ (checked P ops) (again P ops) call ops 0 [] ops.toList T S=some (T',S')) (hG:GI μ S H) (hT:TI μ H ω T A) :
  After μ ω H T' S' (kL P (lim P) ops A H):=by
 obtain ⟨Ts,As,Ss,Hs,μs,ωs,vs,zf,tr,hline,rfl,rfl,rfl,rfl,rfl,rfl,rfl,rfl,e9,e10,e11,hs,e12,e13,e14⟩:=line_of hc _ _ _ _ _ _ _ _ _ _ _ h hG hT
 obtain ⟨hGn,hTn⟩:=hline.inv ops.toList.length (Nat.le_refl _)
 have hLn:=hline.later (i:=0) ops.toList.length (by omega)
 rw [Nat.zero_add] at hLn
 refine ⟨As ops.toList.length,Hs ops.toList.length,μs ops.toList.length,ωs ops.toList.length,?_,hGn,hLn,hline.kept _ (Nat.le_refl _),hTn⟩
 simp only [qE,Zn,Bool.and_eq_true] at hd
 have hlen:ops.toList.length < 1000:=of_decide_eq_true hd.1
 refine aa0 hd.2.1 e9 fun p hp=>?_
 have hchk:(checked P ops).contains p.1=true:=by
  unfold checked
  simp only [List.contains_eq_mem,decide_eq_true_eq]
  exact List.mem_map.2 ⟨p,hp,rfl⟩
 have hdr:(Fx.mk hp0 (!(checked P ops).isEmpty) (fixed P ops)).dr=true:=by
  show (!(checked P ops).isEmpty)=true
  cases hl:checked P ops with
  | nil=>rw [hl] at hchk;cases hchk
  | cons a b=>rfl
 have hp2:=List.all_eq_true.1 hd.2.2 p hp
 have hp0:=hp
 unfold need at hp
 obtain ⟨i,hi,hp⟩:=List.mem_flatMap.1 hp
 obtain ⟨j,hj,hp⟩:=List.mem_filterMap.1 hp
 have hi:i < ops.toList.length:=List.mem_range.1 hi
 have hj:j < ops.toList.length:=List.mem_range.1 hj
 split at hp <;> first | (cases hp;done) | skip
 rename_i oi oj hoi hoj
 split at hp <;> first | (cases hp;done) | skip
 rename_i hcond
 cases hp
 simp only [Bool.and_eq_true,Bool.not_eq_true'] at hcond
 obtain ⟨⟨hni,hcj⟩,_⟩:=hcond
 dsimp only at hp2 hchk ⊢
 rw [hoi] at hp2
 dsimp only at hp2
 have hij:i≠j:=by
  intro e;subst e
  rw [hoi] at hoj;cases hoj
  rw [hni] at hcj;cases hcj
 have hGj:(tr.map (·.2.1)++[Hs ops.toList.length])[if j < i then j else j+1]?=some (Hs (if j < i then j else j+1)):=e11 _ (by split <;> omega)
 unfold Jg
 rw [hoi,e10 i hi,hGj]
 dsimp only
 obtain ⟨_,_,hor⟩:=hline.step i oi hoi
 rcases hor with ⟨hw,hv,ha,heT,heA,hq⟩ | ⟨hw,_⟩
 ·
  rw [hw]
  simp only [Bool.not_true,Bool.false_or]
  obtain ⟨hGi,hTi⟩:=hline.inv i (by omega)
  have hops:∀ x ∈ oi.op.operands.toList,V0 (μs i) (Hs i) (dem (zN (Ts i) x)) (zN (As i) x):=fun x hx=>hTi.eval (List.all_eq_true.1 (show oi.op.operands.toList.all yA=true from qI hv) x hx)
  have hq3:okq 3 (vs i)=true:=hq (by rw [Nat.zero_add];exact hchk)
  have same:∃ G',aOp P (zN (As i)) oi (Hs (if j < i then j else j+1))=some (zf i,G')∧XO 3 (zf i) (zf i)=true:=by
   by_cases hm:qG (zN (Ts i)) oi
   case neg =>
    have hrm:yP oi=true:=by
     cases hrm:yP oi with
     | true=>rfl
     | false=>exact absurd (Zv hrm) hm
    have hin:(i,j) ∈ again P ops:=List.mem_append_left _ (List.mem_filter.2 ⟨hp0,by dsimp only;rw [hoi];exact hrm⟩)
    have hne:(again P ops).isEmpty=false:=by
     cases hl:again P ops with
     | nil=>rw [hl] at hin;cases hin
     | cons a b=>rfl
    have hst:=List.all_eq_true.1 (e14 hne) _ hin
    rw [List.nil_append] at hst
    have hi1:(hs++[(zh,Ss ops.toList.length)])[i]?=some (qh (Ts i) oi,Ss i):=by
     rw [List.getElem?_append_left (by omega)];exact e13 i oi hoi
    have hj1:∃ p2,(hs++[(zh,Ss ops.toList.length)])[if j < i then j else j+1]?=some (p2,Ss (if j < i then j else j+1)):=by
     by_cases hjl:(if j < i then j else j+1) < ops.toList.length
     ·
      rw [List.getElem?_append_left (by omega)]
      exact ⟨_,e13 _ _ (List.getElem?_eq_getElem hjl)⟩
     ·
      have:(if j < i then j else j+1)=ops.toList.length:=by split at hjl <;> (rename_i hh;simp only [hh,if_true,if_false];omega)
      rw [this,List.getElem?_append_right (by omega),e12,Nat.sub_self]
      exact ⟨_,rfl⟩
    obtain ⟨p2,hj1⟩:=hj1
    unfold YQ at hst
    dsimp only at hst
    rw [if_pos (show i < 1000 by omega),hi1,hj1] at hst
    dsimp only at hst
    have obj:∀ q r b,μs i q=some (r,b)→(∀ Sa Sb,yM (qh (Ts i) oi) Sa Sb=true→(∃ o,Sa.get q=some o∧o.alive=true)∧q ∉ Sb.log.take (Sb.log.length - Sa.log.length))→(Hs (if j < i then j else j+1)).get r=(Hs i).get r:=by
     intro q r b hq hQ
     by_cases hji:j < i
     ·
      rw [if_pos hji] at hst ⊢
      rw [if_pos hji] at hst
      obtain ⟨⟨o1,g1,g2⟩,g3⟩:=hQ _ _ hst
      obtain ⟨hGj3,_⟩:=hline.inv j (by omega)
      obtain ⟨r0,_,g4,_⟩:=hGj3.obj q o1 g1 g2
      have hL:=hline.later (i:=j) (i - j) (by omega)
      rw [show j+(i - j)=i by omega] at hL
      obtain ⟨b',hb'⟩:=hL.mu q r0 true g4
      rw [hq] at hb'
      cases hb'
      obtain ⟨new,n1,n2⟩:=hL.still
      rw [hGj3.log,hGi.log] at n1
      rw [n1] at g3
      simp only [List.length_append,Nat.add_sub_cancel,List.take_left] at g3
      exact (n2 q r g4 g3).2.symm
     ·
      rw [if_neg hji] at hst ⊢
      rw [if_neg hji] at hst
      obtain ⟨⟨o1,g1,g2⟩,g3⟩:=hQ _ _ hst
      have hb:=hGi.at hq g1 g2
      subst hb
      have hL:=hline.later (i:=i) (j+1 - i) (by omega)
      rw [show i+(j+1 - i)=j+1 by omega] at hL
      obtain ⟨hGj3,_⟩:=hline.inv (j+1) (by omega)
      obtain ⟨new,n1,n2⟩:=hL.still
      rw [hGj3.log,hGi.log] at n1
      rw [n1] at g3
      simp only [List.length_append,Nat.add_sub_cancel,List.take_left] at g3
      exact (n2 q r hq g3).2
    clear hst hi1 hj1
    have hok:=qI hv
    have hvo:=hv
    unfold jW at hv
    rw [if_pos hok] at hv
    obtain ⟨dst,op,type,pos,after,guard⟩:=oi
    unfold qG at hm
    cases op <;> dsimp only at hv hm <;> first | (exact absurd True.intro hm) | skip
    case load t a =>
     have hv:je P (fixed P ops) t (zN (Ts i) a) (Ss i)=some (vs i,Ss (i+1)):=hv
     obtain ⟨ad,hq⟩:∃ q,zN (Ts i) a=.pointer q:=Classical.byContradiction fun hn=>hm fun q hq=>hn ⟨q,hq⟩
     have hx:=hops a (by simp [Op.operands])
     obtain ⟨_,w,k1,k2⟩:=Zc hv hx (.inr hGi)
     have hA:jT P (lim P) (As i) ⟨dst,.load t a,type,pos,after,guard⟩ (Hs i)=wI P t (zN (As i) a) (Hs i):=by unfold jT;rw [if_pos hok];rfl
     rw [hA,k1] at ha
     have e:w=zf i:=by simpa using congrArg (Option.map Prod.fst) ha
     subst e
     rw [hq] at hx
     have hx:V0 (μs i) (Hs i) (.pointer ad) (zN (As i) a):=hx
     generalize hpa:zN (As i) a=pa at hx k1
     have hres:wI P t pa (Hs (if j < i then j else j+1))=some (zf i,Hs (if j < i then j else j+1)):=by
      cases hx with
      | sg hs =>
       cases ad with
       | none=>simp [wI] at k1
       | some ad=>simp [Go.Abs.sg] at hs
      | @ptr _ q o r b hmq =>
       refine Zq (obj q r b hmq fun Sa Sb hQ=>?_) k1
       have hQ:yM (zN (Ts i) a) Sa Sb=true:=hQ
       rw [hq] at hQ
       simp only [yM,Bool.and_eq_true,Bool.not_eq_true',List.contains_eq_mem,decide_eq_false_iff_not] at hQ
       refine ⟨?_,hQ.2⟩
       have h1:=hQ.1
       split at h1 <;> first | (cases h1;done) | skip
       rename_i hsa
       exact ⟨_,hsa,rfl⟩
     rw [← hpa] at hres
     exact ⟨_,hres,Ji 3 (Jl hq3) k2.dem⟩
    case lookup t x k ok =>
     have hv:ZF P (fixed P ops) t (zN (Ts i) x) (zN (Ts i) k) ok (Ss i)=some (vs i,Ss (i+1)):=hv
     have hx:=hops x (by simp [Op.operands])
     obtain ⟨_,w,k1,k2⟩:=Wq hv hx (hops k (by simp [Op.operands])) (.inr hGi)
     have hA:jT P (lim P) (As i) ⟨dst,.lookup t x k ok,type,pos,after,guard⟩ (Hs i)=jL P t (zN (As i) x) (zN (As i) k) ok (Hs i):=by unfold jT;rw [if_pos hok];rfl
     rw [hA,k1] at ha
     have e:w=zf i:=by simpa using congrArg (Option.map Prod.fst) ha
     subst e
     have hres:jL P t (zN (As i) x) (zN (As i) k) ok (Hs (if j < i then j else j+1))=some (zf i,Hs (if j < i then j else j+1)):=by
      refine Yu (fun r hr=>?_) k1
      rw [hr] at hx
      generalize hu:dem (zN (Ts i) x)=u at hx
      have hum:∃ q b,u=.map (some q)∧μs i q=some (r,b):=by
       cases hx with
       | sg hs=>simp [Go.Abs.sg] at hs
       | map hmq=>exact ⟨_,_,rfl,hmq⟩
      obtain ⟨q,b,rfl,hmq⟩:=hum
      have hxe:zN (Ts i) x=.map (some q):=by
       cases hvx:zN (Ts i) x <;> rw [hvx] at hu <;> simp [dem,qC] at hu <;> rw [hu]
      refine obj q r b hmq fun Sa Sb hQ=>?_
      have hQ:yM (zN (Ts i) x) Sa Sb=true:=hQ
      rw [hxe] at hQ
      simp only [yM,Bool.and_eq_true,Bool.not_eq_true',List.contains_eq_mem,decide_eq_false_iff_not] at hQ
      refine ⟨?_,hQ.2⟩
      have h1:=hQ.1
      split at h1 <;> first | (cases h1;done) | skip
      rename_i hsa
      exact ⟨_,hsa,rfl⟩
     exact ⟨_,hres,Ji 3 (Jl hq3) k2.dem⟩
   by_cases hrd:ql oi=false
   ·
    obtain ⟨a,h1,h2⟩:=abT hdr hv hni hrd hops
    have h3:=(h2 (Hs i)).2
    rw [ha] at h3
    have e:zf i=a:=by simpa using congrArg (Option.map Prod.fst) h3
    subst e
    exact ⟨_,(h2 _).1,Ji 3 (Jl hq3) h1⟩
   ·
    have hrd:ql oi=true:=by simpa using hrd
    by_cases hlt:i < j
    ·
     rw [if_neg (by omega)]
     have hL:=hline.later (i:=i) (j+1 - i) (by omega)
     rw [show i+(j+1 - i)=j+1 by omega] at hL
     obtain ⟨a,h1,_,h3,h4,_⟩:=acR hdr hv hni hm hops hL
     rw [ha] at h4
     have e:zf i=a:=by simpa using congrArg (Option.map Prod.fst) h4
     subst e
     exact ⟨_,h3,Ji 3 (Jl hq3) h1⟩
    ·
     rw [if_pos (by omega)]
     rw [hrd] at hp2
     have hcl:wY ((aae P (fixed P ops) (fun k=>Xv P ops && (ZY P ops).contains (k,j)) j (ops.toList.drop j) []).getD (i - j) []) oi=true:=by
      simpa [hlt] using hp2
     obtain ⟨hGj2,hTj⟩:=hline.inv j (by omega)
     have hC0:Clear (μs j) (Hs j) [] (Ts j) (As j):=fun t _=>(hTj.slots t).v0
     have hld:∀ k o,j≤k→ops.toList[k]?=some o→isLoad o=true→(Xv P ops && (ZY P ops).contains (k,j))=true→yM (qh (Ts k) o) (Ss j) (Ss k)=true∧JL (qh (Ts k) o) (Ss j) (Ss k)=true:=by
      intro k o hjk hok hld hck
      rw [Bool.and_eq_true] at hck
      obtain ⟨hcm,hin⟩:=hck
      have hin:(k,j) ∈ ZY P ops:=by simpa using hin
      have hkj:k≠j:=fun e=>by
       subst e
       rw [hoj] at hok
       cases hok
       obtain ⟨dst,op,type,pos,after,guard⟩:=oj
       cases op <;> first | (cases hld;done) | (cases hcj;done)
      have hjk:j < k:=by omega
      have hkn:k < ops.toList.length:=(List.getElem?_eq_some_iff.1 hok).1
      have h1:(k,j) ∈ again P ops:=List.mem_append_left _ hin
      have h2:(k+1000,j) ∈ again P ops:=List.mem_append_right _ (by
       rw [if_pos hcm]
       exact List.mem_map.2 ⟨(k,j),List.mem_filter.2 ⟨hin,decide_eq_true hjk⟩,rfl⟩)
      have hne:(again P ops).isEmpty=false:=by
       cases hl:again P ops with
       | nil=>rw [hl] at h1;cases h1
       | cons a b=>rfl
      have t1:=List.all_eq_true.1 (e14 hne) _ h1
      have t2:=List.all_eq_true.1 (e14 hne) _ h2
      rw [List.nil_append] at t1 t2
      have hk1:(hs++[(zh,Ss ops.toList.length)])[k]?=some (qh (Ts k) o,Ss k):=by
       rw [List.getElem?_append_left (by omega)];exact e13 k o hok
      have hj1:(hs++[(zh,Ss ops.toList.length)])[j]?=some (qh (Ts j) oj,Ss j):=by
       rw [List.getElem?_append_left (by omega)];exact e13 j oj hoj
      unfold YQ at t1 t2
      dsimp only at t1 t2
      rw [if_pos (show k < 1000 by omega),if_pos hjk,hk1,hj1] at t1
      rw [if_neg (show ¬ k+1000 < 1000 by omega),Nat.add_sub_cancel,hk1,hj1] at t2
      dsimp only at t1 t2
      rw [if_pos hjk] at t1
      exact ⟨t1,t2⟩
     have hC:=hline.clear hdr (j:=j) (by omega) (cl:=fun k=>Xv P ops && (ZY P ops).contains (k,j)) hld _ [] j (Nat.le_refl _) rfl hC0 (i - j) (by rw [List.length_drop];omega)
     rw [show j+(i - j)=i by omega] at hC
     have hL:=hline.later (i:=j) (i - j) (by omega)
     rw [show j+(i - j)=i by omega] at hL
     obtain ⟨a,h1,h2,_,_,h5⟩:=acR hdr hv hni hm (hC.operands (qI hv) hcl) hL
     rw [ha] at h5
     have e:zf i=a:=by simpa using congrArg (Option.map Prod.fst) h5
     subst e
     exact ⟨_,h2,Ji 3 (Jl hq3) h1⟩
  obtain ⟨G',h1,h2⟩:=same
  unfold recheck
  rw [h1]
  exact h2
 ·
  rw [hw]
  rfl
end
end Go.Abs
namespace Go.Abs
open Go.RowKit
section
variable {P:Program} {call:FuncId→List Value→M Value}
def acp (μ:Mu) (ω:Nat→Option wB) (H:zx) (e:AEx) (T':List Value) (S':zx) (R:St):Prop :=
 ∃ A' H' μ' ω',R=some (e,A',H')∧GI μ' S' H'∧Later μ H μ' H'∧Kept ω H ω' H'∧TI μ' H' ω' T' A'
theorem abA {hp:Bool} (hc:vS P call) (fuel:Nat):∀ (c:Code) (T T' A:List Value) (S S' H:zx) (μ:Mu) (ω:Nat→Option wB) (e:AEx),jZ P hp call fuel c T S=some (e,T',S')→GI μ S H→TI μ H ω T A→acp μ ω H e T' S' (wu P c A H):=by
 intro c
 induction c with
 | skip =>
  intro T T' A S S' H μ ω e h hG hT
  simp only [jZ,Option.some.injEq,Prod.mk.injEq] at h
  obtain ⟨rfl,rfl,rfl⟩:=h
  exact ⟨A,H,μ,ω,rfl,hG,Later.refl _ _,Kept.refl _ _,hT⟩
 | exit id =>
  intro T T' A S S' H μ ω e h hG hT
  simp only [jZ,Option.some.injEq,Prod.mk.injEq] at h
  obtain ⟨rfl,rfl,rfl⟩:=h
  exact ⟨A,H,μ,ω,rfl,hG,Later.refl _ _,Kept.refl _ _,hT⟩
 | ret =>
  intro T T' A S S' H μ ω e h hG hT
  simp only [jZ,Option.some.injEq,Prod.mk.injEq] at h
  obtain ⟨rfl,rfl,rfl⟩:=h
  exact ⟨A,H,μ,ω,rfl,hG,Later.refl _ _,Kept.refl _ _,hT⟩
 | region i ops d =>
  intro T T' A S S' H μ ω e h hG hT
  cases d with
  | false =>
   simp only [jZ] at h
   split at h <;> first | (cases h;done) | skip
   rename_i T1 S1 ho
   cases h
   obtain ⟨A',H',μ',ω',h1,h2,h3,h4,h5⟩:=acv hc _ _ _ _ _ _ _ _ _ ho hG hT
   exact ⟨A',H',μ',ω',by simp only [wu,h1],h2,h3,h4,h5⟩
  | true =>
   simp only [jZ] at h
   split at h <;> first | (cases h;done) | skip
   rename_i hd
   split at h <;> first | (cases h;done) | skip
   rename_i T1 S1 ho
   cases h
   obtain ⟨A',H',μ',ω',h1,h2,h3,h4,h5⟩:=Vm hc hd ho hG hT
   exact ⟨A',H',μ',ω',by simp only [wu,h1],h2,h3,h4,h5⟩
 | seq x y ihx ihy =>
  intro T T' A S S' H μ ω e h hG hT
  simp only [jZ] at h
  split at h
  ·
   rename_i T1 S1 hx
   obtain ⟨A1,H1,μ1,ω1,h1,h2,h3,h4,h5⟩:=ihx _ _ _ _ _ _ _ _ _ hx hG hT
   obtain ⟨A2,H2,μ2,ω2,k1,k2,k3,k4,k5⟩:=ihy _ _ _ _ _ _ _ _ _ h h2 h5
   exact ⟨A2,H2,μ2,ω2,by simp only [wu,h1];exact k1,k2,h3.trans k3,h4.trans k4,k5⟩
  ·
   rename_i hne
   obtain ⟨A1,H1,μ1,ω1,h1,h2,h3,h4,h5⟩:=ihx _ _ _ _ _ _ _ _ _ h hG hT
   refine ⟨A1,H1,μ1,ω1,?_,h2,h3,h4,h5⟩
   simp only [wu,h1]
   cases e with
   | normal=>exact absurd h (hne _ _)
   | exit id=>rfl
   | ret=>rfl
 | cond c x y ihx ihy =>
  intro T T' A S S' H μ ω e h hG hT
  simp only [jZ] at h
  split at h <;> first | (cases h;done) | skip
  rename_i hok
  have hv:=hT.eval hok
  split at h
  ·
   rename_i hb
   have:zN A c=.bool true:=zY hv (by rw [hb];rfl) |>.trans hb
   obtain ⟨A1,H1,μ1,ω1,h1,h2,h3,h4,h5⟩:=ihx _ _ _ _ _ _ _ _ _ h hG hT
   exact ⟨A1,H1,μ1,ω1,by simp only [wu,hok,if_true,this];exact h1,h2,h3,h4,h5⟩
  ·
   rename_i hb
   have:zN A c=.bool false:=zY hv (by rw [hb];rfl) |>.trans hb
   obtain ⟨A1,H1,μ1,ω1,h1,h2,h3,h4,h5⟩:=ihy _ _ _ _ _ _ _ _ _ h hG hT
   exact ⟨A1,H1,μ1,ω1,by simp only [wu,hok,if_true,this];exact h1,h2,h3,h4,h5⟩
  ·
   cases h
 | block id c ih =>
  intro T T' A S S' H μ ω e h hG hT
  simp only [jZ] at h
  split at h
  ·
   rename_i id' T1 S1 hx
   obtain ⟨A1,H1,μ1,ω1,h1,h2,h3,h4,h5⟩:=ih _ _ _ _ _ _ _ _ _ hx hG hT
   by_cases hid:id'=id
   ·
    rw [if_pos hid] at h
    cases h
    exact ⟨A1,H1,μ1,ω1,by simp only [wu,h1,if_pos hid],h2,h3,h4,h5⟩
   ·
    rw [if_neg hid] at h
    cases h
    exact ⟨A1,H1,μ1,ω1,by simp only [wu,h1,if_neg hid],h2,h3,h4,h5⟩
  ·
   rename_i hne
   obtain ⟨A1,H1,μ1,ω1,h1,h2,h3,h4,h5⟩:=ih _ _ _ _ _ _ _ _ _ h hG hT
   refine ⟨A1,H1,μ1,ω1,?_,h2,h3,h4,h5⟩
   simp only [wu,h1]
   cases e with
   | normal=>rfl
   | exit id'=>exact absurd h (hne _ _ _)
   | ret=>rfl
 | loop c ih =>
  have key:∀ (n:Nat) (T T' A:List Value) (S S' H:zx) (μ:Mu) (ω:Nat→Option wB) (e:AEx),wW n (jZ P hp call fuel c) T S=some (e,T',S')→GI μ S H→TI μ H ω T A→acp μ ω H e T' S' (qH (wu P c) A H):=by
   intro n
   induction n with
   | zero=>intro T T' A S S' H μ ω e h;cases h
   | succ n ihn =>
    intro T T' A S S' H μ ω e h hG hT
    simp only [wW] at h
    split at h
    ·
     rename_i T1 S1 hx
     obtain ⟨A1,H1,μ1,ω1,h1,h2,h3,h4,h5⟩:=ih _ _ _ _ _ _ _ _ _ hx hG hT
     obtain ⟨A2,H2,μ2,ω2,k1,k2,k3,k4,k5⟩:=ihn _ _ _ _ _ _ _ _ _ h h2 h5
     exact ⟨A2,H2,μ2,ω2,by rw [qV h1];exact k1,k2,h3.trans k3,h4.trans k4,k5⟩
    ·
     rename_i hne
     obtain ⟨A1,H1,μ1,ω1,h1,h2,h3,h4,h5⟩:=ih _ _ _ _ _ _ _ _ _ h hG hT
     exact ⟨A1,H1,μ1,ω1,yT h1 (fun he=>by subst he;exact hne _ _ h),h2,h3,h4,h5⟩
  intro T T' A S S' H μ ω e h hG hT
  simp only [jZ] at h
  obtain ⟨A1,H1,μ1,ω1,h1,h2⟩:=key fuel _ _ _ _ _ _ _ _ _ h hG hT
  exact ⟨A1,H1,μ1,ω1,by simp only [wu];exact h1,h2⟩
 | _=>intro T T' A S S' H μ ω e h;simp only [jZ] at h;cases h
theorem VV.adO {μ:Mu} {H:zx} {ω ω':Nat→Option wB} {f:wB→Option wB} (hω:∀ r,ω' r=(ω r).bind f) {s s':wB} (hs:f s=some s') {v a:Value} (h:VV μ H ω (some s) v a) (hv:yh v=true):VV μ H ω' (some s') v a:=by
 cases h with
 | sg h=>exact .sg h
 | ptr h=>exact .ptr h
 | map h=>exact .map h
 | slm h=>exact .slm h
 | slE=>exact .slE
 | sl hr hp hg hl hl' hc=>exact .sl hr hp hg hl hl' (fun i hi=>(hc i hi).at0)
 | so h hr hp hg hl hl' hc=>exact .so (by rw [hω,h];exact hs) hr hp hg hl hl' (fun i hi=>(hc i hi).at0)
 | ep hr hp hg hl hc=>exact .ep hr hp hg hl (fun i hi=>(hc i hi).at0)
 | func fn hx hc h1 h2=>exact .func fn hx hc (fun i=>(h1 i).at0) (fun i=>(h2 i).at0)
 | agg hx hh=>exact .agg hx (fun i=>(hh i).at0)
 | nores=>exact .nores
 | @tuple _ x x' hx hh =>
  have h0:x.size=0:=by simpa [yh] using hv
  have e1:x=#[]:=Array.eq_empty_of_size_eq_zero h0
  have e2:x'=#[]:=Array.eq_empty_of_size_eq_zero (by rw [← hx];exact h0)
  subst e1 e2
  exact .nores
def place (rs:List ResultVar):wB→Option wB
 | .ext=>some .ext
 | .res _=>none
 | .slot i j=>match rs with
  | [.tmp t]=>if i=t then some (.res j) else none
  | _=>match j with
   | none=>(rs.findIdx? (abh i)).map fun k=>.res (some k)
   | some _=>none
theorem XE {rs:List ResultVar} {i:Nat} (h:∀ t,rs≠[.tmp t]):place rs (.slot i none)=(rs.findIdx? (abh i)).map fun k=>.res (some k):=by
 match rs,h with
 | [],_=>rfl
 | [.tmp t],h=>exact absurd rfl (h t)
 | [.cell _ _],_=>rfl
 | .tmp _::_::_,_=>rfl
 | .cell _ _::_::_,_=>rfl
theorem QJ {μ:Mu} {ω:Nat→Option wB} {S H:zx} {T A:List Value} (hG:GI μ S H) (hT:TI μ H ω T A):∀ (l:List ResultVar) (vs:List Value),zX P T S l=some vs →
  ∃ zf,qO P A H l=some zf∧vs.length=l.length∧zf.length=l.length∧∀ i:Nat,match (l[i]?:Option ResultVar) with
   | some (.tmp t)=>vs.getD i zh=T.getD t zh∧zf.getD i zh=A.getD t zh
   | _=>V0 μ H (vs.getD i zh) (zf.getD i zh):=by
 intro l
 induction l with
 | nil =>
  intro vs h
  simp only [zX,Option.some.injEq] at h
  subst h
  exact ⟨[],rfl,rfl,rfl,fun i=>by simpa using VV.zh⟩
 | cons x l ih =>
  intro vs h
  cases x with
  | tmp t =>
   simp only [zX] at h
   split at h <;> first | (cases h;done) | skip
   rename_i vs' hr
   cases h
   obtain ⟨zf,h1,h2,h3,h4⟩:=ih _ hr
   refine ⟨A.getD t zh::zf,by simp only [qO,h1],by simp [h2],by simp [h3],fun i=>?_⟩
   cases i with
   | zero=>exact ⟨rfl,rfl⟩
   | succ i=>simpa using h4 i
  | cell a t =>
   simp only [zX] at h
   split at h <;> first | (cases h;done) | skip
   rename_i v S1 vs' hl hr
   cases h
   obtain ⟨zf,h1,h2,h3,h4⟩:=ih _ hr
   obtain ⟨_,w,k1,k2⟩:=Zc hl (hT.slots a).v0 (.inr hG)
   refine ⟨w::zf,by simp only [qO,k1,h1],by simp [h2],by simp [h3],fun i=>?_⟩
   cases i with
   | zero=>exact k2
   | succ i=>simpa using h4 i
theorem acD {μ:Mu} {ω:Nat→Option wB} {S S' H:zx} {T A:List Value} {fn:Func} {v:Value} (hG:GI μ S H) (hT:TI μ H ω T A) (h:XP P fn T S=some (v,S')) :
  S'=S∧∃ a,aa2 P fn A H=some (a,H)∧VV μ H (fun r=>(ω r).bind (place fn.results.toList)) (some (.res none)) v a:=by
 unfold XP at h
 split at h <;> first | (cases h;done) | skip
 rename_i vs hvs
 split at h <;> first | (cases h;done) | skip
 rename_i hok
 obtain ⟨zf,h1,h2,h3,h4⟩:=QJ hG hT _ _ hvs
 generalize hrs:fn.results.toList=rs at *
 split at h
 ·
  rename_i v1
  cases h
  obtain ⟨a,rfl⟩:∃ a,zf=[a]:=by
   match zf,h3.trans h2.symm with
   | [a],_=>exact ⟨a,rfl⟩
  refine ⟨rfl,a,by simp only [aa2,hrs,h1],?_⟩
  match rs,h2 with
  | [x],_ =>
   have:=h4 0
   cases x with
   | tmp t =>
    simp only [List.getElem?_cons_zero,List.getD_cons_zero] at this
    obtain ⟨rfl,rfl⟩:=this
    refine (hT.slots t).WW (fun _=>rfl) _ (fun s hs=>?_)
    cases hs
    refine ⟨_,rfl,by simp only [place,if_true],fun k t' ht=>?_⟩
    cases ht
    exact ⟨_,rfl,by simp only [place,if_true]⟩
   | cell b t=>exact (show V0 μ H v a from this).at0
 ·
  rename_i hne
  split at h <;> first | (cases h;done) | skip
  rename_i hnt
  cases h
  refine ⟨rfl,.tuple zf.toArray,?_,.tuple (by simp [h2,h3]) fun i=>?_⟩
  ·
   simp only [aa2,hrs,h1]
   match zf,vs,h3.trans h2.symm,hne with
   | [],_,_,_=>rfl
   | [a],[v],_,hne=>exact absurd rfl (hne v)
   | a::b::c,_,_,_=>rfl
  ·
   have e1:vs.toArray.getD i zh=vs.getD i zh:=by rw [← getD_toList,List.toList_toArray]
   have e2:zf.toArray.getD i zh=zf.getD i zh:=by rw [← getD_toList,List.toList_toArray]
   rw [e1,e2]
   have h5:=h4 i
   cases hx:rs[i]? with
   | none=>rw [hx] at h5;exact (show V0 μ H _ _ from h5).at0
   | some x =>
    rw [hx] at h5
    cases x with
    | cell b t=>exact (show V0 μ H _ _ from h5).at0
    | tmp t =>
     dsimp only at h5
     have hi:i < rs.length:=(List.getElem?_eq_some_iff.1 hx).1
     have hid:rs.findIdx? (abh t)=some i:=by
      have:=List.all_eq_true.1 hok i (List.mem_range.2 hi)
      rw [hx] at this
      simpa using this
     have hnt2:yh (T.getD t zh)=true:=by
      rw [← h5.1,List.getD_eq_getElem?_getD,List.getElem?_eq_getElem (by omega)]
      exact List.all_eq_true.1 hnt _ (List.getElem_mem _)
     rw [h5.1,h5.2]
     refine (hT.slots t).adO (fun _=>rfl) (s':=.res (some i)) ?_ hnt2
     have hne1:∀ t',rs≠[.tmp t']:=by
      intro t' e
      rw [e] at h2
      match vs,h2 with
      | [v],_=>exact hne v rfl
     rw [XE hne1,hid];rfl
def Qp (P:Program) (O:Ora):Prop:=∀ f q,O.fn f=some q→vS P (fun g args=>if g=f then q args else fun _=>none)
theorem acG {s t:wB} {i:Nat} (h:s.comp i=some t):t≠.ext:=by
 cases s with
 | ext=>cases h
 | slot a b=>cases b <;> first | (cases h;exact fun h=>by cases h) | cases h
 | res b=>cases b <;> first | (cases h;exact fun h=>by cases h) | cases h
theorem VV.yR {μ μ':Mu} {H:zx} {ω ω':Nat→Option wB} {es:List Nat} (hp:∀ r l own e,H.get r=some (.cells l own e)→e ∉ es→xH μ r→xH μ' r) (hω:∀ r s,s≠.ext→ω r=some s→ω' r=some s)
  {ℓ:Option wB} {v a:Value} (h:VV μ H ω ℓ v a):∀ d,Go.Abs.yR es d v=true→(∀ s,ℓ=some s→s≠.ext)→VV μ' H ω' ℓ v a:=by
 induction h with
 | sg h=>exact fun _ _ _=>.sg h
 | ptr h=>intro d hc;cases d <;> simp [Go.Abs.yR] at hc
 | map h=>intro d hc;cases d <;> simp [Go.Abs.yR] at hc
 | slm h=>intro d hc;cases d <;> simp [Go.Abs.yR] at hc
 | slE=>exact fun _ _ _=>.slE
 | @sl ℓ e n r o cs l own hr hpr hg hl hn hc ih =>
  intro d hcl _
  cases d with
  | zero=>cases hcl
  | succ d =>
   have hv:Go.Abs.yR es (d+1) (.iface 1 (.iface e (.iface n (.agg cs))))=(!es.contains e && cs.toList.all (Go.Abs.yR es d)):=rfl
   rw [hv,Bool.and_eq_true] at hcl
   have he:e ∉ es:=by simpa using hcl.1
   refine .sl hr (hp _ _ _ _ hg he hpr) hg hl hn (fun i hi=>ih i hi d ?_ (fun s hs=>by cases hs))
   rw [List.getD_eq_getElem?_getD,List.getElem?_eq_getElem (by omega)]
   exact List.all_eq_true.1 hcl.2 _ (List.getElem_mem _)
 | @so s e n r cs l anc hw hr hpr hg hl hn hc ih =>
  intro d hcl hs
  cases d with
  | zero=>cases hcl
  | succ d =>
   have hv:Go.Abs.yR es (d+1) (.iface 2 (.iface e (.iface n (.agg cs))))=(!es.contains e && cs.toList.all (Go.Abs.yR es d)):=rfl
   rw [hv,Bool.and_eq_true] at hcl
   have he:e ∉ es:=by simpa using hcl.1
   refine .so (hω _ _ (hs _ rfl) hw) hr (hp _ _ _ _ hg he hpr) hg hl hn (fun i hi=>ih i hi d ?_ (fun s hs=>by cases hs))
   rw [List.getD_eq_getElem?_getD,List.getElem?_eq_getElem (by omega)]
   exact List.all_eq_true.1 hcl.2 _ (List.getElem_mem _)
 | ep hr hpr hg hl hc ih =>
  intro d hcl
  cases d with
  | zero=>cases hcl
  | succ d=>simp [Go.Abs.yR,vSl] at hcl
 | func fn hx hc h1 h2=>intro d hc;cases d <;> simp [Go.Abs.yR] at hc
 | @agg ℓ x x' hx hh ih =>
  intro d hcl _
  cases d with
  | zero=>cases hcl
  | succ d =>
   have hcl:x.toList.all (Go.Abs.yR es d)=true:=hcl
   refine .agg hx (fun i=>?_)
   by_cases hi:i < x.size
   ·
    refine ih i d ?_ (fun s hs=>by cases hs)
    rw [Array.getD_eq_getD_getElem?,Array.getElem?_eq_getElem hi]
    exact List.all_eq_true.1 hcl _ (by simp)
   ·
    rw [Array.getD_eq_getD_getElem?,Array.getElem?_eq_none (Nat.le_of_not_lt hi),Array.getD_eq_getD_getElem?,Array.getElem?_eq_none (by omega)]
    exact .nores
 | nores=>exact fun _ _ _=>.nores
 | @tuple ℓ x x' hx hh ih =>
  intro d hcl hs
  cases d with
  | zero=>cases hcl
  | succ d =>
   have hcl:x.toList.all (Go.Abs.yR es d)=true:=hcl
   refine .tuple hx (fun i=>?_)
   by_cases hi:i < x.size
   ·
    refine ih i d ?_ (fun s hb=>?_)
    ·
     rw [Array.getD_eq_getD_getElem?,Array.getElem?_eq_getElem hi]
     exact List.all_eq_true.1 hcl _ (by simp)
    ·
     cases ℓ with
     | none=>cases hb
     | some s0=>exact acG (s:=s0) hb
   ·
    rw [Array.getD_eq_getD_getElem?,Array.getElem?_eq_none (Nat.le_of_not_lt hi),Array.getD_eq_getD_getElem?,Array.getElem?_eq_none (by omega)]
    exact .nores
open Classical in
noncomputable def ad8 (μ:Mu) (ω:Nat→Option wB):Nat→Option wB:=fun r=>if ∃ q,μ q=some (r,true) then none else ω r
open Classical in
noncomputable def Ye (μ μ1:Mu) (ω:Nat→Option wB):Nat→Option wB:=fun r=>if ∃ q,μ q=some (r,true)∧¬ μ1 q=some (r,true) then some .ext else ω r
theorem abD {call:FuncId→List Value→M Value} (hc:vS P call) {hps:FuncId→Bool} {hp:Bool}:vS P (jr hps hp call):=by
 cases hp with
 | false=>exact hc
 | true =>
  intro g args aargs S v S' h μ H ω hG hA hD hE
  unfold jr at h
  dsimp only at h
  split at h
  ·
   exact hc g args aargs S v S' h μ H ω hG hA hD hE
  ·
   split at h <;> first | (cases h;done) | skip
   rename_i m S1 hf
   obtain ⟨μ1,h1,h2,h3,hsz⟩:=YL _ _ _ _ _ _ hf hG hA
   split at h <;> first | (cases h;done) | skip
   rename_i r0 hr0
   obtain ⟨v0,S2⟩:=r0
   simp only [Option.some.injEq] at h
   unfold Kz at h
   dsimp only at h
   split at h
   ·
    rename_i hb
    cases h
    simp only [Bool.and_eq_true,beq_iff_eq] at hb
    obtain ⟨⟨_,hgr⟩,hlog⟩:=hb
    have hlent:∀ q r,μ q=some (r,true)→¬ μ1 q=some (r,true)→r < H.next∧xH μ1 r:=fun q r hq hn =>
     ⟨hG.lt q r _ hq,fun q' hq'=>by
      rcases h2.new q' r hq' with h5 | h5
      ·
       have:=hG.inj q q' r hq h5
       subst this
       exact hn hq'
      ·
       have:=hG.lt q r _ hq;omega,by rw [h2.hid];exact hG.vis q r hq⟩
    have hDL:Dom μ1 H (Ye μ μ1 ω):=fun r s hs=>by
     unfold Ye at hs
     split at hs
     ·
      rename_i hx
      obtain ⟨q,hq,hn⟩:=hx
      exact hlent q r hq hn
     ·
      exact ⟨(hD r s hs).1,h2.priv (hD r s hs).1 (hD r s hs).2⟩
    have hEL:∀ r s,Ye μ μ1 ω r=some s→s=.ext:=fun r s hs=>by
     unfold Ye at hs
     split at hs
     ·
      cases hs;rfl
     ·
      exact hE r s hs
    obtain ⟨a,H',μ',ω',k1,k2,k3,k4,k5,k6⟩:=hc g m aargs S1 v S2 hr0 μ1 H (Ye μ μ1 ω) h1 h3 hDL hEL
    have hsame:∀ q r,μ q=some (r,true)→H'.get r=H.get r:=fun q r hq=>by
     by_cases hn:μ1 q=some (r,true)
     ·
      obtain ⟨new,e1,e2⟩:=k3.still
      have:new=[]:=by
       rw [k2.log,h1.log,hlog] at e1
       exact List.append_cancel_right (bs:=S1.log) (by rw [← e1];rfl)
      subst this
      exact (e2 q r hn (by simp)).2
     ·
      exact (k4 r (by unfold Ye;rw [if_pos ⟨q,hq,hn⟩])).2
    have hL:Later μ H μ H':=⟨fun _ _ b h=>⟨b,h⟩,k3.next,fun _ _ h=>.inl h,rfl,fun r hr hh=>k3.same r hr (by rw [h2.hid];exact hh),⟨[],rfl,fun q r hq _=>⟨hq,hsame q r hq⟩⟩,
     fun r l own e hr hp hg=>k3.cells r l own e hr (h2.priv hr hp) hg⟩
    rcases Bool.or_eq_true _ _ |>.mp hgr with hgr | hgr
    ·
     refine ⟨a,H',μ,ω,k1,hG.later hL rfl hsame,hL,fun r hr=>⟨hr,(k4 r ?_).2⟩,fun r s hs=>⟨Nat.lt_of_lt_of_le (hD r s hs).1 k3.next,(hD r s hs).2⟩,?_⟩
     ·
      unfold Ye
      split
      ·
       rfl
      ·
       exact hr
     ·
      rw [VV.y9 hgr k6]
      exact VV.jQ hgr
    ·
     have hpr:∀ r l own e,H'.get r=some (.cells l own e)→e ∉ adi S args→xH μ' r→xH μ r:=fun r l own e hg he hp=>by
      refine ⟨fun q hq=>?_,by rw [← h2.hid,← k3.hid];exact hp.2⟩
      rcases hsz q r hq with hn | ⟨l1,own1,e1,he1,hg1⟩
      ·
       obtain ⟨new,e1,e2⟩:=k3.still
       have:new=[]:=by
        rw [k2.log,h1.log,hlog] at e1
        exact List.append_cancel_right (bs:=S1.log) (by rw [← e1];rfl)
       subst this
       exact hp.1 q (e2 q r hn (by simp)).1
      ·
       rw [hsame q r hq,hg1] at hg
       cases hg
       exact he he1
     have hno:∀ r s,ω r=some s→¬ ∃ q,μ q=some (r,true):=fun r s hs ⟨q,hq⟩=>(hD r s hs).2.1 q hq
     have hst:∀ r,(∃ q,μ q=some (r,true))→∀ s,ω' r=some s→s=.ext:=fun r ⟨q,hq⟩ s hs=>by
      by_cases hn:μ1 q=some (r,true)
      ·
       exfalso
       obtain ⟨new,e1,e2⟩:=k3.still
       have:new=[]:=by
        rw [k2.log,h1.log,hlog] at e1
        exact List.append_cancel_right (bs:=S1.log) (by rw [← e1];rfl)
       subst this
       exact (k5 r s hs).2.1 q (e2 q r hn (by simp)).1
      ·
       have:=(k4 r (by unfold Ye;rw [if_pos ⟨q,hq,hn⟩])).1
       rw [hs] at this
       cases this
       rfl
     refine ⟨a,H',μ,ad8 μ ω',k1,hG.later hL rfl hsame,hL,fun r hr=>?_,fun r s hs=>?_,?_⟩
     ·
      have hnr:=hno r _ hr
      unfold ad8
      rw [if_neg hnr]
      refine k4 r ?_
      unfold Ye
      rw [if_neg (fun ⟨q,hq,_⟩=>hnr ⟨q,hq⟩)]
      exact hr
     ·
      unfold ad8 at hs
      split at hs
      ·
       cases hs
      ·
       rename_i hnr
       exact ⟨(k5 r s hs).1,fun q hq=>hnr ⟨q,hq⟩,by rw [← h2.hid,← k3.hid];exact (k5 r s hs).2.2⟩
     ·
      refine k6.yR hpr (fun r s hne hs=>?_) 16 hgr (fun s hs=>by cases hs;exact fun h=>by cases h)
      unfold ad8
      rw [if_neg (fun hx=>hne (hst r hx s hs))]
      exact hs
   ·
    cases h
    obtain ⟨a,H',μ',ω',k1,k2,k3,k4,k5,k6⟩:=hc g m aargs S1 v S' hr0 μ1 H ω h1 h3 (fun r s hs=>⟨(hD r s hs).1,h2.priv (hD r s hs).1 (hD r s hs).2⟩) hE
    exact ⟨a,H',μ',ω',k1,k2,h2.trans k3,k4,k5,k6⟩
theorem VV.clean {μ μ':Mu} {H:zx} {ω:Nat→Option wB} (hp:∀ r,xH μ r→xH μ' r) {ℓ:Option wB} {v a:Value} (h:VV μ H ω ℓ v a):∀ d,jc d v=true→VV μ' H ω ℓ v a:=by
 induction h with
 | sg h=>exact fun _ _=>.sg h
 | ptr h=>intro d hc;cases d <;> simp [jc] at hc
 | map h=>intro d hc;cases d <;> simp [jc] at hc
 | slm h=>intro d hc;cases d <;> simp [jc] at hc
 | slE=>exact fun _ _=>.slE
 | sl hr hpr hg hl hn hc ih =>
  intro d hcl
  obtain ⟨d,rfl⟩:∃ k,d=k+4:=by
   match d,hcl with
   | 0,h=>cases h
   | 1,h=>simp [jc] at h
   | 2,h=>simp [jc] at h
   | 3,h=>simp [jc] at h
   | k+4,_=>exact ⟨k,rfl⟩
  simp only [jc] at hcl
  refine .sl hr (hp _ hpr) hg hl hn (fun i hi=>ih i hi d ?_)
  rw [List.getD_eq_getElem?_getD,List.getElem?_eq_getElem (by omega)]
  exact List.all_eq_true.1 hcl _ (List.getElem_mem _)
 | so hω hr hpr hg hl hn hc ih =>
  intro d hcl
  obtain ⟨d,rfl⟩:∃ k,d=k+4:=by
   match d,hcl with
   | 0,h=>cases h
   | 1,h=>simp [jc] at h
   | 2,h=>simp [jc] at h
   | 3,h=>simp [jc] at h
   | k+4,_=>exact ⟨k,rfl⟩
  simp only [jc] at hcl
  refine .so hω hr (hp _ hpr) hg hl hn (fun i hi=>ih i hi d ?_)
  rw [List.getD_eq_getElem?_getD,List.getElem?_eq_getElem (by omega)]
  exact List.all_eq_true.1 hcl _ (List.getElem_mem _)
 | ep hr hpr hg hl hc ih =>
  intro d hcl
  obtain ⟨d,rfl⟩:∃ k,d=k+2:=by
   match d,hcl with
   | 0,h=>cases h
   | 1,h=>simp [jc] at h
   | k+2,_=>exact ⟨k,rfl⟩
  simp only [jc] at hcl
  refine .ep hr (hp _ hpr) hg hl (fun i hi=>ih i hi d ?_)
  rw [List.getD_eq_getElem?_getD,List.getElem?_eq_getElem hi]
  exact List.all_eq_true.1 hcl _ (List.getElem_mem _)
 | func fn hx hc h1 h2=>intro d hc;cases d <;> simp [jc] at hc
 | @agg ℓ x x' hx hh ih =>
  intro d hcl
  obtain ⟨d,rfl⟩:∃ k,d=k+1:=by
   match d,hcl with
   | 0,h=>cases h
   | k+1,_=>exact ⟨k,rfl⟩
  simp only [jc] at hcl
  refine .agg hx (fun i=>?_)
  by_cases hi:i < x.size
  ·
   refine ih i d ?_
   rw [Array.getD_eq_getD_getElem?,Array.getElem?_eq_getElem hi]
   exact List.all_eq_true.1 hcl _ (by simp)
  ·
   rw [Array.getD_eq_getD_getElem?,Array.getElem?_eq_none (Nat.le_of_not_lt hi),Array.getD_eq_getD_getElem?,Array.getElem?_eq_none (by omega)]
   exact .nores
 | nores=>exact fun _ _=>.nores
 | @tuple ℓ x x' hx hh ih =>
  intro d hcl
  obtain ⟨d,rfl⟩:∃ k,d=k+1:=by
   match d,hcl with
   | 0,h=>cases h
   | k+1,_=>exact ⟨k,rfl⟩
  simp only [jc] at hcl
  refine .tuple hx (fun i=>?_)
  by_cases hi:i < x.size
  ·
   refine ih i d ?_
   rw [Array.getD_eq_getD_getElem?,Array.getElem?_eq_getElem hi]
   exact List.all_eq_true.1 hcl _ (by simp)
  ·
   rw [Array.getD_eq_getD_getElem?,Array.getElem?_eq_none (Nat.le_of_not_lt hi),Array.getD_eq_getD_getElem?,Array.getElem?_eq_none (by omega)]
   exact .nores
theorem VV.lower {μ μ' : Mu} {S H : zx} {ω : Nat → Option wB} (hG : GI μ S H) (hp : ∀ r, xH μ r → xH μ' r) (hq : ∀ q r, μ q = some (r, true) → xH μ' r) {ℓ : Option wB} {v a : Value} (h : VV μ H ω ℓ v a) :
    ∀ d d', jc d (jG S d' v) = true → VV μ' H ω ℓ (jG S d' v) a := by
  induction h with
  | sg h =>
    intro d d' hc
    rename_i v
    have e : jG S d' v = v := by
      cases d' with
      | zero => rfl
      | succ d' => cases v <;> first | rfl | (simp [Go.Abs.sg] at h; done) | skip
                   rename_i a n c
                   cases a <;> first | rfl | (simp [Go.Abs.sg] at h; done)
    rw [e]; exact .sg h
  | ptr h => intro d d' hc; cases d' <;> cases d <;> simp [jG, jc] at hc
  | map h => intro d d' hc; cases d' <;> cases d <;> simp [jG, jc] at hc
  | @slm ℓ r o r' b n hm =>
    intro d d' hc
    cases d' with
    | zero => cases d <;> simp [jG, jc] at hc
    | succ d' =>
      by_cases ho : o = 0
      · subst ho
        cases hg : S.get r with
        | none => rw [show jG S (d' + 1) (.slice (some ⟨r, 0, none⟩) n n) = .slice (some ⟨r, 0, none⟩) n n by simp only [jG, hg]] at hc; cases d <;> simp [jc] at hc
        | some ob =>
          cases ob with
          | map es c => rw [show jG S (d' + 1) (.slice (some ⟨r, 0, none⟩) n n) = .slice (some ⟨r, 0, none⟩) n n by simp only [jG, hg]] at hc; cases d <;> simp [jc] at hc
          | dead => rw [show jG S (d' + 1) (.slice (some ⟨r, 0, none⟩) n n) = .slice (some ⟨r, 0, none⟩) n n by simp only [jG, hg]] at hc; cases d <;> simp [jc] at hc
          | cells cs own e =>
            by_cases hle : n * e ≤ cs.length
            · have e1 : jG S (d' + 1) (.slice (some ⟨r, 0, none⟩) n n) = SL 1 e n (cs.take (n * e)) := by simp only [jG, hg, hle, and_self, if_true]
              rw [e1] at hc ⊢
              obtain ⟨r2, cs', own', _, hm', hg', hl⟩ := hG.cells hg
              rw [hm] at hm'; cases hm'
              have hlen := hl.1
              refine .sl (o := 0) (hG.lt r r' _ hm) (hq r r' hm) hg' (by omega) (by simp; omega) fun i hi => ?_
              have hv : VV μ H W0 none (cs.getD i Go.undef) (cs'.getD i Go.undef) := hl.2 i
              have e2 : (cs.take (n * e)).toArray.toList.getD i Go.undef = cs.getD i Go.undef := by
                rw [List.toList_toArray, List.getD_eq_getElem?_getD, List.getElem?_take, if_pos hi, ← List.getD_eq_getElem?_getD]
              rw [e2, Nat.zero_add]
              obtain ⟨d, rfl⟩ : ∃ k, d = k + 4 := by
                match d, hc with
                | 0, h => cases h
                | 1, h => simp [SL, jc] at h
                | 2, h => simp [SL, jc] at h
                | 3, h => simp [SL, jc] at h
                | k + 4, _ => exact ⟨k, rfl⟩
              simp only [SL, jc, List.toList_toArray] at hc
              have hci : jc d (cs.getD i Go.undef) = true := by
                have h2 : i < cs.length := by omega
                rw [List.getD_eq_getElem?_getD, List.getElem?_eq_getElem h2, Option.getD_some]
                exact List.all_eq_true.1 hc _ (by rw [List.mem_take_iff_getElem]; exact ⟨i, by omega, rfl⟩)
              exact (hv.clean hp d hci).at0
            · rw [show jG S (d' + 1) (.slice (some ⟨r, 0, none⟩) n n) = .slice (some ⟨r, 0, none⟩) n n by simp only [jG, hg, hle, and_false, if_false]] at hc; cases d <;> simp [jc] at hc
      · rw [show jG S (d' + 1) (.slice (some ⟨r, o, none⟩) n n) = .slice (some ⟨r, o, none⟩) n n by
          simp only [jG]
          split
          · rename_i h; simp only [Value.slice.injEq, Option.some.injEq, Addr.mk.injEq] at h; exact absurd h.1.2.1 ho
          · rename_i h; cases h
          · rename_i h; cases h
          · rfl] at hc
        cases d <;> simp [jc] at hc
  | slE => intro d d' _; cases d' <;> exact .slE
  | sl hr hpr hg hl hn hc ih => intro d d' hcl; cases d' <;> exact (VV.sl hr hpr hg hl hn hc).clean hp d hcl
  | so hω hr hpr hg hl hn hc ih => intro d d' hcl; cases d' <;> exact (VV.so hω hr hpr hg hl hn hc).clean hp d hcl
  | ep hr hpr hg hl hc ih => intro d d' hcl; cases d' <;> exact (VV.ep hr hpr hg hl hc).clean hp d hcl
  | func fn hx hc h1 h2 => intro d d' hcl; cases d' <;> cases d <;> simp [jG, jc] at hcl
  | @agg ℓ x x' hx hh ih =>
    intro d d' hcl
    cases d' with
    | zero => exact (VV.agg hx hh).clean hp d hcl
    | succ d' =>
      have e : jG S (d' + 1) (.agg x) = .agg (x.map (jG S d')) := rfl
      rw [e] at hcl ⊢
      cases d with
      | zero => cases hcl
      | succ d =>
        simp only [jc] at hcl
        refine .agg (by simpa using hx) fun i => ?_
        by_cases hi : i < x.size
        · have e2 : (x.map (jG S d')).getD i Go.undef = jG S d' (x.getD i Go.undef) := by simp [Array.getD_eq_getD_getElem?, Array.getElem?_eq_getElem hi]
          rw [e2]
          refine ih i d d' ?_
          refine List.all_eq_true.1 hcl _ ?_
          simp only [Array.toList_map, List.mem_map]
          exact ⟨x[i], by simp, by rw [Array.getD_eq_getD_getElem?, Array.getElem?_eq_getElem hi]; rfl⟩
        · rw [Array.getD_eq_getD_getElem?, Array.getElem?_eq_none (by simpa using Nat.le_of_not_lt hi), Array.getD_eq_getD_getElem?, Array.getElem?_eq_none (by omega)]
          exact .nores
  | nores =>
    intro d d' hcl
    cases d' with
    | zero => exact .nores
    | succ d' => rw [show jG S (d' + 1) (.tuple #[]) = .tuple #[] by simp [jG]]; exact .nores
  | @tuple ℓ x x' hx hh ih =>
    intro d d' hcl
    cases d' with
    | zero => exact (VV.tuple hx hh).clean hp d hcl
    | succ d' =>
      have e : jG S (d' + 1) (.tuple x) = .tuple (x.map (jG S d')) := rfl
      rw [e] at hcl ⊢
      cases d with
      | zero => cases hcl
      | succ d =>
        simp only [jc] at hcl
        refine .tuple (by simpa using hx) fun i => ?_
        by_cases hi : i < x.size
        · have e2 : (x.map (jG S d')).getD i Go.undef = jG S d' (x.getD i Go.undef) := by simp [Array.getD_eq_getD_getElem?, Array.getElem?_eq_getElem hi]
          rw [e2]
          refine ih i d d' ?_
          refine List.all_eq_true.1 hcl _ ?_
          simp only [Array.toList_map, List.mem_map]
          exact ⟨x[i], by simp, by rw [Array.getD_eq_getD_getElem?, Array.getElem?_eq_getElem hi]; rfl⟩
        · rw [Array.getD_eq_getD_getElem?, Array.getElem?_eq_none (by simpa using Nat.le_of_not_lt hi), Array.getD_eq_getD_getElem?, Array.getElem?_eq_none (by omega)]
          exact .nores
open Classical in
noncomputable def xk (μ:Mu):Mu:=⟨fun _=>none,fun r=>μ.hid r || decide (∃ q,μ q=some (r,true)),[]⟩
theorem Jy {μ:Mu} {r:Nat} (h:xH μ r):xH (xk μ) r:=⟨fun q hq=>(by cases hq),by
 simp only [xk,h.2,Bool.false_or,decide_eq_false_iff_not]
 rintro ⟨q,hq⟩
 exact h.1 q hq⟩
theorem aao {μ:Mu} {r:Nat} (h:(xk μ).hid r=false):xH μ r:=by
 simp only [xk,Bool.or_eq_false_iff,decide_eq_false_iff_not] at h
 exact ⟨fun q hq=>h.2 ⟨q,hq⟩,h.1⟩
def aek (P:Program) (g:FuncId) (args:List Value) (run:M Value):Prop:=∀ aargs S v S',run S=some (v,S')→∀ μ H ω,GI μ S H→L0 μ H args aargs→Dom μ H ω→(∀ r s,ω r=some s→s=.ext) →
 ∃ a H' μ' ω',lim P g aargs H=some (a,H')∧GI μ' S' H'∧Later μ H μ' H'∧Kept ω H ω' H'∧Dom μ' H' ω'∧VV μ' H' ω' (some (.res none)) v a
theorem aaQ {g:FuncId} {args:List Value} {run:M Value} (hr:aek P g args run):aek P g args (X5 run args):=by
 intro aargs S v S' h μ H ω hG hA hD hE
 unfold X5 at h
 split at h <;> first | (cases h;done) | skip
 rename_i hca
 split at h <;> first | (cases h;done) | skip
 rename_i w S1 hrun
 split at h <;> first | (cases h;done) | skip
 rename_i hcw
 cases h
 have hG0:GI (xk μ) zx.empty H:=⟨fun q o h=>(by cases h),fun q q' r h=>(by cases h),fun q r b h=>(by cases h),fun q _=>rfl,fun q r h=>(by cases h),fun r h=>by
  simp only [xk,Bool.or_eq_true,decide_eq_true_eq] at h
  rcases h with h | ⟨q,hq⟩
  ·
   exact hG.hlt r h
  ·
   exact hG.lt q r _ hq,rfl,fun q cs anc e h=>(by cases h)⟩
 have hA0:L0 (xk μ) H args aargs:=⟨hA.1,fun i=>by
  by_cases hi:i < args.length
  ·
   refine (hA.2 i).clean (fun r h=>Jy h) 16 ?_
   rw [List.getD_eq_getElem?_getD,List.getElem?_eq_getElem hi]
   exact List.all_eq_true.1 hca _ (List.getElem_mem _)
  ·
   rw [List.getD_eq_getElem?_getD,List.getElem?_eq_none (Nat.le_of_not_lt hi),List.getD_eq_getElem?_getD,List.getElem?_eq_none (by rw [← hA.1];omega)]
   exact .nores⟩
 obtain ⟨a,H1,μ1,ω1,k1,k2,k3,k4,k5,k6⟩:=hr aargs _ _ _ hrun (xk μ) H ω hG0 hA0 (fun r s h=>⟨(hD r s h).1,Jy (hD r s h).2⟩) hE
 have hp1:∀ r,xH μ1 r→xH μ r:=fun r h=>aao (by rw [← k3.hid];exact h.2)
 have hL:Later μ H μ H1:=⟨fun _ _ b h=>⟨b,h⟩,k3.next,fun _ _ h=>.inl h,rfl,fun r hr hh=>k3.same r hr (by simp only [xk,hh,Bool.true_or]),⟨[],rfl,fun q r hq _=>⟨hq,k3.same r (hG.lt q r _ hq) (by
  simp only [xk,Bool.or_eq_true,decide_eq_true_eq]
  exact .inr ⟨q,hq⟩)⟩⟩,fun r l own e hr hp hg=>k3.cells r l own e hr (Jy hp) hg⟩
 have hq1:∀ q r,μ1 q=some (r,true)→xH μ r:=fun q r h=>by
  rcases k3.new q r h with h5 | h5
  ·
   cases h5
  ·
   exact ⟨fun q' hq'=>by have:=hG.lt q' r _ hq';omega,by
    cases hh:μ.hid r with
    | false=>rfl
    | true=>have:=hG.hlt r hh;omega⟩
 refine ⟨a,H1,μ,ω1,k1,?_,hL,k4,fun r s h=>⟨(k5 r s h).1,hp1 r (k5 r s h).2⟩,k6.lower k2 hp1 hq1 16 16 hcw⟩
 exact hG.later hL rfl fun q r hq=>k3.same r (hG.lt q r _ hq) (by
  simp only [xk,Bool.or_eq_true,decide_eq_true_eq]
  exact .inr ⟨q,hq⟩)
theorem abE {O:Ora} (hO:Qp P O):∀ n,vS P (qo P O n):=by
 intro n
 induction n with
 | zero=>intro g args aargs S v S' h;cases h
 | succ n ih =>
  intro g args aargs S v S' h μ H ω hG hA hD hE
  simp only [qo] at h
  cases ho:O.fn g with
  | some q =>
   rw [ho] at h
   exact hO g q ho g args aargs S v S' (by simpa using h) μ H ω hG hA hD hE
  | none =>
   rw [ho] at h
   dsimp only at h
   cases hf:P.funcs[g]? with
   | none=>rw [hf] at h;cases h
   | some fn =>
    rw [hf] at h
    dsimp only at h
    split at h <;> first | (cases h;done) | skip
    rename_i hn
    cases hb:fn.body with
    | none=>rw [hb] at h;cases h
    | some c =>
     rw [hb] at h
     dsimp only at h
     have hrun:aek P g args (aaM P (O.hp g) (jr O.hp (O.hp g) (qo P O n)) n fn c args):=by
      intro aargs S v S' h μ H ω hG hA hD hE
      have hT0:TI μ H ω (args++List.replicate (fn.ntmps - args.length) zh) (aargs++List.replicate (fn.ntmps - aargs.length) zh):=by
       have hl:L0 μ H (args++List.replicate (fn.ntmps - args.length) zh) (aargs++List.replicate (fn.ntmps - aargs.length) zh):=by
        refine hA.append (VL.ofRange (by rw [hA.1]) fun i hi=>?_)
        have hi2:i < fn.ntmps - args.length:=by simpa using hi
        rw [List.getD_eq_getElem?_getD,List.getElem?_replicate,if_pos hi2,List.getD_eq_getElem?_getD,List.getElem?_replicate,if_pos (by rw [← hA.1];exact hi2)]
        exact .nores
       exact ⟨hl.1,fun i=>(hl.2 i).at0,hD,fun r j hr=>by have:=hE r _ hr;cases this⟩
      have fin:∀ (e:AEx) (T1:List Value) (S1:zx),(e=.normal∨e=.ret)→jZ P (O.hp g) (jr O.hp (O.hp g) (qo P O n)) n c (args++List.replicate (fn.ntmps - args.length) zh) S=some (e,T1,S1)→XP P fn T1 S1=some (v,S') →
        ∃ a H' μ' ω',lim P g aargs H=some (a,H')∧GI μ' S' H'∧Later μ H μ' H'∧Kept ω H ω' H'∧Dom μ' H' ω'∧VV μ' H' ω' (some (.res none)) v a:=by
       intro e T1 S1 he hcode hres
       obtain ⟨A1,H1,μ1,ω1,h1,h2,h3,h4,h5⟩:=abA (abD ih) n c _ _ _ _ _ _ _ _ _ hcode hG hT0
       obtain ⟨rfl,a,k1,k2⟩:=acD (P:=P) h2 h5 hres
       refine ⟨a,H1,μ1,fun r=>(ω1 r).bind (place fn.results.toList),aa4 hf hn hb h1 he k1,h2,h3,fun r hr=>?_,fun r s hs=>?_,k2⟩
       ·
        obtain ⟨q1,q2⟩:=h4 r hr
        exact ⟨by simp [q1,place],q2⟩
       ·
        cases hr:ω1 r with
        | none=>simp [hr] at hs
        | some s0=>exact h5.dom r s0 hr
      unfold aaM at h
      split at h
      ·
       rename_i T1 S1 hx;exact fin .normal _ _ (.inl rfl) hx h
      ·
       rename_i T1 S1 hx;exact fin .ret _ _ (.inr rfl) hx h
      ·
       cases h
     split at h
     ·
      exact aaQ hrun aargs S v S' h μ H ω hG hA hD hE
     ·
      exact hrun aargs S v S' h μ H ω hG hA hD hE
end
end Go.Abs
namespace Go.Abs
open Go.RowKit
open Classical
noncomputable def jf (P:Program) (O:Ora) (g:FuncId) (args:List Value):M Value:=fun S =>
 if h:∃ r,∃ k0,∀ k,k0≤k→qo P O k g args S=some r then some (Classical.choose h) else none
section
variable {P:Program} {O:Ora}
theorem Jq {g:FuncId} {args:List Value} {S:zx} {r:Value×zx} (h:jf P O g args S=some r):∃ k0,∀ k,k0≤k→qo P O k g args S=some r:=by
 unfold jf at h
 split at h
 ·
  rename_i hx
  have:=Classical.choose_spec hx
  cases h
  exact this
 ·
  cases h
theorem Yo {g:FuncId} {args:List Value} {S:zx} {r:Value×zx} (h:∃ k0,∀ k,k0≤k→qo P O k g args S=some r):jf P O g args S=some r:=by
 have hx:∃ r,∃ k0,∀ k,k0≤k→qo P O k g args S=some r:=⟨r,h⟩
 unfold jf
 rw [dif_pos hx]
 obtain ⟨k0,h0⟩:=h
 obtain ⟨k1,h1⟩:=Classical.choose_spec hx
 have e0:=h0 (max k0 k1) (Nat.le_max_left _ _)
 have e1:=h1 (max k0 k1) (Nat.le_max_right _ _)
 rw [e0] at e1
 exact e1.symm
theorem aau (hO:Qp P O):vS P (jf P O):=by
 intro g args aargs S v S' h
 obtain ⟨k,hk⟩:=Jq h
 exact abE hO k g args aargs S v S' (hk k (Nat.le_refl k))
theorem abo {g:FuncId} {args:List Value} {q:List Value→M Value} (h:O.fn g=some q) (S:zx):jf P O g args S=q args S:=by
 cases hq:q args S with
 | some r =>
  refine Yo ⟨1,fun k hk=>?_⟩
  obtain ⟨k,rfl⟩:∃ i,k=i+1:=⟨k - 1,by omega⟩
  simp only [qo,h,hq]
 | none =>
  cases hv:jf P O g args S with
  | none=>rfl
  | some r =>
   obtain ⟨k,hk⟩:=Jq hv
   have:=hk (k+1) (by omega)
   simp only [qo,h,hq] at this
   cases this
def ads (c:FuncId→List Value→M Value) (ck:Nat→FuncId→List Value→M Value):Prop:=∀ g args S r,c g args S=some r→∃ k0,∀ k,k0≤k→ck k g args S=some r
theorem Y6:ads (jf P O) (fun k=>qo P O k):=fun g args S r h=>Jq h
theorem Wn {c:FuncId→List Value→M Value} {ck:Nat→FuncId→List Value→M Value} (hl:ads c ck) {hps:FuncId→Bool} {hp:Bool}:ads (jr hps hp c) (fun k=>jr hps hp (ck k)):=by
 cases hp with
 | false=>exact hl
 | true =>
  intro g args S r h
  unfold jr at h
  dsimp only at h
  split at h
  ·
   rename_i hg
   obtain ⟨k0,h0⟩:=hl _ _ _ _ h
   exact ⟨k0,fun k hk=>by unfold jr;dsimp only;rw [if_pos hg];exact h0 k hk⟩
  ·
   rename_i hg
   split at h <;> first | (cases h;done) | skip
   rename_i m S1 hf
   split at h <;> first | (cases h;done) | skip
   rename_i r0 hr0
   obtain ⟨k0,h0⟩:=hl _ _ _ _ hr0
   exact ⟨k0,fun k hk=>by unfold jr;dsimp only;rw [if_neg hg,hf];dsimp only;rw [h0 k hk];exact h⟩
section
variable {c:FuncId→List Value→M Value} {ck:Nat→FuncId→List Value→M Value}
theorem YH (hl:ads c ck) {fx:Fx} {T:List Value} {o:Oper} {S:zx} {r:Value×zx} (h:jW P fx c T o S=some r):∃ k0,∀ k,k0≤k→jW P fx (ck k) T o S=some r:=by
 unfold jW at h
 split at h
 ·
  rename_i hok
  split at h
  ·
   rename_i q0 hop
   split at h
   ·
    rename_i f hf
    split at h
    ·
     rename_i g first captured hev
     obtain ⟨k0,hk⟩:=hl _ _ _ _ h
     refine ⟨k0,fun k hkk=>?_⟩
     unfold jW
     rw [if_pos hok]
     simp only [hop,hf,hev]
     exact hk k hkk
    ·
     cases h
   ·
    rename_i b hb
    refine ⟨0,fun k _=>?_⟩
    unfold jW
    rw [if_pos hok]
    simp only [hop,hb]
    exact h
   ·
    cases h
  ·
   rename_i hop
   refine ⟨0,fun k _=>?_⟩
   unfold jW
   rw [if_pos hok]
   split
   ·
    rename_i q0 hc;exact absurd hc (hop q0)
   ·
    exact h
 ·
  cases h
theorem abk (hl:ads c ck) {fx:Fx} {ops:Array Oper}:∀ (l:List Oper) (T:List Value) (S:zx) (r:List Value×zx),jC P fx c ops l T S=some r→∃ k0,∀ k,k0≤k→jC P fx (ck k) ops l T S=some r:=by
 intro l
 induction l with
 | nil=>intro T S r h;exact ⟨0,fun k _=>h⟩
 | cons o l ih =>
  intro T S r h
  simp only [jC] at h
  split at h
  ·
   rename_i hw
   split at h
   ·
    rename_i v S' hs
    obtain ⟨k1,h1⟩:=YH hl hs
    obtain ⟨k2,h2⟩:=ih _ _ _ h
    refine ⟨max k1 k2,fun k hk=>?_⟩
    simp only [jC,hw,if_true,h1 k (by omega)]
    exact h2 k (by omega)
   ·
    cases h
  ·
   rename_i hw
   obtain ⟨k2,h2⟩:=ih _ _ _ h
   refine ⟨k2,fun k hk=>?_⟩
   simp only [jC,hw,if_false]
   exact h2 k hk
theorem aan (hl:ads c ck) {fx:Fx} {chk:List Nat} {nl:List (Nat×Nat)} {ops:Array Oper}:∀ (l:List Oper) (i:Nat) (hist:List (Value×zx)) (T:List Value) (S:zx) (r:List Value×zx),jS P fx chk nl c ops i hist l T S=some r→∃ k0,∀ k,k0≤k→jS P fx chk nl (ck k) ops i hist l T S=some r:=by
 intro l
 induction l with
 | nil=>intro i hist T S r h;exact ⟨0,fun k _=>h⟩
 | cons o l ih =>
  intro i hist T S r h
  simp only [jS] at h
  split at h
  ·
   rename_i hw
   split at h
   ·
    rename_i v S' hs
    split at h
    ·
     rename_i hq
     obtain ⟨k1,h1⟩:=YH hl hs
     obtain ⟨k2,h2⟩:=ih _ _ _ _ _ h
     refine ⟨max k1 k2,fun k hk=>?_⟩
     simp only [jS,hw,if_true,h1 k (by omega),hq]
     exact h2 k (by omega)
    ·
     cases h
   ·
    cases h
  ·
   rename_i hw
   obtain ⟨k2,h2⟩:=ih _ _ _ _ _ h
   refine ⟨k2,fun k hk=>?_⟩
   simp only [jS,hw,if_false]
   exact h2 k hk
end
noncomputable def zI (P:Program) (O:Ora) (hp:Bool):Code→List Value→zx→St
 | .skip,T,H=>some (.normal,T,H)
 | .region _ ops false,T,H=>match jC P ⟨hp,false,false⟩ (jr O.hp hp (jf P O)) ops ops.toList T H with
  | some (T1,H1)=>some (.normal,T1,H1)
  | none=>none
 | .region _ ops true,T,H=>if qE P ops then match jS P ⟨hp,!(checked P ops).isEmpty,fixed P ops⟩ (checked P ops) (again P ops) (jr O.hp hp (jf P O)) ops 0 [] ops.toList T H with
  | some (T1,H1)=>some (.normal,T1,H1)
  | none=>none
  else none
 | .seq x y,T,H=>match zI P O hp x T H with
  | some (.normal,T1,H1)=>zI P O hp y T1 H1
  | r=>r
 | .cond c x y,T,H=>if yA c then
   match zN T c with
   | .bool true=>zI P O hp x T H
   | .bool false=>zI P O hp y T H
   | _=>none
  else none
 | .block id c,T,H=>match zI P O hp c T H with
  | some (.exit id',T1,H1)=>if id'=id then some (.normal,T1,H1) else some (.exit id',T1,H1)
  | r=>r
 | .loop c,T,H=>qH (zI P O hp c) T H
 | .exit id,T,H=>some (.exit id,T,H)
 | .ret,T,H=>some (.ret,T,H)
 | _,_,_=>none
theorem J3 {hp:Bool}:∀ (c:Code) (T:List Value) (H:zx) (r),zI P O hp c T H=some r→∃ k0,∀ k fuel,k0≤k→k0≤fuel→jZ P hp (jr O.hp hp (qo P O k)) fuel c T H=some r:=by
 intro c
 induction c with
 | skip=>intro T H r h;exact ⟨0,fun k fuel _ _=>h⟩
 | region i ops d =>
  intro T H r h
  cases d with
  | false =>
   simp only [zI] at h
   split at h
   ·
    rename_i T1 H1 ho
    obtain ⟨k0,h0⟩:=abk (Wn Y6) _ _ _ _ ho
    exact ⟨k0,fun k fuel hk _=>by simp only [jZ,h0 k hk];exact h⟩
   ·
    cases h
  | true =>
   simp only [zI] at h
   split at h
   ·
    rename_i hd
    split at h
    ·
     rename_i T1 H1 ho
     obtain ⟨k0,h0⟩:=aan (Wn Y6) _ _ _ _ _ _ ho
     exact ⟨k0,fun k fuel hk _=>by simp only [jZ,hd,if_true,h0 k hk];exact h⟩
    ·
     cases h
   ·
    cases h
 | seq x y ihx ihy =>
  intro T H r h
  simp only [zI] at h
  split at h
  ·
   rename_i T1 H1 hx
   obtain ⟨k1,h1⟩:=ihx _ _ _ hx
   obtain ⟨k2,h2⟩:=ihy _ _ _ h
   exact ⟨max k1 k2,fun k fuel hk hf=>by simp only [jZ,h1 k fuel (by omega) (by omega)];exact h2 k fuel (by omega) (by omega)⟩
  ·
   rename_i hne
   obtain ⟨k1,h1⟩:=ihx _ _ _ h
   refine ⟨k1,fun k fuel hk hf=>?_⟩
   simp only [jZ,h1 k fuel hk hf]
   split
   ·
    rename_i T1 H1 he;exact absurd (h.trans he) (hne T1 H1)
   ·
    rfl
 | cond c x y ihx ihy =>
  intro T H r h
  simp only [zI] at h
  split at h
  ·
   rename_i hok
   split at h
   ·
    rename_i hb
    obtain ⟨k1,h1⟩:=ihx _ _ _ h
    exact ⟨k1,fun k fuel hk hf=>by simp only [jZ,hok,if_true,hb];exact h1 k fuel hk hf⟩
   ·
    rename_i hb
    obtain ⟨k1,h1⟩:=ihy _ _ _ h
    exact ⟨k1,fun k fuel hk hf=>by simp only [jZ,hok,if_true,hb];exact h1 k fuel hk hf⟩
   ·
    cases h
  ·
   cases h
 | block id c ih =>
  intro T H r h
  simp only [zI] at h
  split at h
  ·
   rename_i id' T1 H1 hc
   obtain ⟨k1,h1⟩:=ih _ _ _ hc
   exact ⟨k1,fun k fuel hk hf=>by simp only [jZ,h1 k fuel hk hf];exact h⟩
  ·
   rename_i hne
   obtain ⟨k1,h1⟩:=ih _ _ _ h
   refine ⟨k1,fun k fuel hk hf=>?_⟩
   simp only [jZ,h1 k fuel hk hf]
   split
   ·
    rename_i id' T1 H1 he;exact absurd (h.trans he) (hne id' T1 H1)
   ·
    rfl
 | loop c ih =>
  intro T H r h
  simp only [zI] at h
  obtain ⟨n,hn⟩:=xE h
  have key:∀ (n:Nat) (T:List Value) (H:zx),wW n (zI P O hp c) T H=some r→∃ k0,∀ k fuel,k0≤k→k0≤fuel→∀ j,n≤j→wW j (jZ P hp (jr O.hp hp (qo P O k)) fuel c) T H=some r:=by
   intro n
   induction n with
   | zero=>intro T H h;cases h
   | succ n ihn =>
    intro T H h
    simp only [wW] at h
    split at h
    ·
     rename_i T1 H1 hf
     obtain ⟨k1,h1⟩:=ih _ _ _ hf
     obtain ⟨k2,h2⟩:=ihn _ _ h
     refine ⟨max k1 k2,fun k fuel hk hfu j hj=>?_⟩
     obtain ⟨j,rfl⟩:∃ i,j=i+1:=⟨j - 1,by omega⟩
     simp only [wW,h1 k fuel (by omega) (by omega)]
     exact h2 k fuel (by omega) (by omega) j (by omega)
    ·
     rename_i hne
     obtain ⟨k1,h1⟩:=ih _ _ _ h
     refine ⟨k1,fun k fuel hk hfu j hj=>?_⟩
     obtain ⟨j,rfl⟩:∃ i,j=i+1:=⟨j - 1,by omega⟩
     simp only [wW,h1 k fuel hk hfu]
     split
     ·
      rename_i T1 H1 he;exact absurd (h.trans he) (hne T1 H1)
     ·
      rfl
  obtain ⟨k0,h0⟩:=key n T H hn
  exact ⟨max k0 n,fun k fuel hk hf=>by simp only [jZ];exact h0 k fuel (by omega) (by omega) fuel (by omega)⟩
 | exit id=>intro T H r h;exact ⟨0,fun k fuel _ _=>h⟩
 | ret=>intro T H r h;exact ⟨0,fun k fuel _ _=>h⟩
 | _=>intro T H r h;simp only [zI] at h;cases h
theorem yB {f:FuncId} {fn:Func} {c:Code} {args:List Value} {H H1 H':zx} {e:AEx} {T:List Value} {v:Value} (ho:O.fn f=none) (hpu:O.pu f=false) (hf:P.funcs[f]?=some fn) (hn:fn.name≠ "runtime.NumGoroutine") (hb:fn.body=some c)
  (h:zI P O (O.hp f) c (args++List.replicate (fn.ntmps - args.length) zh) H=some (e,T,H1)) (he:e=.normal∨e=.ret) (hres:XP P fn T H1=some (v,H')):jf P O f args H=some (v,H'):=by
 obtain ⟨k0,h0⟩:=J3 _ _ _ _ h
 refine Yo ⟨k0+1,fun k hk=>?_⟩
 obtain ⟨k,rfl⟩:∃ i,k=i+1:=⟨k - 1,by omega⟩
 simp only [qo,ho,hf,if_neg hn,hb,hpu,Bool.false_eq_true,if_false,aaM,h0 k k (by omega) (by omega)]
 rcases he with rfl | rfl <;> exact hres
theorem XI {f:FuncId} {fn:Func} {c:Code} {args:List Value} {S H1 H':zx} {e:AEx} {T:List Value} {v:Value} (ho:O.fn f=none) (hpu:O.pu f=true) (hf:P.funcs[f]?=some fn) (hn:fn.name≠ "runtime.NumGoroutine") (hb:fn.body=some c)
  (h:zI P O (O.hp f) c (args++List.replicate (fn.ntmps - args.length) zh) zx.empty=some (e,T,H1)) (he:e=.normal∨e=.ret) (hres:XP P fn T H1=some (v,H')) (hca:args.all (jc 16)=true) (hcv:jc 16 (jG H' 16 v)=true):jf P O f args S=some (jG H' 16 v,S):=by
 obtain ⟨k0,h0⟩:=J3 _ _ _ _ h
 refine Yo ⟨k0+1,fun k hk=>?_⟩
 obtain ⟨k,rfl⟩:∃ i,k=i+1:=⟨k - 1,by omega⟩
 have hr:aaM P (O.hp f) (jr O.hp (O.hp f) (qo P O k)) k fn c args zx.empty=some (v,H'):=by
  simp only [aaM,h0 k k (by omega) (by omega)]
  rcases he with rfl | rfl <;> exact hres
 simp only [qo,ho,hf,if_neg hn,hb,hpu,if_true,X5,if_pos hca,hr,if_pos hcv]
theorem YB (S:zx):∀ (d d':Nat) (v:Value),jc d v=true→jG S d' v=v:=by
 intro d
 induction d with
 | zero=>intro d' v h;cases h
 | succ d ih =>
  intro d' v h
  cases d' with
  | zero=>rfl
  | succ d' =>
   cases v with
   | agg cs =>
    simp only [jc] at h
    show Value.agg (cs.map (jG S d'))=.agg cs
    congr 1
    apply Array.ext (by simp)
    intro i h1 h2
    rw [Array.getElem_map]
    exact ih d' _ (List.all_eq_true.1 h _ (by simp))
   | tuple cs =>
    simp only [jc] at h
    show Value.tuple (cs.map (jG S d'))=.tuple cs
    congr 1
    apply Array.ext (by simp)
    intro i h1 h2
    rw [Array.getElem_map]
    exact ih d' _ (List.all_eq_true.1 h _ (by simp))
   | slice a n c =>
    cases a with
    | none=>rfl
    | some a=>simp [jc] at h
   | _=>rfl
theorem ku {f:FuncId} {fn:Func} {c:Code} {args:List Value} {S H1 H':zx} {e:AEx} {T:List Value} {v:Value} (ho:O.fn f=none) (hpu:O.pu f=true) (hf:P.funcs[f]?=some fn) (hn:fn.name≠ "runtime.NumGoroutine") (hb:fn.body=some c)
  (h:zI P O (O.hp f) c (args++List.replicate (fn.ntmps - args.length) zh) zx.empty=some (e,T,H1)) (he:e=.normal∨e=.ret) (hres:XP P fn T H1=some (v,H')) (hca:args.all (jc 16)=true) (hcv:jc 16 v=true):jf P O f args S=some (v,S):=by
 have e1:=YB H' 16 16 v hcv
 have:=XI (S:=S) ho hpu hf hn hb h he hres hca (by rw [e1];exact hcv)
 rwa [e1] at this
def Ty.ZV:(t:Ty)→t.Val→List Value
 | .int k,n=>[.int k n]
 | .bool,b=>[.bool b]
 | .str,s=>[.string s]
 | .slc _ e,l=>match l with
  | none=>[.slice none 0 0]
  | some l=>[SL 1 e.sz l.length (l.flatMap e.ZV)]
 | .pair a b,(x,y)=>a.ZV x++b.ZV y
 | .unit,_=>[]
theorem Ty.Qk:∀ (t:Ty) (x:t.Val),(t.ZV x).length=t.sz:=by
 intro t
 induction t with
 | pair a b iha ihb=>rintro ⟨x,y⟩;simp [Ty.ZV,Ty.sz,iha,ihb]
 | slc bytes e ih=>intro x;cases x <;> rfl
 | _=>intro x;rfl
theorem ZG {e:Ty} (l:List e.Val):(l.flatMap e.ZV).length=l.length * e.sz:=by
 induction l with
 | nil=>simp
 | cons x l ih=>simp [List.flatMap_cons,Ty.Qk,ih,Nat.add_mul];omega
def M0:Mu:=⟨fun _=>none,fun _=>false,[]⟩
theorem GI.none {H:zx}:GI M0 zx.empty H:=⟨(fun q o h=>by cases h),(fun q q' r h=>by cases h),(fun q r b h=>by cases h),(fun q _=>rfl),(fun q r h=>by cases h),(fun r h=>by cases h),rfl,(fun q cs anc e h=>by cases h)⟩
theorem Ty.WS:∀ (t:Ty) (x:t.Val) (H:zx),Later M0 H M0 (t.place x H).2∧L0 M0 (t.place x H).2 (t.ZV x) (t.place x H).1:=by
 intro t
 induction t with
 | int k=>intro x H;exact ⟨Later.refl _ _,VL.cons (.sg rfl) VL.nil⟩
 | bool=>intro x H;exact ⟨Later.refl _ _,VL.cons (.sg rfl) VL.nil⟩
 | str=>intro x H;exact ⟨Later.refl _ _,VL.cons (.sg rfl) VL.nil⟩
 | unit=>intro x H;exact ⟨Later.refl _ _,VL.nil⟩
 | pair a b iha ihb =>
  rintro ⟨x,y⟩ H
  obtain ⟨h1,h2⟩:=iha x H
  obtain ⟨h3,h4⟩:=ihb y (a.place x H).2
  exact ⟨h1.trans h3,(h2.later h3).append h4⟩
 | slc bytes e ih =>
  intro x H
  match x with
  | none=>exact ⟨Later.refl _ _,VL.cons (.sg rfl) VL.nil⟩
  | some []=>exact ⟨Later.refl _ _,VL.cons (.slE (e:=e.sz)) VL.nil⟩
  | some (x::l) =>
   have key:∀ (l:List e.Val) (H:zx),Later M0 H M0 (jK e.place l H).2∧L0 M0 (jK e.place l H).2 (l.flatMap e.ZV) (jK e.place l H).1:=by
    intro l
    induction l with
    | nil=>intro H;exact ⟨Later.refl _ _,VL.nil⟩
    | cons x l ihl =>
     intro H
     obtain ⟨h1,h2⟩:=ih x H
     obtain ⟨h3,h4⟩:=ihl (e.place x H).2
     exact ⟨h1.trans h3,(h2.later h3).append h4⟩
   obtain ⟨h1,h2⟩:=key (x::l) H
   have hL:Later M0 (jK e.place (x::l) H).2 M0 ((jK e.place (x::l) H).2.push (.cells (jK e.place (x::l) H).1 .ro e.sz)):=J8 (fun q r h=>by cases h) _
   refine ⟨h1.trans hL,VL.cons ?_ VL.nil⟩
   have hlen:(jK e.place (x::l) H).1.length=(l.length+1) * e.sz:=by rw [← h2.1,ZG];rfl
   show V0 M0 ((jK e.place (x::l) H).2.push (.cells (jK e.place (x::l) H).1 .ro e.sz)) (SL 1 e.sz (l.length+1) ((x::l).flatMap e.ZV)) (.slice (some ⟨(jK e.place (x::l) H).2.next,0,none⟩) (l.length+1) (l.length+1))
   refine VV.sl (o:=0) (l:=(jK e.place (x::l) H).1) (own:=.ro) (by simp) ⟨fun q h=>(by cases h),rfl⟩ (by rw [zx.zS,if_pos rfl]) (by omega) (by rw [List.toList_toArray,ZG];rfl) (fun i hi=>?_)
   rw [Nat.zero_add,List.toList_toArray]
   exact (h2.2 i).qK hL
def Args.ZV:(l:List (Bool×Ty))→Args l→List Value
 | [],_=>[]
 | (b,c)::l,(x,xs)=>kZ b (c.ZV x)::Args.ZV l xs
theorem aa5 {H:zx} {b:Bool} {cs cs':List Value} (h:L0 M0 H cs cs'):V0 M0 H (kZ b cs) (kZ b cs'):=by
 unfold kZ
 split
 ·
  exact Z9 h
 ·
  rw [xA,xA];exact h.2 0
theorem Args.WS:∀ (l:List (Bool×Ty)) (x:Args l) (H:zx),Later M0 H M0 (Args.place l x H).2∧L0 M0 (Args.place l x H).2 (Args.ZV l x) (Args.place l x H).1:=by
 intro l
 induction l with
 | nil=>intro x H;exact ⟨Later.refl _ _,VL.nil⟩
 | cons p l ih =>
  obtain ⟨b,c⟩:=p
  rintro ⟨x,xs⟩ H
  obtain ⟨h1,h2⟩:=c.WS x H
  obtain ⟨h3,h4⟩:=ih xs (c.place x H).2
  exact ⟨h1.trans h3,VL.cons ((aa5 h2).qK h3) h4⟩
theorem QA (hO:Qp P O) {f:FuncId} {codes:List (Bool×Ty)} {x:Args codes} {S':zx} (h:jf P O f (Args.ZV codes x) zx.empty=some (.bool true,S')) :
  ∃ k,(qZ P k f (Args.place codes x zx.empty).1 (Args.place codes x zx.empty).2).map (·.1)=some (.bool true):=by
 obtain ⟨h1,h2⟩:=Args.WS codes x zx.empty
 obtain ⟨a,H',μ',ω',k1,k2,k3,k4,k5,k6⟩:=aau hO f _ _ _ _ _ h M0 _ W0 GI.none h2 (fun r s hs=>by cases hs) (fun r s hs=>by cases hs)
 have:a=.bool true:=zY (k6.v0) rfl
 subst this
 exact XH k1
theorem aaT {hps pus:FuncId→Bool}:Qp P ⟨fun _=>none,hps,pus⟩:=fun f q h=>by cases h
end
end Go.Abs
namespace Go.Abs
open Go.RowKit
section
variable {R:Type} {P:Program} {O:Ora} {fx:Fx} {hp nm:Bool} {chk:List Nat} {call:FuncId→List Value→M Value} {ops:Array Oper}
def okC (v:Value) (r:Option R):Option R:=if okq 3 v=true then r else none
@[simp] theorem KO (b:Bool) (r:Option R):okC (.bool b) r=r:=Eq.trans rfl rfl
@[simp] theorem VH (k:IntKind) (n:Int) (r:Option R):okC (.int k n) r=r:=Eq.trans rfl rfl
@[simp] theorem WB (s:ByteArray) (r:Option R):okC (.string s) r=r:=Eq.trans rfl rfl
@[simp] theorem YJ (a:Option Addr) (n c:Nat) (r:Option R):okC (.slice a n c) r=r:=Eq.trans rfl rfl
@[simp] theorem YG (k:Nat) (v:Value) (r:Option R):okC (.iface k v) r=r:=Eq.trans rfl rfl
@[simp] theorem ac3 (a:Option Addr) (r:Option R):okC (.pointer a) r=r:=Eq.trans rfl rfl
def gdC (v:Value) (b:Bool) (s:M Value) (S:zx) (K:Value→zx→Option R):Option R :=
 if (vb v == some b)=true then andThen (s S) (fun v S1=>okC v (K v S1)) else K zh S
@[simp] theorem abU (s:M Value) (H:zx) (K:Value→zx→Option R):gdC (.bool true) true s H K=andThen (s H) (fun v S1=>okC v (K v S1)):=Eq.trans rfl rfl
@[simp] theorem acf (s:M Value) (H:zx) (K:Value→zx→Option R):gdC (.bool false) false s H K=andThen (s H) (fun v S1=>okC v (K v S1)):=Eq.trans rfl rfl
@[simp] theorem abS (s:M Value) (H:zx) (K:Value→zx→Option R):gdC (.bool true) false s H K=K zh H:=Eq.trans rfl rfl
@[simp] theorem acu (s:M Value) (H:zx) (K:Value→zx→Option R):gdC (.bool false) true s H K=K zh H:=Eq.trans rfl rfl
@[simp] theorem ach (s:M Value) (b:Bool) (H:zx) (K:Value→zx→Option R):gdC zh b s H K=K zh H:=Eq.trans rfl rfl
abbrev vY {α:Type} (a:α):Type:=Unit
def zV (s:Option (Value×zx)) (K:Value→zx→Option R) (p:vY K):Option R:=andThen s K
def gdK (v:Value) (b:Bool) (s:M Value) (S:zx) (K:Value→zx→Option R) (p:vY K):Option R:=gd v b s S K
def XA (v:Value) (b:Bool) (s:M Value) (S:zx) (K:Value→zx→Option R) (p:vY K):Option R:=gdC v b s S K
def okK (v:Value) (r:Option R) (p:vY r):Option R:=okC v r
@[simp] theorem Y1 (v:Value) (H:zx) (K:Value→zx→Option R) (p:vY K):zV (some (v,H)) K p=K v H:=Eq.trans rfl rfl
@[simp] theorem abR (s:M Value) (H:zx) (K:Value→zx→Option R) (p:vY K):gdK (.bool true) true s H K p=zV (s H) K p:=Eq.trans rfl rfl
@[simp] theorem abW (s:M Value) (H:zx) (K:Value→zx→Option R) (p:vY K):gdK (.bool false) false s H K p=zV (s H) K p:=Eq.trans rfl rfl
@[simp] theorem ab1 (s:M Value) (H:zx) (K:Value→zx→Option R) (p:vY K):gdK (.bool true) false s H K p=K zh H:=Eq.trans rfl rfl
@[simp] theorem abQ (s:M Value) (H:zx) (K:Value→zx→Option R) (p:vY K):gdK (.bool false) true s H K p=K zh H:=Eq.trans rfl rfl
@[simp] theorem ab6 (s:M Value) (b:Bool) (H:zx) (K:Value→zx→Option R) (p:vY K):gdK zh b s H K p=K zh H:=Eq.trans rfl rfl
@[simp] theorem Vt (s:M Value) (H:zx) (K:Value→zx→Option R) (p:vY K):XA (.bool true) true s H K p=zV (s H) (fun v S1=>okK v (K v S1) ()) ():=Eq.trans rfl rfl
@[simp] theorem Vr (s:M Value) (H:zx) (K:Value→zx→Option R) (p:vY K):XA (.bool false) false s H K p=zV (s H) (fun v S1=>okK v (K v S1) ()) ():=Eq.trans rfl rfl
@[simp] theorem aah (s:M Value) (H:zx) (K:Value→zx→Option R) (p:vY K):XA (.bool true) false s H K p=K zh H:=Eq.trans rfl rfl
@[simp] theorem aak (s:M Value) (H:zx) (K:Value→zx→Option R) (p:vY K):XA (.bool false) true s H K p=K zh H:=Eq.trans rfl rfl
@[simp] theorem VQ (s:M Value) (b:Bool) (H:zx) (K:Value→zx→Option R) (p:vY K):XA zh b s H K p=K zh H:=Eq.trans rfl rfl
@[simp] theorem QX (b:Bool) (r:Option R) (p:vY r):okK (.bool b) r p=r:=Eq.trans rfl rfl
@[simp] theorem Qx (k:IntKind) (n:Int) (r:Option R) (p:vY r):okK (.int k n) r p=r:=Eq.trans rfl rfl
@[simp] theorem J6 (s:ByteArray) (r:Option R) (p:vY r):okK (.string s) r p=r:=Eq.trans rfl rfl
@[simp] theorem YD (a:Option Addr) (n c:Nat) (r:Option R) (p:vY r):okK (.slice a n c) r p=r:=Eq.trans rfl rfl
@[simp] theorem JA (a:Option Addr) (r:Option R) (p:vY r):okK (.pointer a) r p=r:=Eq.trans rfl rfl
theorem acr {v:Value} (h:okq 3 v=true) (r:Option R) (p:vY r):okK v r p=r:=if_pos h
theorem V5 {l rest:List Oper} {o:Oper} {T:List Value} {T1:Value→List Value} {S:zx} {v:Value} {r:Option (List Value×zx)} (hl:l=o::rest) (hg:o.guard=none) (hm:∀ v,xG o rest T v=T1 v)
  (hs:jW P fx call T o S=some (v,S)) (hK:jC P fx call ops rest (T1 v) S=r):jC P fx call ops l T S=r:=by
 subst hl
 simp only [jC,Region.wanted,hg,if_true,hs,hm]
 exact hK
theorem acO {l rest:List Oper} {o:Oper} {T:List Value} {T1:Value→List Value} {S:zx} {s:Option (Value×zx)} {K:Value→zx→Option (List Value×zx)} (hl:l=o::rest) (hg:o.guard=none) (hm:∀ v,xG o rest T v=T1 v)
  (hs:jW P fx call T o S=s) (hK:∀ v S1,jC P fx call ops rest (T1 v) S1=K v S1):jC P fx call ops l T S=zV s K ():=by
 show _=andThen s K
 subst hl hs
 simp only [jC,Region.wanted,hg,if_true,hm,hK]
 rfl
theorem acX {l rest:List Oper} {o:Oper} {T:List Value} {T1:Value→List Value} {S:zx} {j:Nat} {b:Bool} {g:Value} {s:M Value} {K:Value→zx→Option (List Value×zx)} (hl:l=o::rest) (hg:o.guard=some (j,b)) (hm:∀ v,xG o rest T v=T1 v)
  (hy:ynd ops T j=vb g) (hs:jW P fx call T o S=s S) (hK:∀ v S1,jC P fx call ops rest (T1 v) S1=K v S1):jC P fx call ops l T S=gdK g b s S K ():=by
 show _=gd g b s S K
 subst hl
 simp only [jC,Region.wanted,hg,hy,hs,hm,hK,gd]
 rfl
theorem abP {l rest:List Oper} {o:Oper} {T:List Value} {T1:Value→List Value} {S:zx} {k:Nat} {s:Option (Value×zx)} {K:Value→zx→Option (List Value×zx)} (hc:chk.contains k=false) (hl:l=o::rest) (hg:o.guard=none) (hm:∀ v,xG o rest T v=T1 v)
  (hs:jW P fx call T o S=s) (hK:∀ v S1,jS P fx chk [] call ops (k+1) [] rest (T1 v) S1=K v S1):jS P fx chk [] call ops k [] l T S=zV s K ():=by
 show _=andThen s K
 subst hl hs
 simp only [jS,qX,List.isEmpty_nil,if_true,Region.wanted,hg,if_true,hm,hK,hc,Bool.not_false,Bool.true_or]
 rfl
theorem Xj {l rest:List Oper} {o:Oper} {T:List Value} {T1:Value→List Value} {S:zx} {k:Nat} {v:Value} {r:Option (List Value×zx)} (hc:chk.contains k=false) (hl:l=o::rest) (hg:o.guard=none) (hm:∀ v,xG o rest T v=T1 v)
  (hs:jW P fx call T o S=some (v,S)) (hK:jS P fx chk [] call ops (k+1) [] rest (T1 v) S=r):jS P fx chk [] call ops k [] l T S=r:=by
 subst hl
 simp only [jS,qX,List.isEmpty_nil,if_true,Region.wanted,hg,if_true,hs,hm,hc,Bool.not_false,Bool.true_or]
 exact hK
theorem abw {l rest:List Oper} {o:Oper} {T:List Value} {T1:Value→List Value} {S:zx} {k:Nat} {s:Option (Value×zx)} {K:Value→zx→Option (List Value×zx)} (hc:chk.contains k=false) {x:Nat×Nat} {nl:List (Nat×Nat)} {hist:List (Value×zx)} {pe:Value} (hpe:qh T o=pe) (hl:l=o::rest) (hg:o.guard=none) (hm:∀ v,xG o rest T v=T1 v)
  (hs:jW P fx call T o S=s) (hK:∀ v S1,jS P fx chk (x::nl) call ops (k+1) (hist++[(pe,S)]) rest (T1 v) S1=K v S1):jS P fx chk (x::nl) call ops k hist l T S=zV s K ():=by
 show _=andThen s K
 subst hl hs
 simp only [jS,qX,List.isEmpty_cons,Bool.false_eq_true,if_false,hpe,Region.wanted,hg,if_true,hm,hK,hc,Bool.not_false,Bool.true_or]
 rfl
theorem XL {l rest:List Oper} {o:Oper} {T:List Value} {T1:Value→List Value} {S:zx} {k:Nat} {v:Value} {r:Option (List Value×zx)} (hc:chk.contains k=false) {x:Nat×Nat} {nl:List (Nat×Nat)} {hist:List (Value×zx)} {pe:Value} (hpe:qh T o=pe) (hl:l=o::rest) (hg:o.guard=none) (hm:∀ v,xG o rest T v=T1 v)
  (hs:jW P fx call T o S=some (v,S)) (hK:jS P fx chk (x::nl) call ops (k+1) (hist++[(pe,S)]) rest (T1 v) S=r):jS P fx chk (x::nl) call ops k hist l T S=r:=by
 subst hl
 simp only [jS,qX,List.isEmpty_cons,Bool.false_eq_true,if_false,hpe,Region.wanted,hg,if_true,hs,hm,hc,Bool.not_false,Bool.true_or]
 exact hK
theorem abn {l rest:List Oper} {o:Oper} {T:List Value} {T1:Value→List Value} {S:zx} {j k:Nat} {b:Bool} {g:Value} {s:M Value} {K:Value→zx→Option (List Value×zx)} (hc:chk.contains k=false) {x:Nat×Nat} {nl:List (Nat×Nat)} {hist:List (Value×zx)} {pe:Value} (hpe:qh T o=pe) (hl:l=o::rest) (hg:o.guard=some (j,b)) (hm:∀ v,xG o rest T v=T1 v)
  (hy:ynd ops T j=vb g) (hs:jW P fx call T o S=s S) (hK:∀ v S1,jS P fx chk (x::nl) call ops (k+1) (hist++[(pe,S)]) rest (T1 v) S1=K v S1):jS P fx chk (x::nl) call ops k hist l T S=gdK g b s S K ():=by
 show _=gd g b s S K
 subst hl
 simp only [jS,qX,List.isEmpty_cons,Bool.false_eq_true,if_false,hpe,Region.wanted,hg,hy,hs,hm,hK,gd,hc,Bool.not_false,Bool.true_or,if_true]
 rfl
theorem Vl {l rest:List Oper} {o:Oper} {T:List Value} {T1:Value→List Value} {S:zx} {j k:Nat} {b:Bool} {g:Value} {s:M Value} {K:Value→zx→Option (List Value×zx)} (hc:chk.contains k=true) {x:Nat×Nat} {nl:List (Nat×Nat)} {hist:List (Value×zx)} {pe:Value} (hpe:qh T o=pe) (hl:l=o::rest) (hg:o.guard=some (j,b)) (hm:∀ v,xG o rest T v=T1 v)
  (hy:ynd ops T j=vb g) (hs:jW P fx call T o S=s S) (hK:∀ v S1,jS P fx chk (x::nl) call ops (k+1) (hist++[(pe,S)]) rest (T1 v) S1=K v S1):jS P fx chk (x::nl) call ops k hist l T S=XA g b s S K ():=by
 show _=gdC g b s S K
 subst hl
 simp only [jS,qX,List.isEmpty_cons,Bool.false_eq_true,if_false,hpe,Region.wanted,hg,hy,hs,hm,hK,gdC,hc,Bool.not_true,Bool.false_or]
 rfl
def ckK (c:Bool) (r:Option R) (p:vY r):Option R:=if c then r else none
@[simp] theorem KE (r:Option R) (p:vY r):ckK true r p=r:=Eq.trans rfl rfl
noncomputable def acA (P:Program) (O:Ora) (hp:Bool) (v:Value) (x y:Code) (T:List Value) (S:zx):St:=abN v (zI P O hp x T S) (zI P O hp y T S)
@[simp] theorem JV (x y:Code) (T:List Value) (S:zx):acA P O hp (.bool true) x y T S=zI P O hp x T S:=Eq.trans rfl rfl
@[simp] theorem Jj (x y:Code) (T:List Value) (S:zx):acA P O hp (.bool false) x y T S=zI P O hp y T S:=Eq.trans rfl rfl
@[simp] theorem JC (T:List Value) (H:zx):zI P O hp .skip T H=some (.normal,T,H):=Eq.trans rfl rfl
@[simp] theorem Ws (T:List Value) (H:zx):zI P O hp .ret T H=some (.ret,T,H):=Eq.trans rfl rfl
@[simp] theorem Js (i:Nat) (T:List Value) (H:zx):zI P O hp (.exit i) T H=some (.exit i,T,H):=Eq.trans rfl rfl
@[simp] theorem vV (i:Nat) (ops:Array Oper) (T:List Value) (H:zx):zI P O false (.region i ops false) T H=Qa (jC P ⟨false,false,false⟩ (jf P O) ops ops.toList T H):=Eq.trans rfl rfl
@[simp] theorem xY (i:Nat) (ops:Array Oper) (T:List Value) (H:zx):zI P O true (.region i ops false) T H=Qa (jC P ⟨true,false,false⟩ (jr O.hp true (jf P O)) ops ops.toList T H):=Eq.trans rfl rfl
theorem kU {i:Nat} {ops:Array Oper} (hd:qE P ops=true) (hf:fixed P ops=nm) (hc:checked P ops=chk) {nl:List (Nat×Nat)} (hn:again P ops=nl) (T:List Value) (H:zx):zI P O false (.region i ops true) T H=Qa (jS P ⟨false,!chk.isEmpty,nm⟩ chk nl (jf P O) ops 0 [] ops.toList T H):=by
 subst hf hc hn
 simp only [zI,hd,if_true,jr]
 rfl
theorem vP {i:Nat} {ops:Array Oper} (hd:qE P ops=true) (hf:fixed P ops=nm) (hc:checked P ops=chk) {nl:List (Nat×Nat)} (hn:again P ops=nl) (T:List Value) (H:zx):zI P O true (.region i ops true) T H=Qa (jS P ⟨true,!chk.isEmpty,nm⟩ chk nl (jr O.hp true (jf P O)) ops 0 [] ops.toList T H):=by
 subst hf hc hn
 simp only [zI,hd,if_true]
 rfl
@[simp] theorem JR (x y:Code) (T:List Value) (H:zx):zI P O hp (.seq x y) T H=aby (zI P O hp x T H) (zI P O hp y):=Eq.trans rfl rfl
@[simp] theorem ZP (i:Nat) (c:Code) (T:List Value) (H:zx):zI P O hp (.block i c) T H=Zh i (zI P O hp c T H):=Eq.trans rfl rfl
@[simp] theorem Jb (c:Code) (T:List Value) (H:zx):zI P O hp (.loop c) T H=qH (zI P O hp c) T H:=Eq.trans rfl rfl
@[simp] theorem Jk (t:Tmp) (x y:Code) (T:List Value) (H:zx):zI P O hp (.cond (.tmp t) x y) T H=acA P O hp (T.getD t zh) x y T H:=by
 simp only [zI,yA,if_true,zN]
 rfl
@[simp] theorem YI:dem zh=zh:=xg
@[simp] theorem Vh (k:IntKind) (n:Int):dem (.int k n)=.int k n:=Eq.trans rfl rfl
@[simp] theorem KQ (b:Bool):dem (.bool b)=.bool b:=Eq.trans rfl rfl
@[simp] theorem Wj (s:ByteArray):dem (.string s)=.string s:=Eq.trans rfl rfl
@[simp] theorem V4:dem (.slice none 0 0)=.slice none 0 0:=Eq.trans rfl rfl
@[simp] theorem VP (x:Array Value):dem (.agg x)=.agg x:=Eq.trans rfl rfl
@[simp] theorem KF (f:Fn) (x c:Array Value):dem (.func f x c)=.func f x c:=Eq.trans rfl rfl
@[simp] theorem Jv (a:Option Addr):dem (.pointer a)=.pointer a:=Eq.trans rfl rfl
@[simp] theorem aej (e n:Nat) (cs:List Value):dem (SL 1 e n cs)=SL 1 e n cs:=Eq.trans rfl rfl
@[simp] theorem aef (e n:Nat) (cs:List Value):dem (SL 2 e n cs)=SL 1 e n cs:=Eq.trans rfl rfl
@[simp] theorem ab5 (k e n:Nat) (cs:List Value) (r:Option R) (p:vY r):okK (SL k e n cs) r p=r:=Eq.trans rfl rfl
@[simp] theorem ab4 (cs:List Value) (r:Option R) (p:vY r):okK (EP cs) r p=r:=Eq.trans rfl rfl
@[simp] theorem aev (k e n:Nat) (cs:List Value) (r:Option R):okC (SL k e n cs) r=r:=Eq.trans rfl rfl
@[simp] theorem ab8 (cs:List Value) (r:Option R):okC (EP cs) r=r:=Eq.trans rfl rfl
def sv (k e n:Nat) (cs:List Value):Value:=if k=0 then .slice none 0 0 else SL k e n cs
structure Okv (k n:Nat) (cs:List Value):Prop where
 le:k≤2
 nil:k=0→n=0∧cs=[]
theorem sv0 {e n:Nat} {cs:List Value}:sv 0 e n cs=.slice none 0 0:=rfl
theorem sv1 {e n:Nat} {cs:List Value}:sv 1 e n cs=SL 1 e n cs:=rfl
theorem sv2 {e n:Nat} {cs:List Value}:sv 2 e n cs=SL 2 e n cs:=rfl
@[simp] theorem KN (k e n:Nat) (cs:List Value):dem (sv k e n cs)=sv (if k=2 then 1 else k) e n cs:=by
 unfold sv
 by_cases h0:k=0
 ·
  subst h0;rfl
 ·
  by_cases h2:k=2
  ·
   subst h2;rfl
  ·
   rw [if_neg h0,if_neg h2,if_neg h0]
   simp only [SL,dem,qC,if_neg h2]
@[simp] theorem YP (k e n:Nat) (cs:List Value) (r:Option R):okC (sv k e n cs) r=r:=by
 unfold sv;split <;> rfl
@[simp] theorem ab7 (k e n:Nat) (cs:List Value) (r:Option R) (p:vY r):okK (sv k e n cs) r p=r:=YP k e n cs r
theorem Q9 {k e n:Nat} {cs:List Value} (h:Okv k n cs):∃ e',vSl (sv k e n cs)=some (e',n,cs)∧(e'=e∨n=0∧cs=[]):=by
 unfold sv
 by_cases h0:k=0
 ·
  obtain ⟨rfl,rfl⟩:=h.nil h0
  rw [if_pos h0]
  exact ⟨0,rfl,.inr ⟨rfl,rfl⟩⟩
 ·
  rw [if_neg h0]
  have:k=1∨k=2:=by have:=h.le;omega
  exact ⟨e,by simp [SL,vSl,this],.inl rfl⟩
theorem acU {t te:TypeId} {k e n:Nat} {cs:List Value} {S:zx} (ht:P.underlying t=some (.slice te)) (h:Okv k n cs):vK P t (sv k e n cs) S=some (goInt n,S):=by
 by_cases h0:k=0
 ·
  obtain ⟨rfl,rfl⟩:=h.nil h0
  subst h0
  simp only [sv0,vK,Y5,ht]
 ·
  obtain ⟨e',h1,_⟩:=Q9 (e:=e) h
  simp only [sv,if_neg h0] at h1 ⊢
  simp only [SL] at h1 ⊢
  simp only [vK,ht,h1]
theorem Yd {t te:TypeId} {k e n:Nat} {cs:List Value} {S:zx} {ki:IntKind} {i:Int} (ht:P.underlying t=some (.slice te)) (he:qc P te=some e) (h:Okv k n cs) (h0:0≤i) (hi:i < n) :
  jy P t (sv k e n cs) (.int ki i) S=some (EP ((cs.drop (i.toNat * e)).take e),S):=by
 have hk:k≠0:=fun e=>by have:=(h.nil e).1;omega
 have hk2:k=1∨k=2:=by have:=h.le;omega
 have h1:vSl (SL k e n cs)=some (e,n,cs):=by simp [SL,vSl,hk2]
 simp only [sv,if_neg hk]
 simp only [SL] at h1 ⊢
 simp only [jy,ht,h1,he,if_true]
 rw [if_pos ⟨h0,hi⟩]
@[simp] theorem X9 {t:TypeId} {v:Value} {S:zx} (ht:yQ P t=some false):je P nm t (EP [v]) S=some (v,S):=by
 simp [EP,je,ht]
theorem aaA {t:TypeId} {n:Nat} {cs:List Value} {S:zx} (ht:yQ P t=some true) (hn:qc P t=some n) (hc:cs.length=n):je P nm t (EP cs) S=some (.agg cs.toArray,S):=by
 simp only [EP,je,ht,hn,if_true,List.toList_toArray]
 rw [if_pos (by omega),← hc,List.take_length]
theorem aay {t te:TypeId} {k e n:Nat} {cs:List Value} {S:zx} {lo hi:Option Value} {i j:Int} (ht:P.underlying t=some (.slice te)) (he:qc P te=some e) (h:Okv k n cs) (hlo:yJ 0 lo=some i) (hhi:yJ n hi=some j)
  (h0:0≤i) (hij:i≤j) (hj:j≤n):kM P t (sv k e n cs) lo hi S=some (sv (if k=2 then 1 else k) e (j.toNat - i.toNat) ((cs.drop (i.toNat * e)).take ((j.toNat - i.toNat) * e)),S):=by
 by_cases hk:k=0
 ·
  obtain ⟨rfl,rfl⟩:=h.nil hk
  subst hk
  simp only [sv0,kM,ht,vSl,he,hlo,hhi,if_pos h0,if_pos hij,if_pos hj]
  rfl
 ·
  have hk2:k=1∨k=2:=by have:=h.le;omega
  have h1:vSl (SL k e n cs)=some (e,n,cs):=by simp [SL,vSl,hk2]
  have h3:(if k=2 then 1 else k)=1:=by rcases hk2 with rfl | rfl <;> rfl
  rw [h3]
  simp only [sv,if_neg hk]
  simp only [SL] at h1 ⊢
  simp only [kM,ht,h1,he,hlo,hhi,if_pos h0,if_pos hij,if_pos hj,if_true]
  rfl
@[simp] theorem Ju (k e n:Nat) (cs:List Value):vJ (sv k e n cs)=false:=by unfold sv;split <;> rfl
@[simp] theorem Zo (dr:Bool) (t:TypeId) (k e n:Nat) (cs:List Value) (lo hi:Option Value) (S:zx):wQ P dr t (sv k e n cs) lo hi S=kM P t (sv k e n cs) lo hi S:=by
 unfold wQ;rw [Ju];rfl
@[simp] theorem xQ (dr:Bool) (t:TypeId) (s:ByteArray) (lo hi:Option Value) (S:zx):wQ P dr t (.string s) lo hi S=kM P t (.string s) lo hi S:=Eq.trans rfl rfl
@[simp] theorem Jf (hp dr:Bool) (src dst:TypeId) (k e n:Nat) (cs:List Value) (S:zx):qF P hp dr src dst (sv k e n cs) S=xM P src dst (sv k e n cs) S:=by
 unfold qF
 rw [Ju]
 have:∀ s,sv k e n cs≠.string s:=by intro s;unfold sv;split <;> (intro h;cases h)
 cases hp <;> simp only [Bool.false_eq_true,if_false] <;> (split <;> first | rfl | (rename_i h;exact absurd h (this _)) | skip)
@[simp] theorem Wl (hp dr:Bool) (src dst:TypeId) (k:IntKind) (n:Int) (S:zx):qF P hp dr src dst (.int k n) S=xM P src dst (.int k n) S:=by cases hp <;> rfl
@[simp] theorem vW (dr:Bool) (src dst:TypeId) (s:ByteArray) (S:zx):qF P false dr src dst (.string s) S=xM P src dst (.string s) S:=Eq.trans rfl rfl
@[simp] theorem xW (dr:Bool) (src dst:TypeId) (s:ByteArray) (S:zx):qF P true dr src dst (.string s) S=wG P src dst (.string s) S:=Eq.trans rfl rfl
theorem XG {t te tx tex:TypeId} {k e n j m bytes:Nat} {cs ds:List Value} {z:Value} {S:zx} (ht:P.underlying t=some (.slice te)) (he:qc P te=some e) (hz:zeroOf P te=some z) (hzs:z.cells.size=e) (hb:bytesOf P te=some bytes) (hp:0 < e)
  (htx:P.underlying tx=some (.slice tex)) (h:Okv k n cs) (hk:k≠1) (hx:Okv j m ds) (hn:cs.length=n * e) (hm:ds.length=m * e) (h1:cs.all (·.oneCell')=true) (h2:ds.all (·.oneCell')=true) (hl:(n+m) * bytes≤140737488355328) (hmax:n+m≤4611686018427387903) :
  yw P t tx (sv k e n cs) (sv j e m ds) S=some (sv (if k=0∧m=0 then 0 else 2) e (n+m) (cs++ds),S):=by
 have hel:jX P t=some te:=by simp only [jX,ht]
 have hsrc:ac9 P tx e (sv j e m ds)=some (m,ds):=by
  obtain ⟨e',q1,q2⟩:=Q9 (e:=e) hx
  have hns:∀ s,sv j e m ds≠.string s:=by intro s;unfold sv;split <;> (intro h;cases h)
  have hcond:m=0∨e'=e:=q2.elim .inr fun h=>.inl h.1
  unfold ac9
  split
  ·
   rename_i s hs;exact absurd hs (hns s)
  ·
   simp only [htx,q1,if_pos hcond,if_pos hm,h2,if_true]
 have hsrc:Zp P tx e (sv j e m ds) S=some (m,ds):=by
  unfold Zp
  rw [Ju]
  exact hsrc
 by_cases hk0:k=0
 ·
  obtain ⟨rfl,rfl⟩:=h.nil hk0
  subst hk0
  simp only [sv0,yw,wO,hel,he,hz,hb,if_pos hp,if_pos hzs,hsrc]
  by_cases hm0:m=0
  ·
   subst hm0
   simp [sv0]
  ·
   rw [Nat.zero_add] at hl hmax
   rw [if_neg hm0,if_pos hl,if_pos hmax,if_neg Bool.false_ne_true,if_neg (fun h=>hm0 h.2),sv2,Nat.zero_add,List.nil_append]
 ·
  have hk2:k=2:=by have:=h.le;omega
  subst hk2
  rw [if_neg (fun h=>hk0 h.1)]
  have h1':cs.toArray.toList.all (·.oneCell')=true:=by simpa using h1
  simp only [sv2,SL,yw,wO,hel,he,hz,hb,if_pos hp,if_pos hzs,hsrc,if_true,if_pos hl,if_pos hmax,h1']
@[simp] theorem Kq (op:BinOp) (t:TypeId) (k k':IntKind) (a b:Int) (S:zx):qU P op t (.int k a) (.int k' b) S=vG P op t (.int k a) (.int k' b) S:=Eq.trans rfl rfl
@[simp] theorem Jz (op:BinOp) (t:TypeId) (a b:ByteArray) (S:zx):qU P op t (.string a) (.string b) S=vG P op t (.string a) (.string b) S:=Eq.trans rfl rfl
@[simp] theorem Y4 (op:BinOp) (t:TypeId) (a b:Bool) (S:zx):qU P op t (.bool a) (.bool b) S=vG P op t (.bool a) (.bool b) S:=Eq.trans rfl rfl
@[simp] theorem ad6 (op:BinOp) (t:TypeId) (a b:Array Value) (S:zx):qU P op t (.agg a) (.agg b) S=vG P op t (.agg a) (.agg b) S:=Eq.trans rfl rfl
@[simp] theorem Wv (b:Bool) (x y:Value) (S:zx):JH (.bool b) x y S=some (if b then dem x else dem y,S):=Eq.trans rfl rfl
@[simp] theorem Yy {src dst:TypeId} (k:IntKind) (n:Int) (S:zx):xM P src dst (.int k n) S=wG P src dst (.int k n) S:=Eq.trans rfl rfl
@[simp] theorem xR (vs:List Value) (i:Nat) (S:zx):zU (.tuple vs.toArray) i S=(vs[i]?).map (·,S):=by
 simp only [zU,List.getElem?_toArray]
 cases vs[i]? <;> rfl
end
end Go.Abs
namespace Go.Abs
theorem aar {P:Program} {fn:Func} {a b:Value} {r:List Value} {T:List Value} {S:zx} (h:zX P T S fn.results.toList=some (a::b::r)) (hn:ac8 fn.results.toList=true) (hall:(a::b::r).all yh=true) :
  XP P fn T S=some (.tuple (a::b::r).toArray,S):=by
 unfold XP
 rw [h]
 dsimp only
 rw [if_pos hn,if_pos hall]
theorem yL {P:Program} {fn:Func} {a:Value} {T:List Value} {S:zx} (h:zX P T S fn.results.toList=some [a]) (hn:ac8 fn.results.toList=true):XP P fn T S=some (a,S):=by
 unfold XP
 rw [h]
 dsimp only
 rw [if_pos hn]
@[simp] theorem acn (k:IntKind) (n:Int):yh (.int k n)=true:=rfl
@[simp] theorem abp (b:Bool):yh (.bool b)=true:=rfl
@[simp] theorem QK (k e n:Nat) (cs:List Value):yh (sv k e n cs)=true:=by unfold sv;split <;> rfl
@[simp] theorem acs (x:Array Value):yh (.agg x)=true:=rfl
@[simp] theorem aaO (a:Option Addr) (n c:Nat):yh (.slice a n c)=true:=rfl
end Go.Abs
namespace Go.Abs
open Go.RowKit
def vs {α:Type} (f:α→List Value) (e k:Nat) (l:List α):Value:=sv k e l.length (l.flatMap f)
structure Okl {α:Type} (k:Nat) (l:List α):Prop where
 le:k≤2
 nil:k=0→l=[]
theorem Okl.own {α:Type} {l:List α}:Okl 2 l:=⟨Nat.le_refl 2,(fun h=>by cases h)⟩
theorem Okl.read {α:Type} {l:List α}:Okl 1 l:=⟨by omega,(fun h=>by cases h)⟩
theorem Okl.none {α:Type}:Okl 0 ([]:List α):=⟨by omega,fun _=>rfl⟩
theorem Okl.dem {α:Type} {k:Nat} {l:List α} (h:Okl k l):Okl (if k=2 then 1 else k) l:=⟨by have:=h.le;split <;> omega,fun hk=>h.nil (by split at hk <;> omega)⟩
def cb (b:UInt8):List Value:=[.int .u8 b.toNat]
def ci (n:Int):List Value:=[.int .i64 n]
section
variable {R α:Type} {P:Program} {f:α→List Value} {e k j:Nat} {l m:List α} {t te tx tex:TypeId} {S:zx}
theorem Okl.okv (h:Okl k l):Okv k l.length (l.flatMap f):=⟨h.le,fun h0=>by rw [h.nil h0];exact ⟨rfl,rfl⟩⟩
theorem kF (hf:∀ x,(f x).length=e) (l:List α):(l.flatMap f).length=l.length * e:=by
 induction l with
 | nil=>simp
 | cons x l ih=>simp only [List.flatMap_cons,List.length_append,hf,ih,List.length_cons,Nat.add_mul];omega
theorem ZL (hf:∀ x,(f x).length=e) (l:List α):∀ (i:Nat),(l.flatMap f).drop (i * e)=(l.drop i).flatMap f:=by
 induction l with
 | nil=>intro i;simp
 | cons x l ih =>
  intro i
  cases i with
  | zero=>simp
  | succ i =>
   rw [List.flatMap_cons,List.drop_succ_cons,← ih i,List.drop_append,List.drop_eq_nil_of_le (by rw [hf,Nat.add_mul];omega),List.nil_append,hf]
   congr 1
   rw [Nat.add_mul];omega
theorem ZM (hf:∀ x,(f x).length=e) (l:List α):∀ (i:Nat),(l.flatMap f).take (i * e)=(l.take i).flatMap f:=by
 induction l with
 | nil=>intro i;simp
 | cons x l ih =>
  intro i
  cases i with
  | zero=>simp
  | succ i =>
   rw [List.flatMap_cons,List.take_succ_cons,List.flatMap_cons,← ih i,List.take_append,List.take_of_length_le (by rw [hf,Nat.add_mul];omega),hf]
   congr 2
   rw [Nat.add_mul];omega
@[simp] theorem YA:dem (vs f e k l)=vs f e (if k=2 then 1 else k) l:=KN _ _ _ _
@[simp] theorem abZ (r:Option R):okC (vs f e k l) r=r:=YP _ _ _ _ _
@[simp] theorem acd (r:Option R) (p:vY r):okK (vs f e k l) r p=r:=YP _ _ _ _ _
@[simp] theorem ael:vJ (vs f e k l)=false:=Ju _ _ _ _
@[simp] theorem Zt (dr:Bool) (lo hi:Option Value):wQ P dr t (vs f e k l) lo hi S=kM P t (vs f e k l) lo hi S:=Zo _ _ _ _ _ _ _ _ _
@[simp] theorem Yx (hp dr:Bool) (src dst:TypeId):qF P hp dr src dst (vs f e k l) S=xM P src dst (vs f e k l) S:=Jf _ _ _ _ _ _ _ _ _
@[simp] theorem acQ:yh (vs f e k l)=true:=QK _ _ _ _
theorem ab2 (ht:P.underlying t=some (.slice te)) (h:Okl k l):vK P t (vs f e k l) S=some (goInt l.length,S):=acU ht h.okv
theorem adH {ki:IntKind} {i:Int} (ht:P.underlying t=some (.slice te)) (he:qc P te=some e) (hf:∀ x,(f x).length=e) (h:Okl k l) (h0:0≤i) (hi:i < l.length) :
  jy P t (vs f e k l) (.int ki i) S=some (EP (f (l[i.toNat]'(by omega))),S):=by
 unfold vs
 rw [Yd ht he h.okv h0 hi,ZL hf]
 have hlt:i.toNat < l.length:=by omega
 have:=ZM hf (l.drop i.toNat) 1
 rw [Nat.one_mul] at this
 rw [this,List.drop_eq_getElem_cons hlt,List.take_succ_cons,List.take_zero,List.flatMap_cons,List.flatMap_nil,List.append_nil]
theorem aa9 {lo hi:Option Value} {i j:Int} (ht:P.underlying t=some (.slice te)) (he:qc P te=some e) (hf:∀ x,(f x).length=e) (h:Okl k l) (hlo:yJ 0 lo=some i) (hhi:yJ l.length hi=some j) (h0:0≤i) (hij:i≤j) (hj:j≤l.length) :
  kM P t (vs f e k l) lo hi S=some (vs f e (if k=2 then 1 else k) ((l.drop i.toNat).take (j.toNat - i.toNat)),S):=by
 unfold vs
 rw [aay ht he h.okv hlo hhi h0 hij hj,ZL hf,ZM hf]
 congr 3
 simp;omega
theorem aat {bytes:Nat} {z:Value} (ht:P.underlying t=some (.slice te)) (he:qc P te=some e) (hz:zeroOf P te=some z) (hzs:z.cells.size=e) (hb:bytesOf P te=some bytes) (hp:0 < e) (htx:P.underlying tx=some (.slice tex))
  (hf:∀ x,(f x).length=e) (h1:∀ x,(f x).all (·.oneCell')=true) (h:Okl k l) (hk:k≠1) (hm:Okl j m) (hl:(l.length+m.length) * bytes≤140737488355328) (hmax:l.length+m.length≤4611686018427387903) :
  yw P t tx (vs f e k l) (vs f e j m) S=some (vs f e (if k=0∧m.length=0 then 0 else 2) (l++m),S):=by
 have hone:∀ l:List α,(l.flatMap f).all (·.oneCell')=true:=by
  intro l
  rw [List.all_flatMap,List.all_eq_true]
  exact fun x _=>h1 x
 unfold vs
 rw [XG ht he hz hzs hb hp htx h.okv hk hm.okv (kF hf l) (kF hf m) (hone l) (hone m) hl hmax,List.flatMap_append,List.length_append]
theorem Yz (x:UInt8):(cb x).length=1:=rfl
theorem adC (x:UInt8):(cb x).all (·.oneCell')=true:=rfl
theorem abL (l:List UInt8):wo (l.flatMap cb)=some l:=by
 induction l with
 | nil=>rfl
 | cons b l ih =>
  have:(b::l).flatMap cb=.int .u8 b.toNat::l.flatMap cb:=rfl
  rw [this]
  simp only [wo,Jt,ih]
  simp
theorem jd {v:Value} {i j:Nat} {S:zx} (h:j≠i):zU (jM j v) i S=zU v i S:=by
 cases v with
 | tuple vs=>simp only [jM,zU,Array.getElem?_modify,if_neg h]
 | _=>rfl
theorem aaE {v:Value} {S:zx}:zU (jM 0 v) 1 S=zU v 1 S:=jd (by decide)
theorem aap {v:Value} {S:zx}:zU (jM 0 v) 2 S=zU v 2 S:=jd (by decide)
theorem V7 {v:Value} {S:zx}:zU (jM 1 v) 2 S=zU v 2 S:=jd (by decide)
theorem X0 {v:Value} {S:zx}:zU (jM 0 v) 3 S=zU v 3 S:=jd (by decide)
theorem Va {v:Value} {S:zx}:zU (jM 1 v) 3 S=zU v 3 S:=jd (by decide)
theorem aaG {v:Value} {S:zx}:zU (jM 2 v) 3 S=zU v 3 S:=jd (by decide)
theorem Vj {v:Value} {S:zx}:zU (jM 0 v) 4 S=zU v 4 S:=jd (by decide)
theorem V3 {v:Value} {S:zx}:zU (jM 1 v) 4 S=zU v 4 S:=jd (by decide)
theorem aaL {v:Value} {S:zx}:zU (jM 2 v) 4 S=zU v 4 S:=jd (by decide)
theorem aaI {v:Value} {S:zx}:zU (jM 3 v) 4 S=zU v 4 S:=jd (by decide)
theorem VK {v:Value} {S:zx}:zU (jM 0 v) 5 S=zU v 5 S:=jd (by decide)
theorem aaD {v:Value} {S:zx}:zU (jM 1 v) 5 S=zU v 5 S:=jd (by decide)
theorem VN {v:Value} {S:zx}:zU (jM 2 v) 5 S=zU v 5 S:=jd (by decide)
theorem X4 {v:Value} {S:zx}:zU (jM 3 v) 5 S=zU v 5 S:=jd (by decide)
theorem Vz {v:Value} {S:zx}:zU (jM 4 v) 5 S=zU v 5 S:=jd (by decide)
abbrev by_ (k:Nat) (l:List UInt8):Value:=vs cb 1 k l
theorem XY {src dst:TypeId} {k:Nat} {l:List UInt8} (hs:P.underlying src=some (.slice te)) (he:P.underlying te=some (.int .u8)) (hd:P.underlying dst=some .string) (h:Okl k l):xM P src dst (by_ k l) S=some (.string ⟨l.toArray⟩,S):=by
 obtain ⟨e',h1,_⟩:=Q9 (e:=1) (h.okv (f:=cb))
 have hlen:(l.flatMap cb).length=l.length:=by rw [kF Yz];omega
 have hns:∀ s,by_ k l≠.string s:=by intro s;unfold by_ vs sv;split <;> (intro h;cases h)
 unfold xM
 split
 ·
  rename_i s hs;exact absurd hs (hns s)
 ·
  unfold by_ vs
  rw [h1]
  simp only [hs,hd,he,if_pos hlen,abL]
end
end Go.Abs
namespace Go.Abs
open Go.RowKit
def CLe (c d:FuncId→List Value→M Value):Prop:=∀ g a S r,c g a S=some r→d g a S=some r
section
variable {P:Program} {O:Ora} {c d:FuncId→List Value→M Value}
theorem J7 (h:CLe c d) {fx:Fx} {T:List Value} {o:Oper} {S:zx} {r:Value×zx} (hs:jW P fx c T o S=some r):jW P fx d T o S=some r:=by
 unfold jW at hs ⊢
 split at hs
 ·
  rename_i hok
  rw [if_pos hok]
  cases hop:o.op with
  | call q =>
   rw [hop] at hs
   dsimp only at hs ⊢
   cases hcal:q.callee with
   | value f =>
    rw [hcal] at hs
    dsimp only at hs ⊢
    split at hs
    ·
     rename_i g first captured hev
     exact h _ _ _ _ hs
    ·
     cases hs
   | builtin b=>rw [hcal] at hs;exact hs
   | invoke a b=>rw [hcal] at hs;cases hs
  | _=>rw [hop] at hs;exact hs
 ·
  cases hs
theorem aam (h:CLe c d) {fx:Fx} {ops:Array Oper}:∀ (l:List Oper) (T:List Value) (S:zx) (r:List Value×zx),jC P fx c ops l T S=some r→jC P fx d ops l T S=some r:=by
 intro l
 induction l with
 | nil=>intro T S r hs;exact hs
 | cons o l ih =>
  intro T S r hs
  simp only [jC] at hs ⊢
  split at hs
  ·
   rename_i hw
   rw [if_pos hw]
   split at hs
   ·
    rename_i v S' he
    rw [J7 h he]
    exact ih _ _ _ hs
   ·
    cases hs
  ·
   rename_i hw
   rw [if_neg hw]
   exact ih _ _ _ hs
theorem KW (h:CLe c d) {fx:Fx} {chk:List Nat} {nl:List (Nat×Nat)} {ops:Array Oper}:∀ (l:List Oper) (i:Nat) (hist:List (Value×zx)) (T:List Value) (S:zx) (r:List Value×zx),jS P fx chk nl c ops i hist l T S=some r→jS P fx chk nl d ops i hist l T S=some r:=by
 intro l
 induction l with
 | nil=>intro i hist T S r hs;exact hs
 | cons o l ih =>
  intro i hist T S r hs
  simp only [jS] at hs ⊢
  split at hs
  ·
   rename_i hw
   rw [if_pos hw]
   split at hs
   ·
    rename_i v S' he
    rw [J7 h he]
    dsimp only
    split at hs
    ·
     rename_i hq
     rw [if_pos hq]
     exact ih _ _ _ _ _ hs
    ·
     cases hs
   ·
    cases hs
  ·
   rename_i hw
   rw [if_neg hw]
   exact ih _ _ _ _ _ hs
theorem JU (h:CLe c d) {hp:Bool} {n m:Nat} (hn:n≤m):∀ (q:Code) (T:List Value) (S:zx) (r),jZ P hp c n q T S=some r→jZ P hp d m q T S=some r:=by
 intro q
 induction q with
 | skip=>intro T S r hs;exact hs
 | exit id=>intro T S r hs;exact hs
 | ret=>intro T S r hs;exact hs
 | region i ops dr =>
  intro T S r hs
  cases dr with
  | false =>
   simp only [jZ] at hs ⊢
   split at hs
   ·
    rename_i T1 S1 ho
    rw [aam h _ _ _ _ ho];exact hs
   ·
    cases hs
  | true =>
   simp only [jZ] at hs ⊢
   split at hs
   ·
    rename_i hd
    rw [if_pos hd]
    split at hs
    ·
     rename_i T1 S1 ho
     rw [KW h _ _ _ _ _ _ ho];exact hs
    ·
     cases hs
   ·
    cases hs
 | seq x y ihx ihy =>
  intro T S r hs
  simp only [jZ] at hs ⊢
  split at hs
  ·
   rename_i T1 S1 hx
   rw [ihx _ _ _ hx]
   exact ihy _ _ _ hs
  ·
   rename_i hne
   rw [ihx _ _ _ hs]
   split
   ·
    rename_i T1 S1 he;exact absurd (hs.trans he) (hne T1 S1)
   ·
    rfl
 | cond x y z ihy ihz =>
  intro T S r hs
  simp only [jZ] at hs ⊢
  split at hs
  ·
   rename_i hok
   rw [if_pos hok]
   split at hs
   ·
    rename_i hb;exact ihy _ _ _ hs
   ·
    rename_i hb;exact ihz _ _ _ hs
   ·
    cases hs
  ·
   cases hs
 | block id x ih =>
  intro T S r hs
  simp only [jZ] at hs ⊢
  split at hs
  ·
   rename_i id' T1 S1 hx
   rw [ih _ _ _ hx];exact hs
  ·
   rename_i hne
   rw [ih _ _ _ hs]
   split
   ·
    rename_i id' T1 S1 he;exact absurd (hs.trans he) (hne id' T1 S1)
   ·
    rfl
 | loop x ih =>
  intro T S r hs
  simp only [jZ] at hs ⊢
  have key:∀ (n:Nat) (T:List Value) (S:zx),∀ k,wW k (jZ P hp c n x) T S=some r→(∀ T S r,jZ P hp c n x T S=some r→jZ P hp d m x T S=some r)→wW k (jZ P hp d m x) T S=some r:=by
   intro n T S k hk hx
   induction k generalizing T S with
   | zero=>cases hk
   | succ k ihk =>
    simp only [wW] at hk ⊢
    split at hk
    ·
     rename_i T1 S1 h1
     rw [hx _ _ _ h1]
     exact ihk _ _ hk
    ·
     rename_i hne
     rw [hx _ _ _ hk]
     split
     ·
      rename_i T1 S1 he;exact absurd (hk.trans he) (hne T1 S1)
     ·
      rfl
  exact WR hn (key n T S n hs ih)
 | _=>intro T S r hs;simp only [jZ] at hs;cases hs
theorem Xb {hps:FuncId→Bool} {hp:Bool} (h:CLe c d):CLe (jr hps hp c) (jr hps hp d):=by
 cases hp with
 | false=>exact h
 | true =>
  intro g a S r hs
  unfold jr at hs ⊢
  dsimp only at hs ⊢
  split at hs
  ·
   rename_i hg;rw [if_pos hg];exact h _ _ _ _ hs
  ·
   rename_i hg
   rw [if_neg hg]
   split at hs <;> first | (cases hs;done) | skip
   rename_i m S1 hf
   split at hs <;> first | (cases hs;done) | skip
   rename_i r0 hr0
   (try rw [hf])
   (try dsimp only)
   rw [h _ _ _ _ hr0]
   exact hs
theorem Qd (h:CLe c d) {hp:Bool} {n m:Nat} (hn:n≤m) {fn:Func} {q:Code} {a:List Value} {S:zx} {r:Value×zx} (hs:aaM P hp c n fn q a S=some r):aaM P hp d m fn q a S=some r:=by
 unfold aaM at hs ⊢
 split at hs
 ·
  rename_i T1 S1 hx
  rw [JU h hn _ _ _ _ hx];exact hs
 ·
  rename_i T1 S1 hx
  rw [JU h hn _ _ _ _ hx];exact hs
 ·
  cases hs
theorem abq:∀ (n m:Nat),n≤m→CLe (qo P O n) (qo P O m):=by
 intro n
 induction n with
 | zero=>intro m _ g a S r h;cases h
 | succ n ih =>
  intro m hm g a S r h
  obtain ⟨m,rfl⟩:∃ k,m=k+1:=⟨m - 1,by omega⟩
  simp only [qo] at h ⊢
  cases ho:O.fn g with
  | some q=>rw [ho] at h;exact h
  | none =>
   rw [ho] at h
   dsimp only at h ⊢
   cases hf:P.funcs[g]? with
   | none=>rw [hf] at h;cases h
   | some fn =>
    rw [hf] at h
    dsimp only at h ⊢
    split at h
    ·
     cases h
    ·
     rename_i hn
     rw [if_neg hn]
     cases hb:fn.body with
     | none=>rw [hb] at h;cases h
     | some q =>
      rw [hb] at h
      dsimp only at h ⊢
      have hc:=Xb (hps:=O.hp) (hp:=O.hp g) (ih m (by omega))
      split at h
      ·
       rename_i hpu
       rw [if_pos hpu]
       unfold X5 at h ⊢
       split at h <;> first | (cases h;done) | skip
       rename_i hca
       rw [if_pos hca]
       split at h <;> first | (cases h;done) | skip
       rename_i v1 S1 hr
       rw [Qd hc (by omega) hr]
       exact h
      ·
       rename_i hpu
       rw [if_neg hpu]
       exact Qd hc (by omega) h
theorem abm {n:Nat} {g:FuncId} {args:List Value} {S:zx} {r:Value×zx} (h:qo P O n g args S=some r):jf P O g args S=some r :=
 Yo ⟨n,fun k hk=>abq n k hk _ _ _ _ h⟩
end
end Go.Abs
namespace Go.Abs
open Go.RowKit
theorem aa8 (x:(Ty.slc 1 (.int .u8)).Val) (hg:(Ty.slc 1 (.int .u8)).Good x):∃ k l,Okl k l∧k≠2∧(Ty.slc 1 (.int .u8)).ZV x=[by_ k l]∧l.length≤140737488351232:=by
 match x,hg with
 | none,_=>exact ⟨0,[],Okl.none,by decide,rfl,by simp⟩
 | some xs,hg =>
  obtain ⟨h1,h2,h3⟩:=hg
  have key:∀ xs:List Int,(∀ n ∈ xs,(Lit.int .u8 n).wf=true)→(xs.flatMap fun n=>[Value.int .u8 n])=(xs.map fun n=>UInt8.ofNat n.toNat).flatMap cb:=by
   intro xs
   induction xs with
   | nil=>intro _;rfl
   | cons n xs ih =>
    intro h
    have hw:=h n (by simp)
    simp [Lit.wf,IntKind.min,IntKind.max,IntKind.signed,IntKind.bits] at hw
    have e:(Value.int .u8 n)=.int .u8 ((UInt8.ofNat n.toNat).toNat:Int):=by
     simp only [UInt8.toNat_ofNat']
     congr 1
     omega
    rw [List.flatMap_cons,ih (fun m hm=>h m (by simp [hm])),List.map_cons,List.flatMap_cons,e]
    rfl
  refine ⟨1,(show List Int from xs).map fun n=>UInt8.ofNat n.toNat,Okl.read,by decide,?_,?_⟩
  ·
   have e:=key (show List Int from xs) h3
   show [SL 1 1 (show List Int from xs).length ((show List Int from xs).flatMap fun n=>[Value.int .u8 n])]=[_]
   unfold by_ vs
   rw [sv1,List.length_map,← e]
  ·
   have:(show List Int from xs).length * 1≤140737488351232:=h1
   rw [List.length_map];omega
theorem ad2 {n:Int} (h:(Lit.int .i64 n).wf=true):-9223372036854775808≤n∧n < 9223372036854775808:=by
 simp [Lit.wf,IntKind.min,IntKind.max,IntKind.signed,IntKind.bits] at h
 omega
theorem aea {P:Program} {hp:Bool} {ts:Array TypeId} {ty:TypeId} {k:IntKind} {a b:Int} {S:zx}:yc P hp .min ts ty [.int k a,.int k b] S=some (.int k (if b < a then b else a),S):=by
 show jH P [.int k a,.int k b] (Builtin.min_ ts ty #[.int k a,.int k b]) S=_
 exact jl rfl rfl rfl
theorem adz {P:Program} {hp:Bool} {ts:Array TypeId} {ty:TypeId} {k:IntKind} {a b:Int} {S:zx}:yc P hp .max ts ty [.int k a,.int k b] S=some (.int k (if b > a then b else a),S):=by
 show jH P [.int k a,.int k b] (Builtin.max_ ts ty #[.int k a,.int k b]) S=_
 exact jl rfl rfl rfl
def yF (call:FuncId→List Value→M Value) (g:FuncId) (args:List Value):M Value:=fun S=>match qJ args S with
 | some (m,S1)=>match call g m S1 with
  | some r=>some (Kz S S1 args r)
  | none=>none
 | none=>none
theorem Wh {x:Value} {S:zx} (h:vJ x=false):vF x S=some (x,S):=by
 unfold vF
 split <;> first | rfl | (simp [vJ] at h)
theorem Wy:∀ {l:List Value} {S:zx},l.all (fun x=>!vJ x)=true→qP l S=some (l,S)
 | [],S,_=>rfl
 | x::l,S,h=>by
  rw [List.all_cons,Bool.and_eq_true] at h
  have h1:vJ x=false:=by simpa using h.1
  simp only [qP,Wh h1,Wy h.2]
theorem XD {x:Value} {S:zx} (h:ZR x=false):ZX x S=some (x,S):=by
 unfold ZX
 split
 ·
  rename_i cs
  have h1:cs.toList.all (fun x=>!vJ x)=true:=by
   rw [List.all_eq_true]
   intro y hy
   have:cs.toList.any vJ=false:=h
   rw [List.any_eq_false] at this
   simpa using this y hy
  rw [Wy h1]
 ·
  rename_i hne
  refine Wh ?_
  cases x <;> first | rfl | exact h | (exact absurd rfl (hne _))
theorem Jr:∀ {l:List Value} {S:zx},l.all (fun x=>!ZR x)=true→qJ l S=some (l,S)
 | [],S,_=>rfl
 | x::l,S,h=>by
  rw [List.all_cons,Bool.and_eq_true] at h
  have h1:ZR x=false:=by simpa using h.1
  simp only [qJ,XD h1,Jr h.2]
theorem abl {call:FuncId→List Value→M Value} {g:FuncId} {args:List Value} {S:zx} (h:args.all (fun x=>!ZR x)=true):yF call g args S=call g args S:=by
 have hn:args.any ZR=false:=by
  rw [List.any_eq_false];intro x hx
  have:=List.all_eq_true.1 h x hx
  simpa using this
 unfold yF;rw [Jr h]
 dsimp only
 cases call g args S with
 | none=>rfl
 | some r=>dsimp only;rw [Kz,hn];rfl
end Go.Abs
namespace Go.Abs
open Go.RowKit
section
variable {P:Program} {μ μ1:Mu} {S S1 H H1:zx} {ω ω1:Nat→Option wB}
def Yk (n:Nat) (lg:List Nat) (μ:Mu):Mu:=⟨fun q=>if q < n then μ q else none,μ.hid,lg⟩
theorem yS {n q:Nat} {lg:List Nat} {μ:Mu} {x:Nat×Bool} (h:Yk n lg μ q=some x):μ q=some x∧q < n:=by
 simp only [Yk] at h
 split at h
 ·
  exact ⟨h,by assumption⟩
 ·
  cases h
theorem kE {n q:Nat} {lg:List Nat} {μ:Mu} (h:q < n):Yk n lg μ q=μ q:=if_pos h
theorem xH.cut {n r:Nat} {lg:List Nat} {μ:Mu} (h:xH μ r):xH (Yk n lg μ) r:=⟨fun q hq=>h.1 q (yS hq).1,h.2⟩
theorem VV.cut {n:Nat} {lg:List Nat} (hf:∀ q,n≤q→μ q=none) {ℓ:Option wB} {v a:Value} (h:VV μ1 H1 ω1 ℓ v a):∀ {H0:zx} {ω0:Nat→Option wB} {ℓ0:Option wB} {a0:Value},VV μ H0 ω0 ℓ0 v a0→VV (Yk n lg μ1) H1 ω1 ℓ v a:=by
 have lt:∀ {q:Nat} {x:Nat×Bool},μ q=some x→q < n:=fun {q x} h=>Nat.lt_of_not_le fun hn=>by rw [hf q hn] at h;cases h
 induction h with
 | sg h=>intro _ _ _ _ _;exact .sg h
 | ptr h =>
  intro _ _ _ _ h0
  cases h0 with
  | sg hs=>simp [Go.Abs.sg] at hs
  | ptr k=>exact .ptr (by rw [kE (lt k)];exact h)
 | map h =>
  intro _ _ _ _ h0
  cases h0 with
  | sg hs=>simp [Go.Abs.sg] at hs
  | map k=>exact .map (by rw [kE (lt k)];exact h)
 | slm h =>
  intro _ _ _ _ h0
  cases h0 with
  | sg hs=>simp [Go.Abs.sg] at hs
  | slm k=>exact .slm (by rw [kE (lt k)];exact h)
 | slE=>intro _ _ _ _ _;exact .slE
 | sl hr hp hg hl hn hc ih =>
  intro _ _ _ _ h0
  cases h0 with
  | sg hs=>simp [Go.Abs.sg] at hs
  | slE=>exact .sl hr hp.cut hg hl hn (fun i hi=>by simp at hi)
  | sl _ _ _ _ _ k=>exact .sl hr hp.cut hg hl hn (fun i hi=>ih i hi (k i hi))
 | so hω hr hp hg hl hn hc ih =>
  intro _ _ _ _ h0
  cases h0 with
  | sg hs=>simp [Go.Abs.sg] at hs
  | so _ _ _ _ _ _ k=>exact .so hω hr hp.cut hg hl hn (fun i hi=>ih i hi (k i hi))
 | ep hr hp hg hl hc ih =>
  intro _ _ _ _ h0
  cases h0 with
  | sg hs=>simp [Go.Abs.sg] at hs
  | ep _ _ _ _ k=>exact .ep hr hp.cut hg hl (fun i hi=>ih i hi (k i hi))
 | func fn hx hc h1 h2 ih1 ih2 =>
  intro _ _ _ _ h0
  cases h0 with
  | sg hs=>simp [Go.Abs.sg] at hs
  | func _ _ _ k1 k2=>exact .func fn hx hc (fun i=>ih1 i (k1 i)) (fun i=>ih2 i (k2 i))
 | agg hx hh ih =>
  intro _ _ _ _ h0
  cases h0 with
  | sg hs=>simp [Go.Abs.sg] at hs
  | agg _ k=>exact .agg hx (fun i=>ih i (k i))
 | nores=>intro _ _ _ _ _;exact .nores
 | tuple hx hh ih =>
  intro _ _ _ _ h0
  cases h0 with
  | sg hs=>simp [Go.Abs.sg] at hs
  | nores=>exact .tuple hx (fun i=>ih i (a0:=Go.undef) (show VV μ H1 ω1 none ((#[]:Array Value).getD i Go.undef) Go.undef from by simpa using VV.zh))
  | tuple _ k=>exact .tuple hx (fun i=>ih i (k i))
structure Ext (S S1:zx):Prop where
 next:S.next≤S1.next
 get:∀ k,k < S.next→S1.get k=S.get k
 log:∃ new,S1.log=new++S.log∧∀ k ∈ new,S.next≤k
theorem Ext.refl (S:zx):Ext S S:=⟨Nat.le_refl _,fun _ _=>rfl,[],rfl,fun k h=>by cases h⟩
theorem Ext.trans {S2:zx} (h:Ext S S1) (k:Ext S1 S2):Ext S S2:=⟨Nat.le_trans h.1 k.1,fun q hq=>(k.2 q (Nat.lt_of_lt_of_le hq h.1)).trans (h.2 q hq),by
 obtain ⟨n1,e1,f1⟩:=h.log
 obtain ⟨n2,e2,f2⟩:=k.log
 refine ⟨n2++n1,by rw [e2,e1,List.append_assoc],fun q hq=>?_⟩
 rcases List.mem_append.1 hq with hq | hq
 ·
  exact Nat.le_trans h.1 (f2 q hq)
 ·
  exact f1 q hq⟩
theorem Ext.push (S:zx) (o:wU):Ext S (S.push o):=⟨by simp,fun k hk=>by rw [zx.zS,if_neg (by omega)],[],rfl,fun k h=>by cases h⟩
theorem Ext.set {S S1:zx} (h:Ext S S1) {r:Nat} (hr:S.next≤r) (o:wU):Ext S (S1.set r o):=⟨by simpa using h.1,fun k hk=>by rw [zx.zW,if_neg (by omega)];exact h.2 k hk,by
 obtain ⟨n1,e1,f1⟩:=h.log
 refine ⟨r::n1,by rw [zx.Ya,e1];rfl,fun q hq=>?_⟩
 rcases List.mem_cons.1 hq with rfl | hq
 ·
  exact hr
 ·
  exact f1 q hq⟩
theorem GI.cut (hG:GI μ S H) (hG1:GI μ1 S1 H1) (hE:Ext S S1):GI (Yk S.next S.log μ1) S H1:=by
 have lt:∀ {q o},S.get q=some o→o.alive=true→q < S.next:=fun {q o} h ha=>by
  obtain ⟨r,o',h1,_⟩:=hG.obj q o h ha
  exact Nat.lt_of_not_le fun hn=>by rw [hG.fresh q hn] at h1;cases h1
 refine ⟨fun q o ho ha=>?_,fun q q' r h1 h2=>hG1.inj q q' r (yS h1).1 (yS h2).1,fun q r b h=>hG1.lt q r b (yS h).1,fun q h=>if_neg (by omega),fun q r h=>hG1.vis q r (yS h).1,hG1.hlt,rfl,hG.anc⟩
 have hq:=lt ho ha
 obtain ⟨r1,o1,h1,h2,h3⟩:=hG1.obj q o (by rw [hE.2 q hq];exact ho) ha
 obtain ⟨r0,o0,k1,k2,k3⟩:=hG.obj q o ho ha
 refine ⟨r1,o1,by rw [kE hq];exact h1,h2,?_⟩
 cases o with
 | cells cs own esz =>
  cases o1 with
  | cells cs1 own1 esz1 =>
   cases o0 with
   | cells cs0 own0 esz0 =>
    obtain ⟨e1,w1,l1⟩:=h3
    obtain ⟨e0,w0,l0⟩:=k3
    refine ⟨e1,?_,l1.1,fun i=>(l1.2 i).cut hG.fresh (l0.2 i)⟩
    cases own with
    | ro=>cases own1 with
     | ro=>exact True.intro
     | own a=>exact w1.elim
    | own a=>cases own1 with
     | ro=>exact w1.elim
     | own a1=>cases own0 with
      | ro=>exact w0.elim
      | own a0 =>
       refine JG.mono w1 fun b hb r hr=>?_
       obtain ⟨r2,h2⟩:=JG.left w0 b hb
       rw [kE (Nat.lt_of_not_le fun hn=>by rw [hG.fresh b hn] at h2;cases h2)]
       exact hr
   | map es c=>exact k3.elim
   | dead=>exact k3.elim
  | map es c=>exact h3.elim
  | dead=>exact h3.elim
 | map es c =>
  cases o1 with
  | map es1 c1 =>
   cases o0 with
   | map es0 c0 =>
    obtain ⟨e1,w1,l1⟩:=h3
    obtain ⟨e0,w0,l0⟩:=k3
    refine ⟨e1,w1,fun i e he=>?_⟩
    obtain ⟨e',p1,p2,p3,p4⟩:=l1 i e he
    obtain ⟨e'',q1,q2,q3,q4⟩:=l0 i e he
    exact ⟨e',p1,p2,p3,p4.cut hG.fresh q4⟩
   | cells cs own e=>exact k3.elim
   | dead=>exact k3.elim
  | cells cs own e=>exact h3.elim
  | dead=>exact h3.elim
 | dead=>cases ha
inductive Lower (S:zx) (v1:Value) (S1:zx):Value→Prop
 | same (h:ground v1=true):Lower S v1 S1 v1
 | own {r n e:Nat} {cs:List Value} (hv:v1=.slice (some ⟨r,0,none⟩) n n) (hr:S.next≤r) (hg:S1.get r=some (.cells cs (.own []) e)) (hn:cs.length=n * e) (hs:cs.all sg=true):Lower S v1 S1 (SL 2 e n cs)
theorem adQ {O0:Ora} (hO:Qp P O0) {f:FuncId} {q:List Value→M Value} (h:∀ args S v S',q args S=some (v,S')→S'=S∧∃ v1 S1,jf P O0 f args S=some (v1,S1)∧Ext S S1∧Lower S v1 S1 v) :
  vS P (fun g args=>if g=f then q args else fun _=>none):=by
 intro g args aargs S v S' hq μ H ω hG hA hD hE
 dsimp only at hq
 split at hq
 ·
  rename_i hgf
  subst hgf
  obtain ⟨rfl,v1,S1,hv,hx,hlow⟩:=h _ _ _ _ hq
  obtain ⟨a,H1,μ1,ω1,k1,k2,k3,k4,k5,k6⟩:=aau hO g args aargs S' v1 S1 hv μ H ω hG hA hD hE
  have hL:Later μ H (Yk S'.next S'.log μ1) H1:=by
   refine ⟨fun q r b hm=>?_,k3.next,fun q r hm=>k3.new q r (yS hm).1,k3.hid,k3.same,(by
    obtain ⟨new,n1,n2⟩:=k3.still
    obtain ⟨nx,x1,x2⟩:=hx.log
    refine ⟨[],by show S'.log=_;rw [hG.log];rfl,fun q r hq _=>?_⟩
    have hqn:q < S'.next:=Nat.lt_of_not_le fun hn=>by rw [hG.fresh q hn] at hq;cases hq
    have hnew:q ∉ new:=fun hm=>by
     rw [k2.log,hG.log,x1] at n1
     have:=List.append_cancel_right n1
     subst this
     have:=x2 q hm
     omega
    obtain ⟨p1,p2⟩:=n2 q r hq hnew
    exact ⟨by rw [kE hqn];exact p1,p2⟩),fun r l own e hr hp hg=>k3.cells r l own e hr hp hg⟩
   obtain ⟨b',hb⟩:=k3.mu q r b hm
   exact ⟨b',by rw [kE (Nat.lt_of_not_le fun hn=>by rw [hG.fresh q hn] at hm;cases hm)];exact hb⟩
  have hDom:Dom (Yk S'.next S'.log μ1) H1 ω1:=fun r s hr=>⟨(k5 r s hr).1,(k5 r s hr).2.cut⟩
  cases hlow with
  | same hgr =>
   have:a=v:=zY k6.v0 hgr
   subst this
   exact ⟨a,H1,_,ω1,k1,hG.cut k2 hx,hL,k4,hDom,VV.jQ hgr⟩
  | @own r n e cs hv1 hr hg hn hs =>
   subst hv1
   cases k6 with
   | sg hs=>simp [Go.Abs.sg] at hs
   | @slm _ _ _ r' b _ hm =>
    obtain ⟨r2,l,own',ho,hm',hg',hl⟩:=k2.cells hg
    rw [hm] at hm';cases hm'
    cases own' with
    | ro=>exact ho.elim
    | own anc' =>
    have hpr:xH (Yk S'.next S'.log μ1) r':=⟨fun q hq=>by
     obtain ⟨h1,h2⟩:=yS hq
     have:=k2.inj q r r' h1 hm
     omega,k2.vis r r' hm⟩
    have hnω:∀ x s,ω1 x=some s→x≠r':=fun x s hx e=>(k5 x s hx).2.1 r (by rw [e];exact hm)
    refine ⟨_,H1,_,fun x=>if x=r' then some (.res none) else ω1 x,k1,hG.cut k2 hx,hL,fun x hx=>?_,fun x s hx=>?_,?_⟩
    ·
     obtain ⟨e1,e2⟩:=k4 x hx
     exact ⟨by dsimp only;rw [if_neg (hnω x _ e1)];exact e1,e2⟩
    ·
     dsimp only at hx
     split at hx
     ·
      rename_i e1;subst e1;exact ⟨k2.lt r x _ hm,hpr⟩
     ·
      exact hDom x s hx
    ·
     refine .so (by simp) (k2.lt r r' _ hm) hpr hg' (by rw [← hl.1];exact hn) (by simpa using hn) fun i hi=>?_
     have h2:=hl.2 i
     have hi':i < cs.length:=by omega
     have hsi:sg (cs.getD i zh)=true:=by
      rw [List.getD_eq_getElem?_getD,List.getElem?_eq_getElem hi']
      exact List.all_eq_true.1 hs _ (List.getElem_mem hi')
     have:l.getD i zh=cs.getD i zh:=by
      generalize cs.getD i zh=u at h2 hsi
      generalize l.getD i zh=u' at h2
      cases h2 <;> first | rfl | (simp [Go.Abs.sg] at hsi)
     simp only [List.toList_toArray]
     rw [this]
     exact .sg hsi
 ·
  cases hq
end
end Go.Abs
namespace Go.Abs
open Go.RowKit
section
variable {P:Program} {S:zx} {t te tx tex:TypeId} {q o n c e i r:Nat} {cs:List Value} {own:Own} {anc:List Nat} {v x:Value} {hp:Bool}
theorem jO (a:Addr) (S:zx):jk (.pointer (some a)) S=some (.pointer (some a),S):=Eq.trans rfl rfl
theorem vU (h:S.get q=some (.cells cs own e)) (ha:yQ P t=some false) (hv:cs[o]?=some v) (hn:∀ l,v≠.agg l):je P false t (.pointer (some ⟨q,o,none⟩)) S=some (dem v,S):=by
 unfold je
 simp only [Bool.false_eq_true,if_false]
 have:wI P t (.pointer (some ⟨q,o,none⟩)) S=some (v,S):=by simp only [wI,h,ha,hv]
 rw [this]
 split
 ·
  rename_i l S2 he;cases he;exact absurd rfl (hn _)
 ·
  rename_i v2 S2 _ he;cases he;rfl
 ·
  rename_i he;cases he
theorem wM {k:IntKind} {m:Int} (h:S.get q=some (.cells cs own e)) (ha:yQ P t=some false) (hv:cs[o]?=some (.int k m)):je P false t (.pointer (some ⟨q,o,none⟩)) S=some (.int k m,S) :=
 vU h ha hv (fun l h=>by cases h)
theorem qN {a:Option Addr} {n c:Nat} (h:S.get q=some (.cells cs own e)) (ha:yQ P t=some false) (hv:cs[o]?=some (.slice a n c)):je P false t (.pointer (some ⟨q,o,none⟩)) S=some (.slice a n c,S) :=
 vU h ha hv (fun l h=>by cases h)
theorem aaW (h:S.get q=some (.cells cs own e)) (ha:yQ P t=some true) (hs:qc P t=some n) (hle:o+n≤cs.length):je P false t (.pointer (some ⟨q,o,none⟩)) S=some (.agg (((cs.drop o).take n).toArray.map qC),S):=by
 unfold je
 simp only [Bool.false_eq_true,if_false]
 have:wI P t (.pointer (some ⟨q,o,none⟩)) S=some (.agg ((cs.drop o).take n).toArray,S):=by simp only [wI,h,ha,hs,if_pos hle]
 rw [this]
theorem wX (h:S.get q=some (.cells cs (.own anc) e)) (hs:qc P t=some n) (hx:x.cells.size=n) (h1:x.cells.toList.all (·.oneCell')=true) (hle:o+n≤cs.length) :
  jD P t (.pointer (some ⟨q,o,none⟩)) x S=some (zh,(S.kills anc).set q (.cells (splice cs o x.cells.toList) (.own []) e)):=by
 simp only [jD,xX,h,hs,if_pos hx,if_pos h1,if_pos hle]
theorem acN {k:IntKind} {j:Int} {sz:Nat} (ht:P.underlying t=some (.slice te)) (hs:qc P te=some sz) (h0:0≤j) (hj:j < n):jy P t (.slice (some ⟨q,o,none⟩) n c) (.int k j) S=some (.pointer (some ⟨q,o+j.toNat * sz,none⟩),S):=by
 simp only [jy,jA,ht,hs]
 rw [if_pos ⟨h0,hj⟩]
theorem kV (ht:P.underlying t=some (.slice te)) (a:Option Addr) (n c:Nat) (S:zx):vK P t (.slice a n c) S=some (goInt n,S):=by
 simp only [vK,Y5,ht]
theorem Vk {lo hi:Option Value} {l h:Int} {dr:Bool} (hd:dr=false) (hg:S.get q=some (.cells cs own e)) (ht:P.underlying t=some (.slice te)) (hs:qc P te=some e) (hl:yJ 0 lo=some l) (hh:yJ n hi=some h) (h0:0≤l) (h1:l≤h) (h2:h≤n) :
  wQ P dr t (.slice (some ⟨q,o,none⟩) n c) lo hi S=some (.slice (some ⟨q,o+l.toNat * e,none⟩) (h.toNat - l.toNat) (h.toNat - l.toNat),S):=by
 subst hd
 simp only [wQ,vJ,if_true,Bool.false_eq_true,if_false,yO,ht,hs,hl,hh,if_pos h0,if_pos h1,if_pos h2,hg]
theorem aaz {lo hi:Option Value} {l h:Int} {dr:Bool} (ht:P.underlying t=some (.slice te)) (hs:qc P te=some e) (hl:yJ 0 lo=some l) (hh:yJ 0 hi=some h) (h0:0≤l) (h1:l≤h) (h2:h≤0) :
  wQ P dr t (.slice none 0 0) lo hi S=some (.slice none 0 0,S):=by
 have h2':h≤((0:Nat):Int):=h2
 simp only [wQ,vJ,Bool.false_eq_true,if_false,kM,ht,vSl,hs,hl,hh,if_pos h0,if_pos h1,if_pos h2']
theorem acF {k m:Nat} {ds:List Value} (htx:P.underlying tx=some (.slice tex)) (hx:Okv k m ds) (hm:ds.length=m * e) (h2:ds.all (·.oneCell')=true):ac9 P tx e (sv k e m ds)=some (m,ds):=by
 obtain ⟨e',q1,q2⟩:=Q9 (e:=e) hx
 have hns:∀ s,sv k e m ds≠.string s:=by intro s;unfold sv;split <;> (intro h;cases h)
 have hcond:m=0∨e'=e:=q2.elim .inr fun h=>.inl h.1
 unfold ac9
 split
 ·
  rename_i s hs;exact absurd hs (hns s)
 ·
  simp only [htx,q1,if_pos hcond,if_pos hm,h2,if_true]
theorem QO {k m:Nat} {ds:List Value} (htx:P.underlying tx=some (.slice tex)) (hx:Okv k m ds) (hm:ds.length=m * e) (h2:ds.all (·.oneCell')=true):Zp P tx e (sv k e m ds) S=some (m,ds):=by
 unfold Zp
 rw [Ju]
 exact acF htx hx hm h2
theorem VF {m:Nat} (htx:P.underlying tx=some (.slice tex)) (hg:S.get q=some (.cells cs own i)) (hm:o+m * e≤cs.length) (h2:((cs.drop o).take (m * e)).all (·.oneCell')=true):Zp P tx e (.slice (some ⟨q,o,none⟩) m c) S=some (m,(cs.drop o).take (m * e)):=by
 simp only [Zp,vJ,if_true,yg,htx,wK,hg]
 rw [if_pos hm]
 dsimp only
 rw [if_pos h2]
theorem WA {bytes k:Nat} {z:Value} {news:List Value} (hel:P.underlying t=some (.slice te)) (he:qc P te=some e) (hz:zeroOf P te=some z) (hzs:z.cells.size=e) (hb:bytesOf P te=some bytes) (hpos:0 < e) (hsrc:Zp P tx e x S=some (k,news))
  (hg:S.get q=some (.cells cs (.own anc) e)) (hle:o+n * e≤cs.length) (hmax:(n+k) * bytes≤140737488355328) (hmax2:n+k≤4611686018427387903) (h1:((cs.drop o).take (n * e)).all (·.oneCell')=true) :
  wO P hp t tx (.slice (some ⟨q,o,none⟩) n c) x S=some (.slice (some ⟨S.next,0,none⟩) (n+k) (n+k),
   if o+n * e=cs.length then (S.set q (.cells cs .ro e)).push (.cells ((cs.drop o).take (n * e)++news) (.own (if n * e=0 then [] else q::anc)) e)
   else ((S.kills anc).set q .dead).push (.cells ((cs.drop o).take (n * e)++news) (.own []) e)):=by
 have hel2:jX P t=some te:=by simp only [jX,hel]
 simp only [wO,hel2,he,hz,hb,if_pos hpos,if_pos hzs,hsrc,hg,if_true,if_pos hle,if_pos hmax,if_pos hmax2,if_pos h1,yC]
 by_cases h:o+n * e=cs.length
 ·
  rw [if_pos h,if_pos h]
 ·
  rw [if_neg h,if_neg h]
theorem Xm {bytes k:Nat} {z:Value} {news:List Value} (hel:P.underlying t=some (.slice te)) (he:qc P te=some e) (hz:zeroOf P te=some z) (hzs:z.cells.size=e) (hb:bytesOf P te=some bytes) (hpos:0 < e) (hsrc:Zp P tx e x S=some (k,news))
  (hmax:k * bytes≤140737488355328) (hmax2:k≤4611686018427387903) :
  wO P true t tx (.slice none 0 0) x S=some (if k=0 then .slice none 0 0 else .slice (some ⟨S.next,0,none⟩) k k,if k=0 then S else S.push (.cells news (.own []) e)):=by
 have hel2:jX P t=some te:=by simp only [jX,hel]
 simp only [wO,hel2,he,hz,hb,if_pos hpos,if_pos hzs,hsrc,if_pos hmax,if_pos hmax2,if_true]
 by_cases h:k=0
 ·
  rw [if_pos h,if_pos h,if_pos h]
 ·
  rw [if_neg h,if_neg h,if_neg h]
theorem acM {r2 o2 c2:Nat} {cs2:List Value} {own2:Own} {e2:Nat} (ht:P.underlying t=some (.slice te)) (hs:qc P te=some e) (hg2:S.get r2=some (.cells cs2 own2 e2)) (hle2:o2+n * e≤cs2.length) (hg:S.get q=some (.cells cs (.own anc) i)) (hn:n≠0) (hle:o+n * e≤cs.length) (h1:((cs2.drop o2).take (n * e)).all (·.oneCell')=true) :
  JI P t tx (.slice (some ⟨q,o,none⟩) n c) (.slice (some ⟨r2,o2,none⟩) n c2) S=some (goInt n,(S.kills anc).set q (.cells (splice cs o ((cs2.drop o2).take (n * e))) (.own []) i)):=by
 have hel2:jX P t=some te:=by simp only [jX,ht]
 have hmin:Nat.min n n=n:=Nat.min_self n
 simp only [JI,hel2,hs,Ja,hmin,if_neg hn,hg,wK,hg2,if_pos hle2,if_pos hle,h1,if_true]
theorem Y2 (ht:P.underlying t=some (.slice te)) (hs:qc P te=some e) (c2:Nat) (s:Value) (hsn:∃ f,Ja s S=some (0,f)) (a:Option Addr) (ha:a=none∨∃ q o,a=some ⟨q,o,none⟩):JI P t tx (.slice a 0 0) s S=some (goInt 0,S):=by
 have hel2:jX P t=some te:=by simp only [jX,ht]
 obtain ⟨f,hf⟩:=hsn
 have hmin:Nat.min 0 0=0:=Nat.min_self 0
 rcases ha with rfl | ⟨q,o,rfl⟩
 ·
  simp only [JI,hel2,hs,hf]
 ·
  simp only [JI,hel2,hs,hf,hmin,if_true]
theorem KR {l:Nat} {k k2:IntKind} {z:Value} {bytes:Nat} (ht:P.underlying t=some (.slice te)) (he:qc P te=some e) (hz:zeroOf P te=some z) (hb:bytesOf P te=some bytes) (hgz:ground z=true) (hzs:z.cells.size=e) (hpos:0 < e) (hmax:l * bytes≤140737488355328) (hmax2:l≤9223372036854775807) :
  jJ P t (.int k l) (.int k2 l) S=some (.slice (some ⟨S.next,0,none⟩) l l,S.push (.cells (zl z.cells.toList l) (.own []) e)):=by
 have hel2:jX P t=some te:=by simp only [jX,ht]
 have h0:(0:Int)≤(l:Int):=by omega
 have h1:(l:Int) * bytes≤140737488355328:=by
  have h:((l * bytes:Nat):Int)≤140737488355328:=by omega
  rwa [Int.natCast_mul] at h
 have h2:(l:Int)≤9223372036854775807:=by omega
 simp only [jJ,hel2,he,hz,hb,if_pos hgz,if_pos hzs,if_pos hpos,if_pos h0,Int.le_refl,if_true,if_pos h1,if_pos h2,Int.toNat_natCast]
end
theorem aaR {α:Type} {f:α→List Value} {e k d:Nat} {l:List α} (hk:k≤2) (h:∀ x ∈ l,(f x).all (jc d)=true):jc (d+4) (vs f e k l)=true:=by
 unfold vs sv
 split
 ·
  rfl
 ·
  show ((l.flatMap f).toArray.toList.all (jc d))=true
  rw [List.toList_toArray,List.all_flatMap,List.all_eq_true]
  exact h
theorem KC {k d:Nat} {l:List UInt8} (hk:k≤2):jc (d+5) (by_ k l)=true:=aaR hk (fun _ _=>rfl)
theorem all1 {p:Value→Bool} {a:Value} (h:p a=true):[a].all p=true:=by simp [h]
theorem abe {k e n:Nat} {cs:List Value}:(sv k e n cs).cells=#[sv k e n cs]:=by unfold sv;split <;> rfl
theorem ZW {α:Type} {f:α→List Value} {e k:Nat} {l:List α}:(vs f e k l).cells=#[vs f e k l]:=abe
theorem acY {k e n:Nat} {cs:List Value}:qC (sv k e n cs)=sv (if k=2 then 1 else k) e n cs:=by rw [← KN];unfold sv;split <;> rfl
theorem ac2 {α:Type} {f:α→List Value} {e k:Nat} {l:List α}:qC (vs f e k l)=vs f e (if k=2 then 1 else k) l:=acY
theorem Q7 {k:IntKind} {n:Int}:qC (.int k n)=.int k n:=rfl
theorem yK {x:Array Value}:(Value.agg x).cells=x:=rfl
theorem aaF {k:IntKind} {n:Int}:(Value.int k n).cells=#[.int k n]:=rfl
@[simp] theorem Qc (a:Option Addr) (n c:Nat):dem (.slice a n c)=.slice a n c:=Eq.trans rfl rfl
@[simp] theorem V6 (a:Option Nat):dem (.map a)=.map a:=Eq.trans rfl rfl
theorem wrap_i64 {n:Int} (h0:-9223372036854775808≤n) (h:n < 9223372036854775808):IntKind.i64.wrap n=n:=by
 simp [IntKind.wrap,IntKind.bits,IntKind.signed]
 split <;> omega
theorem adX {α:Type} {l pre suf:List α} {n:α} (hl:l=pre++n::suf) (h:Int.toNat (pre.length:Int) < l.length):l[Int.toNat (pre.length:Int)]=n:=by
 subst hl;simp
theorem aec (k:Nat):(if (if k=2 then 1 else k)=2 then 1 else if k=2 then 1 else k)=if k=2 then 1 else k:=by split <;> simp_all
theorem ZN (Sa Sb:zx):yM zh Sa Sb=true:=rfl
theorem Yw (cs:List Value) (Sa Sb:zx):yM (EP cs) Sa Sb=true:=rfl
theorem abg {q o:Nat} {S S1:zx} (h:S.get q=S1.get q):JL (.pointer (some ⟨q,o,none⟩)) S S1=true:=@decide_eq_true _ (Classical.propDecidable _) h
theorem XC {q o:Nat} {S:zx}:JL (.pointer (some ⟨q,o,none⟩)) S S=true:=abg rfl
theorem vC {q o e:Nat} {cs:List Value} {own:Own} {S:zx} (h:S.get q=some (.cells cs own e)):yM (.pointer (some ⟨q,o,none⟩)) S S=true:=by
 simp only [yM,h,Nat.sub_self,List.take_zero,List.contains_nil,Bool.not_false,Bool.and_self]
end Go.Abs
namespace Go.Abs
open Go.RowKit
section
variable {P:Program} {fx:Fx} {chk:List Nat} {call:FuncId→List Value→M Value} {ops:Array Oper}
theorem sP (f:Func) (i n:Nat) {l:List Oper} {T:List Value} {T1:Value→List Value} {S:zx} {v:Value} {r:Option (List Value×zx)} (hK:jC P fx call ops ((reg f i).toList.drop (n+1)) (T1 v) S=r) (hl:l=(opAt f i n)::((reg f i).toList.drop (n+1)):=by kernel_rfl) (hg:(opAt f i n).guard=none:=by kernel_rfl) (hm:∀ v,xG (opAt f i n) ((reg f i).toList.drop (n+1)) T v=T1 v:=by exact fun _=>rfl) (hs:jW P fx call T (opAt f i n) S=some (v,S):=by kernel_rfl):jC P fx call ops l T S=r :=
 V5 hl hg hm hs hK
theorem sD (f:Func) (i n:Nat) {l:List Oper} {T:List Value} {T1:Value→List Value} {S:zx} {s:Option (Value×zx)} {K:Value→zx→Option (List Value×zx)} (hK:∀ v S1,jC P fx call ops ((reg f i).toList.drop (n+1)) (T1 v) S1=K v S1) (hl:l=(opAt f i n)::((reg f i).toList.drop (n+1)):=by kernel_rfl) (hg:(opAt f i n).guard=none:=by kernel_rfl) (hm:∀ v,xG (opAt f i n) ((reg f i).toList.drop (n+1)) T v=T1 v:=by exact fun _=>rfl) (hs:jW P fx call T (opAt f i n) S=s:=by kernel_rfl):jC P fx call ops l T S=zV s K () :=
 acO hl hg hm hs hK
theorem sG (f:Func) (i n:Nat) {l:List Oper} {T:List Value} {T1:Value→List Value} {S:zx} {j:Nat} {b:Bool} {g:Value} {s:M Value} {K:Value→zx→Option (List Value×zx)} (hK:∀ v S1,jC P fx call ops ((reg f i).toList.drop (n+1)) (T1 v) S1=K v S1) (hl:l=(opAt f i n)::((reg f i).toList.drop (n+1)):=by kernel_rfl) (hg:(opAt f i n).guard=some (j,b):=by kernel_rfl) (hm:∀ v,xG (opAt f i n) ((reg f i).toList.drop (n+1)) T v=T1 v:=by exact fun _=>rfl) (hy:ynd ops T j=vb g:=by kernel_rfl) (hs:jW P fx call T (opAt f i n) S=s S:=by kernel_rfl):jC P fx call ops l T S=gdK g b s S K () :=
 acX hl hg hm hy hs hK
theorem tD (f:Func) (i n:Nat) {l:List Oper} {T:List Value} {T1:Value→List Value} {S:zx} {k:Nat} {s:Option (Value×zx)} {K:Value→zx→Option (List Value×zx)} (hK:∀ v S1,jS P fx chk [] call ops (k+1) [] ((reg f i).toList.drop (n+1)) (T1 v) S1=K v S1) (hc:chk.contains k=false:=by kernel_rfl) (hl:l=(opAt f i n)::((reg f i).toList.drop (n+1)):=by kernel_rfl) (hg:(opAt f i n).guard=none:=by kernel_rfl) (hm:∀ v,xG (opAt f i n) ((reg f i).toList.drop (n+1)) T v=T1 v:=by exact fun _=>rfl) (hs:jW P fx call T (opAt f i n) S=s:=by kernel_rfl):jS P fx chk [] call ops k [] l T S=zV s K () :=
 abP hc hl hg hm hs hK
theorem tP (f:Func) (i n:Nat) {l:List Oper} {T:List Value} {T1:Value→List Value} {S:zx} {k:Nat} {v:Value} {r:Option (List Value×zx)} (hK:jS P fx chk [] call ops (k+1) [] ((reg f i).toList.drop (n+1)) (T1 v) S=r) (hc:chk.contains k=false:=by kernel_rfl) (hl:l=(opAt f i n)::((reg f i).toList.drop (n+1)):=by kernel_rfl) (hg:(opAt f i n).guard=none:=by kernel_rfl) (hm:∀ v,xG (opAt f i n) ((reg f i).toList.drop (n+1)) T v=T1 v:=by exact fun _=>rfl) (hs:jW P fx call T (opAt f i n) S=some (v,S):=by kernel_rfl):jS P fx chk [] call ops k [] l T S=r :=
 Xj hc hl hg hm hs hK
theorem uD (f:Func) (i n:Nat) {l:List Oper} {T:List Value} {T1:Value→List Value} {S:zx} {k:Nat} {s:Option (Value×zx)} {K:Value→zx→Option (List Value×zx)} {x:Nat×Nat} {nl:List (Nat×Nat)} {hist:List (Value×zx)} {pe:Value} (hK:∀ v S1,jS P fx chk (x::nl) call ops (k+1) (hist++[(pe,S)]) ((reg f i).toList.drop (n+1)) (T1 v) S1=K v S1) (hc:chk.contains k=false:=by kernel_rfl) (hpe:qh T (opAt f i n)=pe:=by kernel_rfl) (hl:l=(opAt f i n)::((reg f i).toList.drop (n+1)):=by kernel_rfl) (hg:(opAt f i n).guard=none:=by kernel_rfl) (hm:∀ v,xG (opAt f i n) ((reg f i).toList.drop (n+1)) T v=T1 v:=by exact fun _=>rfl) (hs:jW P fx call T (opAt f i n) S=s:=by kernel_rfl):jS P fx chk (x::nl) call ops k hist l T S=zV s K () :=
 abw hc hpe hl hg hm hs hK
theorem uP (f:Func) (i n:Nat) {l:List Oper} {T:List Value} {T1:Value→List Value} {S:zx} {k:Nat} {v:Value} {r:Option (List Value×zx)} {x:Nat×Nat} {nl:List (Nat×Nat)} {hist:List (Value×zx)} {pe:Value} (hK:jS P fx chk (x::nl) call ops (k+1) (hist++[(pe,S)]) ((reg f i).toList.drop (n+1)) (T1 v) S=r) (hc:chk.contains k=false:=by kernel_rfl) (hpe:qh T (opAt f i n)=pe:=by kernel_rfl) (hl:l=(opAt f i n)::((reg f i).toList.drop (n+1)):=by kernel_rfl) (hg:(opAt f i n).guard=none:=by kernel_rfl) (hm:∀ v,xG (opAt f i n) ((reg f i).toList.drop (n+1)) T v=T1 v:=by exact fun _=>rfl) (hs:jW P fx call T (opAt f i n) S=some (v,S):=by kernel_rfl):jS P fx chk (x::nl) call ops k hist l T S=r :=
 XL hc hpe hl hg hm hs hK
theorem uG (f:Func) (i n:Nat) {l:List Oper} {T:List Value} {T1:Value→List Value} {S:zx} {j k:Nat} {b:Bool} {g:Value} {s:M Value} {K:Value→zx→Option (List Value×zx)} {x:Nat×Nat} {nl:List (Nat×Nat)} {hist:List (Value×zx)} {pe:Value} (hK:∀ v S1,jS P fx chk (x::nl) call ops (k+1) (hist++[(pe,S)]) ((reg f i).toList.drop (n+1)) (T1 v) S1=K v S1) (hc:chk.contains k=false:=by kernel_rfl) (hpe:qh T (opAt f i n)=pe:=by kernel_rfl) (hl:l=(opAt f i n)::((reg f i).toList.drop (n+1)):=by kernel_rfl) (hg:(opAt f i n).guard=some (j,b):=by kernel_rfl) (hm:∀ v,xG (opAt f i n) ((reg f i).toList.drop (n+1)) T v=T1 v:=by exact fun _=>rfl) (hy:ynd ops T j=vb g:=by kernel_rfl) (hs:jW P fx call T (opAt f i n) S=s S:=by kernel_rfl):jS P fx chk (x::nl) call ops k hist l T S=gdK g b s S K () :=
 abn hc hpe hl hg hm hy hs hK
theorem uGC (f:Func) (i n:Nat) {l:List Oper} {T:List Value} {T1:Value→List Value} {S:zx} {j k:Nat} {b:Bool} {g:Value} {s:M Value} {K:Value→zx→Option (List Value×zx)} {x:Nat×Nat} {nl:List (Nat×Nat)} {hist:List (Value×zx)} {pe:Value} (hK:∀ v S1,jS P fx chk (x::nl) call ops (k+1) (hist++[(pe,S)]) ((reg f i).toList.drop (n+1)) (T1 v) S1=K v S1) (hc:chk.contains k=true:=by kernel_rfl) (hpe:qh T (opAt f i n)=pe:=by kernel_rfl) (hl:l=(opAt f i n)::((reg f i).toList.drop (n+1)):=by kernel_rfl) (hg:(opAt f i n).guard=some (j,b):=by kernel_rfl) (hm:∀ v,xG (opAt f i n) ((reg f i).toList.drop (n+1)) T v=T1 v:=by exact fun _=>rfl) (hy:ynd ops T j=vb g:=by kernel_rfl) (hs:jW P fx call T (opAt f i n) S=s S:=by kernel_rfl):jS P fx chk (x::nl) call ops k hist l T S=XA g b s S K () :=
 Vl hc hpe hl hg hm hy hs hK
end
end Go.Abs
namespace Go.Proofs.Ytgfpjnblookppaa
open Go.Abs
def O0:Ora:=⟨fun _=>none,fun f=>([7,11,12,14]:List Nat).contains f,fun f=>([17,18,19,20,23,24]:List Nat).contains f⟩
theorem acB:Qp zi O0:=aaT
end Go.Proofs.Ytgfpjnblookppaa
namespace Go.Proofs.Ytgfpjnblookppaa
open Go.Abs
abbrev zD.id:FuncId:=14
noncomputable def zD.code:Code:=(.seq (.region 0 (reg Try.f14 0) false) (.seq (.region 1 (reg Try.f14 1) false) (.seq (.region 2 (reg Try.f14 2) false) (.seq (.region 3 (reg Try.f14 3) false) Code.ret))))
theorem zD.body:Try.f14.body=some zD.code:=by kernel_rfl
variable (b m u c o p q r s t d f g i j k l:Value) (S:zx)
theorem zD.r0 :jC zi ⟨true,false,false⟩ (jr O0.hp true (jf zi O0)) (reg Try.f14 0) (reg Try.f14 0).toList ([b,m,u,c,o,p,q,r,s,t,d,f,g,i,j,k,l]) S =
  ( some ([b,m,Value.slice none 0 0,c,o,p,q,r,s,t,d,f,g,i,j,k,l],S)):=by
 kernel_rfl
theorem zD.r1 :jC zi ⟨true,false,false⟩ (jr O0.hp true (jf zi O0)) (reg Try.f14 1) (reg Try.f14 1).toList ([b,m,u,c,o,p,q,r,s,t,d,f,g,i,j,k,l]) S =
  (zV (jk (dem b) S) (fun C n=>zV (zG zi 49 C 0 n) (fun w z=>zV (je zi false 27 w z) (fun x A=>zV (vK zi 27 x A) (fun v B=>zV (jJ zi 27 v v B) (fun y D=>some ([b,m,u,y,dem b,C,w,x,v,dem y,d,f,g,i,j,k,l],D)) ()) ()) ()) ()) ()):=by
 kernel_rfl
theorem zD.r2 :jC zi ⟨true,false,false⟩ (jr O0.hp true (jf zi O0)) (reg Try.f14 2) (reg Try.f14 2).toList ([b,m,u,c,o,p,q,r,s,t,d,f,g,i,j,k,l]) S =
  (zV (jk (dem b) S) (fun w n=>zV (zG zi 49 w 0 n) (fun x z=>zV (je zi false 27 x z) (fun v A=>zV (JI zi 27 27 (dem c) v A) (fun y B=>some ([b,m,u,c,o,p,q,r,s,t,dem c,dem b,w,x,v,y,l],B)) ()) ()) ()) ()):=by
 kernel_rfl
theorem zD.r3 :jC zi ⟨true,false,false⟩ (jr O0.hp true (jf zi O0)) (reg Try.f14 3) (reg Try.f14 3).toList ([b,m,u,c,o,p,q,r,s,t,d,f,g,i,j,k,l]) S =
  ( some ([b,m,c,dem c,o,p,q,r,s,t,d,f,g,i,j,k,dem c],S)):=by
 kernel_rfl
theorem zD.rs:type_of% (aeC @zD.r0 (aeC @zD.r1 (aeC @zD.r2 (@zD.r3)))):=aeC @zD.r0 (aeC @zD.r1 (aeC @zD.r2 (@zD.r3)))
theorem zD.runs {b:Value} {S n:zx} {e:AEx} {T:List Value} (h:zI zi O0 true zD.code ([b,zh,zh,zh,zh,zh,zh,zh,zh,zh,zh,zh,zh,zh,zh,zh,zh]) S=some (e,T,n)) (he:e=.normal∨e=.ret):jf zi O0 14 [b] S=some (T.getD 2 zh,n) :=
 yB rfl rfl Try.func14 (by decide) zD.body (by exact h) he (yL (a:=T.getD 2 zh) ((show zX zi T n Try.f14.results.toList=zX zi T n [(ResultVar.tmp 2)] from by kernel_rfl).trans (by simp only [zX])) (by kernel_rfl))
end Go.Proofs.Ytgfpjnblookppaa
namespace Go.Proofs.Ytgfpjnblookppaa
open Go.Abs
theorem Xf:qc zi 3=some 1:=by kernel_rfl
theorem Zl:yQ zi 3=some false:=by kernel_rfl
theorem ac6:zi.underlying 5=some (TypeDesc.int IntKind.u8):=by kernel_rfl
theorem yE:qc zi 5=some 1:=by kernel_rfl
theorem ZE:bytesOf zi 5=some 1:=by kernel_rfl
theorem Zw:zeroOf zi 5=(some (Value.int IntKind.u8 0)):=by kernel_rfl
theorem VX:yQ zi 5=some false:=by kernel_rfl
theorem abu:zi.underlying 9=some TypeDesc.string:=by kernel_rfl
theorem jh:zi.underlying 27=some (TypeDesc.slice 5):=by kernel_rfl
theorem Zm:qc zi 27=some 1:=by kernel_rfl
theorem wH:yQ zi 27=some false:=by kernel_rfl
theorem qj:zi.underlying 29=some (TypeDesc.slice 31):=by kernel_rfl
theorem yD:qc zi 31=some 3:=by kernel_rfl
theorem vH:yQ zi 31=some true:=by kernel_rfl
theorem wE:qc zi 40=some 3:=by kernel_rfl
theorem xJ:yQ zi 40=some true:=by kernel_rfl
theorem jw (q o:Nat) (S:zx):zG zi 31 (.pointer (some ⟨q,o,none⟩)) 0 S=some (.pointer (some ⟨q,o+0,none⟩),S):=by kernel_rfl
theorem jV (q o:Nat) (S:zx):zG zi 31 (.pointer (some ⟨q,o,none⟩)) 1 S=some (.pointer (some ⟨q,o+1,none⟩),S):=by kernel_rfl
theorem kQ (q o:Nat) (S:zx):zG zi 31 (.pointer (some ⟨q,o,none⟩)) 2 S=some (.pointer (some ⟨q,o+2,none⟩),S):=by kernel_rfl
theorem zQ (q o:Nat) (S:zx):zG zi 40 (.pointer (some ⟨q,o,none⟩)) 0 S=some (.pointer (some ⟨q,o+0,none⟩),S):=by kernel_rfl
theorem ji (q o:Nat) (S:zx):zG zi 40 (.pointer (some ⟨q,o,none⟩)) 1 S=some (.pointer (some ⟨q,o+1,none⟩),S):=by kernel_rfl
theorem jm (q o:Nat) (S:zx):zG zi 40 (.pointer (some ⟨q,o,none⟩)) 2 S=some (.pointer (some ⟨q,o+2,none⟩),S):=by kernel_rfl
theorem jU (q o:Nat) (S:zx):zG zi 49 (.pointer (some ⟨q,o,none⟩)) 0 S=some (.pointer (some ⟨q,o+0,none⟩),S):=by kernel_rfl
theorem yZ (q o:Nat) (S:zx):zG zi 49 (.pointer (some ⟨q,o,none⟩)) 1 S=some (.pointer (some ⟨q,o+1,none⟩),S):=by kernel_rfl
theorem qR (q o:Nat) (S:zx):zG zi 49 (.pointer (some ⟨q,o,none⟩)) 2 S=some (.pointer (some ⟨q,o+2,none⟩),S):=by kernel_rfl
theorem jF {fx:Bool} {x0 x1 x2:Value} {S:zx}:je zi fx 31 (EP [x0,x1,x2]) S=some (.agg [x0,x1,x2].toArray,S):=aaA vH yD rfl
theorem kT {q:Nat} {x0 x1 x2:Value} {own:Own} {e:Nat} {S:zx} (h:S.get q=some (.cells [x0,x1,x2] own e)):je zi false 40 (.pointer (some ⟨q,0,none⟩)) S=some (.agg [qC x0,qC x1,qC x2].toArray,S):=(aaW (o:=0) h xJ wE (by simp)).trans (by simp)
theorem kX  (S:zx):yH zi 40 [] S=some (.agg [(Value.slice none 0 0),(Value.int IntKind.i64 0),(Value.int IntKind.i64 0)].toArray,S):=by
 kernel_rfl
theorem qQ {y0 y2:Value} (h0:y0.cells=#[y0]) (h2:y2.cells=#[y2]) (S:zx):yH zi 40 [(0,y0),(2,y2)] S=some (.agg [y0,(Value.int IntKind.i64 0),y2].toArray,S):=by
 rw [show yH zi 40 [(0,y0),(2,y2)] S=(match xK ([(0,1),(1,1),(2,1)][·]?) [(Value.slice none 0 0),(Value.int IntKind.i64 0),(Value.int IntKind.i64 0)] [(0,y0),(2,y2)] with | some l=>some (.agg l.toArray,S) | none=>none) from by kernel_rfl]
 simp [xK,splice,yK,h0,h2]
theorem YE  (S:zx):yH zi 49 [] S=some (.agg [(Value.slice none 0 0),(Value.int IntKind.i64 0),(Value.int IntKind.i64 0)].toArray,S):=by
 kernel_rfl
theorem YC (S:zx):jR zi 27 0 [] S=some (sv 2 1 0 [],S):=by kernel_rfl
theorem YZ (x0:Int) (S:zx):jR zi 27 1 [(0,.int IntKind.u8 x0)] S=some (sv 2 1 1 [.int IntKind.u8 x0],S):=by kernel_rfl
theorem ZH {k:Nat} {l:List UInt8} {S:zx} (h:Okl k l):vK zi 27 (by_ k l) S=some (goInt l.length,S):=ab2 jh h
theorem adK {k:Nat} {l:List UInt8} {S:zx} {ki:IntKind} {i:Int} (h:Okl k l) (h0:0≤i) (hi:i < l.length):jy zi 27 (by_ k l) (.int ki i) S=some (EP [.int .u8 (l[i.toNat]'(by omega)).toNat],S):=adH jh yE Yz h h0 hi
theorem XW {fx:Bool} {v:Value} {S:zx}:je zi fx 5 (EP [v]) S=some (v,S):=X9 VX
theorem abz {k:Nat} {l:List UInt8} {S:zx} {lo hi:Option Value} {i j:Int} (h:Okl k l) (hlo:yJ 0 lo=some i) (hhi:yJ l.length hi=some j) (h0:0≤i) (hij:i≤j) (hj:j≤l.length):kM zi 27 (by_ k l) lo hi S=some (by_ (if k=2 then 1 else k) ((l.drop i.toNat).take (j.toNat - i.toNat)),S):=aa9 jh yE Yz h hlo hhi h0 hij hj
theorem vT {k:Nat} {l:List UInt8} {S:zx} {j:Nat} {m:List UInt8} (h:Okl k l) (hk:k≠1) (hm:Okl j m) (hl:l.length+m.length≤140737488355328):yw zi 27 27 (by_ k l) (by_ j m) S=some (by_ (if k=0∧m.length=0 then 0 else 2) (l++m),S):=aat jh yE Zw rfl ZE (by omega) jh Yz adC h hk hm (by omega) (by omega)
theorem Vs {k:Nat} {l:List UInt8} {S:zx} (h:Okl k l) (hl:l.length≤140737488355328):yw zi 27 27 (by_ 2 []) (by_ k l) S=some (by_ 2 l,S):=by
 rw [vT Okl.own (by decide) h (by simpa using hl)];rfl
theorem abY {k:Nat} {l:List UInt8} {S:zx} (h:Okl k l):xM zi 27 9 (by_ k l) S=some (.string ⟨l.toArray⟩,S):=XY jh ac6 abu h
theorem wk:type_of% (aeC @JR (aeC @vV (aeC @ZP (aeC @JC (aeC @Ws (aeC @Js (aeC @Jk (aeC @Jb (aeC @ZJ (aeC @Y0 (aeC @Jh (aeC @Y8 (aeC @QY (aeC @Zf (aeC @Wi (aeC @Jc (aeC @JV (aeC @Jj (aeC @Y1 (aeC @abR (aeC @abW (aeC @ab1 (aeC @abQ (aeC @ab6 (aeC @Vt (aeC @Vr (aeC @aah (aeC @aak (aeC @VQ (aeC @KE (aeC @ZN (aeC @Yw (aeC @Bool.and_true (aeC @Bool.true_and (aeC @Bool.and_self (aeC @QX (aeC @Qx (aeC @J6 (aeC @YD (aeC @JA (aeC @ab5 (aeC @ab4 (aeC @ab7 (aeC @acd (aeC @adx (aeC @adv (aeC @adW (aeC @adS (aeC @adB (aeC @abU (aeC @acf (aeC @abS (aeC @acu (aeC @ach (aeC @Vq (aeC @Wv (aeC @Bool.false_eq_true (aeC @KO (aeC @VH (aeC @WB (aeC @YJ (aeC @YG (aeC @abZ (aeC @YP (aeC @ab8 (aeC @YI (aeC @Vh (aeC @KQ (aeC @Wj (aeC @V4 (aeC @VP (aeC @KF (aeC @Jv (aeC @Qc (aeC @V6 (aeC @YA (aeC @KN (aeC @Yp (aeC @Kq (aeC @Jz (aeC @Y4 (aeC @Yy (aeC @Wl (aeC @vW (aeC @xW (aeC @Jf (aeC @Yx (aeC @Zo (aeC @Zt (aeC @xQ (aeC @xY (aeC @xR (aeC @QZ (aeC @Ky (aeC @Kw (aeC @KA (aeC @QV (aeC @KJ (aeC @KH (aeC @KL (aeC @Kr (aeC @aaf (aeC @Bool.not_true (aeC @Bool.not_false (aeC @Bool.true_eq_false (aeC @decide_true (aeC @decide_false (aeC @aaE (aeC @aap (aeC @V7 (aeC @X0 (aeC @Va (aeC @aaG (aeC @Vj (aeC @V3 (aeC @aaL (aeC @aaI (aeC @VK (aeC @aaD (aeC @VN (aeC @X4 (@Vz)))))))))))))))))))))))))))))))))))))))))))))))))))))))))))))))))))))))))))))))))))))))))))))))))))))))))))))))))))))))))):=aeC @JR (aeC @vV (aeC @ZP (aeC @JC (aeC @Ws (aeC @Js (aeC @Jk (aeC @Jb (aeC @ZJ (aeC @Y0 (aeC @Jh (aeC @Y8 (aeC @QY (aeC @Zf (aeC @Wi (aeC @Jc (aeC @JV (aeC @Jj (aeC @Y1 (aeC @abR (aeC @abW (aeC @ab1 (aeC @abQ (aeC @ab6 (aeC @Vt (aeC @Vr (aeC @aah (aeC @aak (aeC @VQ (aeC @KE (aeC @ZN (aeC @Yw (aeC @Bool.and_true (aeC @Bool.true_and (aeC @Bool.and_self (aeC @QX (aeC @Qx (aeC @J6 (aeC @YD (aeC @JA (aeC @ab5 (aeC @ab4 (aeC @ab7 (aeC @acd (aeC @adx (aeC @adv (aeC @adW (aeC @adS (aeC @adB (aeC @abU (aeC @acf (aeC @abS (aeC @acu (aeC @ach (aeC @Vq (aeC @Wv (aeC @Bool.false_eq_true (aeC @KO (aeC @VH (aeC @WB (aeC @YJ (aeC @YG (aeC @abZ (aeC @YP (aeC @ab8 (aeC @YI (aeC @Vh (aeC @KQ (aeC @Wj (aeC @V4 (aeC @VP (aeC @KF (aeC @Jv (aeC @Qc (aeC @V6 (aeC @YA (aeC @KN (aeC @Yp (aeC @Kq (aeC @Jz (aeC @Y4 (aeC @Yy (aeC @Wl (aeC @vW (aeC @xW (aeC @Jf (aeC @Yx (aeC @Zo (aeC @Zt (aeC @xQ (aeC @xY (aeC @xR (aeC @QZ (aeC @Ky (aeC @Kw (aeC @KA (aeC @QV (aeC @KJ (aeC @KH (aeC @KL (aeC @Kr (aeC @aaf (aeC @Bool.not_true (aeC @Bool.not_false (aeC @Bool.true_eq_false (aeC @decide_true (aeC @decide_false (aeC @aaE (aeC @aap (aeC @V7 (aeC @X0 (aeC @Va (aeC @aaG (aeC @Vj (aeC @V3 (aeC @aaL (aeC @aaI (aeC @VK (aeC @aaD (aeC @VN (aeC @X4 (@Vz)))))))))))))))))))))))))))))))))))))))))))))))))))))))))))))))))))))))))))))))))))))))))))))))))))))))))))))))))))))))))
theorem zSs:type_of% (aeC wk (aeC (@List.getD_cons_succ Value) (aeC (@List.getD_cons_zero Value) (aeC @if_true.{1} (aeC @if_false.{1} (aeC (@List.getElem?_cons_succ Value) (aeC (@List.getElem?_cons_zero Value) (aeC @Option.map_some.{0,0} @eq_self.{1})))))))):=aeC wk (aeC (@List.getD_cons_succ Value) (aeC (@List.getD_cons_zero Value) (aeC @if_true.{1} (aeC @if_false.{1} (aeC (@List.getElem?_cons_succ Value) (aeC (@List.getElem?_cons_zero Value) (aeC @Option.map_some.{0,0} @eq_self.{1})))))))
end Go.Proofs.Ytgfpjnblookppaa
namespace Go.Proofs.Ytgfpjnblookppaa
open Go.Abs
def J5 (args:List Value):M Value:=fun S =>
 match args with
 | [.pointer (some ⟨q,0,none⟩)]=>match S.get q with
  | some (.cells (dv::_) _ _)=>if q < S.next then match dv with
   | .slice none 0 0=>some (SL 2 1 0 [],S)
   | .slice (some ⟨r,0,none⟩) n _=>match S.get r with
    | some (.cells cs _ _)=>if n≤cs.length then if (cs.take n).all sg then if n≤140737488355328 then if r < S.next then some (SL 2 1 n (cs.take n),S) else none else none else none else none
    | _=>none
   | _=>none
   else none
  | _=>none
 | _=>none
theorem xB {cs xs:List Value} (h:cs.length=xs.length):splice cs 0 xs=xs:=by
 unfold splice
 rw [List.take_zero,List.nil_append,Nat.zero_add,← h,List.drop_length,List.append_nil]
theorem Zz {l:List Value} (h:l.all sg=true):l.all (·.oneCell')=true:=by
 rw [List.all_eq_true] at *
 intro x hx
 have:=h x hx
 cases x <;> first | rfl | (simp [sg] at this)
theorem zD.nil {S:zx} {q e:Nat} {rest:List Value} {own:Own} (hq:S.get q=some (.cells (.slice none 0 0::rest) own e)) (hlt:q < S.next) :
  jf zi O0 zD.id [.pointer (some ⟨q,0,none⟩)] S=some (.slice (some ⟨S.next,0,none⟩) 0 0,S.push (.cells [] (.own []) 1)):=by
 obtain ⟨T,hTe⟩:∃ T,T=(.pointer (some ⟨q,0,none⟩)::zh::zh::zh::zh::zh::zh::zh::zh::zh::zh::zh::zh::zh::zh::zh::zh::[]):=⟨_,rfl⟩
 have hr:zI zi O0 true zD.code T S=zI zi O0 true zD.code T S:=rfl
 have l1:=qN (t:=27) (o:=0+0) hq wH rfl
 have m1:=KR (S:=S) (k:=.i64) (k2:=.i64) (l:=0) jh yE Zw ZE rfl rfl (by decide) (by decide) (by decide)
 have hq2:(S.push (.cells (zl (Value.int .u8 0).cells.toList 0) (.own []) 1)).get q=some (.cells (.slice none 0 0::rest) own e):=by rw [zx.zS,if_neg (by omega)];exact hq
 have l2:=qN (t:=27) (o:=0+0) hq2 wH rfl
 have c2:=Y2 (P:=zi) (t:=27) (tx:=27) (S:=S.push (.cells (zl (Value.int .u8 0).cells.toList 0) (.own []) 1)) jh yE 0 (.slice none 0 0) ⟨_,rfl⟩ (some ⟨S.next,0,none⟩) (.inr ⟨_,_,rfl⟩)
 have ln:=fun S=>kV jh none 0 0 S
 conv at hr =>
  rhs
  rw [hTe]
  simp only [zD.code,zD.rs,zSs,reduceIte,zk,zn,zo,zq,jO,jU,l1,ln,goInt,m1,l2,c2]
 rw [hTe] at hr
 exact zD.runs hr (.inr rfl)
theorem zD.full {S:zx} {q e r n c i:Nat} {rest cs:List Value} {own own2:Own} (hq:S.get q=some (.cells (.slice (some ⟨r,0,none⟩) n c::rest) own e)) (hlt:q < S.next) (hg:S.get r=some (.cells cs own2 i)) (hn:n≤cs.length)
  (hs:(cs.take n).all sg=true) (hb:n≤140737488355328) (hrn:r < S.next) :
  ∃ S1,jf zi O0 zD.id [.pointer (some ⟨q,0,none⟩)] S=some (.slice (some ⟨S.next,0,none⟩) n n,S1)∧Ext S S1∧S1.get S.next=some (.cells (cs.take n) (.own []) 1):=by
 obtain ⟨T,hTe⟩:∃ T,T=(.pointer (some ⟨q,0,none⟩)::zh::zh::zh::zh::zh::zh::zh::zh::zh::zh::zh::zh::zh::zh::zh::zh::[]):=⟨_,rfl⟩
 have hr:zI zi O0 true zD.code T S=zI zi O0 true zD.code T S:=rfl
 have l1:=qN (t:=27) (o:=0+0) hq wH rfl
 have m1:=KR (S:=S) (k:=.i64) (k2:=.i64) (l:=n) jh yE Zw ZE rfl rfl (by decide) (by omega) (by omega)
 have hq2:(S.push (.cells (zl (Value.int .u8 0).cells.toList n) (.own []) 1)).get q=some (.cells (.slice (some ⟨r,0,none⟩) n c::rest) own e):=by rw [zx.zS,if_neg (by omega)];exact hq
 have hg2:(S.push (.cells (zl (Value.int .u8 0).cells.toList n) (.own []) 1)).get r=some (.cells cs own2 i):=by rw [zx.zS,if_neg (by omega)];exact hg
 have hg3:(S.push (.cells (zl (Value.int .u8 0).cells.toList n) (.own []) 1)).get S.next=some (.cells (zl (Value.int .u8 0).cells.toList n) (.own []) 1):=by rw [zx.zS,if_pos rfl]
 have l2:=qN (t:=27) (o:=0+0) hq2 wH rfl
 have ln:=fun S=>kV jh (some ⟨r,0,none⟩) n c S
 by_cases h0:n=0
 ·
  subst h0
  have c2:JI zi 27 27 (.slice (some ⟨S.next,0,none⟩) 0 0) (.slice (some ⟨r,0,none⟩) 0 c) (S.push (.cells (zl (Value.int .u8 0).cells.toList 0) (.own []) 1))=some (goInt 0,S.push (.cells (zl (Value.int .u8 0).cells.toList 0) (.own []) 1)) :=
   Y2 jh yE 0 _ ⟨_,rfl⟩ (some ⟨S.next,0,none⟩) (.inr ⟨_,_,rfl⟩)
  conv at hr =>
   rhs
   rw [hTe]
   simp only [zD.code,zD.rs,zSs,reduceIte,zk,zn,zo,zq,jO,jU,l1,ln,goInt,m1,l2,c2]
  rw [hTe] at hr
  have hrun:=zD.runs hr (.inr rfl)
  exact ⟨_,hrun,Ext.push _ _,hg3⟩
 ·
  have c2:=acM (t:=27) (tx:=27) (o:=0) (o2:=0) (c:=n) (c2:=c) jh yE hg2 (n:=n) (by omega) hg3 h0 (by rw [KP];show 0+n * 1≤n * 1;omega) (by rw [List.drop_zero,Nat.mul_one];exact Zz hs)
  conv at hr =>
   rhs
   rw [hTe]
   simp only [zD.code,zD.rs,zSs,reduceIte,zk,zn,zo,zq,jO,jU,l1,ln,goInt,m1,l2,c2]
  rw [hTe] at hr
  have hrun:=zD.runs hr (.inr rfl)
  refine ⟨_,hrun,(Ext.push _ _).set (Nat.le_refl _) _,?_⟩
  rw [zx.zW,if_pos rfl,List.drop_zero,Nat.mul_one,xB (by rw [KP,List.length_take,Nat.min_eq_left hn];show n * 1=n;omega)]
theorem VA:vS zi (fun g args=>if g=14 then J5 args else fun _=>none):=by
 refine adQ acB fun args S v S' h=>?_
 unfold J5 at h
 split at h <;> first | (cases h;done) | skip
 rename_i q
 split at h <;> first | (cases h;done) | skip
 rename_i dv rest own e hq
 split at h <;> first | (cases h;done) | skip
 rename_i hlt
 split at h <;> first | (cases h;done) | skip
 ·
  cases h
  exact ⟨rfl,_,_,zD.nil hq hlt,Ext.push _ _,.own rfl (Nat.le_refl _) (by rw [zx.zS,if_pos rfl]) rfl rfl⟩
 ·
  rename_i r n c
  split at h <;> first | (cases h;done) | skip
  rename_i cs own2 i hg
  split at h <;> first | (cases h;done) | skip
  rename_i h1
  split at h <;> first | (cases h;done) | skip
  rename_i h2
  split at h <;> first | (cases h;done) | skip
  rename_i h3
  split at h <;> first | (cases h;done) | skip
  rename_i h4
  cases h
  obtain ⟨S1,k1,k2,k3⟩:=zD.full hq hlt hg h1 h2 h3 h4
  exact ⟨rfl,_,S1,k1,k2,.own rfl (Nat.le_refl _) k3 (by rw [List.length_take,Nat.min_eq_left h1,Nat.mul_one]) h2⟩
end Go.Proofs.Ytgfpjnblookppaa
namespace Go.Proofs.Ytgfpjnblookppaa
open Go.Abs
def O:Ora:=⟨fun f=>if f=14 then some J5 else none,fun f=>([7,11,12,14]:List Nat).contains f,fun f=>([17,18,19,20,23,24]:List Nat).contains f⟩
theorem adu:Qp zi O:=by
 intro f q h
 simp only [O] at h
 split at h
 ·
  rename_i hf;subst hf;cases h;exact VA
 ·
  cases h
end Go.Proofs.Ytgfpjnblookppaa
namespace Go.Proofs.Ytgfpjnblookppaa
open Go.Abs
noncomputable def zu.yx:Code:=(.seq (.region 17 (reg Try.f7 17) false) (.seq (.cond (.tmp 56) Code.skip (.exit 3)) (.seq (.block 4 (.seq (.region 18 (reg Try.f7 18) false) (.region 19 (reg Try.f7 19) false))) (.region 20 (reg Try.f7 20) false))))
noncomputable def zu.WE:Code:=(.seq (.region 8 (reg Try.f7 8) false) (.seq (.cond (.tmp 32) Code.skip (.exit 0)) (.seq (.block 1 (.seq (.region 9 (reg Try.f7 9) false) (.seq (.region 10 (reg Try.f7 10) false) (.seq (.seq (.region 11 (reg Try.f7 11) false) (.block 2 (.seq (.region 12 (reg Try.f7 12) false) (.cond (.tmp 37) (.seq (.region 13 (reg Try.f7 13) false) (.seq (.region 14 (reg Try.f7 14) false) (.seq (.region 15 (reg Try.f7 15) false) (.seq (.region 16 (reg Try.f7 16) false) (.block 3 (.loop zu.yx)))))) (.seq (.region 21 (reg Try.f7 21) false) (.cond (.tmp 65) (.seq (.region 22 (reg Try.f7 22) false) (.region 23 (reg Try.f7 23) false)) (.seq (.region 24 (reg Try.f7 24) false) (.cond (.tmp 71) (.seq (.region 25 (reg Try.f7 25) false) (.region 26 (reg Try.f7 26) false)) (.seq (.region 27 (reg Try.f7 27) false) (.cond (.tmp 81) (.seq (.region 28 (reg Try.f7 28) false) (.region 29 (reg Try.f7 29) false)) (.seq (.region 30 (reg Try.f7 30) false) (.cond (.tmp 91) (.seq (.region 31 (reg Try.f7 31) false) (.region 32 (reg Try.f7 32) false)) Code.skip)))))))))))) (.seq (.region 33 (reg Try.f7 33) true) (.cond (.tmp 126) (.seq (.region 34 (reg Try.f7 34) false) Code.ret) Code.skip)))))) (.region 35 (reg Try.f7 35) false))))
noncomputable def zu.code:Code:=(.seq (.region 0 (reg Try.f7 0) false) (.seq (.seq (.region 1 (reg Try.f7 1) false) (.cond (.tmp 14) (.seq (.region 2 (reg Try.f7 2) false) Code.ret) Code.skip)) (.seq (.region 3 (reg Try.f7 3) false) (.seq (.region 4 (reg Try.f7 4) false) (.seq (.seq (.region 5 (reg Try.f7 5) false) (.cond (.tmp 26) (.seq (.region 6 (reg Try.f7 6) false) Code.ret) Code.skip)) (.seq (.seq (.region 7 (reg Try.f7 7) false) (.block 0 (.loop zu.WE))) (.seq (.region 36 (reg Try.f7 36) false) Code.ret)))))))
theorem zu.body:Try.f7.body=some zu.code:=by kernel_rfl
theorem zu.eta {T:List Value} (h:T.length=128):T=[T.getD 0 zh,T.getD 1 zh,T.getD 2 zh,T.getD 3 zh,T.getD 4 zh,T.getD 5 zh,T.getD 6 zh,T.getD 7 zh,T.getD 8 zh,T.getD 9 zh,T.getD 10 zh,T.getD 11 zh,T.getD 12 zh,T.getD 13 zh,T.getD 14 zh,T.getD 15 zh,T.getD 16 zh,T.getD 17 zh,T.getD 18 zh,T.getD 19 zh,T.getD 20 zh,T.getD 21 zh,T.getD 22 zh,T.getD 23 zh,T.getD 24 zh,T.getD 25 zh,T.getD 26 zh,T.getD 27 zh,T.getD 28 zh,T.getD 29 zh,T.getD 30 zh,T.getD 31 zh,T.getD 32 zh,T.getD 33 zh,T.getD 34 zh,T.getD 35 zh,T.getD 36 zh,T.getD 37 zh,T.getD 38 zh,T.getD 39 zh,T.getD 40 zh,T.getD 41 zh,T.getD 42 zh,T.getD 43 zh,T.getD 44 zh,T.getD 45 zh,T.getD 46 zh,T.getD 47 zh,T.getD 48 zh,T.getD 49 zh,T.getD 50 zh,T.getD 51 zh,T.getD 52 zh,T.getD 53 zh,T.getD 54 zh,T.getD 55 zh,T.getD 56 zh,T.getD 57 zh,T.getD 58 zh,T.getD 59 zh,T.getD 60 zh,T.getD 61 zh,T.getD 62 zh,T.getD 63 zh,T.getD 64 zh,T.getD 65 zh,T.getD 66 zh,T.getD 67 zh,T.getD 68 zh,T.getD 69 zh,T.getD 70 zh,T.getD 71 zh,T.getD 72 zh,T.getD 73 zh,T.getD 74 zh,T.getD 75 zh,T.getD 76 zh,T.getD 77 zh,T.getD 78 zh,T.getD 79 zh,T.getD 80 zh,T.getD 81 zh,T.getD 82 zh,T.getD 83 zh,T.getD 84 zh,T.getD 85 zh,T.getD 86 zh,T.getD 87 zh,T.getD 88 zh,T.getD 89 zh,T.getD 90 zh,T.getD 91 zh,T.getD 92 zh,T.getD 93 zh,T.getD 94 zh,T.getD 95 zh,T.getD 96 zh,T.getD 97 zh,T.getD 98 zh,T.getD 99 zh,T.getD 100 zh,T.getD 101 zh,T.getD 102 zh,T.getD 103 zh,T.getD 104 zh,T.getD 105 zh,T.getD 106 zh,T.getD 107 zh,T.getD 108 zh,T.getD 109 zh,T.getD 110 zh,T.getD 111 zh,T.getD 112 zh,T.getD 113 zh,T.getD 114 zh,T.getD 115 zh,T.getD 116 zh,T.getD 117 zh,T.getD 118 zh,T.getD 119 zh,T.getD 120 zh,T.getD 121 zh,T.getD 122 zh,T.getD 123 zh,T.getD 124 zh,T.getD 125 zh,T.getD 126 zh,T.getD 127 zh]:=(JB T 128 h).trans (by kernel_rfl)
variable (x0 x1 x2 x3 x4 x5 x6 x7 x8 x9 L H J R U V W X Y Z a0 a1 a2 a3 a4 a5 a6 a7 a8 N P M a9 b0 b1 b2 I b3 b4 b5 b6 b7 b8 b9 c0 c1 c2 c3 c4 c5 c6 c7 c8 c9 Q K d0 d1 d2 d3 d4 d5 d6 d7 d8 d9 f0 f1 f2 f3 f4 f5 f6 f8 f9 g0 g1 g2 g3 g4 g5 g6 g7 g8 g9 i0 i1 i2 i3 i4 i5 i6 i7 i8 i9 j0 j1 j2 j3 j4 b c d f g i k l m n o p q r s t u w x y z A B C D E F G:Value) (S:zx)
theorem zu.r0 :jC zi ⟨true,false,false⟩ (jr O.hp true (jf zi O)) (reg Try.f7 0) (reg Try.f7 0).toList ([x0,x1,x2,x3,x4,x5,x6,x7,x8,x9,L,H,J,R,U,V,W,X,Y,Z,a0,a1,a2,a3,a4,a5,a6,a7,a8,N,P,M,a9,b0,b1,b2,I,b3,b4,b5,b6,b7,b8,b9,c0,c1,c2,c3,c4,c5,c6,c7,c8,c9,Q,K,d0,d1,d2,d3,d4,d5,d6,d7,d8,d9,f0,f1,f2,f3,f4,f5,f6,f8,f9,g0,g1,g2,g3,g4,g5,g6,g7,g8,g9,i0,i1,i2,i3,i4,i5,i6,i7,i8,i9,j0,j1,j2,j3,j4,b,c,d,f,g,i,k,l,m,n,o,p,q,r,s,t,u,w,x,y,z,A,B,C,D,E,F,G]) S =
  ( some ([x0,x1,x2,x3,Value.bool false,x5,x6,x7,x8,x9,L,H,J,R,U,V,W,X,Y,Z,a0,a1,a2,a3,a4,a5,a6,a7,a8,N,P,M,a9,b0,b1,b2,I,b3,b4,b5,b6,b7,b8,b9,c0,c1,c2,c3,c4,c5,c6,c7,c8,c9,Q,K,d0,d1,d2,d3,d4,d5,d6,d7,d8,d9,f0,f1,f2,f3,f4,f5,f6,f8,f9,g0,g1,g2,g3,g4,g5,g6,g7,g8,g9,i0,i1,i2,i3,i4,i5,i6,i7,i8,i9,j0,j1,j2,j3,j4,b,c,d,f,g,i,k,l,m,n,o,p,q,r,s,t,u,w,x,y,z,A,B,C,D,E,F,G],S)):=by
 kernel_rfl
theorem zu.r1 :jC zi ⟨true,false,false⟩ (jr O.hp true (jf zi O)) (reg Try.f7 1) (reg Try.f7 1).toList ([x0,x1,x2,x3,x4,x5,x6,x7,x8,x9,L,H,J,R,U,V,W,X,Y,Z,a0,a1,a2,a3,a4,a5,a6,a7,a8,N,P,M,a9,b0,b1,b2,I,b3,b4,b5,b6,b7,b8,b9,c0,c1,c2,c3,c4,c5,c6,c7,c8,c9,Q,K,d0,d1,d2,d3,d4,d5,d6,d7,d8,d9,f0,f1,f2,f3,f4,f5,f6,f8,f9,g0,g1,g2,g3,g4,g5,g6,g7,g8,g9,i0,i1,i2,i3,i4,i5,i6,i7,i8,i9,j0,j1,j2,j3,j4,b,c,d,f,g,i,k,l,m,n,o,p,q,r,s,t,u,w,x,y,z,A,B,C,D,E,F,G]) S =
  (zV (yF (jf zi O) 9 [] S) (fun v0 S1=>zV (aUn zi UnOp.not v0 S1) (fun v1 S2=>some ([x0,x1,x2,x3,x4,x5,x6,x7,x8,x9,L,H,J,v0,v1,V,W,X,Y,Z,a0,a1,a2,a3,a4,a5,a6,a7,a8,N,P,M,a9,b0,b1,b2,I,b3,b4,b5,b6,b7,b8,b9,c0,c1,c2,c3,c4,c5,c6,c7,c8,c9,Q,K,d0,d1,d2,d3,d4,d5,d6,d7,d8,d9,f0,f1,f2,f3,f4,f5,f6,f8,f9,g0,g1,g2,g3,g4,g5,g6,g7,g8,g9,i0,i1,i2,i3,i4,i5,i6,i7,i8,i9,j0,j1,j2,j3,j4,b,c,d,f,g,i,k,l,m,n,o,p,q,r,s,t,u,w,x,y,z,A,B,C,D,E,F,G],S2)) ()) ()):=by
 kernel_rfl
theorem zu.r2 :jC zi ⟨true,false,false⟩ (jr O.hp true (jf zi O)) (reg Try.f7 2) (reg Try.f7 2).toList ([x0,x1,x2,x3,x4,x5,x6,x7,x8,x9,L,H,J,R,U,V,W,X,Y,Z,a0,a1,a2,a3,a4,a5,a6,a7,a8,N,P,M,a9,b0,b1,b2,I,b3,b4,b5,b6,b7,b8,b9,c0,c1,c2,c3,c4,c5,c6,c7,c8,c9,Q,K,d0,d1,d2,d3,d4,d5,d6,d7,d8,d9,f0,f1,f2,f3,f4,f5,f6,f8,f9,g0,g1,g2,g3,g4,g5,g6,g7,g8,g9,i0,i1,i2,i3,i4,i5,i6,i7,i8,i9,j0,j1,j2,j3,j4,b,c,d,f,g,i,k,l,m,n,o,p,q,r,s,t,u,w,x,y,z,A,B,C,D,E,F,G]) S =
  ( some ([x0,x1,x2,x3,Value.bool false,x5,x6,x7,x8,x9,L,H,J,R,U,V,W,X,Y,Z,a0,a1,a2,a3,a4,a5,a6,a7,a8,N,P,M,a9,b0,b1,b2,I,b3,b4,b5,b6,b7,b8,b9,c0,c1,c2,c3,c4,c5,c6,c7,c8,c9,Q,K,d0,d1,d2,d3,d4,d5,d6,d7,d8,d9,f0,f1,f2,f3,f4,f5,f6,f8,f9,g0,g1,g2,g3,g4,g5,g6,g7,g8,g9,i0,i1,i2,i3,i4,i5,i6,i7,i8,i9,j0,j1,j2,j3,j4,b,c,d,f,g,i,k,l,m,n,o,p,q,r,s,t,u,w,x,y,z,A,B,C,D,E,F,G],S)):=by
 kernel_rfl
theorem zu.r3 :jC zi ⟨true,false,false⟩ (jr O.hp true (jf zi O)) (reg Try.f7 3) (reg Try.f7 3).toList ([x0,x1,x2,x3,x4,x5,x6,x7,x8,x9,L,H,J,R,U,V,W,X,Y,Z,a0,a1,a2,a3,a4,a5,a6,a7,a8,N,P,M,a9,b0,b1,b2,I,b3,b4,b5,b6,b7,b8,b9,c0,c1,c2,c3,c4,c5,c6,c7,c8,c9,Q,K,d0,d1,d2,d3,d4,d5,d6,d7,d8,d9,f0,f1,f2,f3,f4,f5,f6,f8,f9,g0,g1,g2,g3,g4,g5,g6,g7,g8,g9,i0,i1,i2,i3,i4,i5,i6,i7,i8,i9,j0,j1,j2,j3,j4,b,c,d,f,g,i,k,l,m,n,o,p,q,r,s,t,u,w,x,y,z,A,B,C,D,E,F,G]) S =
  (zV (yF (jf zi O) 10 [(dem (dem x0))] S) (fun v1 S1=>some ([x0,x1,x2,x3,x4,v1,x6,x7,x8,x9,L,H,J,R,U,dem x0,dem v1,X,Y,Z,a0,a1,a2,a3,a4,a5,a6,a7,a8,N,P,M,a9,b0,b1,b2,I,b3,b4,b5,b6,b7,b8,b9,c0,c1,c2,c3,c4,c5,c6,c7,c8,c9,Q,K,d0,d1,d2,d3,d4,d5,d6,d7,d8,d9,f0,f1,f2,f3,f4,f5,f6,f8,f9,g0,g1,g2,g3,g4,g5,g6,g7,g8,g9,i0,i1,i2,i3,i4,i5,i6,i7,i8,i9,j0,j1,j2,j3,j4,b,c,d,f,g,i,k,l,m,n,o,p,q,r,s,t,u,w,x,y,z,A,B,C,D,E,F,G],S1)) ()):=by
 kernel_rfl
theorem zu.r4 :jC zi ⟨true,false,false⟩ (jr O.hp true (jf zi O)) (reg Try.f7 4) (reg Try.f7 4).toList ([x0,x1,x2,x3,x4,x5,x6,x7,x8,x9,L,H,J,R,U,V,W,X,Y,Z,a0,a1,a2,a3,a4,a5,a6,a7,a8,N,P,M,a9,b0,b1,b2,I,b3,b4,b5,b6,b7,b8,b9,c0,c1,c2,c3,c4,c5,c6,c7,c8,c9,Q,K,d0,d1,d2,d3,d4,d5,d6,d7,d8,d9,f0,f1,f2,f3,f4,f5,f6,f8,f9,g0,g1,g2,g3,g4,g5,g6,g7,g8,g9,i0,i1,i2,i3,i4,i5,i6,i7,i8,i9,j0,j1,j2,j3,j4,b,c,d,f,g,i,k,l,m,n,o,p,q,r,s,t,u,w,x,y,z,A,B,C,D,E,F,G]) S =
  (zV (yH zi 40 [] S) (fun v0 S1=>zV (yF (jf zi O) 17 [(dem v0),(dem (dem x0))] S1) (fun v2 S2=>zV (y8 zi 40 S2) (fun v3 S3=>zV (jD zi 40 v3 (dem v2) S3) (fun v4 S4=>some ([x0,x1,x2,x3,x4,x5,v3,x7,x8,x9,L,H,J,R,U,V,W,v0,dem x0,v2,a0,a1,a2,a3,a4,a5,a6,a7,a8,N,P,M,a9,b0,b1,b2,I,b3,b4,b5,b6,b7,b8,b9,c0,c1,c2,c3,c4,c5,c6,c7,c8,c9,Q,K,d0,d1,d2,d3,d4,d5,d6,d7,d8,d9,f0,f1,f2,f3,f4,f5,f6,f8,f9,g0,g1,g2,g3,g4,g5,g6,g7,g8,g9,i0,i1,i2,i3,i4,i5,i6,i7,i8,i9,j0,j1,j2,j3,j4,b,c,d,f,g,i,k,l,m,n,o,p,q,r,s,t,u,w,x,y,z,A,B,C,D,E,F,G],S4)) ()) ()) ()) ()):=by
 kernel_rfl
theorem zu.r5 :jC zi ⟨true,false,false⟩ (jr O.hp true (jf zi O)) (reg Try.f7 5) (reg Try.f7 5).toList ([x0,x1,x2,x3,x4,x5,x6,x7,x8,x9,L,H,J,R,U,V,W,X,Y,Z,a0,a1,a2,a3,a4,a5,a6,a7,a8,N,P,M,a9,b0,b1,b2,I,b3,b4,b5,b6,b7,b8,b9,c0,c1,c2,c3,c4,c5,c6,c7,c8,c9,Q,K,d0,d1,d2,d3,d4,d5,d6,d7,d8,d9,f0,f1,f2,f3,f4,f5,f6,f8,f9,g0,g1,g2,g3,g4,g5,g6,g7,g8,g9,i0,i1,i2,i3,i4,i5,i6,i7,i8,i9,j0,j1,j2,j3,j4,b,c,d,f,g,i,k,l,m,n,o,p,q,r,s,t,u,w,x,y,z,A,B,C,D,E,F,G]) S =
  (zV (qU zi BinOp.eql 24 (dem x5) (Value.pointer none) S) (fun v1 S1=>gdK (dem v1) false (ret x1) S1 (fun v3 S2=>gdK (dem v1) false (vK zi 29 (dem v3)) S2 (fun v4 S3=>gdK (dem v1) false (qU zi BinOp.gtr 3 v4 (.int .i64 200)) S3 (fun v5 S4=>zV (JH (dem v1) (Value.bool true) v5 S4) (fun v6 S5=>some ([x0,x1,x2,x3,x4,x5,x6,x7,x8,x9,L,H,J,R,U,V,W,X,Y,Z,dem x5,v1,dem v1,dem v3,v4,v5,v6,a7,a8,N,P,M,a9,b0,b1,b2,I,b3,b4,b5,b6,b7,b8,b9,c0,c1,c2,c3,c4,c5,c6,c7,c8,c9,Q,K,d0,d1,d2,d3,d4,d5,d6,d7,d8,d9,f0,f1,f2,f3,f4,f5,f6,f8,f9,g0,g1,g2,g3,g4,g5,g6,g7,g8,g9,i0,i1,i2,i3,i4,i5,i6,i7,i8,i9,j0,j1,j2,j3,j4,b,c,d,f,g,i,k,l,m,n,o,p,q,r,s,t,u,w,x,y,z,A,B,C,D,E,F,G],S5)) ()) ()) ()) ()) ()):=by
 refine sP Try.f7 5 0 (v:=x5) ?_
 refine sD Try.f7 5 1 (fun v1 S1=>?_)
 refine sP Try.f7 5 2 (v:=v1) ?_
 refine sG Try.f7 5 3 (j:=2) (fun v3 S2=>?_)
 refine sG Try.f7 5 4 (j:=2) (fun v4 S3=>?_)
 refine sG Try.f7 5 5 (j:=2) (fun v5 S4=>?_)
 refine sD Try.f7 5 6 (fun v6 S5=>?_)
 kernel_rfl
theorem zu.r6 :jC zi ⟨true,false,false⟩ (jr O.hp true (jf zi O)) (reg Try.f7 6) (reg Try.f7 6).toList ([x0,x1,x2,x3,x4,x5,x6,x7,x8,x9,L,H,J,R,U,V,W,X,Y,Z,a0,a1,a2,a3,a4,a5,a6,a7,a8,N,P,M,a9,b0,b1,b2,I,b3,b4,b5,b6,b7,b8,b9,c0,c1,c2,c3,c4,c5,c6,c7,c8,c9,Q,K,d0,d1,d2,d3,d4,d5,d6,d7,d8,d9,f0,f1,f2,f3,f4,f5,f6,f8,f9,g0,g1,g2,g3,g4,g5,g6,g7,g8,g9,i0,i1,i2,i3,i4,i5,i6,i7,i8,i9,j0,j1,j2,j3,j4,b,c,d,f,g,i,k,l,m,n,o,p,q,r,s,t,u,w,x,y,z,A,B,C,D,E,F,G]) S =
  (zV (qU zi BinOp.neq 24 (dem x5) (Value.pointer none) S) (fun v1 S1=>some ([x0,x1,x2,x3,v1,x5,x6,x7,x8,x9,L,H,J,R,U,V,W,X,Y,Z,a0,a1,a2,a3,a4,a5,a6,dem x5,dem v1,N,P,M,a9,b0,b1,b2,I,b3,b4,b5,b6,b7,b8,b9,c0,c1,c2,c3,c4,c5,c6,c7,c8,c9,Q,K,d0,d1,d2,d3,d4,d5,d6,d7,d8,d9,f0,f1,f2,f3,f4,f5,f6,f8,f9,g0,g1,g2,g3,g4,g5,g6,g7,g8,g9,i0,i1,i2,i3,i4,i5,i6,i7,i8,i9,j0,j1,j2,j3,j4,b,c,d,f,g,i,k,l,m,n,o,p,q,r,s,t,u,w,x,y,z,A,B,C,D,E,F,G],S1)) ()):=by
 kernel_rfl
theorem zu.r7 :jC zi ⟨true,false,false⟩ (jr O.hp true (jf zi O)) (reg Try.f7 7) (reg Try.f7 7).toList ([x0,x1,x2,x3,x4,x5,x6,x7,x8,x9,L,H,J,R,U,V,W,X,Y,Z,a0,a1,a2,a3,a4,a5,a6,a7,a8,N,P,M,a9,b0,b1,b2,I,b3,b4,b5,b6,b7,b8,b9,c0,c1,c2,c3,c4,c5,c6,c7,c8,c9,Q,K,d0,d1,d2,d3,d4,d5,d6,d7,d8,d9,f0,f1,f2,f3,f4,f5,f6,f8,f9,g0,g1,g2,g3,g4,g5,g6,g7,g8,g9,i0,i1,i2,i3,i4,i5,i6,i7,i8,i9,j0,j1,j2,j3,j4,b,c,d,f,g,i,k,l,m,n,o,p,q,r,s,t,u,w,x,y,z,A,B,C,D,E,F,G]) S =
  (zV (vK zi 29 (dem x1) S) (fun v1 S1=>some ([x0,x1,x2,x3,x4,x5,x6,x7,x8,x9,L,H,J,R,U,V,W,X,Y,Z,a0,a1,a2,a3,a4,a5,a6,a7,a8,dem x1,v1,.int .i64 0,a9,b0,b1,b2,I,b3,b4,b5,b6,b7,b8,b9,c0,c1,c2,c3,c4,c5,c6,c7,c8,c9,Q,K,d0,d1,d2,d3,d4,d5,d6,d7,d8,d9,f0,f1,f2,f3,f4,f5,f6,f8,f9,g0,g1,g2,g3,g4,g5,g6,g7,g8,g9,i0,i1,i2,i3,i4,i5,i6,i7,i8,i9,j0,j1,j2,j3,j4,b,c,d,f,g,i,k,l,m,n,o,p,q,r,s,t,u,w,x,y,z,A,B,C,D,E,F,G],S1)) ()):=by
 kernel_rfl
theorem zu.r8 :jC zi ⟨true,false,false⟩ (jr O.hp true (jf zi O)) (reg Try.f7 8) (reg Try.f7 8).toList ([x0,x1,x2,x3,x4,x5,x6,x7,x8,x9,L,H,J,R,U,V,W,X,Y,Z,a0,a1,a2,a3,a4,a5,a6,a7,a8,N,P,M,a9,b0,b1,b2,I,b3,b4,b5,b6,b7,b8,b9,c0,c1,c2,c3,c4,c5,c6,c7,c8,c9,Q,K,d0,d1,d2,d3,d4,d5,d6,d7,d8,d9,f0,f1,f2,f3,f4,f5,f6,f8,f9,g0,g1,g2,g3,g4,g5,g6,g7,g8,g9,i0,i1,i2,i3,i4,i5,i6,i7,i8,i9,j0,j1,j2,j3,j4,b,c,d,f,g,i,k,l,m,n,o,p,q,r,s,t,u,w,x,y,z,A,B,C,D,E,F,G]) S =
  (zV (qU zi BinOp.lss 3 M P S) (fun v0 S1=>some ([x0,x1,x2,x3,x4,x5,x6,x7,x8,x9,L,H,J,R,U,V,W,X,Y,Z,a0,a1,a2,a3,a4,a5,a6,a7,a8,N,P,M,v0,b0,b1,b2,I,b3,b4,b5,b6,b7,b8,b9,c0,c1,c2,c3,c4,c5,c6,c7,c8,c9,Q,K,d0,d1,d2,d3,d4,d5,d6,d7,d8,d9,f0,f1,f2,f3,f4,f5,f6,f8,f9,g0,g1,g2,g3,g4,g5,g6,g7,g8,g9,i0,i1,i2,i3,i4,i5,i6,i7,i8,i9,j0,j1,j2,j3,j4,b,c,d,f,g,i,k,l,m,n,o,p,q,r,s,t,u,w,x,y,z,A,B,C,D,E,F,G],S1)) ()):=by
 kernel_rfl
theorem zu.r9 :jC zi ⟨true,false,false⟩ (jr O.hp true (jf zi O)) (reg Try.f7 9) (reg Try.f7 9).toList ([x0,x1,x2,x3,x4,x5,x6,x7,x8,x9,L,H,J,R,U,V,W,X,Y,Z,a0,a1,a2,a3,a4,a5,a6,a7,a8,N,P,M,a9,b0,b1,b2,I,b3,b4,b5,b6,b7,b8,b9,c0,c1,c2,c3,c4,c5,c6,c7,c8,c9,Q,K,d0,d1,d2,d3,d4,d5,d6,d7,d8,d9,f0,f1,f2,f3,f4,f5,f6,f8,f9,g0,g1,g2,g3,g4,g5,g6,g7,g8,g9,i0,i1,i2,i3,i4,i5,i6,i7,i8,i9,j0,j1,j2,j3,j4,b,c,d,f,g,i,k,l,m,n,o,p,q,r,s,t,u,w,x,y,z,A,B,C,D,E,F,G]) S =
  (zV (jy zi 29 N M S) (fun v0 S1=>zV (je zi false 31 v0 S1) (fun v1 S2=>zV (y8 zi 31 S2) (fun v2 S3=>zV (jD zi 31 v2 (dem v1) S3) (fun v3 S4=>some ([x0,x1,x2,x3,x4,x5,x6,x7,v2,x9,L,H,J,R,U,V,W,X,Y,Z,a0,a1,a2,a3,a4,a5,a6,a7,a8,N,P,M,a9,v0,v1,b2,I,b3,b4,b5,b6,b7,b8,b9,c0,c1,c2,c3,c4,c5,c6,c7,c8,c9,Q,K,d0,d1,d2,d3,d4,d5,d6,d7,d8,d9,f0,f1,f2,f3,f4,f5,f6,f8,f9,g0,g1,g2,g3,g4,g5,g6,g7,g8,g9,i0,i1,i2,i3,i4,i5,i6,i7,i8,i9,j0,j1,j2,j3,j4,b,c,d,f,g,i,k,l,m,n,o,p,q,r,s,t,u,w,x,y,z,A,B,C,D,E,F,G],S4)) ()) ()) ()) ()):=by
 kernel_rfl
theorem zu.r10 :jC zi ⟨true,false,false⟩ (jr O.hp true (jf zi O)) (reg Try.f7 10) (reg Try.f7 10).toList ([x0,x1,x2,x3,x4,x5,x6,x7,x8,x9,L,H,J,R,U,V,W,X,Y,Z,a0,a1,a2,a3,a4,a5,a6,a7,a8,N,P,M,a9,b0,b1,b2,I,b3,b4,b5,b6,b7,b8,b9,c0,c1,c2,c3,c4,c5,c6,c7,c8,c9,Q,K,d0,d1,d2,d3,d4,d5,d6,d7,d8,d9,f0,f1,f2,f3,f4,f5,f6,f8,f9,g0,g1,g2,g3,g4,g5,g6,g7,g8,g9,i0,i1,i2,i3,i4,i5,i6,i7,i8,i9,j0,j1,j2,j3,j4,b,c,d,f,g,i,k,l,m,n,o,p,q,r,s,t,u,w,x,y,z,A,B,C,D,E,F,G]) S =
  ( some ([x0,x1,x2,x3,x4,x5,x6,x7,x8,.int .i64 0,.int .i64 0,H,J,R,U,V,W,X,Y,Z,a0,a1,a2,a3,a4,a5,a6,a7,a8,N,P,M,a9,b0,b1,b2,I,b3,b4,b5,b6,b7,b8,b9,c0,c1,c2,c3,c4,c5,c6,c7,c8,c9,Q,K,d0,d1,d2,d3,d4,d5,d6,d7,d8,d9,f0,f1,f2,f3,f4,f5,f6,f8,f9,g0,g1,g2,g3,g4,g5,g6,g7,g8,g9,i0,i1,i2,i3,i4,i5,i6,i7,i8,i9,j0,j1,j2,j3,j4,b,c,d,f,g,i,k,l,m,n,o,p,q,r,s,t,u,w,x,y,z,A,B,C,D,E,F,G],S)):=by
 kernel_rfl
theorem zu.r11 :jC zi ⟨true,false,false⟩ (jr O.hp true (jf zi O)) (reg Try.f7 11) (reg Try.f7 11).toList ([x0,x1,x2,x3,x4,x5,x6,x7,x8,x9,L,H,J,R,U,V,W,X,Y,Z,a0,a1,a2,a3,a4,a5,a6,a7,a8,N,P,M,a9,b0,b1,b2,I,b3,b4,b5,b6,b7,b8,b9,c0,c1,c2,c3,c4,c5,c6,c7,c8,c9,Q,K,d0,d1,d2,d3,d4,d5,d6,d7,d8,d9,f0,f1,f2,f3,f4,f5,f6,f8,f9,g0,g1,g2,g3,g4,g5,g6,g7,g8,g9,i0,i1,i2,i3,i4,i5,i6,i7,i8,i9,j0,j1,j2,j3,j4,b,c,d,f,g,i,k,l,m,n,o,p,q,r,s,t,u,w,x,y,z,A,B,C,D,E,F,G]) S =
  (zV (zG zi 31 x8 0 S) (fun v0 S1=>zV (je zi false 3 v0 S1) (fun v1 S2=>some ([x0,x1,x2,x3,x4,x5,x6,x7,x8,x9,L,H,J,R,U,V,W,X,Y,Z,a0,a1,a2,a3,a4,a5,a6,a7,a8,N,P,M,a9,b0,b1,v0,v1,b3,b4,b5,b6,b7,b8,b9,c0,c1,c2,c3,c4,c5,c6,c7,c8,c9,Q,K,d0,d1,d2,d3,d4,d5,d6,d7,d8,d9,f0,f1,f2,f3,f4,f5,f6,f8,f9,g0,g1,g2,g3,g4,g5,g6,g7,g8,g9,i0,i1,i2,i3,i4,i5,i6,i7,i8,i9,j0,j1,j2,j3,j4,b,c,d,f,g,i,k,l,m,n,o,p,q,r,s,t,u,w,x,y,z,A,B,C,D,E,F,G],S2)) ()) ()):=by
 kernel_rfl
theorem zu.r12 :jC zi ⟨true,false,false⟩ (jr O.hp true (jf zi O)) (reg Try.f7 12) (reg Try.f7 12).toList ([x0,x1,x2,x3,x4,x5,x6,x7,x8,x9,L,H,J,R,U,V,W,X,Y,Z,a0,a1,a2,a3,a4,a5,a6,a7,a8,N,P,M,a9,b0,b1,b2,I,b3,b4,b5,b6,b7,b8,b9,c0,c1,c2,c3,c4,c5,c6,c7,c8,c9,Q,K,d0,d1,d2,d3,d4,d5,d6,d7,d8,d9,f0,f1,f2,f3,f4,f5,f6,f8,f9,g0,g1,g2,g3,g4,g5,g6,g7,g8,g9,i0,i1,i2,i3,i4,i5,i6,i7,i8,i9,j0,j1,j2,j3,j4,b,c,d,f,g,i,k,l,m,n,o,p,q,r,s,t,u,w,x,y,z,A,B,C,D,E,F,G]) S =
  (zV (qU zi BinOp.eql 3 I (.int .i64 0) S) (fun v0 S1=>some ([x0,x1,x2,x3,x4,x5,x6,x7,x8,x9,L,H,J,R,U,V,W,X,Y,Z,a0,a1,a2,a3,a4,a5,a6,a7,a8,N,P,M,a9,b0,b1,b2,I,v0,dem v0,b5,b6,b7,b8,b9,c0,c1,c2,c3,c4,c5,c6,c7,c8,c9,Q,K,d0,d1,d2,d3,d4,d5,d6,d7,d8,d9,f0,f1,f2,f3,f4,f5,f6,f8,f9,g0,g1,g2,g3,g4,g5,g6,g7,g8,g9,i0,i1,i2,i3,i4,i5,i6,i7,i8,i9,j0,j1,j2,j3,j4,b,c,d,f,g,i,k,l,m,n,o,p,q,r,s,t,u,w,x,y,z,A,B,C,D,E,F,G],S1)) ()):=by
 kernel_rfl
theorem zu.r13 :jC zi ⟨true,false,false⟩ (jr O.hp true (jf zi O)) (reg Try.f7 13) (reg Try.f7 13).toList ([x0,x1,x2,x3,x4,x5,x6,x7,x8,x9,L,H,J,R,U,V,W,X,Y,Z,a0,a1,a2,a3,a4,a5,a6,a7,a8,N,P,M,a9,b0,b1,b2,I,b3,b4,b5,b6,b7,b8,b9,c0,c1,c2,c3,c4,c5,c6,c7,c8,c9,Q,K,d0,d1,d2,d3,d4,d5,d6,d7,d8,d9,f0,f1,f2,f3,f4,f5,f6,f8,f9,g0,g1,g2,g3,g4,g5,g6,g7,g8,g9,i0,i1,i2,i3,i4,i5,i6,i7,i8,i9,j0,j1,j2,j3,j4,b,c,d,f,g,i,k,l,m,n,o,p,q,r,s,t,u,w,x,y,z,A,B,C,D,E,F,G]) S =
  (zV (jE zi 27 0 [] S) (fun v0 S1=>zV (zG zi 31 x8 2 S1) (fun v1 S2=>zV (je zi false 27 v1 S2) (fun v2 S3=>zV (wO zi true 27 27 v0 v2 S3) (fun v3 S4=>some ([x0,x1,x2,x3,x4,x5,x6,x7,x8,x9,L,v3,J,R,U,V,W,X,Y,Z,a0,a1,a2,a3,a4,a5,a6,a7,a8,N,P,M,a9,b0,b1,b2,I,b3,b4,dem v0,v1,v2,dem v3,b9,c0,c1,c2,c3,c4,c5,c6,c7,c8,c9,Q,K,d0,d1,d2,d3,d4,d5,d6,d7,d8,d9,f0,f1,f2,f3,f4,f5,f6,f8,f9,g0,g1,g2,g3,g4,g5,g6,g7,g8,g9,i0,i1,i2,i3,i4,i5,i6,i7,i8,i9,j0,j1,j2,j3,j4,b,c,d,f,g,i,k,l,m,n,o,p,q,r,s,t,u,w,x,y,z,A,B,C,D,E,F,G],S4)) ()) ()) ()) ()):=by
 kernel_rfl
theorem zu.r14 :jC zi ⟨true,false,false⟩ (jr O.hp true (jf zi O)) (reg Try.f7 14) (reg Try.f7 14).toList ([x0,x1,x2,x3,x4,x5,x6,x7,x8,x9,L,H,J,R,U,V,W,X,Y,Z,a0,a1,a2,a3,a4,a5,a6,a7,a8,N,P,M,a9,b0,b1,b2,I,b3,b4,b5,b6,b7,b8,b9,c0,c1,c2,c3,c4,c5,c6,c7,c8,c9,Q,K,d0,d1,d2,d3,d4,d5,d6,d7,d8,d9,f0,f1,f2,f3,f4,f5,f6,f8,f9,g0,g1,g2,g3,g4,g5,g6,g7,g8,g9,i0,i1,i2,i3,i4,i5,i6,i7,i8,i9,j0,j1,j2,j3,j4,b,c,d,f,g,i,k,l,m,n,o,p,q,r,s,t,u,w,x,y,z,A,B,C,D,E,F,G]) S =
  (zV ((jf zi O) 11 [(dem (dem x5)),(dem (dem H))] S) (fun v2 S1=>some ([x0,x1,x2,x3,x4,x5,x6,x7,x8,v2,L,H,J,R,U,V,W,X,Y,Z,a0,a1,a2,a3,a4,a5,a6,a7,a8,N,P,M,a9,b0,b1,b2,I,b3,b4,b5,b6,b7,b8,dem x5,dem H,dem v2,c2,c3,c4,c5,c6,c7,c8,c9,Q,K,d0,d1,d2,d3,d4,d5,d6,d7,d8,d9,f0,f1,f2,f3,f4,f5,f6,f8,f9,g0,g1,g2,g3,g4,g5,g6,g7,g8,g9,i0,i1,i2,i3,i4,i5,i6,i7,i8,i9,j0,j1,j2,j3,j4,b,c,d,f,g,i,k,l,m,n,o,p,q,r,s,t,u,w,x,y,z,A,B,C,D,E,F,G],S1)) ()):=by
 kernel_rfl
theorem zu.r15 :jC zi ⟨true,false,false⟩ (jr O.hp true (jf zi O)) (reg Try.f7 15) (reg Try.f7 15).toList ([x0,x1,x2,x3,x4,x5,x6,x7,x8,x9,L,H,J,R,U,V,W,X,Y,Z,a0,a1,a2,a3,a4,a5,a6,a7,a8,N,P,M,a9,b0,b1,b2,I,b3,b4,b5,b6,b7,b8,b9,c0,c1,c2,c3,c4,c5,c6,c7,c8,c9,Q,K,d0,d1,d2,d3,d4,d5,d6,d7,d8,d9,f0,f1,f2,f3,f4,f5,f6,f8,f9,g0,g1,g2,g3,g4,g5,g6,g7,g8,g9,i0,i1,i2,i3,i4,i5,i6,i7,i8,i9,j0,j1,j2,j3,j4,b,c,d,f,g,i,k,l,m,n,o,p,q,r,s,t,u,w,x,y,z,A,B,C,D,E,F,G]) S =
  (zV (je zi false 40 x6 S) (fun v0 S1=>zV (zG zi 31 x8 2 S1) (fun v1 S2=>zV (je zi false 27 v1 S2) (fun v2 S3=>zV (yF (jf zi O) 18 [(dem v0),(dem v2)] S3) (fun v3 S4=>zV (zU v3 0 S4) (fun v5 S5=>zV (zU (jM 0 v3) 1 S5) (fun v6 S6=>zV (jD zi 40 x6 (dem v5) S6) (fun v7 S7=>some ([x0,x1,x2,x3,x4,x5,x6,x7,x8,x9,v6,H,J,R,U,V,W,X,Y,Z,a0,a1,a2,a3,a4,a5,a6,a7,a8,N,P,M,a9,b0,b1,b2,I,b3,b4,b5,b6,b7,b8,b9,c0,c1,jM 1 (jM 0 v3),v0,v1,v2,dem v3,v5,dem v6,c9,Q,K,d0,d1,d2,d3,d4,d5,d6,d7,d8,d9,f0,f1,f2,f3,f4,f5,f6,f8,f9,g0,g1,g2,g3,g4,g5,g6,g7,g8,g9,i0,i1,i2,i3,i4,i5,i6,i7,i8,i9,j0,j1,j2,j3,j4,b,c,d,f,g,i,k,l,m,n,o,p,q,r,s,t,u,w,x,y,z,A,B,C,D,E,F,G],S7)) ()) ()) ()) ()) ()) ()) ()):=by
 kernel_rfl
theorem zu.r16 :jC zi ⟨true,false,false⟩ (jr O.hp true (jf zi O)) (reg Try.f7 16) (reg Try.f7 16).toList ([x0,x1,x2,x3,x4,x5,x6,x7,x8,x9,L,H,J,R,U,V,W,X,Y,Z,a0,a1,a2,a3,a4,a5,a6,a7,a8,N,P,M,a9,b0,b1,b2,I,b3,b4,b5,b6,b7,b8,b9,c0,c1,c2,c3,c4,c5,c6,c7,c8,c9,Q,K,d0,d1,d2,d3,d4,d5,d6,d7,d8,d9,f0,f1,f2,f3,f4,f5,f6,f8,f9,g0,g1,g2,g3,g4,g5,g6,g7,g8,g9,i0,i1,i2,i3,i4,i5,i6,i7,i8,i9,j0,j1,j2,j3,j4,b,c,d,f,g,i,k,l,m,n,o,p,q,r,s,t,u,w,x,y,z,A,B,C,D,E,F,G]) S =
  (zV (vK zi 27 (dem H) S) (fun v1 S1=>some ([x0,x1,x2,x3,x4,x5,x6,x7,x8,x9,L,H,J,R,U,V,W,X,Y,Z,a0,a1,a2,a3,a4,a5,a6,a7,a8,N,P,M,a9,b0,b1,b2,I,b3,b4,b5,b6,b7,b8,b9,c0,c1,c2,c3,c4,c5,c6,c7,c8,dem H,v1,.int .i64 0,d0,d1,d2,d3,d4,d5,d6,d7,d8,d9,f0,f1,f2,f3,f4,f5,f6,f8,f9,g0,g1,g2,g3,g4,g5,g6,g7,g8,g9,i0,i1,i2,i3,i4,i5,i6,i7,i8,i9,j0,j1,j2,j3,j4,b,c,d,f,g,i,k,l,m,n,o,p,q,r,s,t,u,w,x,y,z,A,B,C,D,E,F,G],S1)) ()):=by
 kernel_rfl
theorem zu.r17 :jC zi ⟨true,false,false⟩ (jr O.hp true (jf zi O)) (reg Try.f7 17) (reg Try.f7 17).toList ([x0,x1,x2,x3,x4,x5,x6,x7,x8,x9,L,H,J,R,U,V,W,X,Y,Z,a0,a1,a2,a3,a4,a5,a6,a7,a8,N,P,M,a9,b0,b1,b2,I,b3,b4,b5,b6,b7,b8,b9,c0,c1,c2,c3,c4,c5,c6,c7,c8,c9,Q,K,d0,d1,d2,d3,d4,d5,d6,d7,d8,d9,f0,f1,f2,f3,f4,f5,f6,f8,f9,g0,g1,g2,g3,g4,g5,g6,g7,g8,g9,i0,i1,i2,i3,i4,i5,i6,i7,i8,i9,j0,j1,j2,j3,j4,b,c,d,f,g,i,k,l,m,n,o,p,q,r,s,t,u,w,x,y,z,A,B,C,D,E,F,G]) S =
  (zV (qU zi BinOp.lss 3 K Q S) (fun v0 S1=>some ([x0,x1,x2,x3,x4,x5,x6,x7,x8,x9,L,H,J,R,U,V,W,X,Y,Z,a0,a1,a2,a3,a4,a5,a6,a7,a8,N,P,M,a9,b0,b1,b2,I,b3,b4,b5,b6,b7,b8,b9,c0,c1,c2,c3,c4,c5,c6,c7,c8,c9,Q,K,v0,d1,d2,d3,d4,d5,d6,d7,d8,d9,f0,f1,f2,f3,f4,f5,f6,f8,f9,g0,g1,g2,g3,g4,g5,g6,g7,g8,g9,i0,i1,i2,i3,i4,i5,i6,i7,i8,i9,j0,j1,j2,j3,j4,b,c,d,f,g,i,k,l,m,n,o,p,q,r,s,t,u,w,x,y,z,A,B,C,D,E,F,G],S1)) ()):=by
 kernel_rfl
theorem zu.r18 :jC zi ⟨true,false,false⟩ (jr O.hp true (jf zi O)) (reg Try.f7 18) (reg Try.f7 18).toList ([x0,x1,x2,x3,x4,x5,x6,x7,x8,x9,L,H,J,R,U,V,W,X,Y,Z,a0,a1,a2,a3,a4,a5,a6,a7,a8,N,P,M,a9,b0,b1,b2,I,b3,b4,b5,b6,b7,b8,b9,c0,c1,c2,c3,c4,c5,c6,c7,c8,c9,Q,K,d0,d1,d2,d3,d4,d5,d6,d7,d8,d9,f0,f1,f2,f3,f4,f5,f6,f8,f9,g0,g1,g2,g3,g4,g5,g6,g7,g8,g9,i0,i1,i2,i3,i4,i5,i6,i7,i8,i9,j0,j1,j2,j3,j4,b,c,d,f,g,i,k,l,m,n,o,p,q,r,s,t,u,w,x,y,z,A,B,C,D,E,F,G]) S =
  ( some ([x0,x1,x2,x3,x4,x5,x6,x7,x8,x9,L,H,K,R,U,V,W,X,Y,Z,a0,a1,a2,a3,a4,a5,a6,a7,a8,N,P,M,a9,b0,b1,b2,I,b3,b4,b5,b6,b7,b8,b9,c0,c1,c2,c3,c4,c5,c6,c7,c8,c9,Q,dem K,d0,dem K,d2,d3,d4,d5,d6,d7,d8,d9,f0,f1,f2,f3,f4,f5,f6,f8,f9,g0,g1,g2,g3,g4,g5,g6,g7,g8,g9,i0,i1,i2,i3,i4,i5,i6,i7,i8,i9,j0,j1,j2,j3,j4,b,c,d,f,g,i,k,l,m,n,o,p,q,r,s,t,u,w,x,y,z,A,B,C,D,E,F,G],S)):=by
 kernel_rfl
theorem zu.r19 :jC zi ⟨true,false,false⟩ (jr O.hp true (jf zi O)) (reg Try.f7 19) (reg Try.f7 19).toList ([x0,x1,x2,x3,x4,x5,x6,x7,x8,x9,L,H,J,R,U,V,W,X,Y,Z,a0,a1,a2,a3,a4,a5,a6,a7,a8,N,P,M,a9,b0,b1,b2,I,b3,b4,b5,b6,b7,b8,b9,c0,c1,c2,c3,c4,c5,c6,c7,c8,c9,Q,K,d0,d1,d2,d3,d4,d5,d6,d7,d8,d9,f0,f1,f2,f3,f4,f5,f6,f8,f9,g0,g1,g2,g3,g4,g5,g6,g7,g8,g9,i0,i1,i2,i3,i4,i5,i6,i7,i8,i9,j0,j1,j2,j3,j4,b,c,d,f,g,i,k,l,m,n,o,p,q,r,s,t,u,w,x,y,z,A,B,C,D,E,F,G]) S =
  (zV (jy zi 27 (dem H) (dem J) S) (fun v2 S1=>zV (je zi false 5 v2 S1) (fun v3 S2=>zV (qU zi BinOp.add 5 v3 (Value.int IntKind.u8 1) S2) (fun v4 S3=>zV (jy zi 27 (dem H) (dem J) S3) (fun v5 S4=>zV (jD zi 5 v5 (dem v4) S4) (fun v6 S5=>some ([x0,x1,x2,x3,x4,x5,x6,x7,x8,x9,L,H,J,R,U,V,W,X,Y,Z,a0,a1,a2,a3,a4,a5,a6,a7,a8,N,P,M,a9,b0,b1,b2,I,b3,b4,b5,b6,b7,b8,b9,c0,c1,c2,c3,c4,c5,c6,c7,c8,c9,Q,K,d0,d1,dem H,dem J,v2,v3,v4,v5,d8,d9,f0,f1,f2,f3,f4,f5,f6,f8,f9,g0,g1,g2,g3,g4,g5,g6,g7,g8,g9,i0,i1,i2,i3,i4,i5,i6,i7,i8,i9,j0,j1,j2,j3,j4,b,c,d,f,g,i,k,l,m,n,o,p,q,r,s,t,u,w,x,y,z,A,B,C,D,E,F,G],S5)) ()) ()) ()) ()) ()):=by
 kernel_rfl
theorem zu.r20 :jC zi ⟨true,false,false⟩ (jr O.hp true (jf zi O)) (reg Try.f7 20) (reg Try.f7 20).toList ([x0,x1,x2,x3,x4,x5,x6,x7,x8,x9,L,H,J,R,U,V,W,X,Y,Z,a0,a1,a2,a3,a4,a5,a6,a7,a8,N,P,M,a9,b0,b1,b2,I,b3,b4,b5,b6,b7,b8,b9,c0,c1,c2,c3,c4,c5,c6,c7,c8,c9,Q,K,d0,d1,d2,d3,d4,d5,d6,d7,d8,d9,f0,f1,f2,f3,f4,f5,f6,f8,f9,g0,g1,g2,g3,g4,g5,g6,g7,g8,g9,i0,i1,i2,i3,i4,i5,i6,i7,i8,i9,j0,j1,j2,j3,j4,b,c,d,f,g,i,k,l,m,n,o,p,q,r,s,t,u,w,x,y,z,A,B,C,D,E,F,G]) S =
  (zV (qU zi BinOp.add 3 K (.int .i64 1) S) (fun v0 S1=>some ([x0,x1,x2,x3,x4,x5,x6,x7,x8,x9,L,H,J,R,U,V,W,X,Y,Z,a0,a1,a2,a3,a4,a5,a6,a7,a8,N,P,M,a9,b0,b1,b2,I,b3,b4,b5,b6,b7,b8,b9,c0,c1,c2,c3,c4,c5,c6,c7,c8,c9,Q,dem v0,d0,d1,d2,d3,d4,d5,d6,d7,v0,d9,f0,f1,f2,f3,f4,f5,f6,f8,f9,g0,g1,g2,g3,g4,g5,g6,g7,g8,g9,i0,i1,i2,i3,i4,i5,i6,i7,i8,i9,j0,j1,j2,j3,j4,b,c,d,f,g,i,k,l,m,n,o,p,q,r,s,t,u,w,x,y,z,A,B,C,D,E,F,G],S1)) ()):=by
 kernel_rfl
theorem zu.r21 :jC zi ⟨true,false,false⟩ (jr O.hp true (jf zi O)) (reg Try.f7 21) (reg Try.f7 21).toList ([x0,x1,x2,x3,x4,x5,x6,x7,x8,x9,L,H,J,R,U,V,W,X,Y,Z,a0,a1,a2,a3,a4,a5,a6,a7,a8,N,P,M,a9,b0,b1,b2,I,b3,b4,b5,b6,b7,b8,b9,c0,c1,c2,c3,c4,c5,c6,c7,c8,c9,Q,K,d0,d1,d2,d3,d4,d5,d6,d7,d8,d9,f0,f1,f2,f3,f4,f5,f6,f8,f9,g0,g1,g2,g3,g4,g5,g6,g7,g8,g9,i0,i1,i2,i3,i4,i5,i6,i7,i8,i9,j0,j1,j2,j3,j4,b,c,d,f,g,i,k,l,m,n,o,p,q,r,s,t,u,w,x,y,z,A,B,C,D,E,F,G]) S =
  (zV (qU zi BinOp.eql 3 I (.int .i64 1) S) (fun v0 S1=>some ([x0,x1,x2,x3,x4,x5,x6,x7,x8,x9,L,H,J,R,U,V,W,X,Y,Z,a0,a1,a2,a3,a4,a5,a6,a7,a8,N,P,M,a9,b0,b1,b2,I,b3,b4,b5,b6,b7,b8,b9,c0,c1,c2,c3,c4,c5,c6,c7,c8,c9,Q,K,d0,d1,d2,d3,d4,d5,d6,d7,d8,v0,dem v0,f1,f2,f3,f4,f5,f6,f8,f9,g0,g1,g2,g3,g4,g5,g6,g7,g8,g9,i0,i1,i2,i3,i4,i5,i6,i7,i8,i9,j0,j1,j2,j3,j4,b,c,d,f,g,i,k,l,m,n,o,p,q,r,s,t,u,w,x,y,z,A,B,C,D,E,F,G],S1)) ()):=by
 kernel_rfl
theorem zu.r22 :jC zi ⟨true,false,false⟩ (jr O.hp true (jf zi O)) (reg Try.f7 22) (reg Try.f7 22).toList ([x0,x1,x2,x3,x4,x5,x6,x7,x8,x9,L,H,J,R,U,V,W,X,Y,Z,a0,a1,a2,a3,a4,a5,a6,a7,a8,N,P,M,a9,b0,b1,b2,I,b3,b4,b5,b6,b7,b8,b9,c0,c1,c2,c3,c4,c5,c6,c7,c8,c9,Q,K,d0,d1,d2,d3,d4,d5,d6,d7,d8,d9,f0,f1,f2,f3,f4,f5,f6,f8,f9,g0,g1,g2,g3,g4,g5,g6,g7,g8,g9,i0,i1,i2,i3,i4,i5,i6,i7,i8,i9,j0,j1,j2,j3,j4,b,c,d,f,g,i,k,l,m,n,o,p,q,r,s,t,u,w,x,y,z,A,B,C,D,E,F,G]) S =
  (zV (yF (jf zi O) 13 [(dem (dem x5))] S) (fun v1 S1=>some ([x0,x1,x2,x3,x4,x5,x6,x7,x8,x9,L,H,J,R,U,V,W,X,Y,Z,a0,a1,a2,a3,a4,a5,a6,a7,a8,N,P,M,a9,b0,b1,b2,I,b3,b4,b5,b6,b7,b8,b9,c0,c1,c2,c3,c4,c5,c6,c7,c8,c9,Q,K,d0,d1,d2,d3,d4,d5,d6,d7,d8,d9,f0,dem x5,v1,f3,f4,f5,f6,f8,f9,g0,g1,g2,g3,g4,g5,g6,g7,g8,g9,i0,i1,i2,i3,i4,i5,i6,i7,i8,i9,j0,j1,j2,j3,j4,b,c,d,f,g,i,k,l,m,n,o,p,q,r,s,t,u,w,x,y,z,A,B,C,D,E,F,G],S1)) ()):=by
 kernel_rfl
theorem zu.r23 :jC zi ⟨true,false,false⟩ (jr O.hp true (jf zi O)) (reg Try.f7 23) (reg Try.f7 23).toList ([x0,x1,x2,x3,x4,x5,x6,x7,x8,x9,L,H,J,R,U,V,W,X,Y,Z,a0,a1,a2,a3,a4,a5,a6,a7,a8,N,P,M,a9,b0,b1,b2,I,b3,b4,b5,b6,b7,b8,b9,c0,c1,c2,c3,c4,c5,c6,c7,c8,c9,Q,K,d0,d1,d2,d3,d4,d5,d6,d7,d8,d9,f0,f1,f2,f3,f4,f5,f6,f8,f9,g0,g1,g2,g3,g4,g5,g6,g7,g8,g9,i0,i1,i2,i3,i4,i5,i6,i7,i8,i9,j0,j1,j2,j3,j4,b,c,d,f,g,i,k,l,m,n,o,p,q,r,s,t,u,w,x,y,z,A,B,C,D,E,F,G]) S =
  (zV (je zi false 40 x6 S) (fun v0 S1=>zV (yF (jf zi O) 19 [(dem v0)] S1) (fun v1 S2=>zV (jD zi 40 x6 (dem v1) S2) (fun v2 S3=>some ([x0,x1,x2,x3,x4,x5,x6,x7,x8,x9,L,H,J,R,U,V,W,X,Y,Z,a0,a1,a2,a3,a4,a5,a6,a7,a8,N,P,M,a9,b0,b1,b2,I,b3,b4,b5,b6,b7,b8,b9,c0,c1,c2,c3,c4,c5,c6,c7,c8,c9,Q,K,d0,d1,d2,d3,d4,d5,d6,d7,d8,d9,f0,f1,f2,v0,v1,f5,f6,f8,f9,g0,g1,g2,g3,g4,g5,g6,g7,g8,g9,i0,i1,i2,i3,i4,i5,i6,i7,i8,i9,j0,j1,j2,j3,j4,b,c,d,f,g,i,k,l,m,n,o,p,q,r,s,t,u,w,x,y,z,A,B,C,D,E,F,G],S3)) ()) ()) ()):=by
 kernel_rfl
theorem zu.r24 :jC zi ⟨true,false,false⟩ (jr O.hp true (jf zi O)) (reg Try.f7 24) (reg Try.f7 24).toList ([x0,x1,x2,x3,x4,x5,x6,x7,x8,x9,L,H,J,R,U,V,W,X,Y,Z,a0,a1,a2,a3,a4,a5,a6,a7,a8,N,P,M,a9,b0,b1,b2,I,b3,b4,b5,b6,b7,b8,b9,c0,c1,c2,c3,c4,c5,c6,c7,c8,c9,Q,K,d0,d1,d2,d3,d4,d5,d6,d7,d8,d9,f0,f1,f2,f3,f4,f5,f6,f8,f9,g0,g1,g2,g3,g4,g5,g6,g7,g8,g9,i0,i1,i2,i3,i4,i5,i6,i7,i8,i9,j0,j1,j2,j3,j4,b,c,d,f,g,i,k,l,m,n,o,p,q,r,s,t,u,w,x,y,z,A,B,C,D,E,F,G]) S =
  (zV (qU zi BinOp.eql 3 I (.int .i64 2) S) (fun v0 S1=>some ([x0,x1,x2,x3,x4,x5,x6,x7,x8,x9,L,H,J,R,U,V,W,X,Y,Z,a0,a1,a2,a3,a4,a5,a6,a7,a8,N,P,M,a9,b0,b1,b2,I,b3,b4,b5,b6,b7,b8,b9,c0,c1,c2,c3,c4,c5,c6,c7,c8,c9,Q,K,d0,d1,d2,d3,d4,d5,d6,d7,d8,d9,f0,f1,f2,f3,f4,v0,dem v0,f8,f9,g0,g1,g2,g3,g4,g5,g6,g7,g8,g9,i0,i1,i2,i3,i4,i5,i6,i7,i8,i9,j0,j1,j2,j3,j4,b,c,d,f,g,i,k,l,m,n,o,p,q,r,s,t,u,w,x,y,z,A,B,C,D,E,F,G],S1)) ()):=by
 kernel_rfl
theorem zu.r25 :jC zi ⟨true,false,false⟩ (jr O.hp true (jf zi O)) (reg Try.f7 25) (reg Try.f7 25).toList ([x0,x1,x2,x3,x4,x5,x6,x7,x8,x9,L,H,J,R,U,V,W,X,Y,Z,a0,a1,a2,a3,a4,a5,a6,a7,a8,N,P,M,a9,b0,b1,b2,I,b3,b4,b5,b6,b7,b8,b9,c0,c1,c2,c3,c4,c5,c6,c7,c8,c9,Q,K,d0,d1,d2,d3,d4,d5,d6,d7,d8,d9,f0,f1,f2,f3,f4,f5,f6,f8,f9,g0,g1,g2,g3,g4,g5,g6,g7,g8,g9,i0,i1,i2,i3,i4,i5,i6,i7,i8,i9,j0,j1,j2,j3,j4,b,c,d,f,g,i,k,l,m,n,o,p,q,r,s,t,u,w,x,y,z,A,B,C,D,E,F,G]) S =
  (zV (zG zi 31 x8 1 S) (fun v1 S1=>zV (je zi false 3 v1 S1) (fun v2 S2=>zV (yF (jf zi O) 16 [(dem (dem x5)),(dem v2)] S2) (fun v3 S3=>some ([x0,x1,x2,x3,x4,x5,x6,x7,x8,x9,L,H,J,R,U,V,W,X,Y,Z,a0,a1,a2,a3,a4,a5,a6,a7,a8,N,P,M,a9,b0,b1,b2,I,b3,b4,b5,b6,b7,b8,b9,c0,c1,c2,c3,c4,c5,c6,c7,c8,c9,Q,K,d0,d1,d2,d3,d4,d5,d6,d7,d8,d9,f0,f1,f2,f3,f4,f5,f6,dem x5,v1,v2,v3,g2,g3,g4,g5,g6,g7,g8,g9,i0,i1,i2,i3,i4,i5,i6,i7,i8,i9,j0,j1,j2,j3,j4,b,c,d,f,g,i,k,l,m,n,o,p,q,r,s,t,u,w,x,y,z,A,B,C,D,E,F,G],S3)) ()) ()) ()):=by
 kernel_rfl
theorem zu.r26 :jC zi ⟨true,false,false⟩ (jr O.hp true (jf zi O)) (reg Try.f7 26) (reg Try.f7 26).toList ([x0,x1,x2,x3,x4,x5,x6,x7,x8,x9,L,H,J,R,U,V,W,X,Y,Z,a0,a1,a2,a3,a4,a5,a6,a7,a8,N,P,M,a9,b0,b1,b2,I,b3,b4,b5,b6,b7,b8,b9,c0,c1,c2,c3,c4,c5,c6,c7,c8,c9,Q,K,d0,d1,d2,d3,d4,d5,d6,d7,d8,d9,f0,f1,f2,f3,f4,f5,f6,f8,f9,g0,g1,g2,g3,g4,g5,g6,g7,g8,g9,i0,i1,i2,i3,i4,i5,i6,i7,i8,i9,j0,j1,j2,j3,j4,b,c,d,f,g,i,k,l,m,n,o,p,q,r,s,t,u,w,x,y,z,A,B,C,D,E,F,G]) S =
  (zV (je zi false 40 x6 S) (fun v0 S1=>zV (zG zi 31 x8 1 S1) (fun v1 S2=>zV (je zi false 3 v1 S2) (fun v2 S3=>zV (yF (jf zi O) 20 [(dem v0),(dem v2)] S3) (fun v3 S4=>zV (jD zi 40 x6 (dem v3) S4) (fun v4 S5=>some ([x0,x1,x2,x3,x4,x5,x6,x7,x8,x9,L,H,J,R,U,V,W,X,Y,Z,a0,a1,a2,a3,a4,a5,a6,a7,a8,N,P,M,a9,b0,b1,b2,I,b3,b4,b5,b6,b7,b8,b9,c0,c1,c2,c3,c4,c5,c6,c7,c8,c9,Q,K,d0,d1,d2,d3,d4,d5,d6,d7,d8,d9,f0,f1,f2,f3,f4,f5,f6,f8,f9,g0,g1,v0,v1,v2,v3,g6,g7,g8,g9,i0,i1,i2,i3,i4,i5,i6,i7,i8,i9,j0,j1,j2,j3,j4,b,c,d,f,g,i,k,l,m,n,o,p,q,r,s,t,u,w,x,y,z,A,B,C,D,E,F,G],S5)) ()) ()) ()) ()) ()):=by
 kernel_rfl
theorem zu.r27 :jC zi ⟨true,false,false⟩ (jr O.hp true (jf zi O)) (reg Try.f7 27) (reg Try.f7 27).toList ([x0,x1,x2,x3,x4,x5,x6,x7,x8,x9,L,H,J,R,U,V,W,X,Y,Z,a0,a1,a2,a3,a4,a5,a6,a7,a8,N,P,M,a9,b0,b1,b2,I,b3,b4,b5,b6,b7,b8,b9,c0,c1,c2,c3,c4,c5,c6,c7,c8,c9,Q,K,d0,d1,d2,d3,d4,d5,d6,d7,d8,d9,f0,f1,f2,f3,f4,f5,f6,f8,f9,g0,g1,g2,g3,g4,g5,g6,g7,g8,g9,i0,i1,i2,i3,i4,i5,i6,i7,i8,i9,j0,j1,j2,j3,j4,b,c,d,f,g,i,k,l,m,n,o,p,q,r,s,t,u,w,x,y,z,A,B,C,D,E,F,G]) S =
  (zV (qU zi BinOp.eql 3 I (.int .i64 3) S) (fun v0 S1=>some ([x0,x1,x2,x3,x4,x5,x6,x7,x8,x9,L,H,J,R,U,V,W,X,Y,Z,a0,a1,a2,a3,a4,a5,a6,a7,a8,N,P,M,a9,b0,b1,b2,I,b3,b4,b5,b6,b7,b8,b9,c0,c1,c2,c3,c4,c5,c6,c7,c8,c9,Q,K,d0,d1,d2,d3,d4,d5,d6,d7,d8,d9,f0,f1,f2,f3,f4,f5,f6,f8,f9,g0,g1,g2,g3,g4,g5,v0,dem v0,g8,g9,i0,i1,i2,i3,i4,i5,i6,i7,i8,i9,j0,j1,j2,j3,j4,b,c,d,f,g,i,k,l,m,n,o,p,q,r,s,t,u,w,x,y,z,A,B,C,D,E,F,G],S1)) ()):=by
 kernel_rfl
theorem zu.r28 :jC zi ⟨true,false,false⟩ (jr O.hp true (jf zi O)) (reg Try.f7 28) (reg Try.f7 28).toList ([x0,x1,x2,x3,x4,x5,x6,x7,x8,x9,L,H,J,R,U,V,W,X,Y,Z,a0,a1,a2,a3,a4,a5,a6,a7,a8,N,P,M,a9,b0,b1,b2,I,b3,b4,b5,b6,b7,b8,b9,c0,c1,c2,c3,c4,c5,c6,c7,c8,c9,Q,K,d0,d1,d2,d3,d4,d5,d6,d7,d8,d9,f0,f1,f2,f3,f4,f5,f6,f8,f9,g0,g1,g2,g3,g4,g5,g6,g7,g8,g9,i0,i1,i2,i3,i4,i5,i6,i7,i8,i9,j0,j1,j2,j3,j4,b,c,d,f,g,i,k,l,m,n,o,p,q,r,s,t,u,w,x,y,z,A,B,C,D,E,F,G]) S =
  (zV (zG zi 31 x8 1 S) (fun v1 S1=>zV (je zi false 3 v1 S1) (fun v2 S2=>zV (yF (jf zi O) 21 [(dem (dem x5)),(dem v2)] S2) (fun v3 S3=>some ([x0,x1,x2,x3,x4,x5,x6,x7,x8,x9,L,H,J,R,U,V,W,X,Y,Z,a0,a1,a2,a3,a4,a5,a6,a7,a8,N,P,M,a9,b0,b1,b2,I,b3,b4,b5,b6,b7,b8,b9,c0,c1,c2,c3,c4,c5,c6,c7,c8,c9,Q,K,d0,d1,d2,d3,d4,d5,d6,d7,d8,d9,f0,f1,f2,f3,f4,f5,f6,f8,f9,g0,g1,g2,g3,g4,g5,g6,g7,dem x5,v1,v2,v3,i2,i3,i4,i5,i6,i7,i8,i9,j0,j1,j2,j3,j4,b,c,d,f,g,i,k,l,m,n,o,p,q,r,s,t,u,w,x,y,z,A,B,C,D,E,F,G],S3)) ()) ()) ()):=by
 kernel_rfl
theorem zu.r29 :jC zi ⟨true,false,false⟩ (jr O.hp true (jf zi O)) (reg Try.f7 29) (reg Try.f7 29).toList ([x0,x1,x2,x3,x4,x5,x6,x7,x8,x9,L,H,J,R,U,V,W,X,Y,Z,a0,a1,a2,a3,a4,a5,a6,a7,a8,N,P,M,a9,b0,b1,b2,I,b3,b4,b5,b6,b7,b8,b9,c0,c1,c2,c3,c4,c5,c6,c7,c8,c9,Q,K,d0,d1,d2,d3,d4,d5,d6,d7,d8,d9,f0,f1,f2,f3,f4,f5,f6,f8,f9,g0,g1,g2,g3,g4,g5,g6,g7,g8,g9,i0,i1,i2,i3,i4,i5,i6,i7,i8,i9,j0,j1,j2,j3,j4,b,c,d,f,g,i,k,l,m,n,o,p,q,r,s,t,u,w,x,y,z,A,B,C,D,E,F,G]) S =
  (zV (je zi false 40 x6 S) (fun v0 S1=>zV (zG zi 31 x8 1 S1) (fun v1 S2=>zV (je zi false 3 v1 S2) (fun v2 S3=>zV (yF (jf zi O) 17 [(dem v0),(dem v2)] S3) (fun v3 S4=>zV (jD zi 40 x6 (dem v3) S4) (fun v4 S5=>some ([x0,x1,x2,x3,x4,x5,x6,x7,x8,x9,L,H,J,R,U,V,W,X,Y,Z,a0,a1,a2,a3,a4,a5,a6,a7,a8,N,P,M,a9,b0,b1,b2,I,b3,b4,b5,b6,b7,b8,b9,c0,c1,c2,c3,c4,c5,c6,c7,c8,c9,Q,K,d0,d1,d2,d3,d4,d5,d6,d7,d8,d9,f0,f1,f2,f3,f4,f5,f6,f8,f9,g0,g1,g2,g3,g4,g5,g6,g7,g8,g9,i0,i1,v0,v1,v2,v3,i6,i7,i8,i9,j0,j1,j2,j3,j4,b,c,d,f,g,i,k,l,m,n,o,p,q,r,s,t,u,w,x,y,z,A,B,C,D,E,F,G],S5)) ()) ()) ()) ()) ()):=by
 kernel_rfl
theorem zu.r30 :jC zi ⟨true,false,false⟩ (jr O.hp true (jf zi O)) (reg Try.f7 30) (reg Try.f7 30).toList ([x0,x1,x2,x3,x4,x5,x6,x7,x8,x9,L,H,J,R,U,V,W,X,Y,Z,a0,a1,a2,a3,a4,a5,a6,a7,a8,N,P,M,a9,b0,b1,b2,I,b3,b4,b5,b6,b7,b8,b9,c0,c1,c2,c3,c4,c5,c6,c7,c8,c9,Q,K,d0,d1,d2,d3,d4,d5,d6,d7,d8,d9,f0,f1,f2,f3,f4,f5,f6,f8,f9,g0,g1,g2,g3,g4,g5,g6,g7,g8,g9,i0,i1,i2,i3,i4,i5,i6,i7,i8,i9,j0,j1,j2,j3,j4,b,c,d,f,g,i,k,l,m,n,o,p,q,r,s,t,u,w,x,y,z,A,B,C,D,E,F,G]) S =
  (zV (qU zi BinOp.eql 3 I (.int .i64 4) S) (fun v0 S1=>some ([x0,x1,x2,x3,x4,x5,x6,x7,x8,x9,L,H,J,R,U,V,W,X,Y,Z,a0,a1,a2,a3,a4,a5,a6,a7,a8,N,P,M,a9,b0,b1,b2,I,b3,b4,b5,b6,b7,b8,b9,c0,c1,c2,c3,c4,c5,c6,c7,c8,c9,Q,K,d0,d1,d2,d3,d4,d5,d6,d7,d8,d9,f0,f1,f2,f3,f4,f5,f6,f8,f9,g0,g1,g2,g3,g4,g5,g6,g7,g8,g9,i0,i1,i2,i3,i4,i5,v0,dem v0,i8,i9,j0,j1,j2,j3,j4,b,c,d,f,g,i,k,l,m,n,o,p,q,r,s,t,u,w,x,y,z,A,B,C,D,E,F,G],S1)) ()):=by
 kernel_rfl
theorem zu.r31 :jC zi ⟨true,false,false⟩ (jr O.hp true (jf zi O)) (reg Try.f7 31) (reg Try.f7 31).toList ([x0,x1,x2,x3,x4,x5,x6,x7,x8,x9,L,H,J,R,U,V,W,X,Y,Z,a0,a1,a2,a3,a4,a5,a6,a7,a8,N,P,M,a9,b0,b1,b2,I,b3,b4,b5,b6,b7,b8,b9,c0,c1,c2,c3,c4,c5,c6,c7,c8,c9,Q,K,d0,d1,d2,d3,d4,d5,d6,d7,d8,d9,f0,f1,f2,f3,f4,f5,f6,f8,f9,g0,g1,g2,g3,g4,g5,g6,g7,g8,g9,i0,i1,i2,i3,i4,i5,i6,i7,i8,i9,j0,j1,j2,j3,j4,b,c,d,f,g,i,k,l,m,n,o,p,q,r,s,t,u,w,x,y,z,A,B,C,D,E,F,G]) S =
  (zV (zG zi 31 x8 1 S) (fun v1 S1=>zV (je zi false 3 v1 S1) (fun v2 S2=>zV (yF (jf zi O) 22 [(dem (dem x5)),(dem v2)] S2) (fun v3 S3=>some ([x0,x1,x2,x3,x4,x5,x6,x7,x8,x9,L,H,J,R,U,V,W,X,Y,Z,a0,a1,a2,a3,a4,a5,a6,a7,a8,N,P,M,a9,b0,b1,b2,I,b3,b4,b5,b6,b7,b8,b9,c0,c1,c2,c3,c4,c5,c6,c7,c8,c9,Q,K,d0,d1,d2,d3,d4,d5,d6,d7,d8,d9,f0,f1,f2,f3,f4,f5,f6,f8,f9,g0,g1,g2,g3,g4,g5,g6,g7,g8,g9,i0,i1,i2,i3,i4,i5,i6,i7,dem x5,v1,v2,v3,j2,j3,j4,b,c,d,f,g,i,k,l,m,n,o,p,q,r,s,t,u,w,x,y,z,A,B,C,D,E,F,G],S3)) ()) ()) ()):=by
 kernel_rfl
theorem zu.r32 :jC zi ⟨true,false,false⟩ (jr O.hp true (jf zi O)) (reg Try.f7 32) (reg Try.f7 32).toList ([x0,x1,x2,x3,x4,x5,x6,x7,x8,x9,L,H,J,R,U,V,W,X,Y,Z,a0,a1,a2,a3,a4,a5,a6,a7,a8,N,P,M,a9,b0,b1,b2,I,b3,b4,b5,b6,b7,b8,b9,c0,c1,c2,c3,c4,c5,c6,c7,c8,c9,Q,K,d0,d1,d2,d3,d4,d5,d6,d7,d8,d9,f0,f1,f2,f3,f4,f5,f6,f8,f9,g0,g1,g2,g3,g4,g5,g6,g7,g8,g9,i0,i1,i2,i3,i4,i5,i6,i7,i8,i9,j0,j1,j2,j3,j4,b,c,d,f,g,i,k,l,m,n,o,p,q,r,s,t,u,w,x,y,z,A,B,C,D,E,F,G]) S =
  (zV (je zi false 40 x6 S) (fun v0 S1=>zV (zG zi 31 x8 1 S1) (fun v1 S2=>zV (je zi false 3 v1 S2) (fun v2 S3=>zV (yF (jf zi O) 23 [(dem v0),(dem v2)] S3) (fun v3 S4=>zV (jD zi 40 x6 (dem v3) S4) (fun v4 S5=>some ([x0,x1,x2,x3,x4,x5,x6,x7,x8,x9,L,H,J,R,U,V,W,X,Y,Z,a0,a1,a2,a3,a4,a5,a6,a7,a8,N,P,M,a9,b0,b1,b2,I,b3,b4,b5,b6,b7,b8,b9,c0,c1,c2,c3,c4,c5,c6,c7,c8,c9,Q,K,d0,d1,d2,d3,d4,d5,d6,d7,d8,d9,f0,f1,f2,f3,f4,f5,f6,f8,f9,g0,g1,g2,g3,g4,g5,g6,g7,g8,g9,i0,i1,i2,i3,i4,i5,i6,i7,i8,i9,j0,j1,v0,v1,v2,v3,c,d,f,g,i,k,l,m,n,o,p,q,r,s,t,u,w,x,y,z,A,B,C,D,E,F,G],S5)) ()) ()) ()) ()) ()):=by
 kernel_rfl
theorem zu.d33:qE zi (reg Try.f7 33)=true:=by kernel_rfl
theorem zu.aeB:fixed zi (reg Try.f7 33)=false:=by kernel_rfl
theorem zu.k33:checked zi (reg Try.f7 33)=[7,8,9,15,16,22]:=by kernel_rfl
theorem zu.g33:again zi (reg Try.f7 33)=[(8,5),(16,14),(22,21),(1008,5),(1016,14),(1022,21)]:=by kernel_rfl
theorem zu.r33 :zI zi O true (.region 33 (reg Try.f7 33) true) ([x0,x1,x2,x3,x4,x5,x6,x7,x8,x9,L,H,J,R,U,V,W,X,Y,Z,a0,a1,a2,a3,a4,a5,a6,a7,a8,N,P,M,a9,b0,b1,b2,I,b3,b4,b5,b6,b7,b8,b9,c0,c1,c2,c3,c4,c5,c6,c7,c8,c9,Q,K,d0,d1,d2,d3,d4,d5,d6,d7,d8,d9,f0,f1,f2,f3,f4,f5,f6,f8,f9,g0,g1,g2,g3,g4,g5,g6,g7,g8,g9,i0,i1,i2,i3,i4,i5,i6,i7,i8,i9,j0,j1,j2,j3,j4,b,c,d,f,g,i,k,l,m,n,o,p,q,r,s,t,u,w,x,y,z,A,B,C,D,E,F,G]) S =
  Qa (zV (qU zi BinOp.neq 3 (dem x9) (dem L) S) (fun v2 S1=>gdK (dem v2) false (ret x5) S1 (fun v4 S2=>gdK (dem v2) false ((jf zi O) 14 [(dem (dem v4))]) S2 (fun v5 S3=>gdK (dem v2) false (qF zi true true 27 9 v5) S3 (fun v6 S4=>XA (dem v2) false (zG zi 40 x6 0) S4 (fun v7 S5=>XA (dem v2) false (je zi false 27 v7) S5 (fun v8 S6=>XA (dem v2) false (qF zi true true 27 9 v8) S6 (fun v9 S7=>gdK (dem v2) false (qU zi BinOp.neq 9 v6 v9) S7 (fun k2 S8=>zV (JH (dem v2) (Value.bool true) k2 S8) (fun j5 S9=>gdK (dem j5) false (ret x5) S9 (fun k3 j8=>gdK (dem j5) false (yF (jf zi O) 15 [(dem (dem k3))]) j8 (fun k4 l2=>XA (dem j5) false (zG zi 40 x6 1) l2 (fun j7 j9=>XA (dem j5) false (je zi false 3 j7) j9 (fun k5 l3=>gdK (dem j5) false (qU zi BinOp.neq 3 k4 k5) l3 (fun k6 l4=>zV (JH (dem j5) (Value.bool true) k6 l4) (fun j6 l5=>gdK (dem j6) false (ret x5) l5 (fun k7 k0=>gdK (dem j6) false ((jf zi O) 12 [(dem (dem k7))]) k0 (fun k8 k1=>XA (dem j6) false (je zi false 40 x6) k1 (fun k9 l6=>gdK (dem j6) false (yF (jf zi O) 24 [(dem k9)]) l6 (fun l0 l7=>gdK (dem j6) false (qU zi BinOp.neq 3 k8 l0) l7 (fun l1 l8=>zV (JH (dem j6) (Value.bool true) l1 l8) (fun l9 m0=>ckK (yM v7 S2 S5 && (yM j7 j8 j9 && (yM x6 k0 k1 && (JL v7 S2 S5 && (JL j7 j8 j9 && (JL x6 k0 k1 && (true))))))) (some ([x0,x1,x2,x3,x4,x5,x6,x7,x8,x9,L,H,J,R,U,V,W,X,Y,Z,a0,a1,a2,a3,a4,a5,a6,a7,a8,N,P,M,a9,b0,b1,b2,I,b3,b4,b5,b6,b7,b8,b9,c0,c1,c2,c3,c4,c5,c6,c7,c8,c9,Q,K,d0,d1,d2,d3,d4,d5,d6,d7,d8,d9,f0,f1,f2,f3,f4,f5,f6,f8,f9,g0,g1,g2,g3,g4,g5,g6,g7,g8,g9,i0,i1,i2,i3,i4,i5,i6,i7,i8,i9,j0,j1,j2,j3,j4,b,dem x9,dem L,v2,dem v2,dem v4,v5,v6,v7,v8,v9,k2,j5,dem j5,dem k3,k4,j7,k5,k6,j6,dem j6,dem k7,k8,k9,l0,l1,l9,G],m0)) ()) ()) ()) ()) ()) ()) ()) ()) ()) ()) ()) ()) ()) ()) ()) ()) ()) ()) ()) ()) ()) ()):=by
 rw [vP zu.d33 zu.aeB zu.k33 zu.g33]
 refine congrArg Qa ?_
 refine uP Try.f7 33 0 (v:=x9) (pe:=zh) ?_
 refine uP Try.f7 33 1 (v:=L) (pe:=zh) ?_
 refine uD Try.f7 33 2 (pe:=zh) (fun v2 S1=>?_)
 refine uP Try.f7 33 3 (v:=v2) (pe:=zh) ?_
 refine uG Try.f7 33 4 (j:=3) (pe:=zh) (fun v4 S2=>?_)
 refine uG Try.f7 33 5 (j:=3) (pe:=zh) (fun v5 S3=>?_)
 refine uG Try.f7 33 6 (j:=3) (pe:=zh) (fun v6 S4=>?_)
 refine uGC Try.f7 33 7 (j:=3) (pe:=zh) (fun v7 S5=>?_)
 refine uGC Try.f7 33 8 (j:=3) (pe:=v7) (fun v8 S6=>?_)
 refine uGC Try.f7 33 9 (j:=3) (pe:=zh) (fun v9 S7=>?_)
 refine uG Try.f7 33 10 (j:=3) (pe:=zh) (fun k2 S8=>?_)
 refine uD Try.f7 33 11 (pe:=zh) (fun j5 S9=>?_)
 refine uP Try.f7 33 12 (v:=j5) (pe:=zh) ?_
 refine uG Try.f7 33 13 (j:=12) (pe:=zh) (fun k3 j8=>?_)
 refine uG Try.f7 33 14 (j:=12) (pe:=zh) (fun k4 l2=>?_)
 refine uGC Try.f7 33 15 (j:=12) (pe:=zh) (fun j7 j9=>?_)
 refine uGC Try.f7 33 16 (j:=12) (pe:=j7) (fun k5 l3=>?_)
 refine uG Try.f7 33 17 (j:=12) (pe:=zh) (fun k6 l4=>?_)
 refine uD Try.f7 33 18 (pe:=zh) (fun j6 l5=>?_)
 refine uP Try.f7 33 19 (v:=j6) (pe:=zh) ?_
 refine uG Try.f7 33 20 (j:=19) (pe:=zh) (fun k7 k0=>?_)
 refine uG Try.f7 33 21 (j:=19) (pe:=zh) (fun k8 k1=>?_)
 refine uGC Try.f7 33 22 (j:=19) (pe:=x6) (fun k9 l6=>?_)
 refine uG Try.f7 33 23 (j:=19) (pe:=zh) (fun l0 l7=>?_)
 refine uG Try.f7 33 24 (j:=19) (pe:=zh) (fun l1 l8=>?_)
 refine uD Try.f7 33 25 (pe:=zh) (fun l9 m0=>?_)
 kernel_rfl
theorem zu.r34 :jC zi ⟨true,false,false⟩ (jr O.hp true (jf zi O)) (reg Try.f7 34) (reg Try.f7 34).toList ([x0,x1,x2,x3,x4,x5,x6,x7,x8,x9,L,H,J,R,U,V,W,X,Y,Z,a0,a1,a2,a3,a4,a5,a6,a7,a8,N,P,M,a9,b0,b1,b2,I,b3,b4,b5,b6,b7,b8,b9,c0,c1,c2,c3,c4,c5,c6,c7,c8,c9,Q,K,d0,d1,d2,d3,d4,d5,d6,d7,d8,d9,f0,f1,f2,f3,f4,f5,f6,f8,f9,g0,g1,g2,g3,g4,g5,g6,g7,g8,g9,i0,i1,i2,i3,i4,i5,i6,i7,i8,i9,j0,j1,j2,j3,j4,b,c,d,f,g,i,k,l,m,n,o,p,q,r,s,t,u,w,x,y,z,A,B,C,D,E,F,G]) S =
  ( some ([x0,x1,x2,x3,Value.bool false,x5,x6,x7,x8,x9,L,H,J,R,U,V,W,X,Y,Z,a0,a1,a2,a3,a4,a5,a6,a7,a8,N,P,M,a9,b0,b1,b2,I,b3,b4,b5,b6,b7,b8,b9,c0,c1,c2,c3,c4,c5,c6,c7,c8,c9,Q,K,d0,d1,d2,d3,d4,d5,d6,d7,d8,d9,f0,f1,f2,f3,f4,f5,f6,f8,f9,g0,g1,g2,g3,g4,g5,g6,g7,g8,g9,i0,i1,i2,i3,i4,i5,i6,i7,i8,i9,j0,j1,j2,j3,j4,b,c,d,f,g,i,k,l,m,n,o,p,q,r,s,t,u,w,x,y,z,A,B,C,D,E,F,G],S)):=by
 kernel_rfl
theorem zu.r35 :jC zi ⟨true,false,false⟩ (jr O.hp true (jf zi O)) (reg Try.f7 35) (reg Try.f7 35).toList ([x0,x1,x2,x3,x4,x5,x6,x7,x8,x9,L,H,J,R,U,V,W,X,Y,Z,a0,a1,a2,a3,a4,a5,a6,a7,a8,N,P,M,a9,b0,b1,b2,I,b3,b4,b5,b6,b7,b8,b9,c0,c1,c2,c3,c4,c5,c6,c7,c8,c9,Q,K,d0,d1,d2,d3,d4,d5,d6,d7,d8,d9,f0,f1,f2,f3,f4,f5,f6,f8,f9,g0,g1,g2,g3,g4,g5,g6,g7,g8,g9,i0,i1,i2,i3,i4,i5,i6,i7,i8,i9,j0,j1,j2,j3,j4,b,c,d,f,g,i,k,l,m,n,o,p,q,r,s,t,u,w,x,y,z,A,B,C,D,E,F,G]) S =
  (zV (qU zi BinOp.add 3 M (.int .i64 1) S) (fun v0 S1=>some ([x0,x1,x2,x3,x4,x5,x6,x7,x8,x9,L,H,J,R,U,V,W,X,Y,Z,a0,a1,a2,a3,a4,a5,a6,a7,a8,N,P,dem v0,a9,b0,b1,b2,I,b3,b4,b5,b6,b7,b8,b9,c0,c1,c2,c3,c4,c5,c6,c7,c8,c9,Q,K,d0,d1,d2,d3,d4,d5,d6,d7,d8,d9,f0,f1,f2,f3,f4,f5,f6,f8,f9,g0,g1,g2,g3,g4,g5,g6,g7,g8,g9,i0,i1,i2,i3,i4,i5,i6,i7,i8,i9,j0,j1,j2,j3,j4,b,c,d,f,g,i,k,l,m,n,o,p,q,r,s,t,u,w,x,y,z,A,B,C,D,E,F,v0],S1)) ()):=by
 kernel_rfl
theorem zu.r36 :jC zi ⟨true,false,false⟩ (jr O.hp true (jf zi O)) (reg Try.f7 36) (reg Try.f7 36).toList ([x0,x1,x2,x3,x4,x5,x6,x7,x8,x9,L,H,J,R,U,V,W,X,Y,Z,a0,a1,a2,a3,a4,a5,a6,a7,a8,N,P,M,a9,b0,b1,b2,I,b3,b4,b5,b6,b7,b8,b9,c0,c1,c2,c3,c4,c5,c6,c7,c8,c9,Q,K,d0,d1,d2,d3,d4,d5,d6,d7,d8,d9,f0,f1,f2,f3,f4,f5,f6,f8,f9,g0,g1,g2,g3,g4,g5,g6,g7,g8,g9,i0,i1,i2,i3,i4,i5,i6,i7,i8,i9,j0,j1,j2,j3,j4,b,c,d,f,g,i,k,l,m,n,o,p,q,r,s,t,u,w,x,y,z,A,B,C,D,E,F,G]) S =
  ( some ([x0,x1,x2,x3,Value.bool true,x5,x6,x7,x8,x9,L,H,J,R,U,V,W,X,Y,Z,a0,a1,a2,a3,a4,a5,a6,a7,a8,N,P,M,a9,b0,b1,b2,I,b3,b4,b5,b6,b7,b8,b9,c0,c1,c2,c3,c4,c5,c6,c7,c8,c9,Q,K,d0,d1,d2,d3,d4,d5,d6,d7,d8,d9,f0,f1,f2,f3,f4,f5,f6,f8,f9,g0,g1,g2,g3,g4,g5,g6,g7,g8,g9,i0,i1,i2,i3,i4,i5,i6,i7,i8,i9,j0,j1,j2,j3,j4,b,c,d,f,g,i,k,l,m,n,o,p,q,r,s,t,u,w,x,y,z,A,B,C,D,E,F,G],S)):=by
 kernel_rfl
theorem zu.rs:type_of% (aeC @zu.r0 (aeC @zu.r1 (aeC @zu.r2 (aeC @zu.r3 (aeC @zu.r4 (aeC @zu.r5 (aeC @zu.r6 (aeC @zu.r7 (aeC @zu.r8 (aeC @zu.r9 (aeC @zu.r10 (aeC @zu.r11 (aeC @zu.r12 (aeC @zu.r13 (aeC @zu.r14 (aeC @zu.r15 (aeC @zu.r16 (aeC @zu.r17 (aeC @zu.r18 (aeC @zu.r19 (aeC @zu.r20 (aeC @zu.r21 (aeC @zu.r22 (aeC @zu.r23 (aeC @zu.r24 (aeC @zu.r25 (aeC @zu.r26 (aeC @zu.r27 (aeC @zu.r28 (aeC @zu.r29 (aeC @zu.r30 (aeC @zu.r31 (aeC @zu.r32 (aeC @zu.r33 (aeC @zu.r34 (aeC @zu.r35 (@zu.r36))))))))))))))))))))))))))))))))))))):=aeC @zu.r0 (aeC @zu.r1 (aeC @zu.r2 (aeC @zu.r3 (aeC @zu.r4 (aeC @zu.r5 (aeC @zu.r6 (aeC @zu.r7 (aeC @zu.r8 (aeC @zu.r9 (aeC @zu.r10 (aeC @zu.r11 (aeC @zu.r12 (aeC @zu.r13 (aeC @zu.r14 (aeC @zu.r15 (aeC @zu.r16 (aeC @zu.r17 (aeC @zu.r18 (aeC @zu.r19 (aeC @zu.r20 (aeC @zu.r21 (aeC @zu.r22 (aeC @zu.r23 (aeC @zu.r24 (aeC @zu.r25 (aeC @zu.r26 (aeC @zu.r27 (aeC @zu.r28 (aeC @zu.r29 (aeC @zu.r30 (aeC @zu.r31 (aeC @zu.r32 (aeC @zu.r33 (aeC @zu.r34 (aeC @zu.r35 (@zu.r36))))))))))))))))))))))))))))))))))))
theorem zu.runs {x0 x1:Value} {S S1:zx} {e:AEx} {T:List Value} (h:zI zi O true zu.code ([x0,x1,zh,zh,zh,zh,zh,zh,zh,zh,zh,zh,zh,zh,zh,zh,zh,zh,zh,zh,zh,zh,zh,zh,zh,zh,zh,zh,zh,zh,zh,zh,zh,zh,zh,zh,zh,zh,zh,zh,zh,zh,zh,zh,zh,zh,zh,zh,zh,zh,zh,zh,zh,zh,zh,zh,zh,zh,zh,zh,zh,zh,zh,zh,zh,zh,zh,zh,zh,zh,zh,zh,zh,zh,zh,zh,zh,zh,zh,zh,zh,zh,zh,zh,zh,zh,zh,zh,zh,zh,zh,zh,zh,zh,zh,zh,zh,zh,zh,zh,zh,zh,zh,zh,zh,zh,zh,zh,zh,zh,zh,zh,zh,zh,zh,zh,zh,zh,zh,zh,zh,zh,zh,zh,zh,zh,zh,zh]) S=some (e,T,S1)) (he:e=.normal∨e=.ret):jf zi O 7 [x0,x1] S=some (T.getD 4 zh,S1) :=
 yB rfl rfl Try.func7 (by decide) zu.body (by exact h) he (yL (a:=T.getD 4 zh) ((show zX zi T S1 Try.f7.results.toList=zX zi T S1 [(ResultVar.tmp 4)] from by kernel_rfl).trans (by simp only [zX])) (by kernel_rfl))
end Go.Proofs.Ytgfpjnblookppaa
namespace Go.Proofs.Ytgfpjnblookppaa
open Go.Abs
abbrev jo.id:FuncId:=10
noncomputable def jo.code:Code:=(.seq (.region 0 (reg Try.f10 0) false) (.seq (.region 1 (reg Try.f10 1) false) (.seq (.region 2 (reg Try.f10 2) false) (.seq (.region 3 (reg Try.f10 3) false) Code.ret))))
theorem jo.body:Try.f10.body=some jo.code:=by kernel_rfl
variable (b d n c g i j k l m:Value) (S:zx)
theorem jo.r0 :jC zi ⟨false,false,false⟩ (jf zi O) (reg Try.f10 0) (reg Try.f10 0).toList ([b,d,n,c,g,i,j,k,l,m]) S =
  ( some ([b,d,Value.pointer none,c,g,i,j,k,l,m],S)):=by
 kernel_rfl
theorem jo.r1 :jC zi ⟨false,false,false⟩ (jf zi O) (reg Try.f10 1) (reg Try.f10 1).toList ([b,d,n,c,g,i,j,k,l,m]) S =
  (zV (yH zi 49 [] S) (fun o f=>zV (Yq (dem o) f) (fun p q=>some ([b,d,n,p,o,dem p,j,k,l,m],q)) ()) ()):=by
 kernel_rfl
theorem jo.r2 :jC zi ⟨false,false,false⟩ (jf zi O) (reg Try.f10 2) (reg Try.f10 2).toList ([b,d,n,c,g,i,j,k,l,m]) S =
  (zV ((jf zi O) 21 [(dem (dem c)),(dem (dem b))] S) (fun r f=>some ([b,d,n,c,g,i,dem c,dem b,r,m],f)) ()):=by
 kernel_rfl
theorem jo.r3 :jC zi ⟨false,false,false⟩ (jf zi O) (reg Try.f10 3) (reg Try.f10 3).toList ([b,d,n,c,g,i,j,k,l,m]) S =
  ( some ([b,d,c,dem c,g,i,j,k,l,dem c],S)):=by
 kernel_rfl
theorem jo.rs:type_of% (aeC @jo.r0 (aeC @jo.r1 (aeC @jo.r2 (@jo.r3)))):=aeC @jo.r0 (aeC @jo.r1 (aeC @jo.r2 (@jo.r3)))
theorem jo.runs {b:Value} {S f:zx} {e:AEx} {T:List Value} (h:zI zi O false jo.code ([b,zh,zh,zh,zh,zh,zh,zh,zh,zh]) S=some (e,T,f)) (he:e=.normal∨e=.ret):jf zi O 10 [b] S=some (T.getD 2 zh,f) :=
 yB rfl rfl Try.func10 (by decide) jo.body (by exact h) he (yL (a:=T.getD 2 zh) ((show zX zi T f Try.f10.results.toList=zX zi T f [(ResultVar.tmp 2)] from by kernel_rfl).trans (by simp only [zX])) (by kernel_rfl))
end Go.Proofs.Ytgfpjnblookppaa
namespace Go.Proofs.Ytgfpjnblookppaa
open Go.Abs
abbrev zH.id:FuncId:=11
noncomputable def zH.code:Code:=(.seq (.region 0 (reg Try.f11 0) false) (.seq (.seq (.region 1 (reg Try.f11 1) false) (.cond (.tmp 9) (.seq (.region 2 (reg Try.f11 2) false) Code.ret) Code.skip)) (.seq (.region 3 (reg Try.f11 3) false) (.seq (.region 4 (reg Try.f11 4) false) Code.ret))))
theorem zH.body:Try.f11.body=some zH.code:=by kernel_rfl
variable (b c o p w q r s t u d f g i j k l m n:Value) (S:zx)
theorem zH.r0 :jC zi ⟨true,false,false⟩ (jr O.hp true (jf zi O)) (reg Try.f11 0) (reg Try.f11 0).toList ([b,c,o,p,w,q,r,s,t,u,d,f,g,i,j,k,l,m,n]) S =
  ( some ([b,c,o,p,.int .i64 0,q,r,s,t,u,d,f,g,i,j,k,l,m,n],S)):=by
 kernel_rfl
theorem zH.r1 :jC zi ⟨true,false,false⟩ (jr O.hp true (jf zi O)) (reg Try.f11 1) (reg Try.f11 1).toList ([b,c,o,p,w,q,r,s,t,u,d,f,g,i,j,k,l,m,n]) S =
  (zV (vK zi 27 (dem c) S) (fun B v=>zV ((jf zi O) 12 [(dem (dem b))] v) (fun x z=>zV (qU zi BinOp.gtr 3 B x z) (fun y A=>some ([b,c,o,p,w,dem c,B,dem b,x,y,d,f,g,i,j,k,l,m,n],A)) ()) ()) ()):=by
 kernel_rfl
theorem zH.r2 :jC zi ⟨true,false,false⟩ (jr O.hp true (jf zi O)) (reg Try.f11 2) (reg Try.f11 2).toList ([b,c,o,p,w,q,r,s,t,u,d,f,g,i,j,k,l,m,n]) S =
  ( some ([b,c,o,p,.int .i64 41,q,r,s,t,u,d,f,g,i,j,k,l,m,n],S)):=by
 kernel_rfl
theorem zH.r3 :jC zi ⟨true,false,false⟩ (jr O.hp true (jf zi O)) (reg Try.f11 3) (reg Try.f11 3).toList ([b,c,o,p,w,q,r,s,t,u,d,f,g,i,j,k,l,m,n]) S =
  (zV (jk (dem b) S) (fun C v=>zV (zG zi 49 C 0 v) (fun x z=>zV (je zi false 27 x z) (fun y A=>zV (wO zi true 27 27 y (dem c) A) (fun D G=>zV (jk (dem b) G) (fun E H=>zV (zG zi 49 E 0 H) (fun F I=>zV (jD zi 27 F (dem D) I) (fun K J=>some ([b,c,o,p,w,q,r,s,t,u,dem b,dem b,C,x,dem y,dem c,D,E,F],J)) ()) ()) ()) ()) ()) ()) ()):=by
 kernel_rfl
theorem zH.r4 :jC zi ⟨true,false,false⟩ (jr O.hp true (jf zi O)) (reg Try.f11 4) (reg Try.f11 4).toList ([b,c,o,p,w,q,r,s,t,u,d,f,g,i,j,k,l,m,n]) S =
  ( some ([b,c,o,p,.int .i64 0,q,r,s,t,u,d,f,g,i,j,k,l,m,n],S)):=by
 kernel_rfl
theorem zH.rs:type_of% (aeC @zH.r0 (aeC @zH.r1 (aeC @zH.r2 (aeC @zH.r3 (@zH.r4))))):=aeC @zH.r0 (aeC @zH.r1 (aeC @zH.r2 (aeC @zH.r3 (@zH.r4))))
theorem zH.runs {b c:Value} {S v:zx} {e:AEx} {T:List Value} (h:zI zi O true zH.code ([b,c,zh,zh,zh,zh,zh,zh,zh,zh,zh,zh,zh,zh,zh,zh,zh,zh,zh]) S=some (e,T,v)) (he:e=.normal∨e=.ret):jf zi O 11 [b,c] S=some (T.getD 4 zh,v) :=
 yB rfl rfl Try.func11 (by decide) zH.body (by exact h) he (yL (a:=T.getD 4 zh) ((show zX zi T v Try.f11.results.toList=zX zi T v [(ResultVar.tmp 4)] from by kernel_rfl).trans (by simp only [zX])) (by kernel_rfl))
end Go.Proofs.Ytgfpjnblookppaa
namespace Go.Proofs.Ytgfpjnblookppaa
open Go.Abs
abbrev zM.id:FuncId:=12
noncomputable def zM.code:Code:=(.seq (.region 0 (reg Try.f12 0) false) (.seq (.region 1 (reg Try.f12 1) true) Code.ret))
theorem zM.body:Try.f12.body=some zM.code:=by kernel_rfl
variable (b k B l m n o p q r f g i j:Value) (S:zx)
theorem zM.r0 :jC zi ⟨true,false,false⟩ (jr O.hp true (jf zi O)) (reg Try.f12 0) (reg Try.f12 0).toList ([b,k,B,l,m,n,o,p,q,r,f,g,i,j]) S =
  ( some ([b,k,.int .i64 0,l,m,n,o,p,q,r,f,g,i,j],S)):=by
 kernel_rfl
theorem zM.d1:qE zi (reg Try.f12 1)=true:=by kernel_rfl
theorem zM.ff1:fixed zi (reg Try.f12 1)=false:=by kernel_rfl
theorem zM.k1:checked zi (reg Try.f12 1)=[]:=by kernel_rfl
theorem zM.g1:again zi (reg Try.f12 1)=[]:=by kernel_rfl
theorem zM.r1 :zI zi O true (.region 1 (reg Try.f12 1) true) ([b,k,B,l,m,n,o,p,q,r,f,g,i,j]) S =
  Qa (zV (jk (dem b) S) (fun s c=>zV (zG zi 49 s 2 c) (fun t C=>zV (je zi false 3 t C) (fun u D=>zV (jk (dem b) D) (fun w E=>zV (zG zi 49 w 0 E) (fun x F=>zV (je zi false 27 x F) (fun y G=>zV (vK zi 27 y G) (fun z H=>zV (qU zi BinOp.sub 3 u z H) (fun A I=>zV (yc zi true Builtin.max #[3,3] 3 [(.int .i64 0),A] I) (fun d J=>some ([b,k,d,dem b,s,t,u,dem b,w,x,y,z,A,dem d],J)) ()) ()) ()) ()) ()) ()) ()) ()) ()):=by
 rw [vP zM.d1 zM.ff1 zM.k1 zM.g1]
 refine congrArg Qa ?_
 refine tP Try.f12 1 0 (v:=b) ?_
 refine tD Try.f12 1 1 (fun s c=>?_)
 refine tD Try.f12 1 2 (fun t C=>?_)
 refine tD Try.f12 1 3 (fun u D=>?_)
 refine tP Try.f12 1 4 (v:=b) ?_
 refine tD Try.f12 1 5 (fun w E=>?_)
 refine tD Try.f12 1 6 (fun x F=>?_)
 refine tD Try.f12 1 7 (fun y G=>?_)
 refine tD Try.f12 1 8 (fun z H=>?_)
 refine tD Try.f12 1 9 (fun A I=>?_)
 refine tD Try.f12 1 10 (fun d J=>?_)
 refine tP Try.f12 1 11 (v:=d) ?_
 kernel_rfl
theorem zM.rs:type_of% (aeC @zM.r0 (@zM.r1)):=aeC @zM.r0 (@zM.r1)
theorem zM.runs {b:Value} {S c:zx} {e:AEx} {T:List Value} (h:zI zi O true zM.code ([b,zh,zh,zh,zh,zh,zh,zh,zh,zh,zh,zh,zh,zh]) S=some (e,T,c)) (he:e=.normal∨e=.ret):jf zi O 12 [b] S=some (T.getD 2 zh,c) :=
 yB rfl rfl Try.func12 (by decide) zM.body (by exact h) he (yL (a:=T.getD 2 zh) ((show zX zi T c Try.f12.results.toList=zX zi T c [(ResultVar.tmp 2)] from by kernel_rfl).trans (by simp only [zX])) (by kernel_rfl))
end Go.Proofs.Ytgfpjnblookppaa
namespace Go.Proofs.Ytgfpjnblookppaa
open Go.Abs
abbrev zZ.id:FuncId:=13
noncomputable def zZ.code:Code:=(.region 0 (reg Try.f13 0) false)
theorem zZ.body:Try.f13.body=some zZ.code:=by kernel_rfl
variable (a c l m n o p q r s:Value) (S:zx)
theorem zZ.r0 :jC zi ⟨false,false,false⟩ (jf zi O) (reg Try.f13 0) (reg Try.f13 0).toList ([a,c,l,m,n,o,p,q,r,s]) S =
  (zV (jk (dem a) S) (fun d b=>zV (zG zi 49 d 0 b) (fun f t=>zV (je zi false 27 f t) (fun g u=>zV (vK zi 27 g u) (fun i v=>zV (jk (dem a) v) (fun j w=>zV (zG zi 49 j 1 w) (fun k x=>zV (jD zi 3 k (dem i) x) (fun z y=>some ([a,c,dem a,dem a,d,f,g,i,j,k],y)) ()) ()) ()) ()) ()) ()) ()):=by
 kernel_rfl
theorem zZ.rs:type_of% (@zZ.r0):=@zZ.r0
theorem zZ.runs {a:Value} {S b:zx} {e:AEx} {T:List Value} (h:zI zi O false zZ.code ([a,zh,zh,zh,zh,zh,zh,zh,zh,zh]) S=some (e,T,b)) (he:e=.normal∨e=.ret):jf zi O 13 [a] S=some (Value.tuple #[],b) :=
 yB rfl rfl Try.func13 (by decide) zZ.body (by exact h) he rfl
end Go.Proofs.Ytgfpjnblookppaa
namespace Go.Proofs.Ytgfpjnblookppaa
open Go.Abs
abbrev zT.id:FuncId:=15
noncomputable def zT.code:Code:=(.seq (.region 0 (reg Try.f15 0) false) (.seq (.region 1 (reg Try.f15 1) false) Code.ret))
theorem zT.body:Try.f15.body=some zT.code:=by kernel_rfl
variable (b d k f g i j:Value) (S:zx)
theorem zT.r0 :jC zi ⟨false,false,false⟩ (jf zi O) (reg Try.f15 0) (reg Try.f15 0).toList ([b,d,k,f,g,i,j]) S =
  ( some ([b,d,.int .i64 0,f,g,i,j],S)):=by
 kernel_rfl
theorem zT.r1 :jC zi ⟨false,false,false⟩ (jf zi O) (reg Try.f15 1) (reg Try.f15 1).toList ([b,d,k,f,g,i,j]) S =
  (zV (jk (dem b) S) (fun l c=>zV (zG zi 49 l 1 c) (fun m o=>zV (je zi false 3 m o) (fun n p=>some ([b,d,n,dem b,l,m,dem n],p)) ()) ()) ()):=by
 kernel_rfl
theorem zT.rs:type_of% (aeC @zT.r0 (@zT.r1)):=aeC @zT.r0 (@zT.r1)
theorem zT.runs {b:Value} {S c:zx} {e:AEx} {T:List Value} (h:zI zi O false zT.code ([b,zh,zh,zh,zh,zh,zh]) S=some (e,T,c)) (he:e=.normal∨e=.ret):jf zi O 15 [b] S=some (T.getD 2 zh,c) :=
 yB rfl rfl Try.func15 (by decide) zT.body (by exact h) he (yL (a:=T.getD 2 zh) ((show zX zi T c Try.f15.results.toList=zX zi T c [(ResultVar.tmp 2)] from by kernel_rfl).trans (by simp only [zX])) (by kernel_rfl))
end Go.Proofs.Ytgfpjnblookppaa
namespace Go.Proofs.Ytgfpjnblookppaa
open Go.Abs
abbrev zL.id:FuncId:=16
noncomputable def zL.code:Code:=(.seq (.region 0 (reg Try.f16 0) true) (.region 1 (reg Try.f16 1) false))
theorem zL.body:Try.f16.body=some zL.code:=by kernel_rfl
variable (a b R U x4 x5 x6 x7 x8 x9 d f g i j k l m n o p q r s t u w x y z A B:Value) (S:zx)
theorem zL.d0:qE zi (reg Try.f16 0)=true:=by kernel_rfl
theorem zL.ff0:fixed zi (reg Try.f16 0)=false:=by kernel_rfl
theorem zL.k0:checked zi (reg Try.f16 0)=[]:=by kernel_rfl
theorem zL.g0:again zi (reg Try.f16 0)=[]:=by kernel_rfl
theorem zL.r0 :zI zi O false (.region 0 (reg Try.f16 0) true) ([a,b,R,U,x4,x5,x6,x7,x8,x9,d,f,g,i,j,k,l,m,n,o,p,q,r,s,t,u,w,x,y,z,A,B]) S =
  Qa (zV (jk (dem a) S) (fun v2 c=>zV (zG zi 49 v2 0 c) (fun v3 S2=>zV (je zi false 27 v3 S2) (fun v4 S3=>zV (jk (dem a) S3) (fun v6 S4=>zV (zG zi 49 v6 1 S4) (fun v7 S5=>zV (je zi false 3 v7 S5) (fun v8 S6=>zV (jk (dem a) S6) (fun C S7=>zV (zG zi 49 C 0 S7) (fun D S8=>zV (je zi false 27 D S8) (fun E S9=>zV (vK zi 27 E S9) (fun F V=>zV (jk (dem a) V) (fun G W=>zV (zG zi 49 G 1 W) (fun H X=>zV (je zi false 3 H X) (fun I Y=>zV (qU zi BinOp.sub 3 F I Y) (fun J Z=>zV (yc zi false Builtin.min #[3,3] 3 [(dem b),J] Z) (fun K a0=>zV (yc zi false Builtin.max #[3,3] 3 [(.int .i64 0),K] a0) (fun L a1=>zV (qU zi BinOp.add 3 v8 L a1) (fun M a2=>zV (wQ zi false 27 v4 none (some M) a2) (fun N a3=>zV (jk (dem a) a3) (fun P a4=>zV (zG zi 49 P 0 a4) (fun Q a5=>zV (jD zi 27 Q (dem N) a5) (fun a7 a6=>some ([a,b,R,U,dem a,dem a,v2,v3,v4,dem a,v6,v7,v8,dem b,dem a,C,D,E,F,dem a,G,H,I,J,K,L,M,N,P,Q,A,B],a6)) ()) ()) ()) ()) ()) ()) ()) ()) ()) ()) ()) ()) ()) ()) ()) ()) ()) ()) ()) ()) ()):=by
 rw [kU zL.d0 zL.ff0 zL.k0 zL.g0]
 refine congrArg Qa ?_
 refine tP Try.f16 0 0 (v:=a) ?_
 refine tP Try.f16 0 1 (v:=a) ?_
 refine tD Try.f16 0 2 (fun v2 c=>?_)
 refine tD Try.f16 0 3 (fun v3 S2=>?_)
 refine tD Try.f16 0 4 (fun v4 S3=>?_)
 refine tP Try.f16 0 5 (v:=a) ?_
 refine tD Try.f16 0 6 (fun v6 S4=>?_)
 refine tD Try.f16 0 7 (fun v7 S5=>?_)
 refine tD Try.f16 0 8 (fun v8 S6=>?_)
 refine tP Try.f16 0 9 (v:=b) ?_
 refine tP Try.f16 0 10 (v:=a) ?_
 refine tD Try.f16 0 11 (fun C S7=>?_)
 refine tD Try.f16 0 12 (fun D S8=>?_)
 refine tD Try.f16 0 13 (fun E S9=>?_)
 refine tD Try.f16 0 14 (fun F V=>?_)
 refine tP Try.f16 0 15 (v:=a) ?_
 refine tD Try.f16 0 16 (fun G W=>?_)
 refine tD Try.f16 0 17 (fun H X=>?_)
 refine tD Try.f16 0 18 (fun I Y=>?_)
 refine tD Try.f16 0 19 (fun J Z=>?_)
 refine tD Try.f16 0 20 (fun K a0=>?_)
 refine tD Try.f16 0 21 (fun L a1=>?_)
 refine tD Try.f16 0 22 (fun M a2=>?_)
 refine tD Try.f16 0 23 (fun N a3=>?_)
 refine tD Try.f16 0 24 (fun P a4=>?_)
 refine tD Try.f16 0 25 (fun Q a5=>?_)
 refine tD Try.f16 0 26 (fun a7 a6=>?_)
 kernel_rfl
theorem zL.r1 :jC zi ⟨false,false,false⟩ (jf zi O) (reg Try.f16 1) (reg Try.f16 1).toList ([a,b,R,U,x4,x5,x6,x7,x8,x9,d,f,g,i,j,k,l,m,n,o,p,q,r,s,t,u,w,x,y,z,A,B]) S =
  (zV ((jf zi O) 13 [(dem (dem a))] S) (fun v1 c=>some ([a,b,R,U,x4,x5,x6,x7,x8,x9,d,f,g,i,j,k,l,m,n,o,p,q,r,s,t,u,w,x,y,z,dem a,v1],c)) ()):=by
 kernel_rfl
theorem zL.rs:type_of% (aeC @zL.r0 (@zL.r1)):=aeC @zL.r0 (@zL.r1)
theorem zL.runs {a b:Value} {S c:zx} {e:AEx} {T:List Value} (h:zI zi O false zL.code ([a,b,zh,zh,zh,zh,zh,zh,zh,zh,zh,zh,zh,zh,zh,zh,zh,zh,zh,zh,zh,zh,zh,zh,zh,zh,zh,zh,zh,zh,zh,zh]) S=some (e,T,c)) (he:e=.normal∨e=.ret):jf zi O 16 [a,b] S=some (Value.tuple #[],c) :=
 yB rfl rfl Try.func16 (by decide) zL.body (by exact h) he rfl
end Go.Proofs.Ytgfpjnblookppaa
namespace Go.Proofs.Ytgfpjnblookppaa
open Go.Abs
abbrev zO.id:FuncId:=21
noncomputable def zO.code:Code:=(.region 0 (reg Try.f21 0) false)
theorem zO.body:Try.f21.body=some zO.code:=by kernel_rfl
variable (a b d f l m n o p q:Value) (S:zx)
theorem zO.r0 :jC zi ⟨false,false,false⟩ (jf zi O) (reg Try.f21 0) (reg Try.f21 0).toList ([a,b,d,f,l,m,n,o,p,q]) S =
  (zV (yc zi false Builtin.min #[3,3] 3 [(dem b),(.int .i64 65536)] S) (fun g c=>zV (yc zi false Builtin.max #[3,3] 3 [(.int .i64 0),g] c) (fun i r=>zV (jk (dem a) r) (fun j s=>zV (zG zi 49 j 2 s) (fun k t=>zV (jD zi 3 k (dem i) t) (fun v u=>some ([a,b,d,f,dem a,dem b,g,i,j,k],u)) ()) ()) ()) ()) ()):=by
 kernel_rfl
theorem zO.rs:type_of% (@zO.r0):=@zO.r0
theorem zO.runs {a b:Value} {S c:zx} {e:AEx} {T:List Value} (h:zI zi O false zO.code ([a,b,zh,zh,zh,zh,zh,zh,zh,zh]) S=some (e,T,c)) (he:e=.normal∨e=.ret):jf zi O 21 [a,b] S=some (Value.tuple #[],c) :=
 yB rfl rfl Try.func21 (by decide) zO.body (by exact h) he rfl
end Go.Proofs.Ytgfpjnblookppaa
namespace Go.Proofs.Ytgfpjnblookppaa
open Go.Abs
abbrev zK.id:FuncId:=22
noncomputable def zK.code:Code:=(.seq (.region 0 (reg Try.f22 0) true) (.region 1 (reg Try.f22 1) true))
theorem zK.body:Try.f22.body=some zK.code:=by kernel_rfl
variable (a f x2 x3 x4 x5 x6 x7 x8 x9 r s t u w x y z A B C D E F G H I J K L M N P:Value) (S:zx)
theorem zK.d0:qE zi (reg Try.f22 0)=true:=by kernel_rfl
theorem zK.ff0:fixed zi (reg Try.f22 0)=false:=by kernel_rfl
theorem zK.k0:checked zi (reg Try.f22 0)=[]:=by kernel_rfl
theorem zK.g0:again zi (reg Try.f22 0)=[]:=by kernel_rfl
theorem zK.r0 :zI zi O false (.region 0 (reg Try.f22 0) true) ([a,f,x2,x3,x4,x5,x6,x7,x8,x9,r,s,t,u,w,x,y,z,A,B,C,D,E,F,G,H,I,J,K,L,M,N,P]) S =
  Qa (zV (jk (dem a) S) (fun l g=>zV (zG zi 49 l 0 g) (fun m Q=>zV (je zi false 27 m Q) (fun n R=>zV (jk (dem a) R) (fun o U=>zV (zG zi 49 o 0 U) (fun p V=>zV (je zi false 27 p V) (fun q W=>zV (vK zi 27 q W) (fun b X=>zV (yc zi false Builtin.min #[3,3] 3 [(dem f),b] X) (fun c Y=>zV (yc zi false Builtin.max #[3,3] 3 [(.int .i64 0),c] Y) (fun d Z=>zV (wQ zi false 27 n none (some d) Z) (fun i j=>zV (jk (dem a) j) (fun a0 k=>zV (zG zi 49 a0 0 k) (fun a1 a2=>zV (jD zi 27 a1 (dem i) a2) (fun a4 a3=>some ([a,f,x2,x3,dem a,dem a,l,m,n,dem f,dem a,o,p,q,b,c,d,i,a0,a1,C,D,E,F,G,H,I,J,K,L,M,N,P],a3)) ()) ()) ()) ()) ()) ()) ()) ()) ()) ()) ()) ()) ()):=by
 rw [kU zK.d0 zK.ff0 zK.k0 zK.g0]
 refine congrArg Qa ?_
 refine tP Try.f22 0 0 (v:=a) ?_
 refine tP Try.f22 0 1 (v:=a) ?_
 refine tD Try.f22 0 2 (fun l g=>?_)
 refine tD Try.f22 0 3 (fun m Q=>?_)
 refine tD Try.f22 0 4 (fun n R=>?_)
 refine tP Try.f22 0 5 (v:=f) ?_
 refine tP Try.f22 0 6 (v:=a) ?_
 refine tD Try.f22 0 7 (fun o U=>?_)
 refine tD Try.f22 0 8 (fun p V=>?_)
 refine tD Try.f22 0 9 (fun q W=>?_)
 refine tD Try.f22 0 10 (fun b X=>?_)
 refine tD Try.f22 0 11 (fun c Y=>?_)
 refine tD Try.f22 0 12 (fun d Z=>?_)
 refine tD Try.f22 0 13 (fun i j=>?_)
 refine tD Try.f22 0 14 (fun a0 k=>?_)
 refine tD Try.f22 0 15 (fun a1 a2=>?_)
 refine tD Try.f22 0 16 (fun a4 a3=>?_)
 kernel_rfl
theorem zK.d1:qE zi (reg Try.f22 1)=true:=by kernel_rfl
theorem zK.ff1:fixed zi (reg Try.f22 1)=false:=by kernel_rfl
theorem zK.k1:checked zi (reg Try.f22 1)=[]:=by kernel_rfl
theorem zK.g1:again zi (reg Try.f22 1)=[]:=by kernel_rfl
theorem zK.r1 :zI zi O false (.region 1 (reg Try.f22 1) true) ([a,f,x2,x3,x4,x5,x6,x7,x8,x9,r,s,t,u,w,x,y,z,A,B,C,D,E,F,G,H,I,J,K,L,M,N,P]) S =
  Qa (zV (jk (dem a) S) (fun l g=>zV (zG zi 49 l 1 g) (fun m Q=>zV (je zi false 3 m Q) (fun n R=>zV (jk (dem a) R) (fun v6 U=>zV (zG zi 49 v6 0 U) (fun o V=>zV (je zi false 27 o V) (fun p W=>zV (vK zi 27 p W) (fun q X=>zV (yc zi false Builtin.min #[3,3] 3 [n,q] X) (fun b Y=>zV (jk (dem a) Y) (fun c Z=>zV (zG zi 49 c 1 Z) (fun d j=>zV (jD zi 3 d (dem b) j) (fun i k=>some ([a,f,x2,x3,x4,x5,x6,x7,x8,x9,r,s,t,u,w,x,y,z,A,B,dem a,dem a,l,m,n,dem a,v6,o,p,q,b,c,d],k)) ()) ()) ()) ()) ()) ()) ()) ()) ()) ()) ()):=by
 rw [kU zK.d1 zK.ff1 zK.k1 zK.g1]
 refine congrArg Qa ?_
 refine tP Try.f22 1 0 (v:=a) ?_
 refine tP Try.f22 1 1 (v:=a) ?_
 refine tD Try.f22 1 2 (fun l g=>?_)
 refine tD Try.f22 1 3 (fun m Q=>?_)
 refine tD Try.f22 1 4 (fun n R=>?_)
 refine tP Try.f22 1 5 (v:=a) ?_
 refine tD Try.f22 1 6 (fun v6 U=>?_)
 refine tD Try.f22 1 7 (fun o V=>?_)
 refine tD Try.f22 1 8 (fun p W=>?_)
 refine tD Try.f22 1 9 (fun q X=>?_)
 refine tD Try.f22 1 10 (fun b Y=>?_)
 refine tD Try.f22 1 11 (fun c Z=>?_)
 refine tD Try.f22 1 12 (fun d j=>?_)
 refine tD Try.f22 1 13 (fun i k=>?_)
 kernel_rfl
theorem zK.rs:type_of% (aeC @zK.r0 (@zK.r1)):=aeC @zK.r0 (@zK.r1)
theorem zK.runs {a f:Value} {S g:zx} {e:AEx} {T:List Value} (h:zI zi O false zK.code ([a,f,zh,zh,zh,zh,zh,zh,zh,zh,zh,zh,zh,zh,zh,zh,zh,zh,zh,zh,zh,zh,zh,zh,zh,zh,zh,zh,zh,zh,zh,zh,zh]) S=some (e,T,g)) (he:e=.normal∨e=.ret):jf zi O 22 [a,f] S=some (Value.tuple #[],g) :=
 yB rfl rfl Try.func22 (by decide) zK.body (by exact h) he rfl
end Go.Proofs.Ytgfpjnblookppaa
