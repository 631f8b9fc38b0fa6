/-
The law FetchOrder returns true for every input, and leaves it as it was; no condition. Part 3 of 4 of the texts (put together by a program: own names are short, what isn't needed is left out).
-/
import Derived.Test.YtpjglojnipjgfaaZFetchOrder2
import Derived.KernelRfl
import Derived.Test.YtpjglojnipjgfaaChecked
set_option linter.unusedVariables false
set_option linter.unusedSimpArgs false
set_option maxRecDepth 100000
open Go renaming undef → zh
open Go.Proofs.Try renaming prog → zi
open Nat renaming reduceEqDiff → zk
open Int renaming reduceEq → zn
open Int renaming reduceLT → zo
open Int renaming reduceLE → zq
namespace Go.Abs
open Go.RowKit
def Zf (P:Program) (call:FuncId→List Value→M Value):Prop:=∀ g args aargs S v S',call g args S=some (v,S')→∀ μ H ω,GI μ S H→L0 μ H args aargs→Dom μ H ω→(∀ r s,ω r=some s→s=.ext) →
 ∃ a H' μ' ω',lim P g aargs H=some (a,H')∧GI μ' S' H'∧Later μ H μ' H'∧Kept ω H ω' H'∧Dom μ' H' ω'∧VV μ' H' ω' (some (.res none)) v a
section
variable {P:Program} {call:FuncId→List Value→M Value} {μ:Mu} {ω:Nat→Option jO} {S S' H:zx} {T A:List Value}
theorem aap (hc:Zf P call) {g:FuncId} {args aargs:List Value} {v:Value} (hG:GI μ S H) (hT:TI μ H ω T A) (h:call g args S=some (v,S')) (ha:L0 μ H args aargs):Out μ ω H A T S' v (lim P g aargs H):=by
 obtain ⟨a,H',μ',ω',h1,h2,h3,h4,h5,h6⟩:=hc g args aargs S v S' h μ H (fun r=>(ω r).map fun _=>.ext) hG ha (fun r s hs=>by
  cases hr:ω r with
  | none=>simp [hr] at hs
  | some s0=>exact hT.dom r s0 hr) (fun r s hs=>by
  cases hr:ω r with
  | none=>simp [hr] at hs
  | some s0=>simp [hr] at hs;exact hs.symm)
 have kept:∀ r s,ω r=some s→ω' r=some .ext∧H'.get r=H.get r:=fun r s hs=>h4 r (by dsimp only;rw [hs];rfl)
 refine ⟨a,H',μ',fun r=>match ω' r with | some .ext=>ω r | some (.slot _ _)=>none | x=>x,h1,h2,h3,fun r hr=>?_,fun r s hs=>?_,hT.len,fun i=>?_,?_⟩
 ·
  obtain ⟨k1,k2⟩:=kept r _ hr
  exact ⟨by (try dsimp only);rw [k1];exact hr,k2⟩
 ·
  dsimp only at hs
  cases hr:ω' r with
  | none=>rw [hr] at hs;cases hs
  | some s0 =>
   have:=h5 r s0 hr
   exact this
 ·
  refine (hT.slots i).later h3 (K:=fun _=>True) (fun _ _ _ _ _=>trivial) (fun r s _ hr=>?_) (fun _ _=>trivial)
  obtain ⟨k1,k2⟩:=kept r s hr
  exact ⟨by (try dsimp only);rw [k1];exact hr,k2⟩
 ·
  refine h6.later (Later.refl _ _) (K:=fun s=>∃ j,s=.res j) (fun s i t ⟨j,hj⟩ ht=>by subst hj;cases j <;> cases ht;exact ⟨_,rfl⟩) (fun r s ⟨j,hj⟩ hr=>?_) (fun s hs=>by cases hs;exact ⟨_,rfl⟩)
  subst hj
  exact ⟨by (try dsimp only);rw [hr],rfl⟩
def xW (t:Nat):jO→Option jO
 | .slot i j=>if i=t then some (.res j) else some (.slot i j)
 | s=>some s
def Zj (t k:Nat):jO→Option jO
 | .slot i (some j)=>if i=t∧j=k then some (.res none) else some (.slot i (some j))
 | s=>some s
theorem Q5 {x:Operand} (hG:GI μ S H) (hT:TI μ H ω T A) (hx:wP x=true):Out μ ω H A (jy T x) S (zD T x) (some (zD A x,H)):=by
 cases x with
 | const v=>exact Out.same hG hT (VV.jD hx)
 | global g=>cases hx
 | func f=>exact Out.same hG hT (hT.eval (x:=.func f) rfl)
 | tmp t =>
  refine ⟨_,H,μ,fun r=>(ω r).bind (xW t),rfl,hG,Later.refl μ H,fun r hr=>⟨by dsimp only;rw [hr];rfl,rfl⟩,fun r s hs=>?_,by simp [jy,wO,hT.len],fun i=>?_,?_⟩
  ·
   dsimp only at hs
   cases hr:ω r with
   | none=>rw [hr] at hs;cases hs
   | some s0=>exact hT.dom r s0 hr
  ·
   dsimp only [jy,wO]
   rw [jT]
   by_cases hi:i=t
   ·
    subst hi
    by_cases hlt:i < T.length
    ·
     rw [if_pos ⟨rfl,hlt⟩]
     exact (hT.slots i).v0.at0
    ·
     rw [if_neg (fun h=>hlt h.2)]
     rw [List.getD_eq_getElem?_getD,List.getElem?_eq_none (Nat.le_of_not_lt hlt),List.getD_eq_getElem?_getD,List.getElem?_eq_none (by rw [← hT.len];omega)]
     exact .nores
   ·
    rw [if_neg (fun h=>hi h.1)]
    refine (hT.slots i).Wv (fun _=>rfl) _ (fun s hs=>?_)
    cases hs
    refine ⟨_,rfl,by simp only [xW];rw [if_neg hi],fun k t' ht=>?_⟩
    cases ht
    exact ⟨_,rfl,by simp only [xW];rw [if_neg hi]⟩
  ·
   refine (hT.slots t).Wv (fun _=>rfl) _ (fun s hs=>?_)
   cases hs
   refine ⟨_,rfl,by simp only [xW,if_true],fun k t' ht=>?_⟩
   cases ht
   exact ⟨_,rfl,by simp only [xW,if_true]⟩
theorem getD_modify (vs:Array Value) (i k:Nat) (f:Value→Value) (hf:f zh=zh):(vs.modify i f).getD k zh=if k=i then f (vs.getD k zh) else vs.getD k zh:=by
 rw [Array.getD_eq_getD_getElem?,Array.getD_eq_getD_getElem?,Array.getElem?_modify]
 by_cases h:i=k
 ·
  subst h
  rw [if_pos rfl,if_pos rfl]
  cases vs[i]? with
  | none=>exact hf.symm
  | some v=>rfl
 ·
  rw [if_neg h,if_neg (fun e=>h e.symm)]
theorem VV.part {ω':Nat→Option jO} {ℓ ℓ':Option jO} {v a:Value} (h:VV μ H ω ℓ v a) (hℓ:∀ s,ℓ=some s→∀ k,s.comp k=none):VV μ H ω' ℓ' (Go.Abs.yT v) a:=by
 by_cases ht:∃ x,v=.tuple x
 ·
  obtain ⟨x,rfl⟩:=ht
  show VV μ H ω' ℓ' (.tuple x) a
  cases h with
  | sg hs=>simp [Go.Abs.sg] at hs
  | nores=>exact .nores
  | tuple hx hh =>
   refine .tuple hx fun i=>?_
   have:=hh i
   cases ℓ with
   | none=>exact this.at0
   | some s =>
    have e:(some s).bind (·.comp i)=none:=hℓ s rfl i
    rw [e] at this
    exact this.at0
 ·
  have e:Go.Abs.dem v=Go.Abs.yT v:=by
   cases v <;> first | rfl | exact absurd ⟨_,rfl⟩ ht
  rw [← e]
  exact h.v0.at0
def vw (T:List Value) (i:Nat):Operand→List Value
 | .tmp t=>T.set t (jE i (T.getD t zh))
 | _=>T
theorem Y4 {x:Operand} {i:Nat} {v:Value} (hG:GI μ S H) (hT:TI μ H ω T A) (hx:wP x=true) (h:zG (zD T x) i S=some (v,S')) :
  Out μ ω H A (vw T i x) S' v (zG (zD A x) i H):=by
 cases x with
 | const w =>
  exfalso
  unfold zG at h
  split at h
  ·
   rename_i vs he
   simp only [zD] at he
   subst he
   simp [wP,ground,Go.Abs.sg] at hx
  ·
   cases h
 | global g=>cases hx
 | func f=>simp [zD,zG] at h
 | tmp t =>
  simp only [zD,vw] at h ⊢
  unfold zG at h
  split at h
  ·
   rename_i vs hvs
   split at h <;> first | (cases h;done) | skip
   rename_i w hw
   cases h
   have hs:=hT.slots t
   rw [hvs] at hs
   have hil:i < vs.size:=(Array.getElem?_eq_some_iff.1 hw).1
   have hlt:t < T.length:=by
    rcases Nat.lt_or_ge t T.length with h | h
    ·
     exact h
    ·
     rw [List.getD_eq_getElem?_getD,List.getElem?_eq_none h] at hvs
     cases hvs
     simp at hil
   generalize hA:A.getD t zh=at' at hs
   cases hs with
   | sg hs=>simp [Go.Abs.sg] at hs
   | nores=>simp at hil
   | @tuple _ _ y hxs hxx =>
    have hiy:i < y.size:=by rw [← hxs];exact hil
    have hrun:zG (.tuple y) i H=some (y[i],H):=by simp only [zG,Array.getElem?_eq_getElem hiy]
    rw [hrun]
    have hcomp:=hxx i
    rw [Array.getD_eq_getD_getElem?,hw,Array.getD_eq_getD_getElem?,Array.getElem?_eq_getElem hiy] at hcomp
    simp only [Option.getD_some] at hcomp
    refine ⟨_,H,μ,fun r=>(ω r).bind (Zj t i),rfl,hG,Later.refl μ H,fun r hr=>⟨by dsimp only;rw [hr];rfl,rfl⟩,fun r s hs=>?_,by simp [hT.len],fun k=>?_,?_⟩
    ·
     dsimp only at hs
     cases hr:ω r with
     | none=>rw [hr] at hs;cases hs
     | some s0=>exact hT.dom r s0 hr
    ·
     rw [jT]
     by_cases hk:k=t
     ·
      subst hk
      rw [if_pos ⟨rfl,hlt⟩,hA,hvs]
      simp only [jE]
      refine .tuple (by simpa using hxs) fun j=>?_
      rw [getD_modify _ _ _ _ rfl]
      by_cases hj:j=i
      ·
       subst hj
       rw [if_pos rfl]
       exact (hxx j).part (fun s hs k=>by cases hs;rfl)
      ·
       rw [if_neg hj]
       refine (hxx j).Wv (fun _=>rfl) _ (fun s hs=>?_)
       cases hs
       refine ⟨_,rfl,by simp only [Zj];rw [if_neg (fun e=>hj e.2)],fun a b hb=>by cases hb⟩
     ·
      rw [if_neg (fun e=>hk e.1)]
      refine (hT.slots k).Wv (fun _=>rfl) _ (fun s hs=>?_)
      cases hs
      refine ⟨_,rfl,rfl,fun a b hb=>?_⟩
      cases hb
      exact ⟨_,rfl,by simp only [Zj];rw [if_neg (fun e=>hk e.1)]⟩
    ·
     refine hcomp.Wv (fun _=>rfl) _ (fun s hs=>?_)
     cases hs
     exact ⟨_,rfl,by simp [Zj],fun a b hb=>by cases hb⟩
  ·
   cases h
theorem acd (hT:TI μ H ω T A):∀ (xs:List Operand),xs.all wP=true→L0 μ H (xs.map fun x=>dem (zD T x)) (xs.map (zD A)):=by
 intro xs h
 exact LV.map fun x hx=>hT.eval (List.all_eq_true.1 h x hx)
theorem ZT {xs:List Operand} (hT:TI μ H ω T A) (h:xs.all wP=true) (hg:(xs.map (zD T)).all ground=true):xs.map (zD A)=xs.map (zD T):=by
 apply List.map_congr_left
 intro x hx
 exact zL (hT.eval (List.all_eq_true.1 h x hx)) (List.all_eq_true.1 hg _ (List.mem_map.2 ⟨x,hx,rfl⟩))
theorem aax {o:Oper} (h:hands o=false) (hc:∀ c,o.op≠.call c):moved o T=T:=by
 unfold moved
 unfold hands at h
 split <;> first | rfl | (rename_i he;exact absurd he (hc _)) | (rename_i he;rw [he] at h;cases h)
theorem aaT {fx:Fx} (hc:Zf P call) {o:Oper} {v:Value} (hG:GI μ S H) (hT:TI μ H ω T A) (h:jV P fx call T o S=some (v,S')):Out μ ω H A (moved o T) S' v (jF P (lim P) A o H):=by
 unfold jV at h
 split at h <;> first | (cases h;done) | skip
 rename_i hok
 unfold jF
 rw [if_pos hok]
 have hargs:o.op.operands.toList.all wP=true:=hok
 have hev:∀ x ∈ o.op.operands.toList,V0 μ H (dem (zD T x)) (zD A x):=fun x hx=>hT.eval (List.all_eq_true.1 hargs x hx)
 have hoka:∀ x ∈ o.op.operands.toList,wP x=true:=fun x hx=>List.all_eq_true.1 hargs x hx
 obtain ⟨dst,op,type,pos,after,guard⟩:=o
 by_cases hcall:∃ c,op=.call c
 ·
  obtain ⟨c,rfl⟩:=hcall
  dsimp only at h hev hoka hargs ⊢
  have hcargs:c.args.toList.all wP=true:=by
   rw [List.all_eq_true]
   intro x hx
   refine hoka x ?_
   simp only [Op.operands,Call.operands]
   cases c.callee <;> simp <;> first | exact .inr (by simpa using hx) | exact (by simpa using hx)
  cases hcal:c.callee with
  | value f =>
   rw [hcal] at h
   dsimp only at h ⊢
   have hf:=hev f (by simp [Op.operands,Call.operands,hcal])
   split at h <;> first | (cases h;done) | skip
   rename_i g first captured hfe
   rw [hfe] at hf
   have hf:V0 μ H (.func (.func g) first captured) (zD A f):=hf
   generalize hfa:zD A f=fa at hf
   cases hf with
   | sg hs=>simp [Go.Abs.sg] at hs
   | func _ hx hcs h1 h2 =>
    rename_i x' c'
    dsimp only
    have l1:L0 μ H first.toList x'.toList:=⟨by simpa using hx,fun i=>by rw [getD_toList,getD_toList];exact h1 i⟩
    have l2:L0 μ H captured.toList c'.toList:=⟨by simpa using hcs,fun i=>by rw [getD_toList,getD_toList];exact h2 i⟩
    have hm:moved ⟨dst,.call c,type,pos,after,guard⟩ T=T:=by simp only [moved,hcal]
    rw [hm]
    exact aap hc hG hT h ((l1.append (acd hT _ hcargs)).append l2)
  | invoke r m=>rw [hcal] at h;cases h
  | builtin b =>
   rw [hcal] at h
   dsimp only at h ⊢
   unfold ku at h
   unfold yA
   cases b <;> dsimp only at h ⊢ <;> first | (cases h;done) | skip
   case len =>
    split at h <;> first | (cases h;done) | skip
    rename_i t x0 ht ha
    obtain ⟨x,hx,rfl⟩:∃ x,c.args.toList=[x]∧zD T x=x0:=by
     match hl:c.args.toList with
     | []=>rw [hl] at ha;cases ha
     | [y]=>rw [hl] at ha;simp at ha;exact ⟨y,rfl,ha⟩
     | y::z::w=>rw [hl] at ha;simp at ha
    have hm:moved ⟨dst,.call c,type,pos,after,guard⟩ T=T:=by simp only [moved,hcal]
    rw [hm,ht,hx]
    rw [hx] at hcargs
    obtain ⟨rfl,a,h1,h2⟩:=V3 h (hT.eval (List.all_eq_true.1 hcargs x (by simp)))
    simp only [List.map_cons,List.map_nil]
    rw [h1]
    exact Out.same hG hT h2
   case append =>
    split at h <;> first | (cases h;done) | skip
    rename_i t tx s0 x0 ht ha
    obtain ⟨so,x,hx,rfl,rfl⟩:∃ so x,c.args.toList=[so,x]∧zD T so=s0∧zD T x=x0:=by
     match hl:c.args.toList with
     | []=>rw [hl] at ha;cases ha
     | [y]=>rw [hl] at ha;simp at ha
     | [y,z]=>rw [hl] at ha;simp at ha;exact ⟨y,z,rfl,ha.1,ha.2⟩
     | y::z::w::u=>rw [hl] at ha;simp at ha
    rw [hx] at hcargs
    have hso:=List.all_eq_true.1 hcargs so (by simp)
    have hm:moved ⟨dst,.call c,type,pos,after,guard⟩ T=jy T so:=by
     simp only [moved,hcal,hx]
     cases so <;> rfl
    rw [hm,ht,hx]
    exact KF hG hT hso h (hT.eval (List.all_eq_true.1 hcargs x (by simp)))
   case copy =>
    split at h <;> first | (cases h;done) | skip
    rename_i t tx s0 x0 ht ha
    obtain ⟨so,x,hx,rfl,rfl⟩:∃ so x,c.args.toList=[so,x]∧zD T so=s0∧zD T x=x0:=by
     match hl:c.args.toList with
     | []=>rw [hl] at ha;cases ha
     | [y]=>rw [hl] at ha;simp at ha
     | [y,z]=>rw [hl] at ha;simp at ha;exact ⟨y,z,rfl,ha.1,ha.2⟩
     | y::z::w::u=>rw [hl] at ha;simp at ha
    rw [hx] at hcargs
    have hm:moved ⟨dst,.call c,type,pos,after,guard⟩ T=T:=by simp only [moved,hcal]
    rw [hm,ht,hx]
    exact aaP hG hT h (hT.eval (List.all_eq_true.1 hcargs so (by simp))) (hT.eval (List.all_eq_true.1 hcargs x (by simp)))
   case clear =>
    split at h <;> first | (cases h;done) | skip
    rename_i t x0 ht ha
    obtain ⟨x,hx,rfl⟩:∃ x,c.args.toList=[x]∧zD T x=x0:=by
     match hl:c.args.toList with
     | []=>rw [hl] at ha;cases ha
     | [y]=>rw [hl] at ha;simp at ha;exact ⟨y,rfl,ha⟩
     | y::z::w=>rw [hl] at ha;simp at ha
    have hm:moved ⟨dst,.call c,type,pos,after,guard⟩ T=T:=by simp only [moved,hcal]
    rw [hm,ht,hx]
    rw [hx] at hcargs
    exact V4 hG hT h (hT.eval (List.all_eq_true.1 hcargs x (by simp)))
   case min =>
    obtain ⟨rfl,hg,hga,hh⟩:=jq (H:=H) h
    have hm:moved ⟨dst,.call c,type,pos,after,guard⟩ T=T:=by simp only [moved,hcal]
    rw [hm,ZT hT hcargs hga,hh]
    exact Out.same hG hT (V0.ground hg)
   case max =>
    obtain ⟨rfl,hg,hga,hh⟩:=jq (H:=H) h
    have hm:moved ⟨dst,.call c,type,pos,after,guard⟩ T=T:=by simp only [moved,hcal]
    rw [hm,ZT hT hcargs hga,hh]
    exact Out.same hG hT (V0.ground hg)
 ·
  have hnc:∀ c,op≠.call c:=fun c hc=>hcall ⟨c,hc⟩
  have hV:vOp P fx (zD T) ⟨dst,op,type,pos,after,guard⟩ S=some (v,S'):=by
   cases op <;> first | exact h | exact absurd rfl (hnc _)
  suffices hs:Out μ ω H A (moved ⟨dst,op,type,pos,after,guard⟩ T) S' v (aOp P (zD A) ⟨dst,op,type,pos,after,guard⟩ H) by
   cases op <;> first | exact hs | exact absurd rfl (hnc _)
  by_cases hh:hands ⟨dst,op,type,pos,after,guard⟩=true
  ·
   cases op <;> first | (cases hh;done) | skip
   case move x =>
    cases hV
    have:=Q5 hG hT (hoka x (by simp [Op.operands]))
    have hm:moved ⟨dst,.move x,type,pos,after,guard⟩ T=jy T x:=by cases x <;> rfl
    rw [hm];exact this
   case assign x =>
    cases hV
    have:=Q5 hG hT (hoka x (by simp [Op.operands]))
    have hm:moved ⟨dst,.assign x,type,pos,after,guard⟩ T=jy T x:=by cases x <;> rfl
    rw [hm];exact this
   case extract x i =>
    have:=Y4 hG hT (hoka x (by simp [Op.operands])) hV
    have hm:moved ⟨dst,.extract x i,type,pos,after,guard⟩ T=(vw T i x):=by cases x <;> rfl
    rw [hm];exact this
  ·
   have hh:hands ⟨dst,op,type,pos,after,guard⟩=false:=by simpa using hh
   rw [aax hh hnc]
   by_cases hch:qK P ⟨dst,op,type,pos,after,guard⟩=false
   ·
    obtain ⟨rfl,a,h1,h2,h3⟩:=Yy hV hch hev (.inr hG) (.inr hG)
    rw [h1]
    exact Out.same hG hT (h3 hh)
   ·
    unfold vOp at hV
    unfold aOp
    cases op <;> dsimp only at hV hev ⊢ <;> first | (cases hV;done) | (exact absurd rfl hch) | (cases hh;done) | skip
    case alloc e=>exact aae hG hT hV
    case box x _=>exact acz hG hT hV (hev x (by simp [Op.operands]))
    case buildSlice t len parts _ =>
     have hps:=Yg (μ:=μ) (H:=H) (parts:=parts.toList) (ρ:=zD T) (ρA:=zD A) fun p hp=>hev p.2 (by simp [Op.operands];exact ⟨p.1,by simpa using hp⟩)
     split at hV
     ·
      exact WV hG hT hV hps
     ·
      exact Jd hG hT hV hps
    case makeMap t r _=>exact Y2 hG hT hV (fun h=>by cases r <;> simp at h ⊢)
    case mapUpdate t x k w _=>exact JL hG hT hV (hev x (by simp [Op.operands])) (hev k (by simp [Op.operands])) (hev w (by simp [Op.operands]))
    case store a x _=>exact Vf hG hT hV (hev a (by simp [Op.operands])) (hev x (by simp [Op.operands]))
    case makeSlice l c _ =>
     split at hV
     ·
      exact Qi hG hT hV (hev l (by simp [Op.operands])) (hev c (by simp [Op.operands]))
     ·
      exact WR hG hT hV (hev l (by simp [Op.operands])) (hev c (by simp [Op.operands]))
    case convert dst' x _ =>
     have hd:∃ e,P.underlying dst'=some (.slice e):=by
      unfold qK at hch
      dsimp only at hch
      split at hch
      ·
       exact ⟨_,by assumption⟩
      ·
       exact absurd rfl hch
     obtain ⟨e,hd⟩:=hd
     cases x with
     | tmp t=>exact Zq hG hT hV (hT.slots t) hd
     | const w=>exact Zq hG hT hV (VV.jD (ℓ:=none) (hoka (.const w) (by simp [Op.operands]))) hd
     | global g=>have:=hoka (.global g) (by simp [Op.operands]);cases this
     | func f=>exact Zq hG hT hV (ℓ:=none) ((hT.eval (x:=.func f) rfl).at0) hd
theorem XD {ops:Array Oper} (hT:TI μ H ω T A) (j:Nat):ynd ops T j=ynd ops A j:=by
 unfold ynd
 cases hd:(ops[j]?).bind (·.dst) with
 | none=>rfl
 | some d =>
  simp only [Option.bind_some]
  have:=hT.slots d
  have e:=hT.len
  by_cases hlt:d < T.length
  ·
   have hlt':d < A.length:=by rw [← e];exact hlt
   simp only [List.getD_eq_getElem?_getD,List.getElem?_eq_getElem hlt,List.getElem?_eq_getElem hlt',Option.getD_some] at this
   rw [List.getElem?_eq_getElem hlt,List.getElem?_eq_getElem hlt']
   generalize T[d]=u at *
   generalize A[d]=u' at *
   cases this <;> rfl
  ·
   have hlt':A.length≤d:=by rw [← e];exact Nat.le_of_not_lt hlt
   rw [List.getElem?_eq_none (Nat.le_of_not_lt hlt),List.getElem?_eq_none hlt']
theorem TI.moved (hT:TI μ H ω T A) (o:Oper):TI μ H ω (moved o T) A:=by
 have slot:∀ t,TI μ H ω (wO T t) A:=by
  intro t
  refine ⟨by simp [wO,hT.len],fun i=>?_,hT.dom,hT.nores⟩
  rw [wO,jT]
  split
  ·
   rename_i h;rw [h.1];exact (hT.slots t).dem
  ·
   exact hT.slots i
 unfold Go.Abs.moved
 split
 ·
  exact slot _
 ·
  exact slot _
 ·
  rename_i t i _
  refine ⟨by simp [hT.len],fun k=>?_,hT.dom,hT.nores⟩
  rw [jT]
  split
  ·
   rename_i h
   rw [h.1]
   have:=hT.slots t
   generalize T.getD t zh=w at this
   cases w with
   | tuple vs =>
    simp only [jE]
    generalize A.getD t zh=a at this
    cases this with
    | sg hs=>simp [Go.Abs.sg] at hs
    | nores=>rw [show (#[]:Array Value).modify i Go.Abs.yT=#[] by simp];exact .nores
    | @tuple _ _ y hxs hxx =>
     refine .tuple (by simpa using hxs) fun j=>?_
     rw [getD_modify _ _ _ _ rfl]
     by_cases hj:j=i
     ·
      subst hj
      rw [if_pos rfl]
      exact (hxx j).part (fun s hs k=>by cases hs;rfl)
     ·
      rw [if_neg hj];exact hxx j
   | _=>exact this
  ·
   exact hT.slots k
 ·
  split
  ·
   exact slot _
  ·
   exact hT
 ·
  exact hT
def After (μ:Mu) (ω:Nat→Option jO) (H:zx) (T':List Value) (S':zx) (R:Option (List Value×zx)):Prop :=
 ∃ A' H' μ' ω',R=some (A',H')∧GI μ' S' H'∧Later μ H μ' H'∧Kept ω H ω' H'∧TI μ' H' ω' T' A'
theorem QT {fx:Fx} (hc:Zf P call) {o:Oper} {rest:List Oper} {v:Value} (hG:GI μ S H) (hT:TI μ H ω T A) (h:jV P fx call T o S=some (v,S')) :
  ∃ a H' μ' ω',jF P (lim P) A o H=some (a,H')∧GI μ' S' H'∧Later μ H μ' H'∧Kept ω H ω' H'∧TI μ' H' ω' (vg o rest T v) (xA A o.dst a):=by
 unfold vg
 split
 ·
  rename_i hl
  have hm:∃ x,o.op=.move x:=by
   unfold ad3 at hl
   split at hl
   ·
    rename_i x _ he _;exact ⟨x,he⟩
   ·
    cases hl
  obtain ⟨x,hx⟩:=hm
  unfold jV at h
  split at h <;> first | (cases h;done) | skip
  rename_i hok
  have hox:wP x=true:=List.all_eq_true.1 (show o.op.operands.toList.all wP=true from hok) x (by rw [hx];simp [Op.operands])
  rw [hx] at h
  dsimp only at h
  unfold vOp at h
  rw [hx] at h
  cases h
  have ha:jF P (lim P) A o H=some (zD A x,H):=by
   unfold jF
   rw [if_pos hok,hx]
   dsimp only
   unfold aOp
   rw [hx]
   rfl
  rw [ha]
  exact (Out.same hG hT (hT.eval hox)).put o.dst
 ·
  exact (aaT hc hG hT h).put o.dst
theorem Zc {o:Oper} {rest:List Oper} (hG:GI μ S H) (hT:TI μ H ω T A):∃ μ' ω',GI μ' S H∧Later μ H μ' H∧Kept ω H ω' H∧TI μ' H ω' (vg o rest T zh) (xA A o.dst zh):=by
 unfold vg
 split
 ·
  rw [show dem zh=zh from qR]
  obtain ⟨a,H1,μ1,ω1,h1,h2,h3,h4,h5⟩:=(Out.same hG hT (VV.zh)).put o.dst
  cases h1
  exact ⟨μ1,ω1,h2,h3,h4,h5⟩
 ·
  obtain ⟨a,H1,μ1,ω1,h1,h2,h3,h4,h5⟩:=(Out.same hG (hT.moved o) (VV.zh)).put o.dst
  cases h1
  exact ⟨μ1,ω1,h2,h3,h4,h5⟩
theorem aco {fx:Fx} (hc:Zf P call) {ops:Array Oper}:∀ (l:List Oper) (T T' A:List Value) (S S' H:zx) (μ:Mu) (ω:Nat→Option jO),ji P fx call ops l T S=some (T',S')→GI μ S H→TI μ H ω T A→After μ ω H T' S' (YT P (lim P) ops l A H):=by
 intro l
 induction l with
 | nil =>
  intro T T' A S S' H μ ω h hG hT
  simp only [ji,Option.some.injEq,Prod.mk.injEq] at h
  obtain ⟨rfl,rfl⟩:=h
  exact ⟨A,H,μ,ω,rfl,hG,Later.refl _ _,Kept.refl _ _,hT⟩
 | cons o l ih =>
  intro T T' A S S' H μ ω h hG hT
  have hy:(ynd ops T)=ynd ops A:=funext fun j=>XD hT j
  simp only [ji] at h
  simp only [YT,← hy]
  split at h
  ·
   rename_i hw
   split at h
   ·
    rename_i v S1 hs
    obtain ⟨a,H1,μ1,ω1,h1,h2,h3,h4,h5⟩:=QT (rest:=l) hc hG hT hs
    obtain ⟨A2,H2,μ2,ω2,k1,k2,k3,k4,k5⟩:=ih _ _ _ _ _ _ _ _ h h2 h5
    refine ⟨A2,H2,μ2,ω2,?_,k2,h3.trans k3,h4.trans k4,k5⟩
    rw [if_pos hw,h1]
    exact k1
   ·
    cases h
  ·
   rename_i hw
   obtain ⟨μ1,ω1,h2,h3,h4,h5⟩:=Zc (o:=o) (rest:=l) hG hT
   obtain ⟨A2,H2,μ2,ω2,k1,k2,k3,k4,k5⟩:=ih _ _ _ _ _ _ _ _ h h2 h5
   refine ⟨A2,H2,μ2,ω2,?_,k2,h3.trans k3,h4.trans k4,k5⟩
   rw [if_neg hw]
   exact k1
end
end Go.Abs
namespace Go.Abs
open Go.RowKit
section
variable {P:Program} {call:FuncId→List Value→M Value} {μ μ2:Mu} {S S' G H H2:zx} {T A:List Value}
theorem qL.two {s:M Value} (hs:qL s) {a:Value} {G':zx} (h:s G=some (a,G')):∀ H,s H=some (a,H):=by
 obtain ⟨o,ho⟩:=hs
 rw [ho] at h
 cases o with
 | none=>cases h
 | some w =>
  simp only [Option.map_some,Option.some.injEq,Prod.mk.injEq] at h
  intro H
  rw [ho,h.1];rfl
theorem Y9 {t:TypeId} {ps:List (Nat×Value)}:qL (wG P t ps):=by
 refine ⟨(wG P t ps zx.empty).map (·.1),fun H=>?_⟩
 unfold wG
 split
 ·
  split
  ·
   split
   ·
    split
    ·
     split <;> rfl
    ·
     rfl
   ·
    split
    ·
     split <;> rfl
    ·
     rfl
   ·
    rfl
  ·
   rfl
 ·
  rfl
theorem Ja {x:Value}:qL (yE x):=by
 refine ⟨(yE x zx.empty).map (·.1),fun H=>?_⟩
 unfold yE
 split <;> rfl
theorem Qa {t:TypeId} {x i:Value}:qL (yV P t x i):=by
 unfold yV
 refine ⟨(yV P t x i zx.empty).map (·.1),fun H=>?_⟩
 unfold yV
 dsimp only
 split
 ·
  split
  ·
   split
   ·
    split <;> rfl
   ·
    rfl
  ·
   rfl
 ·
  obtain ⟨o,ho⟩:=jM (P:=P) _ _
  rw [ho,ho]
  cases o <;> rfl
 ·
  rfl
theorem XT {t:TypeId} {x:Value} (hx:∀ m,x≠.map m):qL (YQ P t x):=by
 refine ⟨(YQ P t x zx.empty).map (·.1),fun H=>?_⟩
 unfold YQ
 split <;> first | rfl | exact absurd rfl (hx _)
theorem Zw {d:Nat} {v:Value} (h:okq d v=true):okq d (dem v)=true:=by
 cases v with
 | iface k v=>cases d <;> rfl
 | tuple vs=>cases d <;> cases h
 | _=>exact h
theorem ZN:∀ (d:Nat) {v a:Value},okq d v=true→V0 μ H v a→Xl d a a=true:=by
 intro d
 induction d with
 | zero =>
  intro v a h hv
  cases hv <;> first | (cases h;done) | (simp [Xl];done) | skip
  rename_i hs
  cases v <;> first | (simp [Xl];done) | (simp [Go.Abs.sg] at hs;done) | skip
 | succ d ih =>
  intro v a h hv
  cases hv <;> first | (cases h;done) | (simp [Xl];done) | skip
  ·
   rename_i hs
   cases v <;> first | (simp [Xl];done) | (simp [Go.Abs.sg] at hs;done) | skip
  ·
   rename_i x x' hx hh
   unfold Xl
   simp only [decide_true,Bool.true_and]
   rw [List.all_eq_true]
   intro p hp
   obtain ⟨i,hi,he⟩:=List.mem_iff_getElem.1 hp
   simp only [List.length_zip,Nat.min_self] at hi
   rw [List.getElem_zip] at he
   subst he
   have hi':i < x'.size:=by simpa using hi
   have hi2:i < x.size:=by rw [hx];exact hi'
   have h2:=hh i
   rw [Array.getD_eq_getD_getElem?,Array.getElem?_eq_getElem hi2,Array.getD_eq_getD_getElem?,Array.getElem?_eq_getElem hi'] at h2
   have h3:okq d x[i]=true:=List.all_eq_true.1 (show x.toList.all (okq d)=true from h) _ (by simp)
   have:=ih h3 h2
   simpa using this
theorem QG (x:Value):kR (dem x)=kR x:=by cases x <;> rfl
theorem abH {fx:Fx} {o:Oper} {v:Value} (hdr:fx.dr=true) (h:jV P fx call T o S=some (v,S')) (hn:qK P o=false) (hr:yD o=false) (ho:∀ x ∈ o.op.operands.toList,V0 μ G (dem (zD T x)) (zD A x)) :
  ∃ a,V0 μ G (dem v) a∧∀ H,aOp P (zD A) o H=some (a,H)∧jF P (lim P) A o H=some (a,H):=by
 have hrm:wZ o=false:=by
  unfold yD at hr
  unfold wZ
  split <;> simp_all
 unfold jV at h
 split at h <;> first | (cases h;done) | skip
 rename_i hok
 obtain ⟨dst,op,type,pos,after,guard⟩:=o
 by_cases hcall:∃ c,op=.call c
 ·
  obtain ⟨c,rfl⟩:=hcall
  dsimp only at h ho
  unfold qK at hn
  dsimp only at hn
  have hcargs:∀ x ∈ c.args.toList,V0 μ G (dem (zD T x)) (zD A x):=by
   intro x hx
   refine ho x ?_
   simp only [Op.operands,Call.operands]
   cases c.callee <;> simp <;> first | exact .inr (by simpa using hx) | exact (by simpa using hx)
  have step:∀ {b:Builtin} (a:Value),c.callee=.builtin b→(∀ H,yA P b c.argTypes type (c.args.toList.map (zD A)) H=some (a,H))→∀ H,aOp P (zD A) ⟨dst,.call c,type,pos,after,guard⟩ H=some (a,H)∧jF P (lim P) A ⟨dst,.call c,type,pos,after,guard⟩ H=some (a,H):=by
   intro b a hb hall H
   constructor
   ·
    unfold aOp;dsimp only;rw [hb];exact hall H
   ·
    unfold jF;rw [if_pos hok];dsimp only;rw [hb];exact hall H
  cases hcal:c.callee with
  | value f=>rw [hcal] at hn;cases hn
  | invoke r m=>rw [hcal] at hn;cases hn
  | builtin b =>
   rw [hcal] at h
   dsimp only at h
   unfold ku at h
   rw [hcal] at hn
   have gargs:(c.args.toList.map (zD T)).all ground=true→c.args.toList.map (zD A)=c.args.toList.map (zD T):=by
    intro hg
    apply List.map_congr_left
    intro x hx
    exact zL (hcargs x hx) (List.all_eq_true.1 hg _ (List.mem_map.2 ⟨x,hx,rfl⟩))
   cases b <;> dsimp only at h hn <;> first | (cases h;done) | (cases hn;done) | skip
   case len =>
    split at h <;> first | (cases h;done) | skip
    rename_i t x0 ht ha
    obtain ⟨x,hx,rfl⟩:∃ x,c.args.toList=[x]∧zD T x=x0:=by
     match hl:c.args.toList with
     | []=>rw [hl] at ha;cases ha
     | [y]=>rw [hl] at ha;simp at ha;exact ⟨y,rfl,ha⟩
     | y::z::w=>rw [hl] at ha;simp at ha
    have hxv:=hcargs x (by rw [hx];simp)
    obtain ⟨rfl,a,h1,h2⟩:=V3 h hxv
    have hmap:∀ m,zD A x≠.map m:=by
     intro m hm
     rw [hm] at hxv
     generalize hu:dem (zD T x)=u at hxv
     have hum:∃ m',u=.map m':=by cases hxv <;> exact ⟨_,rfl⟩
     obtain ⟨m',rfl⟩:=hum
     have:zD T x=.map m':=by
      cases hv:zD T x <;> rw [hv] at hu <;> simp [dem,yT] at hu <;> rw [hu]
     rw [this] at h
     simp [Z7] at h
    refine ⟨a,h2.dem,step a hcal fun H=>?_⟩
    unfold yA
    dsimp only
    rw [ht,hx]
    exact (XT hmap).two h1 H
   case min =>
    obtain ⟨rfl,hg,hga,hh⟩:=jq (H:=G) h
    refine ⟨v,(V0.ground hg).dem,step v hcal fun H=>?_⟩
    unfold yA
    dsimp only
    rw [gargs hga]
    exact (jM _ _).two hh H
   case max =>
    obtain ⟨rfl,hg,hga,hh⟩:=jq (H:=G) h
    refine ⟨v,(V0.ground hg).dem,step v hcal fun H=>?_⟩
    unfold yA
    dsimp only
    rw [gargs hga]
    exact (jM _ _).two hh H
 ·
  have hnc:∀ c,op≠.call c:=fun c hc=>hcall ⟨c,hc⟩
  have hV:vOp P fx (zD T) ⟨dst,op,type,pos,after,guard⟩ S=some (v,S'):=by
   cases op <;> first | exact h | exact absurd rfl (hnc _)
  obtain ⟨rfl,a,h1,h2,h3⟩:=Yy (ρA:=zD A) hV hn ho (.inl (vM hrm)) (.inl hdr)
  have hA:∀ H,jF P (lim P) A ⟨dst,op,type,pos,after,guard⟩ H=aOp P (zD A) ⟨dst,op,type,pos,after,guard⟩ H:=by
   intro H
   unfold jF
   rw [if_pos hok]
   cases op <;> first | rfl | exact absurd rfl (hnc _)
  refine ⟨a,h2,fun H=>?_⟩
  rw [hA]
  have key:aOp P (zD A) ⟨dst,op,type,pos,after,guard⟩ H=some (a,H):=by
   have hf:qL (aOp P (zD A) ⟨dst,op,type,pos,after,guard⟩):=by
    unfold qK at hn
    unfold yD at hr
    unfold aOp
    unfold vOp at hV
    cases op <;> dsimp only at hn hr hV ⊢ <;> first | (cases hn;done) | (cases hr;done) | (cases hV;done) | skip
    ·
     exact ZG _
    ·
     exact ZG _
    ·
     exact Ko _ _ _
    ·
     exact Y9
    ·
     exact Ja
    ·
     exact Yq _ _ _ _
    ·
     exact aaN _ _
    ·
     exact ZG _
    ·
     exact ZF _ _ _
    ·
     exact YZ _ _ _
    ·
     exact Zo _ _ _
    ·
     exact Qa
    ·
     exact WI _ _
   exact hf.two h1 H
  exact ⟨key,key⟩
theorem Vz {t:TypeId} {r o e:Nat} {l:List Value} {own own':Own} {a:Value} (hg:G.get r=some (.cells l own e)) (hg':H2.get r=some (.cells l own' e)) (h:wu P t (.pointer (some ⟨r,o,none⟩)) G=some (a,G)) :
  wu P t (.pointer (some ⟨r,o,none⟩)) H2=some (a,H2):=by
 simp only [wu,hg] at h
 simp only [wu,hg']
 (repeat' split at h) <;> first | (cases h;done) | skip
 all_goals simp_all
theorem VV.backed {v:Value} {r o n c:Nat} (h:V0 μ G v (.slice (some ⟨r,o,none⟩) n c)) (hv:kR v=false):∃ l own e,r < G.next∧xq μ r∧G.get r=some (.cells l own e):=by
 cases h with
 | sg hs=>simp [Go.Abs.sg] at hs
 | slm hm=>simp [kR] at hv
 | sl hr hp hg _ _ _=>exact ⟨_,_,_,hr,hp,hg⟩
theorem Xf {x:Value} {n:Nat} {cs:List Value} (hx:∀ r o n c,x=.slice (some ⟨r,o,none⟩) n c→∃ l own own' e,G.get r=some (.cells l own e)∧H2.get r=some (.cells l own' e)) (h:jW x n G=some cs):jW x n H2=some cs:=by
 unfold jW at h ⊢
 split at h
 ·
  rename_i r o k c
  obtain ⟨l,own,own',e,hg,hg'⟩:=hx _ _ _ _ rfl
  rw [hg] at h
  rw [hg']
  exact h
 ·
  exact h
 ·
  exact h
 ·
  cases h
theorem XY {src dst:TypeId} {x a:Value} (hd:∀ e,P.underlying dst≠some (.slice e)) (hx:∀ r o n c,x=.slice (some ⟨r,o,none⟩) n c→∃ l own own' e,G.get r=some (.cells l own e)∧H2.get r=some (.cells l own' e)) (h:jR P src dst x G=some (a,G)) :
  jR P src dst x H2=some (a,H2):=by
 unfold jR at h ⊢
 split at h
 ·
  rename_i b n c
  (try dsimp only)
  split at h
  ·
   rename_i e hs hdd
   split at h <;> first | (cases h;done) | skip
   rename_i he
   split at h <;> first | (cases h;done) | skip
   rename_i cs hcs
   rw [Xf hx hcs]
   (try dsimp only)
   split at h <;> first | (cases h;done) | skip
   rename_i bs hbs
   (try rw [hbs])
   cases h
   rfl
  ·
   rename_i e0 e hs hdd
   exact absurd hdd (hd e)
  ·
   cases h
 ·
  rename_i s
  (try dsimp only)
  split at h
  ·
   rename_i d e hs hdd
   exact absurd hdd (hd e)
  ·
   exact (jM _ _).two h H2
 ·
  exact (jM _ _).two h H2
theorem KZ {t:TypeId} {x a:Value} {lo hi:Option Value} (hx:∀ r o n c,x=.slice (some ⟨r,o,none⟩) n c→∃ l own own' e,G.get r=some (.cells l own e)∧H2.get r=some (.cells l own' e)) (h:yg P t x lo hi G=some (a,G)) :
  yg P t x lo hi H2=some (a,H2):=by
 unfold yg at h ⊢
 split at h
 ·
  rename_i s hu
  exact (jM _ _).two h H2
 ·
  rename_i e b n c hu
  (try dsimp only)
  split at h <;> first | (cases h;done) | skip
  rename_i size l hh hs hl hhi
  (try simp only [hs,hl,hhi])
  split at h <;> first | (cases h;done) | skip
  rename_i c0
  split at h <;> first | (cases h;done) | skip
  rename_i c1
  split at h <;> first | (cases h;done) | skip
  rename_i c2
  rw [if_pos c0,if_pos c1,if_pos c2]
  split at h
  ·
   split at h <;> first | (cases h;done) | skip
   rename_i hn
   cases h
   rw [if_pos hn]
  ·
   rename_i r o
   obtain ⟨l2,own,own',e2,hg,hg'⟩:=hx _ _ _ _ rfl
   rw [hg] at h
   rw [hg']
   dsimp only at h ⊢
   split at h <;> first | (cases h;done) | skip
   rename_i he
   rw [if_pos he]
   cases h
   rfl
  ·
   split at h <;> first | (cases h;done) | skip
   rename_i hn
   cases h
   rw [if_pos hn]
  ·
   cases h
 ·
  cases h
theorem Xj {t:TypeId} {r o:Nat} {a:Value} {G':zx} (hg:H2.get r=G.get r) (h:wu P t (.pointer (some ⟨r,o,none⟩)) G=some (a,G')):wu P t (.pointer (some ⟨r,o,none⟩)) H2=some (a,H2):=by
 simp only [wu] at h ⊢
 rw [hg]
 (repeat' split at h) <;> first | (cases h;done) | skip
 all_goals simp_all
theorem Yv {t:TypeId} {x k:Value} {ok:Bool} {a:Value} {G':zx} (hg:∀ r,x=.map (some r)→H2.get r=G.get r) (h:jw P t x k ok G=some (a,G')):jw P t x k ok H2=some (a,H2):=by
 have e:∀ H:zx,jw P t x k ok H=(jw P t x k ok H).map (fun r=>(r.1,H)):=by
  intro H
  unfold jw
  (try dsimp only)
  (repeat' split) <;> rfl
 have e2:(jw P t x k ok H2).map (·.1)=(jw P t x k ok G).map (·.1):=by
  cases x with
  | map b =>
   cases b with
   | none=>unfold jw;dsimp only;(repeat' split) <;> rfl
   | some r =>
    unfold jw
    dsimp only
    rw [hg r rfl]
    (repeat' split) <;> rfl
  | _=>unfold jw;(try dsimp only) <;> (try ((repeat' split) <;> rfl))
 rw [h] at e2
 rw [e H2]
 cases hh:jw P t x k ok H2 with
 | none=>rw [hh] at e2;cases e2
 | some w =>
  rw [hh] at e2
  simp only [Option.map_some,Option.some.injEq] at e2 ⊢
  rw [e2]
theorem abU {fx:Fx} {o:Oper} {v:Value} (hdr:fx.dr=true) (h:jV P fx call T o S=some (v,S')) (hn:qK P o=false) (hm:qF (zD T) o) (ho:∀ x ∈ o.op.operands.toList,V0 μ G (dem (zD T x)) (zD A x)) (hL:Later μ G μ2 H2) :
  ∃ a,V0 μ G (dem v) a∧aOp P (zD A) o G=some (a,G)∧aOp P (zD A) o H2=some (a,H2)∧jF P (lim P) A o G=some (a,G)∧jF P (lim P) A o H2=some (a,H2):=by
 by_cases hr:yD o=false
 ·
  obtain ⟨a,h1,h2⟩:=abH hdr h hn hr ho
  exact ⟨a,h1,(h2 G).1,(h2 H2).1,(h2 G).2,(h2 H2).2⟩
 ·
  unfold jV at h
  split at h <;> first | (cases h;done) | skip
  rename_i hok
  obtain ⟨dst,op,type,pos,after,guard⟩:=o
  unfold yD at hr
  cases op <;> dsimp only at h hr <;> first | (exact absurd rfl hr) | skip
  case load t addr =>
   obtain ⟨rfl,a,h1,h2,h3⟩:=Yy (ρA:=zD A) h hn ho (.inl hm) (.inl hdr)
   have hA:∀ H,jF P (lim P) A ⟨dst,.load t addr,type,pos,after,guard⟩ H=aOp P (zD A) ⟨dst,.load t addr,type,pos,after,guard⟩ H:=fun H=>by unfold jF;rw [if_pos hok]
   have key:aOp P (zD A) ⟨dst,.load t addr,type,pos,after,guard⟩ H2=some (a,H2):=by
    have hx:=ho addr (by simp [Op.operands])
    have h:jm P fx.nm t (zD T addr) S'=some (v,S'):=h
    unfold aOp at h1 ⊢
    dsimp only at h1 ⊢
    unfold jm at h
    split at h
    ·
     rename_i k cs he
     split at h <;> first | (cases h;done) | skip
     rename_i hk
     subst hk
     rw [he] at hx
     have hx:V0 μ G (.iface 3 (.agg cs)) (zD A addr):=hx
     generalize hq:zD A addr=q at hx h1 ⊢
     cases hx with
     | sg hs=>simp [Go.Abs.sg] at hs
     | ep hr hp hg hl hc =>
      obtain ⟨own',hg'⟩:=hL.cells _ _ _ _ hr hp hg
      exact Vz hg hg' h1
    ·
     rename_i ad he
     exact absurd he (hm ad)
    ·
     cases h
   exact ⟨a,h2,h1,key,by rw [hA];exact h1,by rw [hA];exact key⟩
  case convert src d x =>
   obtain ⟨rfl,a,h1,h2,h3⟩:=Yy (ρA:=zD A) h hn ho (.inl hm) (.inl hdr)
   have hA:∀ H,jF P (lim P) A ⟨dst,.convert src d x,type,pos,after,guard⟩ H=aOp P (zD A) ⟨dst,.convert src d x,type,pos,after,guard⟩ H:=fun H=>by unfold jF;rw [if_pos hok]
   have key:aOp P (zD A) ⟨dst,.convert src d x,type,pos,after,guard⟩ H2=some (a,H2):=by
    have hx:=ho x (by simp [Op.operands])
    unfold aOp at h1 ⊢
    dsimp only at h1 ⊢
    refine XY (fun e he=>?_) (fun r o n c hq=>?_) h1
    ·
     unfold qK at hn
     dsimp only at hn
     rw [he] at hn;cases hn
    ·
     rw [hq] at hx
     have hh:kR (dem (zD T x))=false:=by
      rw [QG]
      have h:qo P fx.hp fx.dr src d (zD T x) S'=some (v,S'):=h
      unfold qo at h
      split at h
      ·
       first | (cases h;done) | (rw [hdr] at h;simp at h)
      ·
       rename_i hh;simpa using hh
     obtain ⟨l,own,e,hr,hp,hg⟩:=hx.backed hh
     obtain ⟨own',hg'⟩:=hL.cells _ _ _ _ hr hp hg
     exact ⟨l,own,own',e,hg,hg'⟩
   exact ⟨a,h2,h1,key,by rw [hA];exact h1,by rw [hA];exact key⟩
  case slice t x lo hi mx =>
   obtain ⟨rfl,a,h1,h2,h3⟩:=Yy (ρA:=zD A) h hn ho (.inl hm) (.inl hdr)
   have hA:∀ H,jF P (lim P) A ⟨dst,.slice t x lo hi mx,type,pos,after,guard⟩ H=aOp P (zD A) ⟨dst,.slice t x lo hi mx,type,pos,after,guard⟩ H:=fun H=>by unfold jF;rw [if_pos hok]
   have key:aOp P (zD A) ⟨dst,.slice t x lo hi mx,type,pos,after,guard⟩ H2=some (a,H2):=by
    have hx:=ho x (by simp [Op.operands])
    unfold aOp at h1 ⊢
    cases mx with
    | some m=>cases h1
    | none =>
     dsimp only at h1 ⊢
     refine KZ (fun r o n c hq=>?_) h1
     rw [hq] at hx
     have hh:kR (dem (zD T x))=false:=by
      rw [QG]
      have h:wU P fx.dr t (zD T x) (lo.map (zD T)) (hi.map (zD T)) S'=some (v,S'):=h
      unfold wU at h
      split at h
      ·
       first | (cases h;done) | (rw [hdr] at h;simp at h)
      ·
       rename_i hh;simpa using hh
     obtain ⟨l,own,e,hr,hp,hg⟩:=hx.backed hh
     obtain ⟨own',hg'⟩:=hL.cells _ _ _ _ hr hp hg
     exact ⟨l,own,own',e,hg,hg'⟩
   exact ⟨a,h2,h1,key,by rw [hA];exact h1,by rw [hA];exact key⟩
  case lookup t x k ok =>
   exact hm.elim
end
end Go.Abs
namespace Go.Abs
open Go.RowKit
structure Line (P : Program) (fx : Fx) (chk : List Nat) (call : FuncId → List Value → M Value) (ops : Array Oper) (k0 : Nat) (l : List Oper) (Ts As : Nat → List Value) (Ss Hs : Nat → zx) (μs : Nat → Mu) (ωs : Nat → Nat → Option jO) (vs zf : Nat → Value) : Prop where
  inv : ∀ k, k ≤ l.length → GI (μs k) (Ss k) (Hs k) ∧ TI (μs k) (Hs k) (ωs k) (Ts k) (As k)
  step : ∀ k o, l[k]? = some o → Later (μs k) (Hs k) (μs (k + 1)) (Hs (k + 1)) ∧ Kept (ωs k) (Hs k) (ωs (k + 1)) (Hs (k + 1)) ∧
    ((Region.wanted o (ynd ops (As k)) = true ∧ jV P fx call (Ts k) o (Ss k) = some (vs k, Ss (k + 1)) ∧ jF P (lim P) (As k) o (Hs k) = some (zf k, Hs (k + 1)) ∧
        Ts (k + 1) = vg o (l.drop (k + 1)) (Ts k) (vs k) ∧ As (k + 1) = xA (As k) o.dst (zf k) ∧ (chk.contains (k0 + k) = true → okq 3 (vs k) = true)) ∨
     (Region.wanted o (ynd ops (As k)) = false ∧ zf k = zh ∧ Ts (k + 1) = vg o (l.drop (k + 1)) (Ts k) zh ∧ As (k + 1) = xA (As k) o.dst zh ∧ Hs (k + 1) = Hs k))
section
variable {P:Program} {call:FuncId→List Value→M Value}
theorem line_of {fx : Fx} {chk : List Nat} {nl : List (Nat × Nat)} (hc : Zf P call) {ops : Array Oper} : ∀ (l : List Oper) (k0 : Nat) (hist : List (Value × zx)) (T T' A : List Value) (S S' H : zx) (μ : Mu) (ω : Nat → Option jO), wM P fx chk nl call ops k0 hist l T S = some (T', S') → GI μ S H → TI μ H ω T A →
    ∃ Ts As Ss Hs μs ωs vs zf tr, Line P fx chk call ops k0 l Ts As Ss Hs μs ωs vs zf ∧ Ts 0 = T ∧ As 0 = A ∧ Ss 0 = S ∧ Hs 0 = H ∧ μs 0 = μ ∧ ωs 0 = ω ∧ Ts l.length = T' ∧ Ss l.length = S' ∧
      wL P (lim P) ops l A H = some (tr, As l.length, Hs l.length) ∧ (∀ k, k < l.length → tr[k]? = some (As k, Hs k, zf k)) ∧ (∀ k, k ≤ l.length → (tr.map (·.2.1) ++ [Hs l.length])[k]? = some (Hs k)) ∧
      ∃ hs : List (Value × zx), hs.length = l.length ∧ (∀ k o, l[k]? = some o → hs[k]? = some (Jc (Ts k) o, Ss k)) ∧ (nl.isEmpty = false → nl.all (QL (hist ++ hs ++ [(zh, S')])) = true) := by
  intro l
  induction l with
  | nil =>
    intro k0 hist T T' A S S' H μ ω h hG hT
    simp only [wM] at h
    split at h <;> first | (cases h; done) | skip
    rename_i hst
    cases h
    refine ⟨fun _ => T, fun _ => A, fun _ => S, fun _ => H, fun _ => μ, fun _ => ω, fun _ => zh, fun _ => zh, [], ⟨fun k _ => ⟨hG, hT⟩, fun k o ho => by simp at ho⟩, rfl, rfl, rfl, rfl, rfl, rfl, rfl, rfl, rfl, fun k hk => by simp at hk, fun k hk => ?_, [], rfl, fun k o ho => by simp at ho, fun he => ?_⟩
    · have : k = 0 := by simpa using hk
      subst this
      rfl
    · simpa [kH, he] using hst
  | cons o l ih =>
    intro k0 hist T T' A S S' H μ ω h hG hT
    have hy : (ynd ops T) = ynd ops A := funext fun j => XD hT j
    simp only [wM] at h
    have glue : ∀ (T1 A1 : List Value) (S1 H1 : zx) (μ1 : Mu) (ω1 : Nat → Option jO) (v a : Value), wM P fx chk nl call ops (k0 + 1) (kH nl hist (Jc T o) S) l T1 S1 = some (T', S') → GI μ1 S1 H1 → TI μ1 H1 ω1 T1 A1 → Later μ H μ1 H1 → Kept ω H ω1 H1 →
        ((Region.wanted o (ynd ops A) = true ∧ jV P fx call T o S = some (v, S1) ∧ jF P (lim P) A o H = some (a, H1) ∧ T1 = vg o l T v ∧ A1 = xA A o.dst a ∧ (chk.contains k0 = true → okq 3 v = true)) ∨
         (Region.wanted o (ynd ops A) = false ∧ a = zh ∧ T1 = vg o l T zh ∧ A1 = xA A o.dst zh ∧ H1 = H)) →
        (∀ tr A2 H2, wL P (lim P) ops l A1 H1 = some (tr, A2, H2) → wL P (lim P) ops (o :: l) A H = some ((A, H, a) :: tr, A2, H2)) →
        ∃ Ts As Ss Hs μs ωs vs zf tr, Line P fx chk call ops k0 (o :: l) Ts As Ss Hs μs ωs vs zf ∧ Ts 0 = T ∧ As 0 = A ∧ Ss 0 = S ∧ Hs 0 = H ∧ μs 0 = μ ∧ ωs 0 = ω ∧ Ts (o :: l).length = T' ∧ Ss (o :: l).length = S' ∧
          wL P (lim P) ops (o :: l) A H = some (tr, As (o :: l).length, Hs (o :: l).length) ∧ (∀ k, k < (o :: l).length → tr[k]? = some (As k, Hs k, zf k)) ∧ (∀ k, k ≤ (o :: l).length → (tr.map (·.2.1) ++ [Hs (o :: l).length])[k]? = some (Hs k)) ∧
          ∃ hs : List (Value × zx), hs.length = (o :: l).length ∧ (∀ k o', (o :: l)[k]? = some o' → hs[k]? = some (Jc (Ts k) o', Ss k)) ∧ (nl.isEmpty = false → nl.all (QL (hist ++ hs ++ [(zh, S')])) = true) := by
      intro T1 A1 S1 H1 μ1 ω1 v a hrest hG1 hT1 hL hK hstep htr
      obtain ⟨Ts, As, Ss, Hs, μs, ωs, vs, zf, tr, hline, e1, e2, e3, e4, e5, e6, e7, e8, e9, e10, e11, hs, e12, e13, e14⟩ := ih _ _ _ _ _ _ _ _ _ _ hrest hG1 hT1
      refine ⟨fun k => match k with | 0 => T | k + 1 => Ts k, fun k => match k with | 0 => A | k + 1 => As k, fun k => match k with | 0 => S | k + 1 => Ss k, fun k => match k with | 0 => H | k + 1 => Hs k,
        fun k => match k with | 0 => μ | k + 1 => μs k, fun k => match k with | 0 => ω | k + 1 => ωs k, fun k => match k with | 0 => v | k + 1 => vs k, fun k => match k with | 0 => a | k + 1 => zf k, (A, H, a) :: tr,
        ⟨fun k hk => ?_, fun k o' ho => ?_⟩, rfl, rfl, rfl, rfl, rfl, rfl, e7, e8, htr _ _ _ e9, fun k hk => ?_, fun k hk => ?_, (Jc T o, S) :: hs, by simp [e12], fun k o' ho => ?_, fun he => ?_⟩
      · cases k with
        | zero => exact ⟨hG, hT⟩
        | succ k => exact hline.inv k (by simpa using hk)
      · cases k with
        | zero =>
          simp only [List.getElem?_cons_zero, Option.some.injEq] at ho
          subst ho
          dsimp only
          rw [e1, e2, e3, e4, e5, e6]
          exact ⟨hL, hK, hstep⟩
        | succ k =>
          have := hline.step k o' (by simpa using ho)
          rw [show k0 + 1 + k = k0 + (k + 1) by omega] at this
          exact this
      · cases k with
        | zero => rfl
        | succ k => simpa using e10 k (by simpa using hk)
      · cases k with
        | zero => rfl
        | succ k => simpa using e11 k (by simpa using hk)
      · cases k with
        | zero =>
          simp only [List.getElem?_cons_zero, Option.some.injEq] at ho
          subst ho
          rfl
        | succ k => simpa using e13 k o' (by simpa using ho)
      · have := e14 he
        rw [show kH nl hist (Jc T o) S = hist ++ [(Jc T o, S)] by simp [kH, he]] at this
        simpa using this
    split at h
    · rename_i hw
      split at h
      · rename_i v S1 hs
        split at h <;> first | (cases h; done) | skip
        rename_i hchk
        obtain ⟨a, H1, μ1, ω1, h1, h2, h3, h4, h5⟩ := QT (rest := l) hc hG hT hs
        have hw' : Region.wanted o (ynd ops A) = true := by rw [← hy]; exact hw
        refine glue _ _ _ H1 μ1 ω1 v a h h2 h5 h3 h4 (.inl ⟨hw', hs, h1, rfl, rfl, fun hk => ?_⟩) (fun tr A2 H2 ht => ?_)
        · rw [hk] at hchk; simpa using hchk
        · simp only [wL, hw', if_true, h1, ht]
      · cases h
    · rename_i hw
      obtain ⟨μ1, ω1, h2, h3, h4, h5⟩ := Zc (o := o) (rest := l) hG hT
      have hw' : Region.wanted o (ynd ops A) = false := by rw [← hy]; simpa using hw
      refine glue _ _ _ H μ1 ω1 zh zh h h2 h5 h3 h4 (.inr ⟨hw', rfl, rfl, rfl, rfl⟩) (fun tr A2 H2 ht => ?_)
      simp only [wL, hw', ht]
      rfl
variable {fx:Fx} {chk:List Nat} {ops:Array Oper} {k0:Nat} {l:List Oper} {Ts As:Nat→List Value} {Ss Hs:Nat→zx} {μs:Nat→Mu} {ωs:Nat→Nat→Option jO} {vs zf:Nat→Value}
theorem Line.later (hl:Line P fx chk call ops k0 l Ts As Ss Hs μs ωs vs zf) {i:Nat}:∀ (d:Nat),i+d≤l.length→Later (μs i) (Hs i) (μs (i+d)) (Hs (i+d)):=by
 intro d
 induction d with
 | zero=>intro _;exact Later.refl _ _
 | succ d ih =>
  intro hd
  have ho:l[i+d]?=some l[i+d]:=List.getElem?_eq_getElem (by omega)
  exact (ih (by omega)).trans (hl.step (i+d) _ ho).1
theorem Line.kept (hl:Line P fx chk call ops k0 l Ts As Ss Hs μs ωs vs zf):∀ (d:Nat),d≤l.length→Kept (ωs 0) (Hs 0) (ωs d) (Hs d):=by
 intro d
 induction d with
 | zero=>intro _;exact Kept.refl _ _
 | succ d ih =>
  intro hd
  have ho:l[d]?=some l[d]:=List.getElem?_eq_getElem (by omega)
  exact (ih (by omega)).trans (hl.step d _ ho).2.1
theorem Qk (i:Nat) (w:Value):dem (jE i w)=dem w:=by
 cases w with
 | tuple vs =>
  simp only [jE,dem]
  congr 1
  apply Array.ext (by simp)
  intro k h1 h2
  rw [Array.getElem_map,Array.getElem_map,Array.getElem_modify]
  split
  ·
   have:∀ v,yT (yT v)=yT v:=by
    intro v
    cases v with
    | iface k v =>
     simp only [yT]
     by_cases h:k=2
     ·
      rw [if_pos h,if_neg (by decide)]
     ·
      rw [if_neg h,if_neg h]
    | _=>rfl
   exact this _
  ·
   rfl
 | _=>rfl
theorem YH (o:Oper) (T:List Value) (t:Nat):dem ((moved o T).getD t zh)=dem (T.getD t zh):=by
 have slot:∀ t',dem ((wO T t').getD t zh)=dem (T.getD t zh):=by
  intro t'
  rw [wO,jT]
  split
  ·
   rename_i h;rw [h.1,Wl]
  ·
   rfl
 unfold moved
 split
 ·
  exact slot _
 ·
  exact slot _
 ·
  rw [jT]
  split
  ·
   rename_i h;rw [h.1,Qk]
  ·
   rfl
 ·
  split
  ·
   exact slot _
  ·
   rfl
 ·
  rfl
theorem moved_length (o:Oper) (T:List Value):(moved o T).length=T.length:=by
 unfold moved
 split <;> first | simp [wO] | rfl | skip
 split <;> first | simp [wO] | rfl
theorem Yw {o:Oper} {rest:List Oper} {T:List Value} {v:Value} (hd:o.dst=none) (t:Nat):dem ((vg o rest T v).getD t zh)=dem (T.getD t zh):=by
 unfold vg
 rw [hd]
 split
 ·
  rfl
 ·
  exact YH o T t
theorem Yl {o:Oper} {rest:List Oper} {T:List Value} {v:Value} {d:Nat} (hd:o.dst=some d) (t:Nat):dem ((vg o rest T v).getD t zh)=if t=d∧d < T.length then dem v else dem (T.getD t zh):=by
 unfold vg
 rw [hd]
 split
 ·
  simp only [xA]
  rw [jT]
  split
  ·
   exact Wl v
  ·
   rfl
 ·
  simp only [xA]
  rw [jT,moved_length]
  split
  ·
   rfl
  ·
   exact YH o T t
def Clear (μ:Mu) (G:zx) (bad:List Nat) (T A:List Value):Prop:=∀ t,bad.contains t=false→V0 μ G (dem (T.getD t zh)) (A.getD t zh)
theorem Clear.operands {μ:Mu} {G:zx} {bad:List Nat} {T A:List Value} (h:Clear μ G bad T A) {o:Oper} (hok:aaR o=true) (hc:wK bad o=true):∀ x ∈ o.op.operands.toList,V0 μ G (dem (zD T x)) (zD A x):=by
 intro x hx
 have h1:=List.all_eq_true.1 (show o.op.operands.toList.all wP=true from hok) x hx
 have h2:=List.all_eq_true.1 hc x hx
 cases x with
 | tmp t=>exact h t (by simpa using h2)
 | const v=>exact (VV.jD (μ:=μ) (H:=G) (ω:=W0) (ℓ:=none) h1).v0
 | global g=>cases h1
 | func f =>
  have:V0 μ G (.func (.func f) #[] #[]) (.func (.func f) #[] #[]):=.func _ rfl rfl (fun i=>by simpa using VV.zh) (fun i=>by simpa using VV.zh)
  exact this
theorem kC {T:List Value} {o:Oper} {S S':zx} {v:Value} (h:jV P fx call T o S=some (v,S')):aaR o=true:=by
 unfold jV at h
 split at h
 ·
  assumption
 ·
  cases h
theorem Xa {fx:Fx} {o:Oper} {T A:List Value} {v:Value} {S S' H:zx} {μ:Mu} (h:jV P fx call T o S=some (v,S')) (hnm:fx.nm=true) (hm:¬ qF (zD T) o) (hG:GI μ S H) (ho:∀ x ∈ o.op.operands.toList,V0 μ H (dem (zD T x)) (zD A x)) :
  ground v=true∧∃ a,jF P (lim P) A o H=some (a,H)∧a=v:=by
 have hok:=kC h
 unfold jV at h
 rw [if_pos hok] at h
 obtain ⟨dst,op,type,pos,after,guard⟩:=o
 unfold qF at hm
 cases op <;> dsimp only at h hm <;> first | (exact absurd True.intro hm) | skip
 case load t a =>
  have h:jm P fx.nm t (zD T a) S=some (v,S'):=h
  obtain ⟨q,hq⟩:∃ q,zD T a=.pointer q:=Classical.byContradiction fun hn=>hm fun q hq=>hn ⟨q,hq⟩
  obtain ⟨rfl,w,k1,k2⟩:=Zl h (ho a (by simp [Op.operands])) (.inr hG)
  rw [hnm] at h
  have hgr:ground v=true:=by
   unfold jm at h
   rw [hq] at h
   dsimp only at h
   split at h <;> first | (cases h;done) | skip
   ·
    split at h
    ·
     split at h <;> first | (cases h;done) | skip
     rename_i hg
     cases h
     exact hg
    ·
     rename_i hf;exact absurd rfl hf
   ·
    split at h
    ·
     split at h <;> first | (cases h;done) | skip
     rename_i hg
     cases h
     exact hg
    ·
     rename_i hf;exact absurd rfl hf
  refine ⟨hgr,w,?_,k2.yF hgr⟩
  unfold jF
  rw [if_pos hok]
  exact k1
 case lookup t x k ok =>
  have h:vP P fx.nm t (zD T x) (zD T k) ok S=some (v,S'):=h
  unfold vP at h
  rw [hnm] at h
  simp at h
theorem Line.clear (hdr:fx.dr=true) (hl:Line P fx chk call ops k0 l Ts As Ss Hs μs ωs vs zf) {j:Nat} (hj:j≤l.length):∀ (rest:List Oper) (bad:List Nat) (k:Nat),j≤k→l.drop k=rest→Clear (μs j) (Hs j) bad (Ts k) (As k) →
  ∀ d,d≤rest.length→Clear (μs j) (Hs j) ((X5 P fx.nm rest bad).getD d []) (Ts (k+d)) (As (k+d)):=by
 intro rest
 induction rest with
 | nil =>
  intro bad k hjk hr hC d hd
  have:d=0:=by simpa using hd
  subst this
  exact hC
 | cons o rest ih =>
  intro bad k hjk hr hC d hd
  have hkl:k < l.length:=by
   have:=congrArg List.length hr
   simp at this;omega
  have ho:l[k]?=some o:=by
   have:=congrArg (·[0]?) hr
   simpa [List.getElem?_drop] using this
  cases d with
  | zero=>exact hC
  | succ d =>
   simp only [X5,List.getD_cons_succ]
   rw [show k+(d+1)=k+1+d by omega]
   refine ih _ (k+1) (by omega) ?_ ?_ d (by simpa using hd)
   ·
    rw [← List.drop_drop,hr];rfl
   ·
    obtain ⟨hL,_,hor⟩:=hl.step k o ho
    obtain ⟨hG,hT⟩:=hl.inv k (by omega)
    have hlen:=hT.len
    intro t ht
    cases hd:o.dst with
    | none =>
     rw [hd] at ht
     rcases hor with ⟨_,_,_,e1,e2,_⟩ | ⟨_,_,e1,e2,_⟩
     ·
      rw [e1,Yw hd,e2,hd];exact hC t ht
     ·
      rw [e1,Yw hd,e2,hd];exact hC t ht
    | some dd =>
     rw [hd] at ht
     dsimp only at ht
     have htb:bad.contains t=false:=by
      split at ht
      ·
       simp only [List.contains_cons,Bool.or_eq_false_iff] at ht;exact ht.2
      ·
       exact ht
     rcases hor with ⟨hw,hv,ha,e1,e2,_⟩ | ⟨_,_,e1,e2,_⟩
     ·
      rw [e1,Yl hd,e2,hd]
      simp only [xA]
      rw [jT,hlen]
      by_cases hc:t=dd∧dd < (As k).length
      ·
       rw [if_pos hc,if_pos hc]
       have hcond:¬ (qK P o || !wK bad o || (wZ o && !fx.nm))=true:=by
        intro hh
        rw [if_pos hh] at ht
        simp [hc.1] at ht
       simp only [Bool.or_eq_true,not_or,Bool.not_eq_true,Bool.not_eq_eq_eq_not,Bool.not_true,Bool.and_eq_true,not_and] at hcond
       obtain ⟨⟨q1,q2⟩,q3⟩:=hcond
       have q2':wK bad o=true:=by simpa using q2
       have hLj:Later (μs j) (Hs j) (μs k) (Hs k):=by
        have:=hl.later (i:=j) (k - j) (by omega)
        rwa [show j+(k - j)=k by omega] at this
       by_cases hm:qF (zD (Ts k)) o
       ·
        obtain ⟨a,h1,_,_,_,h5⟩:=abU hdr hv q1 hm (hC.operands (kC hv) q2') hLj
        rw [ha] at h5
        have e:zf k=a:=by simpa using congrArg (Option.map Prod.fst) h5
        subst e
        exact h1
       ·
        have hrm:wZ o=true:=by
         cases hrm:wZ o with
         | true=>rfl
         | false=>exact absurd (vM hrm) hm
        have hnm:fx.nm=true:=by have:=q3 hrm;simpa using this
        obtain ⟨g1,a,g2,g3⟩:=Xa hv hnm hm hG (fun x hx=>hT.eval (List.all_eq_true.1 (show o.op.operands.toList.all wP=true from kC hv) x hx))
        rw [ha] at g2
        have e:zf k=a:=by simpa using congrArg (Option.map Prod.fst) g2
        subst e
        rw [g3,JD g1]
        exact V0.ground g1
      ·
       rw [if_neg hc,if_neg hc]
       exact hC t htb
     ·
      rw [e1,Yl hd,e2,hd]
      simp only [xA]
      rw [jT,hlen]
      by_cases hc:t=dd∧dd < (As k).length
      ·
       rw [if_pos hc,if_pos hc,show dem zh=zh from qR]
       exact .nores
      ·
       rw [if_neg hc,if_neg hc]
       exact hC t htb
theorem XW {hp0:Bool} (hc:Zf P call) {T T' A:List Value} {S S' H:zx} {μ:Mu} {ω:Nat→Option jO} (hd:xk P ops=true) (h:wM P ⟨hp0,!(checked P ops).isEmpty,fixed P ops⟩ (checked P ops) (again P ops) call ops 0 [] ops.toList T S=some (T',S')) (hG:GI μ S H) (hT:TI μ H ω T A) :
  After μ ω H T' S' (qG P (lim P) ops A H):=by
 obtain ⟨Ts,As,Ss,Hs,μs,ωs,vs,zf,tr,hline,rfl,rfl,rfl,rfl,rfl,rfl,rfl,rfl,e9,e10,e11,hs,e12,e13,e14⟩:=line_of hc _ _ _ _ _ _ _ _ _ _ _ h hG hT
 obtain ⟨hGn,hTn⟩:=hline.inv ops.toList.length (Nat.le_refl _)
 have hLn:=hline.later (i:=0) ops.toList.length (by omega)
 rw [Nat.zero_add] at hLn
 refine ⟨As ops.toList.length,Hs ops.toList.length,μs ops.toList.length,ωs ops.toList.length,?_,hGn,hLn,hline.kept _ (Nat.le_refl _),hTn⟩
 simp only [xk,JY,Bool.and_eq_true] at hd
 refine aa4 hd.1 e9 fun p hp=>?_
 have hchk:(checked P ops).contains p.1=true:=by
  unfold checked
  simp only [List.contains_eq_mem,decide_eq_true_eq]
  exact List.mem_map.2 ⟨p,hp,rfl⟩
 have hdr:(Fx.mk hp0 (!(checked P ops).isEmpty) (fixed P ops)).dr=true:=by
  show (!(checked P ops).isEmpty)=true
  cases hl:checked P ops with
  | nil=>rw [hl] at hchk;cases hchk
  | cons a b=>rfl
 have hp2:=List.all_eq_true.1 hd.2 p hp
 have hp0:=hp
 unfold need at hp
 obtain ⟨i,hi,hp⟩:=List.mem_flatMap.1 hp
 obtain ⟨j,hj,hp⟩:=List.mem_filterMap.1 hp
 have hi:i < ops.toList.length:=List.mem_range.1 hi
 have hj:j < ops.toList.length:=List.mem_range.1 hj
 split at hp <;> first | (cases hp;done) | skip
 rename_i oi oj hoi hoj
 split at hp <;> first | (cases hp;done) | skip
 rename_i hcond
 cases hp
 simp only [Bool.and_eq_true,Bool.not_eq_true'] at hcond
 obtain ⟨⟨hni,hcj⟩,_⟩:=hcond
 dsimp only at hp2 hchk ⊢
 rw [hoi] at hp2
 dsimp only at hp2
 have hij:i≠j:=by
  intro e;subst e
  rw [hoi] at hoj;cases hoj
  rw [hni] at hcj;cases hcj
 have hGj:(tr.map (·.2.1)++[Hs ops.toList.length])[if j < i then j else j+1]?=some (Hs (if j < i then j else j+1)):=e11 _ (by split <;> omega)
 unfold Zx
 rw [hoi,e10 i hi,hGj]
 dsimp only
 obtain ⟨_,_,hor⟩:=hline.step i oi hoi
 rcases hor with ⟨hw,hv,ha,heT,heA,hq⟩ | ⟨hw,_⟩
 ·
  rw [hw]
  simp only [Bool.not_true,Bool.false_or]
  obtain ⟨hGi,hTi⟩:=hline.inv i (by omega)
  have hops:∀ x ∈ oi.op.operands.toList,V0 (μs i) (Hs i) (dem (zD (Ts i) x)) (zD (As i) x):=fun x hx=>hTi.eval (List.all_eq_true.1 (show oi.op.operands.toList.all wP=true from kC hv) x hx)
  have hq3:okq 3 (vs i)=true:=hq (by rw [Nat.zero_add];exact hchk)
  have same:∃ G',aOp P (zD (As i)) oi (Hs (if j < i then j else j+1))=some (zf i,G')∧Xl 3 (zf i) (zf i)=true:=by
   by_cases hm:qF (zD (Ts i)) oi
   case neg =>
    have hrm:wZ oi=true:=by
     cases hrm:wZ oi with
     | true=>rfl
     | false=>exact absurd (vM hrm) hm
    have hin:(i,j) ∈ again P ops:=List.mem_filter.2 ⟨hp0,by dsimp only;rw [hoi];exact hrm⟩
    have hne:(again P ops).isEmpty=false:=by
     cases hl:again P ops with
     | nil=>rw [hl] at hin;cases hin
     | cons a b=>rfl
    have hst:=List.all_eq_true.1 (e14 hne) _ hin
    rw [List.nil_append] at hst
    have hi1:(hs++[(zh,Ss ops.toList.length)])[i]?=some (Jc (Ts i) oi,Ss i):=by
     rw [List.getElem?_append_left (by omega)];exact e13 i oi hoi
    have hj1:∃ p2,(hs++[(zh,Ss ops.toList.length)])[if j < i then j else j+1]?=some (p2,Ss (if j < i then j else j+1)):=by
     by_cases hjl:(if j < i then j else j+1) < ops.toList.length
     ·
      rw [List.getElem?_append_left (by omega)]
      exact ⟨_,e13 _ _ (List.getElem?_eq_getElem hjl)⟩
     ·
      have:(if j < i then j else j+1)=ops.toList.length:=by split at hjl <;> (rename_i hh;simp only [hh,if_true,if_false];omega)
      rw [this,List.getElem?_append_right (by omega),e12,Nat.sub_self]
      exact ⟨_,rfl⟩
    obtain ⟨p2,hj1⟩:=hj1
    unfold QL at hst
    dsimp only at hst
    rw [hi1,hj1] at hst
    dsimp only at hst
    have obj:∀ q r b,μs i q=some (r,b)→(∀ Sa Sb,xB (Jc (Ts i) oi) Sa Sb=true→(∃ o,Sa.get q=some o∧o.alive=true)∧q ∉ Sb.log.take (Sb.log.length - Sa.log.length))→(Hs (if j < i then j else j+1)).get r=(Hs i).get r:=by
     intro q r b hq hQ
     by_cases hji:j < i
     ·
      rw [if_pos hji] at hst ⊢
      rw [if_pos hji] at hst
      obtain ⟨⟨o1,g1,g2⟩,g3⟩:=hQ _ _ hst
      obtain ⟨hGj3,_⟩:=hline.inv j (by omega)
      obtain ⟨r0,_,g4,_⟩:=hGj3.obj q o1 g1 g2
      have hL:=hline.later (i:=j) (i - j) (by omega)
      rw [show j+(i - j)=i by omega] at hL
      obtain ⟨b',hb'⟩:=hL.mu q r0 true g4
      rw [hq] at hb'
      cases hb'
      obtain ⟨new,n1,n2⟩:=hL.still
      rw [hGj3.log,hGi.log] at n1
      rw [n1] at g3
      simp only [List.length_append,Nat.add_sub_cancel,List.take_left] at g3
      exact (n2 q r g4 g3).2.symm
     ·
      rw [if_neg hji] at hst ⊢
      rw [if_neg hji] at hst
      obtain ⟨⟨o1,g1,g2⟩,g3⟩:=hQ _ _ hst
      have hb:=hGi.at hq g1 g2
      subst hb
      have hL:=hline.later (i:=i) (j+1 - i) (by omega)
      rw [show i+(j+1 - i)=j+1 by omega] at hL
      obtain ⟨hGj3,_⟩:=hline.inv (j+1) (by omega)
      obtain ⟨new,n1,n2⟩:=hL.still
      rw [hGj3.log,hGi.log] at n1
      rw [n1] at g3
      simp only [List.length_append,Nat.add_sub_cancel,List.take_left] at g3
      exact (n2 q r hq g3).2
    clear hst hi1 hj1
    have hok:=kC hv
    have hvo:=hv
    unfold jV at hv
    rw [if_pos hok] at hv
    obtain ⟨dst,op,type,pos,after,guard⟩:=oi
    unfold qF at hm
    cases op <;> dsimp only at hv hm <;> first | (exact absurd True.intro hm) | skip
    case load t a =>
     have hv:jm P (fixed P ops) t (zD (Ts i) a) (Ss i)=some (vs i,Ss (i+1)):=hv
     obtain ⟨ad,hq⟩:∃ q,zD (Ts i) a=.pointer q:=Classical.byContradiction fun hn=>hm fun q hq=>hn ⟨q,hq⟩
     have hx:=hops a (by simp [Op.operands])
     obtain ⟨_,w,k1,k2⟩:=Zl hv hx (.inr hGi)
     have hA:jF P (lim P) (As i) ⟨dst,.load t a,type,pos,after,guard⟩ (Hs i)=wu P t (zD (As i) a) (Hs i):=by unfold jF;rw [if_pos hok];rfl
     rw [hA,k1] at ha
     have e:w=zf i:=by simpa using congrArg (Option.map Prod.fst) ha
     subst e
     rw [hq] at hx
     have hx:V0 (μs i) (Hs i) (.pointer ad) (zD (As i) a):=hx
     generalize hpa:zD (As i) a=pa at hx k1
     have hres:wu P t pa (Hs (if j < i then j else j+1))=some (zf i,Hs (if j < i then j else j+1)):=by
      cases hx with
      | sg hs =>
       cases ad with
       | none=>simp [wu] at k1
       | some ad=>simp [Go.Abs.sg] at hs
      | @ptr _ q o r b hmq =>
       refine Xj (obj q r b hmq fun Sa Sb hQ=>?_) k1
       have hQ:xB (zD (Ts i) a) Sa Sb=true:=hQ
       rw [hq] at hQ
       simp only [xB,Bool.and_eq_true,Bool.not_eq_true',List.contains_eq_mem,decide_eq_false_iff_not] at hQ
       refine ⟨?_,hQ.2⟩
       have h1:=hQ.1
       split at h1 <;> first | (cases h1;done) | skip
       rename_i hsa
       exact ⟨_,hsa,rfl⟩
     rw [← hpa] at hres
     exact ⟨_,hres,ZN 3 (Zw hq3) k2.dem⟩
    case lookup t x k ok =>
     have hv:vP P (fixed P ops) t (zD (Ts i) x) (zD (Ts i) k) ok (Ss i)=some (vs i,Ss (i+1)):=hv
     have hx:=hops x (by simp [Op.operands])
     obtain ⟨_,w,k1,k2⟩:=JC hv hx (hops k (by simp [Op.operands])) (.inr hGi)
     have hA:jF P (lim P) (As i) ⟨dst,.lookup t x k ok,type,pos,after,guard⟩ (Hs i)=jw P t (zD (As i) x) (zD (As i) k) ok (Hs i):=by unfold jF;rw [if_pos hok];rfl
     rw [hA,k1] at ha
     have e:w=zf i:=by simpa using congrArg (Option.map Prod.fst) ha
     subst e
     have hres:jw P t (zD (As i) x) (zD (As i) k) ok (Hs (if j < i then j else j+1))=some (zf i,Hs (if j < i then j else j+1)):=by
      refine Yv (fun r hr=>?_) k1
      rw [hr] at hx
      generalize hu:dem (zD (Ts i) x)=u at hx
      have hum:∃ q b,u=.map (some q)∧μs i q=some (r,b):=by
       cases hx with
       | sg hs=>simp [Go.Abs.sg] at hs
       | map hmq=>exact ⟨_,_,rfl,hmq⟩
      obtain ⟨q,b,rfl,hmq⟩:=hum
      have hxe:zD (Ts i) x=.map (some q):=by
       cases hvx:zD (Ts i) x <;> rw [hvx] at hu <;> simp [dem,yT] at hu <;> rw [hu]
      refine obj q r b hmq fun Sa Sb hQ=>?_
      have hQ:xB (zD (Ts i) x) Sa Sb=true:=hQ
      rw [hxe] at hQ
      simp only [xB,Bool.and_eq_true,Bool.not_eq_true',List.contains_eq_mem,decide_eq_false_iff_not] at hQ
      refine ⟨?_,hQ.2⟩
      have h1:=hQ.1
      split at h1 <;> first | (cases h1;done) | skip
      rename_i hsa
      exact ⟨_,hsa,rfl⟩
     exact ⟨_,hres,ZN 3 (Zw hq3) k2.dem⟩
   by_cases hrd:yD oi=false
   ·
    obtain ⟨a,h1,h2⟩:=abH hdr hv hni hrd hops
    have h3:=(h2 (Hs i)).2
    rw [ha] at h3
    have e:zf i=a:=by simpa using congrArg (Option.map Prod.fst) h3
    subst e
    exact ⟨_,(h2 _).1,ZN 3 (Zw hq3) h1⟩
   ·
    have hrd:yD oi=true:=by simpa using hrd
    by_cases hlt:i < j
    ·
     rw [if_neg (by omega)]
     have hL:=hline.later (i:=i) (j+1 - i) (by omega)
     rw [show i+(j+1 - i)=j+1 by omega] at hL
     obtain ⟨a,h1,_,h3,h4,_⟩:=abU hdr hv hni hm hops hL
     rw [ha] at h4
     have e:zf i=a:=by simpa using congrArg (Option.map Prod.fst) h4
     subst e
     exact ⟨_,h3,ZN 3 (Zw hq3) h1⟩
    ·
     rw [if_pos (by omega)]
     rw [hrd] at hp2
     have hcl:wK ((X5 P (fixed P ops) (ops.toList.drop j) []).getD (i - j) []) oi=true:=by
      simpa [hlt] using hp2
     obtain ⟨hGj2,hTj⟩:=hline.inv j (by omega)
     have hC0:Clear (μs j) (Hs j) [] (Ts j) (As j):=fun t _=>(hTj.slots t).v0
     have hC:=hline.clear hdr (j:=j) (by omega) _ [] j (Nat.le_refl _) rfl hC0 (i - j) (by rw [List.length_drop];omega)
     rw [show j+(i - j)=i by omega] at hC
     have hL:=hline.later (i:=j) (i - j) (by omega)
     rw [show j+(i - j)=i by omega] at hL
     obtain ⟨a,h1,h2,_,_,h5⟩:=abU hdr hv hni hm (hC.operands (kC hv) hcl) hL
     rw [ha] at h5
     have e:zf i=a:=by simpa using congrArg (Option.map Prod.fst) h5
     subst e
     exact ⟨_,h2,ZN 3 (Zw hq3) h1⟩
  obtain ⟨G',h1,h2⟩:=same
  unfold recheck
  rw [h1]
  exact h2
 ·
  rw [hw]
  rfl
end
end Go.Abs
namespace Go.Abs
open Go.RowKit
section
variable {P:Program} {call:FuncId→List Value→M Value}
def abN (μ:Mu) (ω:Nat→Option jO) (H:zx) (e:AEx) (T':List Value) (S':zx) (R:St):Prop :=
 ∃ A' H' μ' ω',R=some (e,A',H')∧GI μ' S' H'∧Later μ H μ' H'∧Kept ω H ω' H'∧TI μ' H' ω' T' A'
theorem aaq {hp:Bool} (hc:Zf P call) (fuel:Nat):∀ (c:Code) (T T' A:List Value) (S S' H:zx) (μ:Mu) (ω:Nat→Option jO) (e:AEx),jK P hp call fuel c T S=some (e,T',S')→GI μ S H→TI μ H ω T A→abN μ ω H e T' S' (jL P c A H):=by
 intro c
 induction c with
 | skip =>
  intro T T' A S S' H μ ω e h hG hT
  simp only [jK,Option.some.injEq,Prod.mk.injEq] at h
  obtain ⟨rfl,rfl,rfl⟩:=h
  exact ⟨A,H,μ,ω,rfl,hG,Later.refl _ _,Kept.refl _ _,hT⟩
 | exit id =>
  intro T T' A S S' H μ ω e h hG hT
  simp only [jK,Option.some.injEq,Prod.mk.injEq] at h
  obtain ⟨rfl,rfl,rfl⟩:=h
  exact ⟨A,H,μ,ω,rfl,hG,Later.refl _ _,Kept.refl _ _,hT⟩
 | ret =>
  intro T T' A S S' H μ ω e h hG hT
  simp only [jK,Option.some.injEq,Prod.mk.injEq] at h
  obtain ⟨rfl,rfl,rfl⟩:=h
  exact ⟨A,H,μ,ω,rfl,hG,Later.refl _ _,Kept.refl _ _,hT⟩
 | region i ops d =>
  intro T T' A S S' H μ ω e h hG hT
  cases d with
  | false =>
   simp only [jK] at h
   split at h <;> first | (cases h;done) | skip
   rename_i T1 S1 ho
   cases h
   obtain ⟨A',H',μ',ω',h1,h2,h3,h4,h5⟩:=aco hc _ _ _ _ _ _ _ _ _ ho hG hT
   exact ⟨A',H',μ',ω',by simp only [jL,h1],h2,h3,h4,h5⟩
  | true =>
   simp only [jK] at h
   split at h <;> first | (cases h;done) | skip
   rename_i hd
   split at h <;> first | (cases h;done) | skip
   rename_i T1 S1 ho
   cases h
   obtain ⟨A',H',μ',ω',h1,h2,h3,h4,h5⟩:=XW hc hd ho hG hT
   exact ⟨A',H',μ',ω',by simp only [jL,h1],h2,h3,h4,h5⟩
 | seq x y ihx ihy =>
  intro T T' A S S' H μ ω e h hG hT
  simp only [jK] at h
  split at h
  ·
   rename_i T1 S1 hx
   obtain ⟨A1,H1,μ1,ω1,h1,h2,h3,h4,h5⟩:=ihx _ _ _ _ _ _ _ _ _ hx hG hT
   obtain ⟨A2,H2,μ2,ω2,k1,k2,k3,k4,k5⟩:=ihy _ _ _ _ _ _ _ _ _ h h2 h5
   exact ⟨A2,H2,μ2,ω2,by simp only [jL,h1];exact k1,k2,h3.trans k3,h4.trans k4,k5⟩
  ·
   rename_i hne
   obtain ⟨A1,H1,μ1,ω1,h1,h2,h3,h4,h5⟩:=ihx _ _ _ _ _ _ _ _ _ h hG hT
   refine ⟨A1,H1,μ1,ω1,?_,h2,h3,h4,h5⟩
   simp only [jL,h1]
   cases e with
   | normal=>exact absurd h (hne _ _)
   | exit id=>rfl
   | ret=>rfl
 | cond c x y ihx ihy =>
  intro T T' A S S' H μ ω e h hG hT
  simp only [jK] at h
  split at h <;> first | (cases h;done) | skip
  rename_i hok
  have hv:=hT.eval hok
  split at h
  ·
   rename_i hb
   have:zD A c=.bool true:=zL hv (by rw [hb];rfl) |>.trans hb
   obtain ⟨A1,H1,μ1,ω1,h1,h2,h3,h4,h5⟩:=ihx _ _ _ _ _ _ _ _ _ h hG hT
   exact ⟨A1,H1,μ1,ω1,by simp only [jL,hok,if_true,this];exact h1,h2,h3,h4,h5⟩
  ·
   rename_i hb
   have:zD A c=.bool false:=zL hv (by rw [hb];rfl) |>.trans hb
   obtain ⟨A1,H1,μ1,ω1,h1,h2,h3,h4,h5⟩:=ihy _ _ _ _ _ _ _ _ _ h hG hT
   exact ⟨A1,H1,μ1,ω1,by simp only [jL,hok,if_true,this];exact h1,h2,h3,h4,h5⟩
  ·
   cases h
 | block id c ih =>
  intro T T' A S S' H μ ω e h hG hT
  simp only [jK] at h
  split at h
  ·
   rename_i id' T1 S1 hx
   obtain ⟨A1,H1,μ1,ω1,h1,h2,h3,h4,h5⟩:=ih _ _ _ _ _ _ _ _ _ hx hG hT
   by_cases hid:id'=id
   ·
    rw [if_pos hid] at h
    cases h
    exact ⟨A1,H1,μ1,ω1,by simp only [jL,h1,if_pos hid],h2,h3,h4,h5⟩
   ·
    rw [if_neg hid] at h
    cases h
    exact ⟨A1,H1,μ1,ω1,by simp only [jL,h1,if_neg hid],h2,h3,h4,h5⟩
  ·
   rename_i hne
   obtain ⟨A1,H1,μ1,ω1,h1,h2,h3,h4,h5⟩:=ih _ _ _ _ _ _ _ _ _ h hG hT
   refine ⟨A1,H1,μ1,ω1,?_,h2,h3,h4,h5⟩
   simp only [jL,h1]
   cases e with
   | normal=>rfl
   | exit id'=>exact absurd h (hne _ _ _)
   | ret=>rfl
 | loop c ih =>
  have key:∀ (n:Nat) (T T' A:List Value) (S S' H:zx) (μ:Mu) (ω:Nat→Option jO) (e:AEx),wB n (jK P hp call fuel c) T S=some (e,T',S')→GI μ S H→TI μ H ω T A→abN μ ω H e T' S' (wW (jL P c) A H):=by
   intro n
   induction n with
   | zero=>intro T T' A S S' H μ ω e h;cases h
   | succ n ihn =>
    intro T T' A S S' H μ ω e h hG hT
    simp only [wB] at h
    split at h
    ·
     rename_i T1 S1 hx
     obtain ⟨A1,H1,μ1,ω1,h1,h2,h3,h4,h5⟩:=ih _ _ _ _ _ _ _ _ _ hx hG hT
     obtain ⟨A2,H2,μ2,ω2,k1,k2,k3,k4,k5⟩:=ihn _ _ _ _ _ _ _ _ _ h h2 h5
     exact ⟨A2,H2,μ2,ω2,by rw [jY h1];exact k1,k2,h3.trans k3,h4.trans k4,k5⟩
    ·
     rename_i hne
     obtain ⟨A1,H1,μ1,ω1,h1,h2,h3,h4,h5⟩:=ih _ _ _ _ _ _ _ _ _ h hG hT
     exact ⟨A1,H1,μ1,ω1,jA h1 (fun he=>by subst he;exact hne _ _ h),h2,h3,h4,h5⟩
  intro T T' A S S' H μ ω e h hG hT
  simp only [jK] at h
  obtain ⟨A1,H1,μ1,ω1,h1,h2⟩:=key fuel _ _ _ _ _ _ _ _ _ h hG hT
  exact ⟨A1,H1,μ1,ω1,by simp only [jL];exact h1,h2⟩
 | _=>intro T T' A S S' H μ ω e h;simp only [jK] at h;cases h
theorem VV.ada {μ:Mu} {H:zx} {ω ω':Nat→Option jO} {f:jO→Option jO} (hω:∀ r,ω' r=(ω r).bind f) {s s':jO} (hs:f s=some s') {v a:Value} (h:VV μ H ω (some s) v a) (hv:yw v=true):VV μ H ω' (some s') v a:=by
 cases h with
 | sg h=>exact .sg h
 | ptr h=>exact .ptr h
 | map h=>exact .map h
 | slm h=>exact .slm h
 | slE=>exact .slE
 | sl hr hp hg hl hl' hc=>exact .sl hr hp hg hl hl' (fun i hi=>(hc i hi).at0)
 | so h hr hp hg hl hl' hc=>exact .so (by rw [hω,h];exact hs) hr hp hg hl hl' (fun i hi=>(hc i hi).at0)
 | ep hr hp hg hl hc=>exact .ep hr hp hg hl (fun i hi=>(hc i hi).at0)
 | func fn hx hc h1 h2=>exact .func fn hx hc (fun i=>(h1 i).at0) (fun i=>(h2 i).at0)
 | agg hx hh=>exact .agg hx (fun i=>(hh i).at0)
 | nores=>exact .nores
 | @tuple _ x x' hx hh =>
  have h0:x.size=0:=by simpa [yw] using hv
  have e1:x=#[]:=Array.eq_empty_of_size_eq_zero h0
  have e2:x'=#[]:=Array.eq_empty_of_size_eq_zero (by rw [← hx];exact h0)
  subst e1 e2
  exact .nores
def place (rs:List ResultVar):jO→Option jO
 | .ext=>some .ext
 | .res _=>none
 | .slot i j=>match rs with
  | [.tmp t]=>if i=t then some (.res j) else none
  | _=>match j with
   | none=>(rs.findIdx? (aao i)).map fun k=>.res (some k)
   | some _=>none
theorem Xe {rs:List ResultVar} {i:Nat} (h:∀ t,rs≠[.tmp t]):place rs (.slot i none)=(rs.findIdx? (aao i)).map fun k=>.res (some k):=by
 match rs,h with
 | [],_=>rfl
 | [.tmp t],h=>exact absurd rfl (h t)
 | [.cell _ _],_=>rfl
 | .tmp _::_::_,_=>rfl
 | .cell _ _::_::_,_=>rfl
theorem Y8 {μ:Mu} {ω:Nat→Option jO} {S H:zx} {T A:List Value} (hG:GI μ S H) (hT:TI μ H ω T A):∀ (l:List ResultVar) (vs:List Value),zJ P T S l=some vs →
  ∃ zf,qg P A H l=some zf∧vs.length=l.length∧zf.length=l.length∧∀ i:Nat,match (l[i]?:Option ResultVar) with
   | some (.tmp t)=>vs.getD i zh=T.getD t zh∧zf.getD i zh=A.getD t zh
   | _=>V0 μ H (vs.getD i zh) (zf.getD i zh):=by
 intro l
 induction l with
 | nil =>
  intro vs h
  simp only [zJ,Option.some.injEq] at h
  subst h
  exact ⟨[],rfl,rfl,rfl,fun i=>by simpa using VV.zh⟩
 | cons x l ih =>
  intro vs h
  cases x with
  | tmp t =>
   simp only [zJ] at h
   split at h <;> first | (cases h;done) | skip
   rename_i vs' hr
   cases h
   obtain ⟨zf,h1,h2,h3,h4⟩:=ih _ hr
   refine ⟨A.getD t zh::zf,by simp only [qg,h1],by simp [h2],by simp [h3],fun i=>?_⟩
   cases i with
   | zero=>exact ⟨rfl,rfl⟩
   | succ i=>simpa using h4 i
  | cell a t =>
   simp only [zJ] at h
   split at h <;> first | (cases h;done) | skip
   rename_i v S1 vs' hl hr
   cases h
   obtain ⟨zf,h1,h2,h3,h4⟩:=ih _ hr
   obtain ⟨_,w,k1,k2⟩:=Zl hl (hT.slots a).v0 (.inr hG)
   refine ⟨w::zf,by simp only [qg,k1,h1],by simp [h2],by simp [h3],fun i=>?_⟩
   cases i with
   | zero=>exact k2
   | succ i=>simpa using h4 i
theorem abV {μ:Mu} {ω:Nat→Option jO} {S S' H:zx} {T A:List Value} {fn:Func} {v:Value} (hG:GI μ S H) (hT:TI μ H ω T A) (h:abS P fn T S=some (v,S')) :
  S'=S∧∃ a,aaB P fn A H=some (a,H)∧VV μ H (fun r=>(ω r).bind (place fn.results.toList)) (some (.res none)) v a:=by
 unfold abS at h
 split at h <;> first | (cases h;done) | skip
 rename_i vs hvs
 split at h <;> first | (cases h;done) | skip
 rename_i hok
 obtain ⟨zf,h1,h2,h3,h4⟩:=Y8 hG hT _ _ hvs
 generalize hrs:fn.results.toList=rs at *
 split at h
 ·
  rename_i v1
  cases h
  obtain ⟨a,rfl⟩:∃ a,zf=[a]:=by
   match zf,h3.trans h2.symm with
   | [a],_=>exact ⟨a,rfl⟩
  refine ⟨rfl,a,by simp only [aaB,hrs,h1],?_⟩
  match rs,h2 with
  | [x],_ =>
   have:=h4 0
   cases x with
   | tmp t =>
    simp only [List.getElem?_cons_zero,List.getD_cons_zero] at this
    obtain ⟨rfl,rfl⟩:=this
    refine (hT.slots t).Wv (fun _=>rfl) _ (fun s hs=>?_)
    cases hs
    refine ⟨_,rfl,by simp only [place,if_true],fun k t' ht=>?_⟩
    cases ht
    exact ⟨_,rfl,by simp only [place,if_true]⟩
   | cell b t=>exact (show V0 μ H v a from this).at0
 ·
  rename_i hne
  split at h <;> first | (cases h;done) | skip
  rename_i hnt
  cases h
  refine ⟨rfl,.tuple zf.toArray,?_,.tuple (by simp [h2,h3]) fun i=>?_⟩
  ·
   simp only [aaB,hrs,h1]
   match zf,vs,h3.trans h2.symm,hne with
   | [],_,_,_=>rfl
   | [a],[v],_,hne=>exact absurd rfl (hne v)
   | a::b::c,_,_,_=>rfl
  ·
   have e1:vs.toArray.getD i zh=vs.getD i zh:=by rw [← getD_toList,List.toList_toArray]
   have e2:zf.toArray.getD i zh=zf.getD i zh:=by rw [← getD_toList,List.toList_toArray]
   rw [e1,e2]
   have h5:=h4 i
   cases hx:rs[i]? with
   | none=>rw [hx] at h5;exact (show V0 μ H _ _ from h5).at0
   | some x =>
    rw [hx] at h5
    cases x with
    | cell b t=>exact (show V0 μ H _ _ from h5).at0
    | tmp t =>
     dsimp only at h5
     have hi:i < rs.length:=(List.getElem?_eq_some_iff.1 hx).1
     have hid:rs.findIdx? (aao t)=some i:=by
      have:=List.all_eq_true.1 hok i (List.mem_range.2 hi)
      rw [hx] at this
      simpa using this
     have hnt2:yw (T.getD t zh)=true:=by
      rw [← h5.1,List.getD_eq_getElem?_getD,List.getElem?_eq_getElem (by omega)]
      exact List.all_eq_true.1 hnt _ (List.getElem_mem _)
     rw [h5.1,h5.2]
     refine (hT.slots t).ada (fun _=>rfl) (s':=.res (some i)) ?_ hnt2
     have hne1:∀ t',rs≠[.tmp t']:=by
      intro t' e
      rw [e] at h2
      match vs,h2 with
      | [v],_=>exact hne v rfl
     rw [Xe hne1,hid];rfl
def Vl (P:Program) (O:Ora):Prop:=∀ f q,O.fn f=some q→Zf P (fun g args=>if g=f then q args else fun _=>none)
theorem ab5 {s t:jO} {i:Nat} (h:s.comp i=some t):t≠.ext:=by
 cases s with
 | ext=>cases h
 | slot a b=>cases b <;> first | (cases h;exact fun h=>by cases h) | cases h
 | res b=>cases b <;> first | (cases h;exact fun h=>by cases h) | cases h
theorem VV.yh {μ μ':Mu} {H:zx} {ω ω':Nat→Option jO} {es:List Nat} (hp:∀ r l own e,H.get r=some (.cells l own e)→e ∉ es→xq μ r→xq μ' r) (hω:∀ r s,s≠.ext→ω r=some s→ω' r=some s)
  {ℓ:Option jO} {v a:Value} (h:VV μ H ω ℓ v a):∀ d,Go.Abs.yh es d v=true→(∀ s,ℓ=some s→s≠.ext)→VV μ' H ω' ℓ v a:=by
 induction h with
 | sg h=>exact fun _ _ _=>.sg h
 | ptr h=>intro d hc;cases d <;> simp [Go.Abs.yh] at hc
 | map h=>intro d hc;cases d <;> simp [Go.Abs.yh] at hc
 | slm h=>intro d hc;cases d <;> simp [Go.Abs.yh] at hc
 | slE=>exact fun _ _ _=>.slE
 | @sl ℓ e n r o cs l own hr hpr hg hl hn hc ih =>
  intro d hcl _
  cases d with
  | zero=>cases hcl
  | succ d =>
   have hv:Go.Abs.yh es (d+1) (.iface 1 (.iface e (.iface n (.agg cs))))=(!es.contains e && cs.toList.all (Go.Abs.yh es d)):=rfl
   rw [hv,Bool.and_eq_true] at hcl
   have he:e ∉ es:=by simpa using hcl.1
   refine .sl hr (hp _ _ _ _ hg he hpr) hg hl hn (fun i hi=>ih i hi d ?_ (fun s hs=>by cases hs))
   rw [List.getD_eq_getElem?_getD,List.getElem?_eq_getElem (by omega)]
   exact List.all_eq_true.1 hcl.2 _ (List.getElem_mem _)
 | @so s e n r cs l anc hw hr hpr hg hl hn hc ih =>
  intro d hcl hs
  cases d with
  | zero=>cases hcl
  | succ d =>
   have hv:Go.Abs.yh es (d+1) (.iface 2 (.iface e (.iface n (.agg cs))))=(!es.contains e && cs.toList.all (Go.Abs.yh es d)):=rfl
   rw [hv,Bool.and_eq_true] at hcl
   have he:e ∉ es:=by simpa using hcl.1
   refine .so (hω _ _ (hs _ rfl) hw) hr (hp _ _ _ _ hg he hpr) hg hl hn (fun i hi=>ih i hi d ?_ (fun s hs=>by cases hs))
   rw [List.getD_eq_getElem?_getD,List.getElem?_eq_getElem (by omega)]
   exact List.all_eq_true.1 hcl.2 _ (List.getElem_mem _)
 | ep hr hpr hg hl hc ih =>
  intro d hcl
  cases d with
  | zero=>cases hcl
  | succ d=>simp [Go.Abs.yh,vSl] at hcl
 | func fn hx hc h1 h2=>intro d hc;cases d <;> simp [Go.Abs.yh] at hc
 | @agg ℓ x x' hx hh ih =>
  intro d hcl _
  cases d with
  | zero=>cases hcl
  | succ d =>
   have hcl:x.toList.all (Go.Abs.yh es d)=true:=hcl
   refine .agg hx (fun i=>?_)
   by_cases hi:i < x.size
   ·
    refine ih i d ?_ (fun s hs=>by cases hs)
    rw [Array.getD_eq_getD_getElem?,Array.getElem?_eq_getElem hi]
    exact List.all_eq_true.1 hcl _ (by simp)
   ·
    rw [Array.getD_eq_getD_getElem?,Array.getElem?_eq_none (Nat.le_of_not_lt hi),Array.getD_eq_getD_getElem?,Array.getElem?_eq_none (by omega)]
    exact .nores
 | nores=>exact fun _ _ _=>.nores
 | @tuple ℓ x x' hx hh ih =>
  intro d hcl hs
  cases d with
  | zero=>cases hcl
  | succ d =>
   have hcl:x.toList.all (Go.Abs.yh es d)=true:=hcl
   refine .tuple hx (fun i=>?_)
   by_cases hi:i < x.size
   ·
    refine ih i d ?_ (fun s hb=>?_)
    ·
     rw [Array.getD_eq_getD_getElem?,Array.getElem?_eq_getElem hi]
     exact List.all_eq_true.1 hcl _ (by simp)
    ·
     cases ℓ with
     | none=>cases hb
     | some s0=>exact ab5 (s:=s0) hb
   ·
    rw [Array.getD_eq_getD_getElem?,Array.getElem?_eq_none (Nat.le_of_not_lt hi),Array.getD_eq_getD_getElem?,Array.getElem?_eq_none (by omega)]
    exact .nores
open Classical in
noncomputable def adC (μ:Mu) (ω:Nat→Option jO):Nat→Option jO:=fun r=>if ∃ q,μ q=some (r,true) then none else ω r
open Classical in
noncomputable def WL (μ μ1:Mu) (ω:Nat→Option jO):Nat→Option jO:=fun r=>if ∃ q,μ q=some (r,true)∧¬ μ1 q=some (r,true) then some .ext else ω r
theorem aaE {call:FuncId→List Value→M Value} (hc:Zf P call) {hps:FuncId→Bool} {hp:Bool}:Zf P (jP hps hp call):=by
 cases hp with
 | false=>exact hc
 | true =>
  intro g args aargs S v S' h μ H ω hG hA hD hE
  unfold jP at h
  dsimp only at h
  split at h
  ·
   exact hc g args aargs S v S' h μ H ω hG hA hD hE
  ·
   split at h <;> first | (cases h;done) | skip
   rename_i m S1 hf
   obtain ⟨μ1,h1,h2,h3,hsz⟩:=YX _ _ _ _ _ _ hf hG hA
   split at h <;> first | (cases h;done) | skip
   rename_i r0 hr0
   obtain ⟨v0,S2⟩:=r0
   simp only [Option.some.injEq] at h
   unfold YC at h
   dsimp only at h
   split at h
   ·
    rename_i hb
    cases h
    simp only [Bool.and_eq_true,beq_iff_eq] at hb
    obtain ⟨⟨_,hgr⟩,hlog⟩:=hb
    have hlent:∀ q r,μ q=some (r,true)→¬ μ1 q=some (r,true)→r < H.next∧xq μ1 r:=fun q r hq hn =>
     ⟨hG.lt q r _ hq,fun q' hq'=>by
      rcases h2.new q' r hq' with h5 | h5
      ·
       have:=hG.inj q q' r hq h5
       subst this
       exact hn hq'
      ·
       have:=hG.lt q r _ hq;omega,by rw [h2.hid];exact hG.vis q r hq⟩
    have hDL:Dom μ1 H (WL μ μ1 ω):=fun r s hs=>by
     unfold WL at hs
     split at hs
     ·
      rename_i hx
      obtain ⟨q,hq,hn⟩:=hx
      exact hlent q r hq hn
     ·
      exact ⟨(hD r s hs).1,h2.priv (hD r s hs).1 (hD r s hs).2⟩
    have hEL:∀ r s,WL μ μ1 ω r=some s→s=.ext:=fun r s hs=>by
     unfold WL at hs
     split at hs
     ·
      cases hs;rfl
     ·
      exact hE r s hs
    obtain ⟨a,H',μ',ω',k1,k2,k3,k4,k5,k6⟩:=hc g m aargs S1 v S2 hr0 μ1 H (WL μ μ1 ω) h1 h3 hDL hEL
    have hsame:∀ q r,μ q=some (r,true)→H'.get r=H.get r:=fun q r hq=>by
     by_cases hn:μ1 q=some (r,true)
     ·
      obtain ⟨new,e1,e2⟩:=k3.still
      have:new=[]:=by
       rw [k2.log,h1.log,hlog] at e1
       exact List.append_cancel_right (bs:=S1.log) (by rw [← e1];rfl)
      subst this
      exact (e2 q r hn (by simp)).2
     ·
      exact (k4 r (by unfold WL;rw [if_pos ⟨q,hq,hn⟩])).2
    have hL:Later μ H μ H':=⟨fun _ _ b h=>⟨b,h⟩,k3.next,fun _ _ h=>.inl h,rfl,fun r hr hh=>k3.same r hr (by rw [h2.hid];exact hh),⟨[],rfl,fun q r hq _=>⟨hq,hsame q r hq⟩⟩,
     fun r l own e hr hp hg=>k3.cells r l own e hr (h2.priv hr hp) hg⟩
    rcases Bool.or_eq_true _ _ |>.mp hgr with hgr | hgr
    ·
     refine ⟨a,H',μ,ω,k1,hG.later hL rfl hsame,hL,fun r hr=>⟨hr,(k4 r ?_).2⟩,fun r s hs=>⟨Nat.lt_of_lt_of_le (hD r s hs).1 k3.next,(hD r s hs).2⟩,?_⟩
     ·
      unfold WL
      split
      ·
       rfl
      ·
       exact hr
     ·
      rw [VV.yF hgr k6]
      exact VV.jD hgr
    ·
     have hpr:∀ r l own e,H'.get r=some (.cells l own e)→e ∉ szs S args→xq μ' r→xq μ r:=fun r l own e hg he hp=>by
      refine ⟨fun q hq=>?_,by rw [← h2.hid,← k3.hid];exact hp.2⟩
      rcases hsz q r hq with hn | ⟨l1,own1,e1,he1,hg1⟩
      ·
       obtain ⟨new,e1,e2⟩:=k3.still
       have:new=[]:=by
        rw [k2.log,h1.log,hlog] at e1
        exact List.append_cancel_right (bs:=S1.log) (by rw [← e1];rfl)
       subst this
       exact hp.1 q (e2 q r hn (by simp)).1
      ·
       rw [hsame q r hq,hg1] at hg
       cases hg
       exact he he1
     have hno:∀ r s,ω r=some s→¬ ∃ q,μ q=some (r,true):=fun r s hs ⟨q,hq⟩=>(hD r s hs).2.1 q hq
     have hst:∀ r,(∃ q,μ q=some (r,true))→∀ s,ω' r=some s→s=.ext:=fun r ⟨q,hq⟩ s hs=>by
      by_cases hn:μ1 q=some (r,true)
      ·
       exfalso
       obtain ⟨new,e1,e2⟩:=k3.still
       have:new=[]:=by
        rw [k2.log,h1.log,hlog] at e1
        exact List.append_cancel_right (bs:=S1.log) (by rw [← e1];rfl)
       subst this
       exact (k5 r s hs).2.1 q (e2 q r hn (by simp)).1
      ·
       have:=(k4 r (by unfold WL;rw [if_pos ⟨q,hq,hn⟩])).1
       rw [hs] at this
       cases this
       rfl
     refine ⟨a,H',μ,adC μ ω',k1,hG.later hL rfl hsame,hL,fun r hr=>?_,fun r s hs=>?_,?_⟩
     ·
      have hnr:=hno r _ hr
      unfold adC
      rw [if_neg hnr]
      refine k4 r ?_
      unfold WL
      rw [if_neg (fun ⟨q,hq,_⟩=>hnr ⟨q,hq⟩)]
      exact hr
     ·
      unfold adC at hs
      split at hs
      ·
       cases hs
      ·
       rename_i hnr
       exact ⟨(k5 r s hs).1,fun q hq=>hnr ⟨q,hq⟩,by rw [← h2.hid,← k3.hid];exact (k5 r s hs).2.2⟩
     ·
      refine k6.yh hpr (fun r s hne hs=>?_) 16 hgr (fun s hs=>by cases hs;exact fun h=>by cases h)
      unfold adC
      rw [if_neg (fun hx=>hne (hst r hx s hs))]
      exact hs
   ·
    cases h
    obtain ⟨a,H',μ',ω',k1,k2,k3,k4,k5,k6⟩:=hc g m aargs S1 v S' hr0 μ1 H ω h1 h3 (fun r s hs=>⟨(hD r s hs).1,h2.priv (hD r s hs).1 (hD r s hs).2⟩) hE
    exact ⟨a,H',μ',ω',k1,k2,h2.trans k3,k4,k5,k6⟩
theorem VV.clean {μ μ':Mu} {H:zx} {ω:Nat→Option jO} (hp:∀ r,xq μ r→xq μ' r) {ℓ:Option jO} {v a:Value} (h:VV μ H ω ℓ v a):∀ d,jk d v=true→VV μ' H ω ℓ v a:=by
 induction h with
 | sg h=>exact fun _ _=>.sg h
 | ptr h=>intro d hc;cases d <;> simp [jk] at hc
 | map h=>intro d hc;cases d <;> simp [jk] at hc
 | slm h=>intro d hc;cases d <;> simp [jk] at hc
 | slE=>exact fun _ _=>.slE
 | sl hr hpr hg hl hn hc ih =>
  intro d hcl
  obtain ⟨d,rfl⟩:∃ k,d=k+4:=by
   match d,hcl with
   | 0,h=>cases h
   | 1,h=>simp [jk] at h
   | 2,h=>simp [jk] at h
   | 3,h=>simp [jk] at h
   | k+4,_=>exact ⟨k,rfl⟩
  simp only [jk] at hcl
  refine .sl hr (hp _ hpr) hg hl hn (fun i hi=>ih i hi d ?_)
  rw [List.getD_eq_getElem?_getD,List.getElem?_eq_getElem (by omega)]
  exact List.all_eq_true.1 hcl _ (List.getElem_mem _)
 | so hω hr hpr hg hl hn hc ih =>
  intro d hcl
  obtain ⟨d,rfl⟩:∃ k,d=k+4:=by
   match d,hcl with
   | 0,h=>cases h
   | 1,h=>simp [jk] at h
   | 2,h=>simp [jk] at h
   | 3,h=>simp [jk] at h
   | k+4,_=>exact ⟨k,rfl⟩
  simp only [jk] at hcl
  refine .so hω hr (hp _ hpr) hg hl hn (fun i hi=>ih i hi d ?_)
  rw [List.getD_eq_getElem?_getD,List.getElem?_eq_getElem (by omega)]
  exact List.all_eq_true.1 hcl _ (List.getElem_mem _)
 | ep hr hpr hg hl hc ih =>
  intro d hcl
  obtain ⟨d,rfl⟩:∃ k,d=k+2:=by
   match d,hcl with
   | 0,h=>cases h
   | 1,h=>simp [jk] at h
   | k+2,_=>exact ⟨k,rfl⟩
  simp only [jk] at hcl
  refine .ep hr (hp _ hpr) hg hl (fun i hi=>ih i hi d ?_)
  rw [List.getD_eq_getElem?_getD,List.getElem?_eq_getElem hi]
  exact List.all_eq_true.1 hcl _ (List.getElem_mem _)
 | func fn hx hc h1 h2=>intro d hc;cases d <;> simp [jk] at hc
 | @agg ℓ x x' hx hh ih =>
  intro d hcl
  obtain ⟨d,rfl⟩:∃ k,d=k+1:=by
   match d,hcl with
   | 0,h=>cases h
   | k+1,_=>exact ⟨k,rfl⟩
  simp only [jk] at hcl
  refine .agg hx (fun i=>?_)
  by_cases hi:i < x.size
  ·
   refine ih i d ?_
   rw [Array.getD_eq_getD_getElem?,Array.getElem?_eq_getElem hi]
   exact List.all_eq_true.1 hcl _ (by simp)
  ·
   rw [Array.getD_eq_getD_getElem?,Array.getElem?_eq_none (Nat.le_of_not_lt hi),Array.getD_eq_getD_getElem?,Array.getElem?_eq_none (by omega)]
   exact .nores
 | nores=>exact fun _ _=>.nores
 | @tuple ℓ x x' hx hh ih =>
  intro d hcl
  obtain ⟨d,rfl⟩:∃ k,d=k+1:=by
   match d,hcl with
   | 0,h=>cases h
   | k+1,_=>exact ⟨k,rfl⟩
  simp only [jk] at hcl
  refine .tuple hx (fun i=>?_)
  by_cases hi:i < x.size
  ·
   refine ih i d ?_
   rw [Array.getD_eq_getD_getElem?,Array.getElem?_eq_getElem hi]
   exact List.all_eq_true.1 hcl _ (by simp)
  ·
   rw [Array.getD_eq_getD_getElem?,Array.getElem?_eq_none (Nat.le_of_not_lt hi),Array.getD_eq_getD_getElem?,Array.getElem?_eq_none (by omega)]
   exact .nores
theorem VV.lower {μ μ' : Mu} {S H : zx} {ω : Nat → Option jO} (hG : GI μ S H) (hp : ∀ r, xq μ r → xq μ' r) (hq : ∀ q r, μ q = some (r, true) → xq μ' r) {ℓ : Option jO} {v a : Value} (h : VV μ H ω ℓ v a) :
    ∀ d d', jk d (jC S d' v) = true → VV μ' H ω ℓ (jC S d' v) a := by
  induction h with
  | sg h =>
    intro d d' hc
    rename_i v
    have e : jC S d' v = v := by
      cases d' with
      | zero => rfl
      | succ d' => cases v <;> first | rfl | (simp [Go.Abs.sg] at h; done) | skip
                   rename_i a n c
                   cases a <;> first | rfl | (simp [Go.Abs.sg] at h; done)
    rw [e]; exact .sg h
  | ptr h => intro d d' hc; cases d' <;> cases d <;> simp [jC, jk] at hc
  | map h => intro d d' hc; cases d' <;> cases d <;> simp [jC, jk] at hc
  | @slm ℓ r o r' b n hm =>
    intro d d' hc
    cases d' with
    | zero => cases d <;> simp [jC, jk] at hc
    | succ d' =>
      by_cases ho : o = 0
      · subst ho
        cases hg : S.get r with
        | none => rw [show jC S (d' + 1) (.slice (some ⟨r, 0, none⟩) n n) = .slice (some ⟨r, 0, none⟩) n n by simp only [jC, hg]] at hc; cases d <;> simp [jk] at hc
        | some ob =>
          cases ob with
          | map es c => rw [show jC S (d' + 1) (.slice (some ⟨r, 0, none⟩) n n) = .slice (some ⟨r, 0, none⟩) n n by simp only [jC, hg]] at hc; cases d <;> simp [jk] at hc
          | dead => rw [show jC S (d' + 1) (.slice (some ⟨r, 0, none⟩) n n) = .slice (some ⟨r, 0, none⟩) n n by simp only [jC, hg]] at hc; cases d <;> simp [jk] at hc
          | cells cs own e =>
            by_cases hle : n * e ≤ cs.length
            · have e1 : jC S (d' + 1) (.slice (some ⟨r, 0, none⟩) n n) = SL 1 e n (cs.take (n * e)) := by simp only [jC, hg, hle, and_self, if_true]
              rw [e1] at hc ⊢
              obtain ⟨r2, cs', own', _, hm', hg', hl⟩ := hG.cells hg
              rw [hm] at hm'; cases hm'
              have hlen := hl.1
              refine .sl (o := 0) (hG.lt r r' _ hm) (hq r r' hm) hg' (by omega) (by simp; omega) fun i hi => ?_
              have hv : VV μ H W0 none (cs.getD i Go.undef) (cs'.getD i Go.undef) := hl.2 i
              have e2 : (cs.take (n * e)).toArray.toList.getD i Go.undef = cs.getD i Go.undef := by
                rw [List.toList_toArray, List.getD_eq_getElem?_getD, List.getElem?_take, if_pos hi, ← List.getD_eq_getElem?_getD]
              rw [e2, Nat.zero_add]
              obtain ⟨d, rfl⟩ : ∃ k, d = k + 4 := by
                match d, hc with
                | 0, h => cases h
                | 1, h => simp [SL, jk] at h
                | 2, h => simp [SL, jk] at h
                | 3, h => simp [SL, jk] at h
                | k + 4, _ => exact ⟨k, rfl⟩
              simp only [SL, jk, List.toList_toArray] at hc
              have hci : jk d (cs.getD i Go.undef) = true := by
                have h2 : i < cs.length := by omega
                rw [List.getD_eq_getElem?_getD, List.getElem?_eq_getElem h2, Option.getD_some]
                exact List.all_eq_true.1 hc _ (by rw [List.mem_take_iff_getElem]; exact ⟨i, by omega, rfl⟩)
              exact (hv.clean hp d hci).at0
            · rw [show jC S (d' + 1) (.slice (some ⟨r, 0, none⟩) n n) = .slice (some ⟨r, 0, none⟩) n n by simp only [jC, hg, hle, and_false, if_false]] at hc; cases d <;> simp [jk] at hc
      · rw [show jC S (d' + 1) (.slice (some ⟨r, o, none⟩) n n) = .slice (some ⟨r, o, none⟩) n n by
          simp only [jC]
          split
          · rename_i h; simp only [Value.slice.injEq, Option.some.injEq, Addr.mk.injEq] at h; exact absurd h.1.2.1 ho
          · rename_i h; cases h
          · rename_i h; cases h
          · rfl] at hc
        cases d <;> simp [jk] at hc
  | slE => intro d d' _; cases d' <;> exact .slE
  | sl hr hpr hg hl hn hc ih => intro d d' hcl; cases d' <;> exact (VV.sl hr hpr hg hl hn hc).clean hp d hcl
  | so hω hr hpr hg hl hn hc ih => intro d d' hcl; cases d' <;> exact (VV.so hω hr hpr hg hl hn hc).clean hp d hcl
  | ep hr hpr hg hl hc ih => intro d d' hcl; cases d' <;> exact (VV.ep hr hpr hg hl hc).clean hp d hcl
  | func fn hx hc h1 h2 => intro d d' hcl; cases d' <;> cases d <;> simp [jC, jk] at hcl
  | @agg ℓ x x' hx hh ih =>
    intro d d' hcl
    cases d' with
    | zero => exact (VV.agg hx hh).clean hp d hcl
    | succ d' =>
      have e : jC S (d' + 1) (.agg x) = .agg (x.map (jC S d')) := rfl
      rw [e] at hcl ⊢
      cases d with
      | zero => cases hcl
      | succ d =>
        simp only [jk] at hcl
        refine .agg (by simpa using hx) fun i => ?_
        by_cases hi : i < x.size
        · have e2 : (x.map (jC S d')).getD i Go.undef = jC S d' (x.getD i Go.undef) := by simp [Array.getD_eq_getD_getElem?, Array.getElem?_eq_getElem hi]
          rw [e2]
          refine ih i d d' ?_
          refine List.all_eq_true.1 hcl _ ?_
          simp only [Array.toList_map, List.mem_map]
          exact ⟨x[i], by simp, by rw [Array.getD_eq_getD_getElem?, Array.getElem?_eq_getElem hi]; rfl⟩
        · rw [Array.getD_eq_getD_getElem?, Array.getElem?_eq_none (by simpa using Nat.le_of_not_lt hi), Array.getD_eq_getD_getElem?, Array.getElem?_eq_none (by omega)]
          exact .nores
  | nores =>
    intro d d' hcl
    cases d' with
    | zero => exact .nores
    | succ d' => rw [show jC S (d' + 1) (.tuple #[]) = .tuple #[] by simp [jC]]; exact .nores
  | @tuple ℓ x x' hx hh ih =>
    intro d d' hcl
    cases d' with
    | zero => exact (VV.tuple hx hh).clean hp d hcl
    | succ d' =>
      have e : jC S (d' + 1) (.tuple x) = .tuple (x.map (jC S d')) := rfl
      rw [e] at hcl ⊢
      cases d with
      | zero => cases hcl
      | succ d =>
        simp only [jk] at hcl
        refine .tuple (by simpa using hx) fun i => ?_
        by_cases hi : i < x.size
        · have e2 : (x.map (jC S d')).getD i Go.undef = jC S d' (x.getD i Go.undef) := by simp [Array.getD_eq_getD_getElem?, Array.getElem?_eq_getElem hi]
          rw [e2]
          refine ih i d d' ?_
          refine List.all_eq_true.1 hcl _ ?_
          simp only [Array.toList_map, List.mem_map]
          exact ⟨x[i], by simp, by rw [Array.getD_eq_getD_getElem?, Array.getElem?_eq_getElem hi]; rfl⟩
        · rw [Array.getD_eq_getD_getElem?, Array.getElem?_eq_none (by simpa using Nat.le_of_not_lt hi), Array.getD_eq_getD_getElem?, Array.getElem?_eq_none (by omega)]
          exact .nores
open Classical in
noncomputable def qO (μ:Mu):Mu:=⟨fun _=>none,fun r=>μ.hid r || decide (∃ q,μ q=some (r,true)),[]⟩
theorem ZB {μ:Mu} {r:Nat} (h:xq μ r):xq (qO μ) r:=⟨fun q hq=>(by cases hq),by
 simp only [qO,h.2,Bool.false_or,decide_eq_false_iff_not]
 rintro ⟨q,hq⟩
 exact h.1 q hq⟩
theorem XQ {μ:Mu} {r:Nat} (h:(qO μ).hid r=false):xq μ r:=by
 simp only [qO,Bool.or_eq_false_iff,decide_eq_false_iff_not] at h
 exact ⟨fun q hq=>h.2 ⟨q,hq⟩,h.1⟩
def adM (P:Program) (g:FuncId) (args:List Value) (run:M Value):Prop:=∀ aargs S v S',run S=some (v,S')→∀ μ H ω,GI μ S H→L0 μ H args aargs→Dom μ H ω→(∀ r s,ω r=some s→s=.ext) →
 ∃ a H' μ' ω',lim P g aargs H=some (a,H')∧GI μ' S' H'∧Later μ H μ' H'∧Kept ω H ω' H'∧Dom μ' H' ω'∧VV μ' H' ω' (some (.res none)) v a
theorem aaU {g:FuncId} {args:List Value} {run:M Value} (hr:adM P g args run):adM P g args (aaG run args):=by
 intro aargs S v S' h μ H ω hG hA hD hE
 unfold aaG at h
 split at h <;> first | (cases h;done) | skip
 rename_i hca
 split at h <;> first | (cases h;done) | skip
 rename_i w S1 hrun
 split at h <;> first | (cases h;done) | skip
 rename_i hcw
 cases h
 have hG0:GI (qO μ) zx.empty H:=⟨fun q o h=>(by cases h),fun q q' r h=>(by cases h),fun q r b h=>(by cases h),fun q _=>rfl,fun q r h=>(by cases h),fun r h=>by
  simp only [qO,Bool.or_eq_true,decide_eq_true_eq] at h
  rcases h with h | ⟨q,hq⟩
  ·
   exact hG.hlt r h
  ·
   exact hG.lt q r _ hq,rfl,fun q cs anc e h=>(by cases h)⟩
 have hA0:L0 (qO μ) H args aargs:=⟨hA.1,fun i=>by
  by_cases hi:i < args.length
  ·
   refine (hA.2 i).clean (fun r h=>ZB h) 16 ?_
   rw [List.getD_eq_getElem?_getD,List.getElem?_eq_getElem hi]
   exact List.all_eq_true.1 hca _ (List.getElem_mem _)
  ·
   rw [List.getD_eq_getElem?_getD,List.getElem?_eq_none (Nat.le_of_not_lt hi),List.getD_eq_getElem?_getD,List.getElem?_eq_none (by rw [← hA.1];omega)]
   exact .nores⟩
 obtain ⟨a,H1,μ1,ω1,k1,k2,k3,k4,k5,k6⟩:=hr aargs _ _ _ hrun (qO μ) H ω hG0 hA0 (fun r s h=>⟨(hD r s h).1,ZB (hD r s h).2⟩) hE
 have hp1:∀ r,xq μ1 r→xq μ r:=fun r h=>XQ (by rw [← k3.hid];exact h.2)
 have hL:Later μ H μ H1:=⟨fun _ _ b h=>⟨b,h⟩,k3.next,fun _ _ h=>.inl h,rfl,fun r hr hh=>k3.same r hr (by simp only [qO,hh,Bool.true_or]),⟨[],rfl,fun q r hq _=>⟨hq,k3.same r (hG.lt q r _ hq) (by
  simp only [qO,Bool.or_eq_true,decide_eq_true_eq]
  exact .inr ⟨q,hq⟩)⟩⟩,fun r l own e hr hp hg=>k3.cells r l own e hr (ZB hp) hg⟩
 have hq1:∀ q r,μ1 q=some (r,true)→xq μ r:=fun q r h=>by
  rcases k3.new q r h with h5 | h5
  ·
   cases h5
  ·
   exact ⟨fun q' hq'=>by have:=hG.lt q' r _ hq';omega,by
    cases hh:μ.hid r with
    | false=>rfl
    | true=>have:=hG.hlt r hh;omega⟩
 refine ⟨a,H1,μ,ω1,k1,?_,hL,k4,fun r s h=>⟨(k5 r s h).1,hp1 r (k5 r s h).2⟩,k6.lower k2 hp1 hq1 16 16 hcw⟩
 exact hG.later hL rfl fun q r hq=>k3.same r (hG.lt q r _ hq) (by
  simp only [qO,Bool.or_eq_true,decide_eq_true_eq]
  exact .inr ⟨q,hq⟩)
theorem aa7 {O:Ora} (hO:Vl P O):∀ n,Zf P (qM P O n):=by
 intro n
 induction n with
 | zero=>intro g args aargs S v S' h;cases h
 | succ n ih =>
  intro g args aargs S v S' h μ H ω hG hA hD hE
  simp only [qM] at h
  cases ho:O.fn g with
  | some q =>
   rw [ho] at h
   exact hO g q ho g args aargs S v S' (by simpa using h) μ H ω hG hA hD hE
  | none =>
   rw [ho] at h
   dsimp only at h
   cases hf:P.funcs[g]? with
   | none=>rw [hf] at h;cases h
   | some fn =>
    rw [hf] at h
    dsimp only at h
    split at h <;> first | (cases h;done) | skip
    rename_i hn
    cases hb:fn.body with
    | none=>rw [hb] at h;cases h
    | some c =>
     rw [hb] at h
     dsimp only at h
     have hrun:adM P g args (abK P (O.hp g) (jP O.hp (O.hp g) (qM P O n)) n fn c args):=by
      intro aargs S v S' h μ H ω hG hA hD hE
      have hT0:TI μ H ω (args++List.replicate (fn.ntmps - args.length) zh) (aargs++List.replicate (fn.ntmps - aargs.length) zh):=by
       have hl:L0 μ H (args++List.replicate (fn.ntmps - args.length) zh) (aargs++List.replicate (fn.ntmps - aargs.length) zh):=by
        refine hA.append (VL.ofRange (by rw [hA.1]) fun i hi=>?_)
        have hi2:i < fn.ntmps - args.length:=by simpa using hi
        rw [List.getD_eq_getElem?_getD,List.getElem?_replicate,if_pos hi2,List.getD_eq_getElem?_getD,List.getElem?_replicate,if_pos (by rw [← hA.1];exact hi2)]
        exact .nores
       exact ⟨hl.1,fun i=>(hl.2 i).at0,hD,fun r j hr=>by have:=hE r _ hr;cases this⟩
      have fin:∀ (e:AEx) (T1:List Value) (S1:zx),(e=.normal∨e=.ret)→jK P (O.hp g) (jP O.hp (O.hp g) (qM P O n)) n c (args++List.replicate (fn.ntmps - args.length) zh) S=some (e,T1,S1)→abS P fn T1 S1=some (v,S') →
        ∃ a H' μ' ω',lim P g aargs H=some (a,H')∧GI μ' S' H'∧Later μ H μ' H'∧Kept ω H ω' H'∧Dom μ' H' ω'∧VV μ' H' ω' (some (.res none)) v a:=by
       intro e T1 S1 he hcode hres
       obtain ⟨A1,H1,μ1,ω1,h1,h2,h3,h4,h5⟩:=aaq (aaE ih) n c _ _ _ _ _ _ _ _ _ hcode hG hT0
       obtain ⟨rfl,a,k1,k2⟩:=abV (P:=P) h2 h5 hres
       refine ⟨a,H1,μ1,fun r=>(ω1 r).bind (place fn.results.toList),aaM hf hn hb h1 he k1,h2,h3,fun r hr=>?_,fun r s hs=>?_,k2⟩
       ·
        obtain ⟨q1,q2⟩:=h4 r hr
        exact ⟨by simp [q1,place],q2⟩
       ·
        cases hr:ω1 r with
        | none=>simp [hr] at hs
        | some s0=>exact h5.dom r s0 hr
      unfold abK at h
      split at h
      ·
       rename_i T1 S1 hx;exact fin .normal _ _ (.inl rfl) hx h
      ·
       rename_i T1 S1 hx;exact fin .ret _ _ (.inr rfl) hx h
      ·
       cases h
     split at h
     ·
      exact aaU hrun aargs S v S' h μ H ω hG hA hD hE
     ·
      exact hrun aargs S v S' h μ H ω hG hA hD hE
end
end Go.Abs
namespace Go.Abs
open Go.RowKit
open Classical
noncomputable def zU (P:Program) (O:Ora) (g:FuncId) (args:List Value):M Value:=fun S =>
 if h:∃ r,∃ k0,∀ k,k0≤k→qM P O k g args S=some r then some (Classical.choose h) else none
section
variable {P:Program} {O:Ora}
theorem Yb {g:FuncId} {args:List Value} {S:zx} {r:Value×zx} (h:zU P O g args S=some r):∃ k0,∀ k,k0≤k→qM P O k g args S=some r:=by
 unfold zU at h
 split at h
 ·
  rename_i hx
  have:=Classical.choose_spec hx
  cases h
  exact this
 ·
  cases h
theorem Vk {g:FuncId} {args:List Value} {S:zx} {r:Value×zx} (h:∃ k0,∀ k,k0≤k→qM P O k g args S=some r):zU P O g args S=some r:=by
 have hx:∃ r,∃ k0,∀ k,k0≤k→qM P O k g args S=some r:=⟨r,h⟩
 unfold zU
 rw [dif_pos hx]
 obtain ⟨k0,h0⟩:=h
 obtain ⟨k1,h1⟩:=Classical.choose_spec hx
 have e0:=h0 (max k0 k1) (Nat.le_max_left _ _)
 have e1:=h1 (max k0 k1) (Nat.le_max_right _ _)
 rw [e0] at e1
 exact e1.symm
theorem acn (hO:Vl P O):Zf P (zU P O):=by
 intro g args aargs S v S' h
 obtain ⟨k,hk⟩:=Yb h
 exact aa7 hO k g args aargs S v S' (hk k (Nat.le_refl k))
def acN (c:FuncId→List Value→M Value) (ck:Nat→FuncId→List Value→M Value):Prop:=∀ g args S r,c g args S=some r→∃ k0,∀ k,k0≤k→ck k g args S=some r
theorem Yj:acN (zU P O) (fun k=>qM P O k):=fun g args S r h=>Yb h
theorem Ju {c:FuncId→List Value→M Value} {ck:Nat→FuncId→List Value→M Value} (hl:acN c ck) {hps:FuncId→Bool} {hp:Bool}:acN (jP hps hp c) (fun k=>jP hps hp (ck k)):=by
 cases hp with
 | false=>exact hl
 | true =>
  intro g args S r h
  unfold jP at h
  dsimp only at h
  split at h
  ·
   rename_i hg
   obtain ⟨k0,h0⟩:=hl _ _ _ _ h
   exact ⟨k0,fun k hk=>by unfold jP;dsimp only;rw [if_pos hg];exact h0 k hk⟩
  ·
   rename_i hg
   split at h <;> first | (cases h;done) | skip
   rename_i m S1 hf
   split at h <;> first | (cases h;done) | skip
   rename_i r0 hr0
   obtain ⟨k0,h0⟩:=hl _ _ _ _ hr0
   exact ⟨k0,fun k hk=>by unfold jP;dsimp only;rw [if_neg hg,hf];dsimp only;rw [h0 k hk];exact h⟩
section
variable {c:FuncId→List Value→M Value} {ck:Nat→FuncId→List Value→M Value}
theorem W9 (hl:acN c ck) {fx:Fx} {T:List Value} {o:Oper} {S:zx} {r:Value×zx} (h:jV P fx c T o S=some r):∃ k0,∀ k,k0≤k→jV P fx (ck k) T o S=some r:=by
 unfold jV at h
 split at h
 ·
  rename_i hok
  split at h
  ·
   rename_i q0 hop
   split at h
   ·
    rename_i f hf
    split at h
    ·
     rename_i g first captured hev
     obtain ⟨k0,hk⟩:=hl _ _ _ _ h
     refine ⟨k0,fun k hkk=>?_⟩
     unfold jV
     rw [if_pos hok]
     simp only [hop,hf,hev]
     exact hk k hkk
    ·
     cases h
   ·
    rename_i b hb
    refine ⟨0,fun k _=>?_⟩
    unfold jV
    rw [if_pos hok]
    simp only [hop,hb]
    exact h
   ·
    cases h
  ·
   rename_i hop
   refine ⟨0,fun k _=>?_⟩
   unfold jV
   rw [if_pos hok]
   split
   ·
    rename_i q0 hc;exact absurd hc (hop q0)
   ·
    exact h
 ·
  cases h
theorem aas (hl:acN c ck) {fx:Fx} {ops:Array Oper}:∀ (l:List Oper) (T:List Value) (S:zx) (r:List Value×zx),ji P fx c ops l T S=some r→∃ k0,∀ k,k0≤k→ji P fx (ck k) ops l T S=some r:=by
 intro l
 induction l with
 | nil=>intro T S r h;exact ⟨0,fun k _=>h⟩
 | cons o l ih =>
  intro T S r h
  simp only [ji] at h
  split at h
  ·
   rename_i hw
   split at h
   ·
    rename_i v S' hs
    obtain ⟨k1,h1⟩:=W9 hl hs
    obtain ⟨k2,h2⟩:=ih _ _ _ h
    refine ⟨max k1 k2,fun k hk=>?_⟩
    simp only [ji,hw,if_true,h1 k (by omega)]
    exact h2 k (by omega)
   ·
    cases h
  ·
   rename_i hw
   obtain ⟨k2,h2⟩:=ih _ _ _ h
   refine ⟨k2,fun k hk=>?_⟩
   simp only [ji,hw,if_false]
   exact h2 k hk
theorem XK (hl:acN c ck) {fx:Fx} {chk:List Nat} {nl:List (Nat×Nat)} {ops:Array Oper}:∀ (l:List Oper) (i:Nat) (hist:List (Value×zx)) (T:List Value) (S:zx) (r:List Value×zx),wM P fx chk nl c ops i hist l T S=some r→∃ k0,∀ k,k0≤k→wM P fx chk nl (ck k) ops i hist l T S=some r:=by
 intro l
 induction l with
 | nil=>intro i hist T S r h;exact ⟨0,fun k _=>h⟩
 | cons o l ih =>
  intro i hist T S r h
  simp only [wM] at h
  split at h
  ·
   rename_i hw
   split at h
   ·
    rename_i v S' hs
    split at h
    ·
     rename_i hq
     obtain ⟨k1,h1⟩:=W9 hl hs
     obtain ⟨k2,h2⟩:=ih _ _ _ _ _ h
     refine ⟨max k1 k2,fun k hk=>?_⟩
     simp only [wM,hw,if_true,h1 k (by omega),hq]
     exact h2 k (by omega)
    ·
     cases h
   ·
    cases h
  ·
   rename_i hw
   obtain ⟨k2,h2⟩:=ih _ _ _ _ _ h
   refine ⟨k2,fun k hk=>?_⟩
   simp only [wM,hw,if_false]
   exact h2 k hk
end
noncomputable def zC (P:Program) (O:Ora) (hp:Bool):Code→List Value→zx→St
 | .skip,T,H=>some (.normal,T,H)
 | .region _ ops false,T,H=>match ji P ⟨hp,false,false⟩ (jP O.hp hp (zU P O)) ops ops.toList T H with
  | some (T1,H1)=>some (.normal,T1,H1)
  | none=>none
 | .region _ ops true,T,H=>if xk P ops then match wM P ⟨hp,!(checked P ops).isEmpty,fixed P ops⟩ (checked P ops) (again P ops) (jP O.hp hp (zU P O)) ops 0 [] ops.toList T H with
  | some (T1,H1)=>some (.normal,T1,H1)
  | none=>none
  else none
 | .seq x y,T,H=>match zC P O hp x T H with
  | some (.normal,T1,H1)=>zC P O hp y T1 H1
  | r=>r
 | .cond c x y,T,H=>if wP c then
   match zD T c with
   | .bool true=>zC P O hp x T H
   | .bool false=>zC P O hp y T H
   | _=>none
  else none
 | .block id c,T,H=>match zC P O hp c T H with
  | some (.exit id',T1,H1)=>if id'=id then some (.normal,T1,H1) else some (.exit id',T1,H1)
  | r=>r
 | .loop c,T,H=>wW (zC P O hp c) T H
 | .exit id,T,H=>some (.exit id,T,H)
 | .ret,T,H=>some (.ret,T,H)
 | _,_,_=>none
theorem KQ {hp:Bool}:∀ (c:Code) (T:List Value) (H:zx) (r),zC P O hp c T H=some r→∃ k0,∀ k fuel,k0≤k→k0≤fuel→jK P hp (jP O.hp hp (qM P O k)) fuel c T H=some r:=by
 intro c
 induction c with
 | skip=>intro T H r h;exact ⟨0,fun k fuel _ _=>h⟩
 | region i ops d =>
  intro T H r h
  cases d with
  | false =>
   simp only [zC] at h
   split at h
   ·
    rename_i T1 H1 ho
    obtain ⟨k0,h0⟩:=aas (Ju Yj) _ _ _ _ ho
    exact ⟨k0,fun k fuel hk _=>by simp only [jK,h0 k hk];exact h⟩
   ·
    cases h
  | true =>
   simp only [zC] at h
   split at h
   ·
    rename_i hd
    split at h
    ·
     rename_i T1 H1 ho
     obtain ⟨k0,h0⟩:=XK (Ju Yj) _ _ _ _ _ _ ho
     exact ⟨k0,fun k fuel hk _=>by simp only [jK,hd,if_true,h0 k hk];exact h⟩
    ·
     cases h
   ·
    cases h
 | seq x y ihx ihy =>
  intro T H r h
  simp only [zC] at h
  split at h
  ·
   rename_i T1 H1 hx
   obtain ⟨k1,h1⟩:=ihx _ _ _ hx
   obtain ⟨k2,h2⟩:=ihy _ _ _ h
   exact ⟨max k1 k2,fun k fuel hk hf=>by simp only [jK,h1 k fuel (by omega) (by omega)];exact h2 k fuel (by omega) (by omega)⟩
  ·
   rename_i hne
   obtain ⟨k1,h1⟩:=ihx _ _ _ h
   refine ⟨k1,fun k fuel hk hf=>?_⟩
   simp only [jK,h1 k fuel hk hf]
   split
   ·
    rename_i T1 H1 he;exact absurd (h.trans he) (hne T1 H1)
   ·
    rfl
 | cond c x y ihx ihy =>
  intro T H r h
  simp only [zC] at h
  split at h
  ·
   rename_i hok
   split at h
   ·
    rename_i hb
    obtain ⟨k1,h1⟩:=ihx _ _ _ h
    exact ⟨k1,fun k fuel hk hf=>by simp only [jK,hok,if_true,hb];exact h1 k fuel hk hf⟩
   ·
    rename_i hb
    obtain ⟨k1,h1⟩:=ihy _ _ _ h
    exact ⟨k1,fun k fuel hk hf=>by simp only [jK,hok,if_true,hb];exact h1 k fuel hk hf⟩
   ·
    cases h
  ·
   cases h
 | block id c ih =>
  intro T H r h
  simp only [zC] at h
  split at h
  ·
   rename_i id' T1 H1 hc
   obtain ⟨k1,h1⟩:=ih _ _ _ hc
   exact ⟨k1,fun k fuel hk hf=>by simp only [jK,h1 k fuel hk hf];exact h⟩
  ·
   rename_i hne
   obtain ⟨k1,h1⟩:=ih _ _ _ h
   refine ⟨k1,fun k fuel hk hf=>?_⟩
   simp only [jK,h1 k fuel hk hf]
   split
   ·
    rename_i id' T1 H1 he;exact absurd (h.trans he) (hne id' T1 H1)
   ·
    rfl
 | loop c ih =>
  intro T H r h
  simp only [zC] at h
  obtain ⟨n,hn⟩:=kE h
  have key:∀ (n:Nat) (T:List Value) (H:zx),wB n (zC P O hp c) T H=some r→∃ k0,∀ k fuel,k0≤k→k0≤fuel→∀ j,n≤j→wB j (jK P hp (jP O.hp hp (qM P O k)) fuel c) T H=some r:=by
   intro n
   induction n with
   | zero=>intro T H h;cases h
   | succ n ihn =>
    intro T H h
    simp only [wB] at h
    split at h
    ·
     rename_i T1 H1 hf
     obtain ⟨k1,h1⟩:=ih _ _ _ hf
     obtain ⟨k2,h2⟩:=ihn _ _ h
     refine ⟨max k1 k2,fun k fuel hk hfu j hj=>?_⟩
     obtain ⟨j,rfl⟩:∃ i,j=i+1:=⟨j - 1,by omega⟩
     simp only [wB,h1 k fuel (by omega) (by omega)]
     exact h2 k fuel (by omega) (by omega) j (by omega)
    ·
     rename_i hne
     obtain ⟨k1,h1⟩:=ih _ _ _ h
     refine ⟨k1,fun k fuel hk hfu j hj=>?_⟩
     obtain ⟨j,rfl⟩:∃ i,j=i+1:=⟨j - 1,by omega⟩
     simp only [wB,h1 k fuel hk hfu]
     split
     ·
      rename_i T1 H1 he;exact absurd (h.trans he) (hne T1 H1)
     ·
      rfl
  obtain ⟨k0,h0⟩:=key n T H hn
  exact ⟨max k0 n,fun k fuel hk hf=>by simp only [jK];exact h0 k fuel (by omega) (by omega) fuel (by omega)⟩
 | exit id=>intro T H r h;exact ⟨0,fun k fuel _ _=>h⟩
 | ret=>intro T H r h;exact ⟨0,fun k fuel _ _=>h⟩
 | _=>intro T H r h;simp only [zC] at h;cases h
theorem jJ {f:FuncId} {fn:Func} {c:Code} {args:List Value} {H H1 H':zx} {e:AEx} {T:List Value} {v:Value} (ho:O.fn f=none) (hpu:O.pu f=false) (hf:P.funcs[f]?=some fn) (hn:fn.name≠ "runtime.NumGoroutine") (hb:fn.body=some c)
  (h:zC P O (O.hp f) c (args++List.replicate (fn.ntmps - args.length) zh) H=some (e,T,H1)) (he:e=.normal∨e=.ret) (hres:abS P fn T H1=some (v,H')):zU P O f args H=some (v,H'):=by
 obtain ⟨k0,h0⟩:=KQ _ _ _ _ h
 refine Vk ⟨k0+1,fun k hk=>?_⟩
 obtain ⟨k,rfl⟩:∃ i,k=i+1:=⟨k - 1,by omega⟩
 simp only [qM,ho,hf,if_neg hn,hb,hpu,Bool.false_eq_true,if_false,abK,h0 k k (by omega) (by omega)]
 rcases he with rfl | rfl <;> exact hres
def Ty.QA:(t:Ty)→t.Val→List Value
 | .int k,n=>[.int k n]
 | .bool,b=>[.bool b]
 | .str,s=>[.string s]
 | .slc _ e,l=>match l with
  | none=>[.slice none 0 0]
  | some l=>[SL 1 e.sz l.length (l.flatMap e.QA)]
 | .pair a b,(x,y)=>a.QA x++b.QA y
 | .unit,_=>[]
theorem Ty.Y6:∀ (t:Ty) (x:t.Val),(t.QA x).length=t.sz:=by
 intro t
 induction t with
 | pair a b iha ihb=>rintro ⟨x,y⟩;simp [Ty.QA,Ty.sz,iha,ihb]
 | slc bytes e ih=>intro x;cases x <;> rfl
 | _=>intro x;rfl
theorem vZ {e:Ty} (l:List e.Val):(l.flatMap e.QA).length=l.length * e.sz:=by
 induction l with
 | nil=>simp
 | cons x l ih=>simp [List.flatMap_cons,Ty.Y6,ih,Nat.add_mul];omega
def M0:Mu:=⟨fun _=>none,fun _=>false,[]⟩
theorem GI.none {H:zx}:GI M0 zx.empty H:=⟨(fun q o h=>by cases h),(fun q q' r h=>by cases h),(fun q r b h=>by cases h),(fun q _=>rfl),(fun q r h=>by cases h),(fun r h=>by cases h),rfl,(fun q cs anc e h=>by cases h)⟩
theorem Ty.Wu:∀ (t:Ty) (x:t.Val) (H:zx),Later M0 H M0 (t.place x H).2∧L0 M0 (t.place x H).2 (t.QA x) (t.place x H).1:=by
 intro t
 induction t with
 | int k=>intro x H;exact ⟨Later.refl _ _,VL.cons (.sg rfl) VL.nil⟩
 | bool=>intro x H;exact ⟨Later.refl _ _,VL.cons (.sg rfl) VL.nil⟩
 | str=>intro x H;exact ⟨Later.refl _ _,VL.cons (.sg rfl) VL.nil⟩
 | unit=>intro x H;exact ⟨Later.refl _ _,VL.nil⟩
 | pair a b iha ihb =>
  rintro ⟨x,y⟩ H
  obtain ⟨h1,h2⟩:=iha x H
  obtain ⟨h3,h4⟩:=ihb y (a.place x H).2
  exact ⟨h1.trans h3,(h2.later h3).append h4⟩
 | slc bytes e ih =>
  intro x H
  match x with
  | none=>exact ⟨Later.refl _ _,VL.cons (.sg rfl) VL.nil⟩
  | some []=>exact ⟨Later.refl _ _,VL.cons (.slE (e:=e.sz)) VL.nil⟩
  | some (x::l) =>
   have key:∀ (l:List e.Val) (H:zx),Later M0 H M0 (jv e.place l H).2∧L0 M0 (jv e.place l H).2 (l.flatMap e.QA) (jv e.place l H).1:=by
    intro l
    induction l with
    | nil=>intro H;exact ⟨Later.refl _ _,VL.nil⟩
    | cons x l ihl =>
     intro H
     obtain ⟨h1,h2⟩:=ih x H
     obtain ⟨h3,h4⟩:=ihl (e.place x H).2
     exact ⟨h1.trans h3,(h2.later h3).append h4⟩
   obtain ⟨h1,h2⟩:=key (x::l) H
   have hL:Later M0 (jv e.place (x::l) H).2 M0 ((jv e.place (x::l) H).2.push (.cells (jv e.place (x::l) H).1 .ro e.sz)):=JH (fun q r h=>by cases h) _
   refine ⟨h1.trans hL,VL.cons ?_ VL.nil⟩
   have hlen:(jv e.place (x::l) H).1.length=(l.length+1) * e.sz:=by rw [← h2.1,vZ];rfl
   show V0 M0 ((jv e.place (x::l) H).2.push (.cells (jv e.place (x::l) H).1 .ro e.sz)) (SL 1 e.sz (l.length+1) ((x::l).flatMap e.QA)) (.slice (some ⟨(jv e.place (x::l) H).2.next,0,none⟩) (l.length+1) (l.length+1))
   refine VV.sl (o:=0) (l:=(jv e.place (x::l) H).1) (own:=.ro) (by simp) ⟨fun q h=>(by cases h),rfl⟩ (by rw [zx.zQ,if_pos rfl]) (by omega) (by rw [List.toList_toArray,vZ];rfl) (fun i hi=>?_)
   rw [Nat.zero_add,List.toList_toArray]
   exact (h2.2 i).qj hL
def Args.QA:(l:List (Bool×Ty))→Args l→List Value
 | [],_=>[]
 | (b,c)::l,(x,xs)=>kW b (c.QA x)::Args.QA l xs
theorem aaS {H:zx} {b:Bool} {cs cs':List Value} (h:L0 M0 H cs cs'):V0 M0 H (kW b cs) (kW b cs'):=by
 unfold kW
 split
 ·
  exact ZO h
 ·
  rw [qY,qY];exact h.2 0
theorem Args.Wu:∀ (l:List (Bool×Ty)) (x:Args l) (H:zx),Later M0 H M0 (Args.place l x H).2∧L0 M0 (Args.place l x H).2 (Args.QA l x) (Args.place l x H).1:=by
 intro l
 induction l with
 | nil=>intro x H;exact ⟨Later.refl _ _,VL.nil⟩
 | cons p l ih =>
  obtain ⟨b,c⟩:=p
  rintro ⟨x,xs⟩ H
  obtain ⟨h1,h2⟩:=c.Wu x H
  obtain ⟨h3,h4⟩:=ih xs (c.place x H).2
  exact ⟨h1.trans h3,VL.cons ((aaS h2).qj h3) h4⟩
theorem Qn (hO:Vl P O) {f:FuncId} {codes:List (Bool×Ty)} {x:Args codes} {S':zx} (h:zU P O f (Args.QA codes x) zx.empty=some (.bool true,S')) :
  ∃ k,(qh P k f (Args.place codes x zx.empty).1 (Args.place codes x zx.empty).2).map (·.1)=some (.bool true):=by
 obtain ⟨h1,h2⟩:=Args.Wu codes x zx.empty
 obtain ⟨a,H',μ',ω',k1,k2,k3,k4,k5,k6⟩:=acn hO f _ _ _ _ _ h M0 _ W0 GI.none h2 (fun r s hs=>by cases hs) (fun r s hs=>by cases hs)
 have:a=.bool true:=zL (k6.v0) rfl
 subst this
 exact KN k1
theorem aaD {hps pus:FuncId→Bool}:Vl P ⟨fun _=>none,hps,pus⟩:=fun f q h=>by cases h
end
end Go.Abs
namespace Go.Abs
open Go.RowKit
section
variable {R:Type} {P:Program} {O:Ora} {fx:Fx} {hp nm:Bool} {chk:List Nat} {call:FuncId→List Value→M Value} {ops:Array Oper}
def okC (v:Value) (r:Option R):Option R:=if okq 3 v=true then r else none
@[simp] theorem QU (b:Bool) (r:Option R):okC (.bool b) r=r:=Eq.trans rfl rfl
@[simp] theorem Xx (k:IntKind) (n:Int) (r:Option R):okC (.int k n) r=r:=Eq.trans rfl rfl
@[simp] theorem Ji (s:ByteArray) (r:Option R):okC (.string s) r=r:=Eq.trans rfl rfl
@[simp] theorem YF (a:Option Addr) (n c:Nat) (r:Option R):okC (.slice a n c) r=r:=Eq.trans rfl rfl
@[simp] theorem Yd (k:Nat) (v:Value) (r:Option R):okC (.iface k v) r=r:=Eq.trans rfl rfl
@[simp] theorem acr (a:Option Addr) (r:Option R):okC (.pointer a) r=r:=Eq.trans rfl rfl
def gdC (v:Value) (b:Bool) (s:M Value) (S:zx) (K:Value→zx→Option R):Option R :=
 if (vb v == some b)=true then andThen (s S) (fun v S1=>okC v (K v S1)) else K zh S
@[simp] theorem abr (s:M Value) (H:zx) (K:Value→zx→Option R):gdC (.bool true) true s H K=andThen (s H) (fun v S1=>okC v (K v S1)):=Eq.trans rfl rfl
@[simp] theorem abl (s:M Value) (H:zx) (K:Value→zx→Option R):gdC (.bool false) false s H K=andThen (s H) (fun v S1=>okC v (K v S1)):=Eq.trans rfl rfl
@[simp] theorem abn (s:M Value) (H:zx) (K:Value→zx→Option R):gdC (.bool true) false s H K=K zh H:=Eq.trans rfl rfl
@[simp] theorem abh (s:M Value) (H:zx) (K:Value→zx→Option R):gdC (.bool false) true s H K=K zh H:=Eq.trans rfl rfl
@[simp] theorem abT (s:M Value) (b:Bool) (H:zx) (K:Value→zx→Option R):gdC zh b s H K=K zh H:=Eq.trans rfl rfl
abbrev vX {α:Type} (a:α):Type:=Unit
def zT (s:Option (Value×zx)) (K:Value→zx→Option R) (p:vX K):Option R:=andThen s K
def gdK (v:Value) (b:Bool) (s:M Value) (S:zx) (K:Value→zx→Option R) (p:vX K):Option R:=gd v b s S K
def ac3 (v:Value) (b:Bool) (s:M Value) (S:zx) (K:Value→zx→Option R) (p:vX K):Option R:=gdC v b s S K
def okK (v:Value) (r:Option R) (p:vX r):Option R:=okC v r
@[simp] theorem YS (v:Value) (H:zx) (K:Value→zx→Option R) (p:vX K):zT (some (v,H)) K p=K v H:=Eq.trans rfl rfl
@[simp] theorem abd (s:M Value) (H:zx) (K:Value→zx→Option R) (p:vX K):gdK (.bool true) true s H K p=zT (s H) K p:=Eq.trans rfl rfl
@[simp] theorem abD (s:M Value) (H:zx) (K:Value→zx→Option R) (p:vX K):gdK (.bool false) false s H K p=zT (s H) K p:=Eq.trans rfl rfl
@[simp] theorem abJ (s:M Value) (H:zx) (K:Value→zx→Option R) (p:vX K):gdK (.bool true) false s H K p=K zh H:=Eq.trans rfl rfl
@[simp] theorem abv (s:M Value) (H:zx) (K:Value→zx→Option R) (p:vX K):gdK (.bool false) true s H K p=K zh H:=Eq.trans rfl rfl
@[simp] theorem aa8 (s:M Value) (b:Bool) (H:zx) (K:Value→zx→Option R) (p:vX K):gdK zh b s H K p=K zh H:=Eq.trans rfl rfl
@[simp] theorem Vm (s:M Value) (H:zx) (K:Value→zx→Option R) (p:vX K):ac3 (.bool true) true s H K p=zT (s H) (fun v S1=>okK v (K v S1) ()) ():=Eq.trans rfl rfl
@[simp] theorem VZ (s:M Value) (H:zx) (K:Value→zx→Option R) (p:vX K):ac3 (.bool false) false s H K p=zT (s H) (fun v S1=>okK v (K v S1) ()) ():=Eq.trans rfl rfl
@[simp] theorem Xt (s:M Value) (H:zx) (K:Value→zx→Option R) (p:vX K):ac3 (.bool true) false s H K p=K zh H:=Eq.trans rfl rfl
@[simp] theorem Xr (s:M Value) (H:zx) (K:Value→zx→Option R) (p:vX K):ac3 (.bool false) true s H K p=K zh H:=Eq.trans rfl rfl
@[simp] theorem VU (s:M Value) (b:Bool) (H:zx) (K:Value→zx→Option R) (p:vX K):ac3 zh b s H K p=K zh H:=Eq.trans rfl rfl
@[simp] theorem Qy (b:Bool) (r:Option R) (p:vX r):okK (.bool b) r p=r:=Eq.trans rfl rfl
@[simp] theorem VB (k:IntKind) (n:Int) (r:Option R) (p:vX r):okK (.int k n) r p=r:=Eq.trans rfl rfl
@[simp] theorem Jt (s:ByteArray) (r:Option R) (p:vX r):okK (.string s) r p=r:=Eq.trans rfl rfl
@[simp] theorem YM (a:Option Addr) (n c:Nat) (r:Option R) (p:vX r):okK (.slice a n c) r p=r:=Eq.trans rfl rfl
@[simp] theorem ZJ (a:Option Addr) (r:Option R) (p:vX r):okK (.pointer a) r p=r:=Eq.trans rfl rfl
theorem XZ {l rest:List Oper} {o:Oper} {T:List Value} {T1:Value→List Value} {S:zx} {v:Value} {r:Option (List Value×zx)} (hl:l=o::rest) (hg:o.guard=none) (hm:∀ v,vg o rest T v=T1 v)
  (hs:jV P fx call T o S=some (v,S)) (hK:ji P fx call ops rest (T1 v) S=r):ji P fx call ops l T S=r:=by
 subst hl
 simp only [ji,Region.wanted,hg,if_true,hs,hm]
 exact hK
theorem acs {l rest:List Oper} {o:Oper} {T:List Value} {T1:Value→List Value} {S:zx} {s:Option (Value×zx)} {K:Value→zx→Option (List Value×zx)} (hl:l=o::rest) (hg:o.guard=none) (hm:∀ v,vg o rest T v=T1 v)
  (hs:jV P fx call T o S=s) (hK:∀ v S1,ji P fx call ops rest (T1 v) S1=K v S1):ji P fx call ops l T S=zT s K ():=by
 show _=andThen s K
 subst hl hs
 simp only [ji,Region.wanted,hg,if_true,hm,hK]
 rfl
theorem abY {l rest:List Oper} {o:Oper} {T:List Value} {T1:Value→List Value} {S:zx} {j:Nat} {b:Bool} {g:Value} {s:M Value} {K:Value→zx→Option (List Value×zx)} (hl:l=o::rest) (hg:o.guard=some (j,b)) (hm:∀ v,vg o rest T v=T1 v)
  (hy:ynd ops T j=vb g) (hs:jV P fx call T o S=s S) (hK:∀ v S1,ji P fx call ops rest (T1 v) S1=K v S1):ji P fx call ops l T S=gdK g b s S K ():=by
 show _=gd g b s S K
 subst hl
 simp only [ji,Region.wanted,hg,hy,hs,hm,hK,gd]
 rfl
theorem aaC {l rest:List Oper} {o:Oper} {T:List Value} {T1:Value→List Value} {S:zx} {k:Nat} {s:Option (Value×zx)} {K:Value→zx→Option (List Value×zx)} (hc:chk.contains k=false) (hl:l=o::rest) (hg:o.guard=none) (hm:∀ v,vg o rest T v=T1 v)
  (hs:jV P fx call T o S=s) (hK:∀ v S1,wM P fx chk [] call ops (k+1) [] rest (T1 v) S1=K v S1):wM P fx chk [] call ops k [] l T S=zT s K ():=by
 show _=andThen s K
 subst hl hs
 simp only [wM,kH,List.isEmpty_nil,if_true,Region.wanted,hg,if_true,hm,hK,hc,Bool.not_false,Bool.true_or]
 rfl
theorem KL {l rest:List Oper} {o:Oper} {T:List Value} {T1:Value→List Value} {S:zx} {k:Nat} {v:Value} {r:Option (List Value×zx)} (hc:chk.contains k=false) (hl:l=o::rest) (hg:o.guard=none) (hm:∀ v,vg o rest T v=T1 v)
  (hs:jV P fx call T o S=some (v,S)) (hK:wM P fx chk [] call ops (k+1) [] rest (T1 v) S=r):wM P fx chk [] call ops k [] l T S=r:=by
 subst hl
 simp only [wM,kH,List.isEmpty_nil,if_true,Region.wanted,hg,if_true,hs,hm,hc,Bool.not_false,Bool.true_or]
 exact hK
theorem Y3 {l rest:List Oper} {o:Oper} {T:List Value} {T1:Value→List Value} {S:zx} {k:Nat} {v:Value} {r:Option (List Value×zx)} (hc:chk.contains k=true) (hl:l=o::rest) (hg:o.guard=none) (hm:∀ v,vg o rest T v=T1 v)
  (hs:jV P fx call T o S=some (v,S)) (hK:wM P fx chk [] call ops (k+1) [] rest (T1 v) S=r):wM P fx chk [] call ops k [] l T S=okK v r ():=by
 show _=okC v r
 subst hl
 simp only [wM,kH,List.isEmpty_nil,if_true,Region.wanted,hg,if_true,hs,hm,hc,Bool.not_true,Bool.false_or]
 rw [← hK]
 rfl
def ckK (c:Bool) (r:Option R) (p:vX r):Option R:=if c then r else none
@[simp] theorem QM (r:Option R) (p:vX r):ckK true r p=r:=Eq.trans rfl rfl
noncomputable def ab4 (P:Program) (O:Ora) (hp:Bool) (v:Value) (x y:Code) (T:List Value) (S:zx):St:=aav v (zC P O hp x T S) (zC P O hp y T S)
@[simp] theorem Jz (x y:Code) (T:List Value) (S:zx):ab4 P O hp (.bool true) x y T S=zC P O hp x T S:=Eq.trans rfl rfl
@[simp] theorem ZL (x y:Code) (T:List Value) (S:zx):ab4 P O hp (.bool false) x y T S=zC P O hp y T S:=Eq.trans rfl rfl
@[simp] theorem Z5 (T:List Value) (H:zx):zC P O hp .skip T H=some (.normal,T,H):=Eq.trans rfl rfl
@[simp] theorem Jr (T:List Value) (H:zx):zC P O hp .ret T H=some (.ret,T,H):=Eq.trans rfl rfl
@[simp] theorem Z4 (i:Nat) (T:List Value) (H:zx):zC P O hp (.exit i) T H=some (.exit i,T,H):=Eq.trans rfl rfl
@[simp] theorem xP (i:Nat) (ops:Array Oper) (T:List Value) (H:zx):zC P O false (.region i ops false) T H=aan (ji P ⟨false,false,false⟩ (zU P O) ops ops.toList T H):=Eq.trans rfl rfl
@[simp] theorem kP (i:Nat) (ops:Array Oper) (T:List Value) (H:zx):zC P O true (.region i ops false) T H=aan (ji P ⟨true,false,false⟩ (jP O.hp true (zU P O)) ops ops.toList T H):=Eq.trans rfl rfl
theorem Ze {i:Nat} {ops:Array Oper} (hd:xk P ops=true) (hf:fixed P ops=nm) (hc:checked P ops=chk) {nl:List (Nat×Nat)} (hn:again P ops=nl) (T:List Value) (H:zx):zC P O false (.region i ops true) T H=aan (wM P ⟨false,!chk.isEmpty,nm⟩ chk nl (zU P O) ops 0 [] ops.toList T H):=by
 subst hf hc hn
 simp only [zC,hd,if_true,jP]
 rfl
@[simp] theorem Je (x y:Code) (T:List Value) (H:zx):zC P O hp (.seq x y) T H=adz (zC P O hp x T H) (zC P O hp y):=Eq.trans rfl rfl
@[simp] theorem Za (i:Nat) (c:Code) (T:List Value) (H:zx):zC P O hp (.block i c) T H=WY i (zC P O hp c T H):=Eq.trans rfl rfl
@[simp] theorem Zv (c:Code) (T:List Value) (H:zx):zC P O hp (.loop c) T H=wW (zC P O hp c) T H:=Eq.trans rfl rfl
@[simp] theorem ZX (t:Tmp) (x y:Code) (T:List Value) (H:zx):zC P O hp (.cond (.tmp t) x y) T H=ab4 P O hp (T.getD t zh) x y T H:=by
 simp only [zC,wP,if_true,zD]
 rfl
@[simp] theorem YL:dem zh=zh:=qR
@[simp] theorem aah (k:IntKind) (n:Int):dem (.int k n)=.int k n:=Eq.trans rfl rfl
@[simp] theorem QN (b:Bool):dem (.bool b)=.bool b:=Eq.trans rfl rfl
@[simp] theorem JJ (s:ByteArray):dem (.string s)=.string s:=Eq.trans rfl rfl
@[simp] theorem Vh:dem (.slice none 0 0)=.slice none 0 0:=Eq.trans rfl rfl
@[simp] theorem Vq (x:Array Value):dem (.agg x)=.agg x:=Eq.trans rfl rfl
@[simp] theorem yC (f:Fn) (x c:Array Value):dem (.func f x c)=.func f x c:=Eq.trans rfl rfl
@[simp] theorem kY (a:Option Addr):dem (.pointer a)=.pointer a:=Eq.trans rfl rfl
@[simp] theorem adN (e n:Nat) (cs:List Value):dem (SL 1 e n cs)=SL 1 e n cs:=Eq.trans rfl rfl
@[simp] theorem adJ (e n:Nat) (cs:List Value):dem (SL 2 e n cs)=SL 1 e n cs:=Eq.trans rfl rfl
@[simp] theorem abE (k e n:Nat) (cs:List Value) (r:Option R) (p:vX r):okK (SL k e n cs) r p=r:=Eq.trans rfl rfl
@[simp] theorem aby (cs:List Value) (r:Option R) (p:vX r):okK (EP cs) r p=r:=Eq.trans rfl rfl
@[simp] theorem adY (k e n:Nat) (cs:List Value) (r:Option R):okC (SL k e n cs) r=r:=Eq.trans rfl rfl
@[simp] theorem abL (cs:List Value) (r:Option R):okC (EP cs) r=r:=Eq.trans rfl rfl
def sv (k e n:Nat) (cs:List Value):Value:=if k=0 then .slice none 0 0 else SL k e n cs
structure Okv (k n:Nat) (cs:List Value):Prop where
 le:k≤2
 nil:k=0→n=0∧cs=[]
theorem sv0 {e n:Nat} {cs:List Value}:sv 0 e n cs=.slice none 0 0:=rfl
theorem sv2 {e n:Nat} {cs:List Value}:sv 2 e n cs=SL 2 e n cs:=rfl
@[simp] theorem Vg (k e n:Nat) (cs:List Value):dem (sv k e n cs)=sv (if k=2 then 1 else k) e n cs:=by
 unfold sv
 by_cases h0:k=0
 ·
  subst h0;rfl
 ·
  by_cases h2:k=2
  ·
   subst h2;rfl
  ·
   rw [if_neg h0,if_neg h2,if_neg h0]
   simp only [SL,dem,yT,if_neg h2]
@[simp] theorem Yn (k e n:Nat) (cs:List Value) (r:Option R):okC (sv k e n cs) r=r:=by
 unfold sv;split <;> rfl
@[simp] theorem abI (k e n:Nat) (cs:List Value) (r:Option R) (p:vX r):okK (sv k e n cs) r p=r:=Yn k e n cs r
theorem abu {k e n:Nat} {cs:List Value} (h:Okv k n cs):∃ e',vSl (sv k e n cs)=some (e',n,cs)∧(e'=e∨n=0∧cs=[]):=by
 unfold sv
 by_cases h0:k=0
 ·
  obtain ⟨rfl,rfl⟩:=h.nil h0
  rw [if_pos h0]
  exact ⟨0,rfl,.inr ⟨rfl,rfl⟩⟩
 ·
  rw [if_neg h0]
  have:k=1∨k=2:=by have:=h.le;omega
  exact ⟨e,by simp [SL,vSl,this],.inl rfl⟩
theorem ab3 {t te:TypeId} {k e n:Nat} {cs:List Value} {S:zx} (ht:P.underlying t=some (.slice te)) (h:Okv k n cs):Z7 P t (sv k e n cs) S=some (goInt n,S):=by
 by_cases h0:k=0
 ·
  obtain ⟨rfl,rfl⟩:=h.nil h0
  subst h0
  simp only [sv0,Z7,YQ,ht]
 ·
  obtain ⟨e',h1,_⟩:=abu (e:=e) h
  simp only [sv,if_neg h0] at h1 ⊢
  simp only [SL] at h1 ⊢
  simp only [Z7,ht,h1]
theorem WO {t te:TypeId} {k e n:Nat} {cs:List Value} {S:zx} {ki:IntKind} {i:Int} (ht:P.underlying t=some (.slice te)) (he:yH P te=some e) (h:Okv k n cs) (h0:0≤i) (hi:i < n) :
  zW P t (sv k e n cs) (.int ki i) S=some (EP ((cs.drop (i.toNat * e)).take e),S):=by
 have hk:k≠0:=fun e=>by have:=(h.nil e).1;omega
 have hk2:k=1∨k=2:=by have:=h.le;omega
 have h1:vSl (SL k e n cs)=some (e,n,cs):=by simp [SL,vSl,hk2]
 simp only [sv,if_neg hk]
 simp only [SL] at h1 ⊢
 simp only [zW,ht,h1,he,if_true]
 rw [if_pos ⟨h0,hi⟩]
@[simp] theorem Xw {t:TypeId} {v:Value} {S:zx} (ht:yc P t=some false):jm P nm t (EP [v]) S=some (v,S):=by
 simp [EP,jm,ht]
theorem YP {t:TypeId} {n:Nat} {cs:List Value} {S:zx} (ht:yc P t=some true) (hn:yH P t=some n) (hc:cs.length=n):jm P nm t (EP cs) S=some (.agg cs.toArray,S):=by
 simp only [EP,jm,ht,hn,if_true,List.toList_toArray]
 rw [if_pos (by omega),← hc,List.take_length]
@[simp] theorem Wq (k e n:Nat) (cs:List Value):kR (sv k e n cs)=false:=by unfold sv;split <;> rfl
@[simp] theorem vO (dr:Bool) (t:TypeId) (k e n:Nat) (cs:List Value) (lo hi:Option Value) (S:zx):wU P dr t (sv k e n cs) lo hi S=Jp P t (sv k e n cs) lo hi S:=by
 unfold wU;rw [Wq];rfl
@[simp] theorem kQ (dr:Bool) (t:TypeId) (s:ByteArray) (lo hi:Option Value) (S:zx):wU P dr t (.string s) lo hi S=Jp P t (.string s) lo hi S:=Eq.trans rfl rfl
@[simp] theorem ZK (hp dr:Bool) (src dst:TypeId) (k e n:Nat) (cs:List Value) (S:zx):qo P hp dr src dst (sv k e n cs) S=ZM P src dst (sv k e n cs) S:=by
 unfold qo
 rw [Wq]
 have:∀ s,sv k e n cs≠.string s:=by intro s;unfold sv;split <;> (intro h;cases h)
 cases hp <;> simp only [Bool.false_eq_true,if_false] <;> (split <;> first | rfl | (rename_i h;exact absurd h (this _)) | skip)
@[simp] theorem Jl (hp dr:Bool) (src dst:TypeId) (k:IntKind) (n:Int) (S:zx):qo P hp dr src dst (.int k n) S=ZM P src dst (.int k n) S:=by cases hp <;> rfl
@[simp] theorem xM (dr:Bool) (src dst:TypeId) (s:ByteArray) (S:zx):qo P false dr src dst (.string s) S=ZM P src dst (.string s) S:=Eq.trans rfl rfl
@[simp] theorem kJ (dr:Bool) (src dst:TypeId) (s:ByteArray) (S:zx):qo P true dr src dst (.string s) S=jR P src dst (.string s) S:=Eq.trans rfl rfl
theorem Xk {t te tx tex:TypeId} {k e n j m bytes:Nat} {cs ds:List Value} {z:Value} {S:zx} (ht:P.underlying t=some (.slice te)) (he:yH P te=some e) (hz:zeroOf P te=some z) (hzs:z.cells.size=e) (hb:bytesOf P te=some bytes) (hp:0 < e)
  (htx:P.underlying tx=some (.slice tex)) (h:Okv k n cs) (hk:k≠1) (hx:Okv j m ds) (hn:cs.length=n * e) (hm:ds.length=m * e) (h1:cs.all (·.oneCell')=true) (h2:ds.all (·.oneCell')=true) (hl:(n+m) * bytes≤140737488355328) (hmax:n+m≤4611686018427387903) :
  yY P t tx (sv k e n cs) (sv j e m ds) S=some (sv (if k=0∧m=0 then 0 else 2) e (n+m) (cs++ds),S):=by
 have hel:wo P t=some te:=by simp only [wo,ht]
 have hsrc:ac4 P tx e (sv j e m ds)=some (m,ds):=by
  obtain ⟨e',q1,q2⟩:=abu (e:=e) hx
  have hns:∀ s,sv j e m ds≠.string s:=by intro s;unfold sv;split <;> (intro h;cases h)
  have hcond:m=0∨e'=e:=q2.elim .inr fun h=>.inl h.1
  unfold ac4
  split
  ·
   rename_i s hs;exact absurd hs (hns s)
  ·
   simp only [htx,q1,if_pos hcond,if_pos hm,h2,if_true]
 have hsrc:Zp P tx e (sv j e m ds) S=some (m,ds):=by
  unfold Zp
  rw [Wq]
  exact hsrc
 by_cases hk0:k=0
 ·
  obtain ⟨rfl,rfl⟩:=h.nil hk0
  subst hk0
  simp only [sv0,yY,wS,hel,he,hz,hb,if_pos hp,if_pos hzs,hsrc]
  by_cases hm0:m=0
  ·
   subst hm0
   simp [sv0]
  ·
   rw [Nat.zero_add] at hl hmax
   rw [if_neg hm0,if_pos hl,if_pos hmax,if_neg Bool.false_ne_true,if_neg (fun h=>hm0 h.2),sv2,Nat.zero_add,List.nil_append]
 ·
  have hk2:k=2:=by have:=h.le;omega
  subst hk2
  rw [if_neg (fun h=>hk0 h.1)]
  have h1':cs.toArray.toList.all (·.oneCell')=true:=by simpa using h1
  simp only [sv2,SL,yY,wS,hel,he,hz,hb,if_pos hp,if_pos hzs,hsrc,if_true,if_pos hl,if_pos hmax,h1']
@[simp] theorem QI (op:BinOp) (t:TypeId) (k k':IntKind) (a b:Int) (S:zx):wY P op t (.int k a) (.int k' b) S=qW P op t (.int k a) (.int k' b) S:=Eq.trans rfl rfl
@[simp] theorem ZV (op:BinOp) (t:TypeId) (a b:ByteArray) (S:zx):wY P op t (.string a) (.string b) S=qW P op t (.string a) (.string b) S:=Eq.trans rfl rfl
@[simp] theorem Ya (op:BinOp) (t:TypeId) (a b:Bool) (S:zx):wY P op t (.bool a) (.bool b) S=qW P op t (.bool a) (.bool b) S:=Eq.trans rfl rfl
@[simp] theorem adF (op:BinOp) (t:TypeId) (a b:Array Value) (S:zx):wY P op t (.agg a) (.agg b) S=qW P op t (.agg a) (.agg b) S:=Eq.trans rfl rfl
@[simp] theorem Jw (b:Bool) (x y:Value) (S:zx):vK (.bool b) x y S=some (if b then dem x else dem y,S):=Eq.trans rfl rfl
@[simp] theorem Yr {src dst:TypeId} (k:IntKind) (n:Int) (S:zx):ZM P src dst (.int k n) S=jR P src dst (.int k n) S:=Eq.trans rfl rfl
@[simp] theorem kM (vs:List Value) (i:Nat) (S:zx):zG (.tuple vs.toArray) i S=(vs[i]?).map (·,S):=by
 simp only [zG,List.getElem?_toArray]
 cases vs[i]? <;> rfl
end
end Go.Abs
namespace Go.Abs
theorem wH {P:Program} {fn:Func} {a:Value} {T:List Value} {S:zx} (h:zJ P T S fn.results.toList=some [a]) (hn:acY fn.results.toList=true):abS P fn T S=some (a,S):=by
 unfold abS
 rw [h]
 dsimp only
 rw [if_pos hn]
@[simp] theorem abb (k:IntKind) (n:Int):yw (.int k n)=true:=rfl
@[simp] theorem aaA (b:Bool):yw (.bool b)=true:=rfl
@[simp] theorem Qo (k e n:Nat) (cs:List Value):yw (sv k e n cs)=true:=by unfold sv;split <;> rfl
@[simp] theorem abk (x:Array Value):yw (.agg x)=true:=rfl
@[simp] theorem aam (a:Option Addr) (n c:Nat):yw (.slice a n c)=true:=rfl
end Go.Abs
namespace Go.Abs
open Go.RowKit
def vs {α:Type} (f:α→List Value) (e k:Nat) (l:List α):Value:=sv k e l.length (l.flatMap f)
structure Okl {α:Type} (k:Nat) (l:List α):Prop where
 le:k≤2
 nil:k=0→l=[]
theorem Okl.own {α:Type} {l:List α}:Okl 2 l:=⟨Nat.le_refl 2,(fun h=>by cases h)⟩
theorem Okl.read {α:Type} {l:List α}:Okl 1 l:=⟨by omega,(fun h=>by cases h)⟩
theorem Okl.none {α:Type}:Okl 0 ([]:List α):=⟨by omega,fun _=>rfl⟩
theorem Okl.dem {α:Type} {k:Nat} {l:List α} (h:Okl k l):Okl (if k=2 then 1 else k) l:=⟨by have:=h.le;split <;> omega,fun hk=>h.nil (by split at hk <;> omega)⟩
def ci (n:Int):List Value:=[.int .i64 n]
section
variable {R α:Type} {P:Program} {f:α→List Value} {e k j:Nat} {l m:List α} {t te tx tex:TypeId} {S:zx}
theorem Okl.okv (h:Okl k l):Okv k l.length (l.flatMap f):=⟨h.le,fun h0=>by rw [h.nil h0];exact ⟨rfl,rfl⟩⟩
theorem jo (hf:∀ x,(f x).length=e) (l:List α):(l.flatMap f).length=l.length * e:=by
 induction l with
 | nil=>simp
 | cons x l ih=>simp only [List.flatMap_cons,List.length_append,hf,ih,List.length_cons,Nat.add_mul];omega
theorem YI (hf:∀ x,(f x).length=e) (l:List α):∀ (i:Nat),(l.flatMap f).drop (i * e)=(l.drop i).flatMap f:=by
 induction l with
 | nil=>intro i;simp
 | cons x l ih =>
  intro i
  cases i with
  | zero=>simp
  | succ i =>
   rw [List.flatMap_cons,List.drop_succ_cons,← ih i,List.drop_append,List.drop_eq_nil_of_le (by rw [hf,Nat.add_mul];omega),List.nil_append,hf]
   congr 1
   rw [Nat.add_mul];omega
theorem YN (hf:∀ x,(f x).length=e) (l:List α):∀ (i:Nat),(l.flatMap f).take (i * e)=(l.take i).flatMap f:=by
 induction l with
 | nil=>intro i;simp
 | cons x l ih =>
  intro i
  cases i with
  | zero=>simp
  | succ i =>
   rw [List.flatMap_cons,List.take_succ_cons,List.flatMap_cons,← ih i,List.take_append,List.take_of_length_le (by rw [hf,Nat.add_mul];omega),hf]
   congr 2
   rw [Nat.add_mul];omega
@[simp] theorem abM:dem (vs f e k l)=vs f e (if k=2 then 1 else k) l:=Vg _ _ _ _
@[simp] theorem abC (r:Option R):okC (vs f e k l) r=r:=Yn _ _ _ _ _
@[simp] theorem abB (r:Option R) (p:vX r):okK (vs f e k l) r p=r:=Yn _ _ _ _ _
@[simp] theorem acD:kR (vs f e k l)=false:=Wq _ _ _ _
@[simp] theorem JE (dr:Bool) (lo hi:Option Value):wU P dr t (vs f e k l) lo hi S=Jp P t (vs f e k l) lo hi S:=vO _ _ _ _ _ _ _ _ _
@[simp] theorem Ye (hp dr:Bool) (src dst:TypeId):qo P hp dr src dst (vs f e k l) S=ZM P src dst (vs f e k l) S:=ZK _ _ _ _ _ _ _ _ _
@[simp] theorem ab1:yw (vs f e k l)=true:=Qo _ _ _ _
theorem VQ (ht:P.underlying t=some (.slice te)) (h:Okl k l):Z7 P t (vs f e k l) S=some (goInt l.length,S):=ab3 ht h.okv
theorem acu {ki:IntKind} {i:Int} (ht:P.underlying t=some (.slice te)) (he:yH P te=some e) (hf:∀ x,(f x).length=e) (h:Okl k l) (h0:0≤i) (hi:i < l.length) :
  zW P t (vs f e k l) (.int ki i) S=some (EP (f (l[i.toNat]'(by omega))),S):=by
 unfold vs
 rw [WO ht he h.okv h0 hi,YI hf]
 have hlt:i.toNat < l.length:=by omega
 have:=YN hf (l.drop i.toNat) 1
 rw [Nat.one_mul] at this
 rw [this,List.drop_eq_getElem_cons hlt,List.take_succ_cons,List.take_zero,List.flatMap_cons,List.flatMap_nil,List.append_nil]
theorem YG {bytes:Nat} {z:Value} (ht:P.underlying t=some (.slice te)) (he:yH P te=some e) (hz:zeroOf P te=some z) (hzs:z.cells.size=e) (hb:bytesOf P te=some bytes) (hp:0 < e) (htx:P.underlying tx=some (.slice tex))
  (hf:∀ x,(f x).length=e) (h1:∀ x,(f x).all (·.oneCell')=true) (h:Okl k l) (hk:k≠1) (hm:Okl j m) (hl:(l.length+m.length) * bytes≤140737488355328) (hmax:l.length+m.length≤4611686018427387903) :
  yY P t tx (vs f e k l) (vs f e j m) S=some (vs f e (if k=0∧m.length=0 then 0 else 2) (l++m),S):=by
 have hone:∀ l:List α,(l.flatMap f).all (·.oneCell')=true:=by
  intro l
  rw [List.all_flatMap,List.all_eq_true]
  exact fun x _=>h1 x
 unfold vs
 rw [Xk ht he hz hzs hb hp htx h.okv hk hm.okv (jo hf l) (jo hf m) (hone l) (hone m) hl hmax,List.flatMap_append,List.length_append]
theorem abO (x:Int):(ci x).length=1:=rfl
theorem adp (x:Int):(ci x).all (·.oneCell')=true:=rfl
theorem zN {v:Value} {i j:Nat} {S:zx} (h:j≠i):zG (jE j v) i S=zG v i S:=by
 cases v with
 | tuple vs=>simp only [jE,zG,Array.getElem?_modify,if_neg h]
 | _=>rfl
theorem VP {v:Value} {S:zx}:zG (jE 0 v) 1 S=zG v 1 S:=zN (by decide)
theorem XJ {v:Value} {S:zx}:zG (jE 0 v) 2 S=zG v 2 S:=zN (by decide)
theorem VT {v:Value} {S:zx}:zG (jE 1 v) 2 S=zG v 2 S:=zN (by decide)
theorem X0 {v:Value} {S:zx}:zG (jE 0 v) 3 S=zG v 3 S:=zN (by decide)
theorem V6 {v:Value} {S:zx}:zG (jE 1 v) 3 S=zG v 3 S:=zN (by decide)
theorem Xv {v:Value} {S:zx}:zG (jE 2 v) 3 S=zG v 3 S:=zN (by decide)
theorem XH {v:Value} {S:zx}:zG (jE 0 v) 4 S=zG v 4 S:=zN (by decide)
theorem V8 {v:Value} {S:zx}:zG (jE 1 v) 4 S=zG v 4 S:=zN (by decide)
theorem VN {v:Value} {S:zx}:zG (jE 2 v) 4 S=zG v 4 S:=zN (by decide)
theorem Xy {v:Value} {S:zx}:zG (jE 3 v) 4 S=zG v 4 S:=zN (by decide)
theorem Vt {v:Value} {S:zx}:zG (jE 0 v) 5 S=zG v 5 S:=zN (by decide)
theorem Vr {v:Value} {S:zx}:zG (jE 1 v) 5 S=zG v 5 S:=zN (by decide)
theorem XI {v:Value} {S:zx}:zG (jE 2 v) 5 S=zG v 5 S:=zN (by decide)
theorem VY {v:Value} {S:zx}:zG (jE 3 v) 5 S=zG v 5 S:=zN (by decide)
theorem X8 {v:Value} {S:zx}:zG (jE 4 v) 5 S=zG v 5 S:=zN (by decide)
abbrev iz (k:Nat) (l:List Int):Value:=vs ci 1 k l
end
end Go.Abs
namespace Go.Abs
open Go.RowKit
def CLe (c d:FuncId→List Value→M Value):Prop:=∀ g a S r,c g a S=some r→d g a S=some r
section
variable {P:Program} {O:Ora} {c d:FuncId→List Value→M Value}
theorem Jf (h:CLe c d) {fx:Fx} {T:List Value} {o:Oper} {S:zx} {r:Value×zx} (hs:jV P fx c T o S=some r):jV P fx d T o S=some r:=by
 unfold jV at hs ⊢
 split at hs
 ·
  rename_i hok
  rw [if_pos hok]
  cases hop:o.op with
  | call q =>
   rw [hop] at hs
   dsimp only at hs ⊢
   cases hcal:q.callee with
   | value f =>
    rw [hcal] at hs
    dsimp only at hs ⊢
    split at hs
    ·
     rename_i g first captured hev
     exact h _ _ _ _ hs
    ·
     cases hs
   | builtin b=>rw [hcal] at hs;exact hs
   | invoke a b=>rw [hcal] at hs;cases hs
  | _=>rw [hop] at hs;exact hs
 ·
  cases hs
theorem VE (h:CLe c d) {fx:Fx} {ops:Array Oper}:∀ (l:List Oper) (T:List Value) (S:zx) (r:List Value×zx),ji P fx c ops l T S=some r→ji P fx d ops l T S=some r:=by
 intro l
 induction l with
 | nil=>intro T S r hs;exact hs
 | cons o l ih =>
  intro T S r hs
  simp only [ji] at hs ⊢
  split at hs
  ·
   rename_i hw
   rw [if_pos hw]
   split at hs
   ·
    rename_i v S' he
    rw [Jf h he]
    exact ih _ _ _ hs
   ·
    cases hs
  ·
   rename_i hw
   rw [if_neg hw]
   exact ih _ _ _ hs
theorem Xh (h:CLe c d) {fx:Fx} {chk:List Nat} {nl:List (Nat×Nat)} {ops:Array Oper}:∀ (l:List Oper) (i:Nat) (hist:List (Value×zx)) (T:List Value) (S:zx) (r:List Value×zx),wM P fx chk nl c ops i hist l T S=some r→wM P fx chk nl d ops i hist l T S=some r:=by
 intro l
 induction l with
 | nil=>intro i hist T S r hs;exact hs
 | cons o l ih =>
  intro i hist T S r hs
  simp only [wM] at hs ⊢
  split at hs
  ·
   rename_i hw
   rw [if_pos hw]
   split at hs
   ·
    rename_i v S' he
    rw [Jf h he]
    dsimp only
    split at hs
    ·
     rename_i hq
     rw [if_pos hq]
     exact ih _ _ _ _ _ hs
    ·
     cases hs
   ·
    cases hs
  ·
   rename_i hw
   rw [if_neg hw]
   exact ih _ _ _ _ _ hs
theorem JB (h:CLe c d) {hp:Bool} {n m:Nat} (hn:n≤m):∀ (q:Code) (T:List Value) (S:zx) (r),jK P hp c n q T S=some r→jK P hp d m q T S=some r:=by
 intro q
 induction q with
 | skip=>intro T S r hs;exact hs
 | exit id=>intro T S r hs;exact hs
 | ret=>intro T S r hs;exact hs
 | region i ops dr =>
  intro T S r hs
  cases dr with
  | false =>
   simp only [jK] at hs ⊢
   split at hs
   ·
    rename_i T1 S1 ho
    rw [VE h _ _ _ _ ho];exact hs
   ·
    cases hs
  | true =>
   simp only [jK] at hs ⊢
   split at hs
   ·
    rename_i hd
    rw [if_pos hd]
    split at hs
    ·
     rename_i T1 S1 ho
     rw [Xh h _ _ _ _ _ _ ho];exact hs
    ·
     cases hs
   ·
    cases hs
 | seq x y ihx ihy =>
  intro T S r hs
  simp only [jK] at hs ⊢
  split at hs
  ·
   rename_i T1 S1 hx
   rw [ihx _ _ _ hx]
   exact ihy _ _ _ hs
  ·
   rename_i hne
   rw [ihx _ _ _ hs]
   split
   ·
    rename_i T1 S1 he;exact absurd (hs.trans he) (hne T1 S1)
   ·
    rfl
 | cond x y z ihy ihz =>
  intro T S r hs
  simp only [jK] at hs ⊢
  split at hs
  ·
   rename_i hok
   rw [if_pos hok]
   split at hs
   ·
    rename_i hb;exact ihy _ _ _ hs
   ·
    rename_i hb;exact ihz _ _ _ hs
   ·
    cases hs
  ·
   cases hs
 | block id x ih =>
  intro T S r hs
  simp only [jK] at hs ⊢
  split at hs
  ·
   rename_i id' T1 S1 hx
   rw [ih _ _ _ hx];exact hs
  ·
   rename_i hne
   rw [ih _ _ _ hs]
   split
   ·
    rename_i id' T1 S1 he;exact absurd (hs.trans he) (hne id' T1 S1)
   ·
    rfl
 | loop x ih =>
  intro T S r hs
  simp only [jK] at hs ⊢
  have key:∀ (n:Nat) (T:List Value) (S:zx),∀ k,wB k (jK P hp c n x) T S=some r→(∀ T S r,jK P hp c n x T S=some r→jK P hp d m x T S=some r)→wB k (jK P hp d m x) T S=some r:=by
   intro n T S k hk hx
   induction k generalizing T S with
   | zero=>cases hk
   | succ k ihk =>
    simp only [wB] at hk ⊢
    split at hk
    ·
     rename_i T1 S1 h1
     rw [hx _ _ _ h1]
     exact ihk _ _ hk
    ·
     rename_i hne
     rw [hx _ _ _ hk]
     split
     ·
      rename_i T1 S1 he;exact absurd (hk.trans he) (hne T1 S1)
     ·
      rfl
  exact Wj hn (key n T S n hs ih)
 | _=>intro T S r hs;simp only [jK] at hs;cases hs
theorem KE {hps:FuncId→Bool} {hp:Bool} (h:CLe c d):CLe (jP hps hp c) (jP hps hp d):=by
 cases hp with
 | false=>exact h
 | true =>
  intro g a S r hs
  unfold jP at hs ⊢
  dsimp only at hs ⊢
  split at hs
  ·
   rename_i hg;rw [if_pos hg];exact h _ _ _ _ hs
  ·
   rename_i hg
   rw [if_neg hg]
   split at hs <;> first | (cases hs;done) | skip
   rename_i m S1 hf
   split at hs <;> first | (cases hs;done) | skip
   rename_i r0 hr0
   (try rw [hf])
   (try dsimp only)
   rw [h _ _ _ _ hr0]
   exact hs
theorem YE (h:CLe c d) {hp:Bool} {n m:Nat} (hn:n≤m) {fn:Func} {q:Code} {a:List Value} {S:zx} {r:Value×zx} (hs:abK P hp c n fn q a S=some r):abK P hp d m fn q a S=some r:=by
 unfold abK at hs ⊢
 split at hs
 ·
  rename_i T1 S1 hx
  rw [JB h hn _ _ _ _ hx];exact hs
 ·
  rename_i T1 S1 hx
  rw [JB h hn _ _ _ _ hx];exact hs
 ·
  cases hs
theorem aat:∀ (n m:Nat),n≤m→CLe (qM P O n) (qM P O m):=by
 intro n
 induction n with
 | zero=>intro m _ g a S r h;cases h
 | succ n ih =>
  intro m hm g a S r h
  obtain ⟨m,rfl⟩:∃ k,m=k+1:=⟨m - 1,by omega⟩
  simp only [qM] at h ⊢
  cases ho:O.fn g with
  | some q=>rw [ho] at h;exact h
  | none =>
   rw [ho] at h
   dsimp only at h ⊢
   cases hf:P.funcs[g]? with
   | none=>rw [hf] at h;cases h
   | some fn =>
    rw [hf] at h
    dsimp only at h ⊢
    split at h
    ·
     cases h
    ·
     rename_i hn
     rw [if_neg hn]
     cases hb:fn.body with
     | none=>rw [hb] at h;cases h
     | some q =>
      rw [hb] at h
      dsimp only at h ⊢
      have hc:=KE (hps:=O.hp) (hp:=O.hp g) (ih m (by omega))
      split at h
      ·
       rename_i hpu
       rw [if_pos hpu]
       unfold aaG at h ⊢
       split at h <;> first | (cases h;done) | skip
       rename_i hca
       rw [if_pos hca]
       split at h <;> first | (cases h;done) | skip
       rename_i v1 S1 hr
       rw [YE hc (by omega) hr]
       exact h
      ·
       rename_i hpu
       rw [if_neg hpu]
       exact YE hc (by omega) h
theorem aaz {n:Nat} {g:FuncId} {args:List Value} {S:zx} {r:Value×zx} (h:qM P O n g args S=some r):zU P O g args S=some r :=
 Vk ⟨n,fun k hk=>aat n k hk _ _ _ _ h⟩
end
end Go.Abs
namespace Go.Abs
open Go.RowKit
theorem adU {P:Program} {hp:Bool} {ts:Array TypeId} {ty:TypeId} {k:IntKind} {a b:Int} {S:zx}:ku P hp .min ts ty [.int k a,.int k b] S=some (.int k (if b < a then b else a),S):=by
 show jr P [.int k a,.int k b] (Builtin.min_ ts ty #[.int k a,.int k b]) S=_
 exact zX rfl rfl rfl
def kF (call:FuncId→List Value→M Value) (g:FuncId) (args:List Value):M Value:=fun S=>match yN args S with
 | some (m,S1)=>match call g m S1 with
  | some r=>some (YC S S1 args r)
  | none=>none
 | none=>none
theorem KW {x:Value} {S:zx} (h:kR x=false):qC x S=some (x,S):=by
 unfold qC
 split <;> first | rfl | (simp [kR] at h)
theorem vN:∀ {l:List Value} {S:zx},l.all (fun x=>!kR x)=true→yN l S=some (l,S)
 | [],S,_=>rfl
 | x::l,S,h=>by
  rw [List.all_cons,Bool.and_eq_true] at h
  have h1:kR x=false:=by simpa using h.1
  simp only [yN,KW h1,vN h.2]
theorem QJ {call:FuncId→List Value→M Value} {g:FuncId} {args:List Value} {S:zx} (h:args.all (fun x=>!kR x)=true):kF call g args S=call g args S:=by
 have hn:args.any kR=false:=by
  rw [List.any_eq_false];intro x hx
  have:=List.all_eq_true.1 h x hx
  simpa using this
 unfold kF;rw [vN h]
 dsimp only
 cases call g args S with
 | none=>rfl
 | some r=>dsimp only;rw [YC,hn];rfl
theorem JI {call:FuncId→List Value→M Value} {g:FuncId} {args m:List Value} {S S1 S2:zx} {v:Value} (h:yN args S=some (m,S1)) (hc:call g m S1=some (v,S2)) (ha:args.any kR=true) (hv:ground v=true) (hl:S2.log=S1.log):kF call g args S=some (v,S):=by
 unfold kF;rw [h]
 dsimp only
 rw [hc]
 dsimp only
 rw [YC,ha,hv,hl,beq_self_eq_true]
 rfl
theorem KC {q o n e:Nat} {cs:List Value} {anc:List Nat} {S:zx} (hg:S.get q=some (.cells cs (.own anc) e)) (hl:o+n * e≤cs.length):qC (.slice (some ⟨q,o,none⟩) n n) S=some (SL 1 e n ((cs.drop o).take (n * e)),S.set q .dead):=by
 unfold qC;dsimp only;rw [hg];dsimp only;rw [if_pos rfl,if_pos hl]
end Go.Abs
namespace Go.Abs
open Go.RowKit
section
variable {P:Program} {μ μ1:Mu} {S S1 H H1:zx} {ω ω1:Nat→Option jO}
structure Ext (S S1:zx):Prop where
 next:S.next≤S1.next
 get:∀ k,k < S.next→S1.get k=S.get k
 log:∃ new,S1.log=new++S.log∧∀ k ∈ new,S.next≤k
theorem Ext.refl (S:zx):Ext S S:=⟨Nat.le_refl _,fun _ _=>rfl,[],rfl,fun k h=>by cases h⟩
theorem Ext.trans {S2:zx} (h:Ext S S1) (k:Ext S1 S2):Ext S S2:=⟨Nat.le_trans h.1 k.1,fun q hq=>(k.2 q (Nat.lt_of_lt_of_le hq h.1)).trans (h.2 q hq),by
 obtain ⟨n1,e1,f1⟩:=h.log
 obtain ⟨n2,e2,f2⟩:=k.log
 refine ⟨n2++n1,by rw [e2,e1,List.append_assoc],fun q hq=>?_⟩
 rcases List.mem_append.1 hq with hq | hq
 ·
  exact Nat.le_trans h.1 (f2 q hq)
 ·
  exact f1 q hq⟩
theorem Ext.push (S:zx) (o:jX):Ext S (S.push o):=⟨by simp,fun k hk=>by rw [zx.zQ,if_neg (by omega)],[],rfl,fun k h=>by cases h⟩
theorem Ext.set {S S1:zx} (h:Ext S S1) {r:Nat} (hr:S.next≤r) (o:jX):Ext S (S1.set r o):=⟨by simpa using h.1,fun k hk=>by rw [zx.jc,if_neg (by omega)];exact h.2 k hk,by
 obtain ⟨n1,e1,f1⟩:=h.log
 refine ⟨r::n1,by rw [zx.WS,e1];rfl,fun q hq=>?_⟩
 rcases List.mem_cons.1 hq with rfl | hq
 ·
  exact hr
 ·
  exact f1 q hq⟩
inductive Lower (S:zx) (v1:Value) (S1:zx):Value→Prop
 | same (h:ground v1=true):Lower S v1 S1 v1
 | own {r n e:Nat} {cs:List Value} (hv:v1=.slice (some ⟨r,0,none⟩) n n) (hr:S.next≤r) (hg:S1.get r=some (.cells cs (.own []) e)) (hn:cs.length=n * e) (hs:cs.all sg=true):Lower S v1 S1 (SL 2 e n cs)
end
end Go.Abs
namespace Go.Abs
open Go.RowKit
section
variable {P:Program} {S:zx} {t te tx tex:TypeId} {q o n c e i r:Nat} {cs:List Value} {own:Own} {anc:List Nat} {v x:Value} {hp:Bool}
theorem wF (a:Addr) (S:zx):jf (.pointer (some a)) S=some (.pointer (some a),S):=Eq.trans rfl rfl
theorem QV (h:S.get q=some (.cells cs own e)) (ha:yc P t=some false) (hv:cs[o]?=some v) (hn:∀ l,v≠.agg l):jm P false t (.pointer (some ⟨q,o,none⟩)) S=some (dem v,S):=by
 unfold jm
 simp only [Bool.false_eq_true,if_false]
 have:wu P t (.pointer (some ⟨q,o,none⟩)) S=some (v,S):=by simp only [wu,h,ha,hv]
 rw [this]
 split
 ·
  rename_i l S2 he;cases he;exact absurd rfl (hn _)
 ·
  rename_i v2 S2 _ he;cases he;rfl
 ·
  rename_i he;cases he
theorem yx {k:IntKind} {m:Int} (h:S.get q=some (.cells cs own e)) (ha:yc P t=some false) (hv:cs[o]?=some (.int k m)):jm P false t (.pointer (some ⟨q,o,none⟩)) S=some (.int k m,S) :=
 QV h ha hv (fun l h=>by cases h)
theorem ZQ {a:Option Addr} {n c:Nat} (h:S.get q=some (.cells cs own e)) (ha:yc P t=some false) (hv:cs[o]?=some (.slice a n c)):jm P false t (.pointer (some ⟨q,o,none⟩)) S=some (.slice a n c,S) :=
 QV h ha hv (fun l h=>by cases h)
theorem Qz (h:S.get q=some (.cells cs own e)) (ha:yc P t=some true) (hs:yH P t=some n) (hle:o+n≤cs.length):jm P false t (.pointer (some ⟨q,o,none⟩)) S=some (.agg (((cs.drop o).take n).toArray.map yT),S):=by
 unfold jm
 simp only [Bool.false_eq_true,if_false]
 have:wu P t (.pointer (some ⟨q,o,none⟩)) S=some (.agg ((cs.drop o).take n).toArray,S):=by simp only [wu,h,ha,hs,if_pos hle]
 rw [this]
theorem qP (h:S.get q=some (.cells cs (.own anc) e)) (hs:yH P t=some n) (hx:x.cells.size=n) (h1:x.cells.toList.all (·.oneCell')=true) (hle:o+n≤cs.length) :
  yP P t (.pointer (some ⟨q,o,none⟩)) x S=some (zh,(S.kills anc).set q (.cells (splice cs o x.cells.toList) (.own []) e)):=by
 simp only [yP,kN,h,hs,if_pos hx,if_pos h1,if_pos hle]
theorem JW {k:IntKind} {j:Int} {sz:Nat} (ht:P.underlying t=some (.slice te)) (hs:yH P te=some sz) (h0:0≤j) (hj:j < n):zW P t (.slice (some ⟨q,o,none⟩) n c) (.int k j) S=some (.pointer (some ⟨q,o+j.toNat * sz,none⟩),S):=by
 simp only [zW,jh,ht,hs]
 rw [if_pos ⟨h0,hj⟩]
theorem ZR (ht:P.underlying t=some (.slice te)) (a:Option Addr) (n c:Nat) (S:zx):Z7 P t (.slice a n c) S=some (goInt n,S):=by
 simp only [Z7,YQ,ht]
theorem YB {lo hi:Option Value} {l h:Int} {dr:Bool} (hd:dr=false) (hg:S.get q=some (.cells cs own e)) (ht:P.underlying t=some (.slice te)) (hs:yH P te=some e) (hl:qc 0 lo=some l) (hh:qc n hi=some h) (h0:0≤l) (h1:l≤h) (h2:h≤n) :
  wU P dr t (.slice (some ⟨q,o,none⟩) n c) lo hi S=some (.slice (some ⟨q,o+l.toNat * e,none⟩) (h.toNat - l.toNat) (h.toNat - l.toNat),S):=by
 subst hd
 simp only [wU,kR,if_true,Bool.false_eq_true,if_false,yg,ht,hs,hl,hh,if_pos h0,if_pos h1,if_pos h2,hg]
theorem Vo {m:Nat} (htx:P.underlying tx=some (.slice tex)) (hg:S.get q=some (.cells cs own i)) (hm:o+m * e≤cs.length) (h2:((cs.drop o).take (m * e)).all (·.oneCell')=true):Zp P tx e (.slice (some ⟨q,o,none⟩) m c) S=some (m,(cs.drop o).take (m * e)):=by
 simp only [Zp,kR,if_true,wI,htx,jW,hg]
 rw [if_pos hm]
 dsimp only
 rw [if_pos h2]
theorem KR {bytes k:Nat} {z:Value} {news:List Value} (hel:P.underlying t=some (.slice te)) (he:yH P te=some e) (hz:zeroOf P te=some z) (hzs:z.cells.size=e) (hb:bytesOf P te=some bytes) (hpos:0 < e) (hsrc:Zp P tx e x S=some (k,news))
  (hg:S.get q=some (.cells cs (.own anc) e)) (hle:o+n * e≤cs.length) (hmax:(n+k) * bytes≤140737488355328) (hmax2:n+k≤4611686018427387903) (h1:((cs.drop o).take (n * e)).all (·.oneCell')=true) :
  wS P hp t tx (.slice (some ⟨q,o,none⟩) n c) x S=some (.slice (some ⟨S.next,0,none⟩) (n+k) (n+k),
   if o+n * e=cs.length then (S.set q (.cells cs .ro e)).push (.cells ((cs.drop o).take (n * e)++news) (.own (if n * e=0 then [] else q::anc)) e)
   else ((S.kills anc).set q .dead).push (.cells ((cs.drop o).take (n * e)++news) (.own []) e)):=by
 have hel2:wo P t=some te:=by simp only [wo,hel]
 simp only [wS,hel2,he,hz,hb,if_pos hpos,if_pos hzs,hsrc,hg,if_true,if_pos hle,if_pos hmax,if_pos hmax2,if_pos h1,wR]
 by_cases h:o+n * e=cs.length
 ·
  rw [if_pos h,if_pos h]
 ·
  rw [if_neg h,if_neg h]
theorem Kq {bytes k:Nat} {z:Value} {news:List Value} (hel:P.underlying t=some (.slice te)) (he:yH P te=some e) (hz:zeroOf P te=some z) (hzs:z.cells.size=e) (hb:bytesOf P te=some bytes) (hpos:0 < e) (hsrc:Zp P tx e x S=some (k,news))
  (hmax:k * bytes≤140737488355328) (hmax2:k≤4611686018427387903) :
  wS P true t tx (.slice none 0 0) x S=some (if k=0 then .slice none 0 0 else .slice (some ⟨S.next,0,none⟩) k k,if k=0 then S else S.push (.cells news (.own []) e)):=by
 have hel2:wo P t=some te:=by simp only [wo,hel]
 simp only [wS,hel2,he,hz,hb,if_pos hpos,if_pos hzs,hsrc,if_pos hmax,if_pos hmax2,if_true]
 by_cases h:k=0
 ·
  rw [if_pos h,if_pos h,if_pos h]
 ·
  rw [if_neg h,if_neg h,if_neg h]
end
theorem yO {x:Array Value}:(Value.agg x).cells=x:=rfl
@[simp] theorem Yt (a:Option Addr) (n c:Nat):dem (.slice a n c)=.slice a n c:=Eq.trans rfl rfl
@[simp] theorem Ve (a:Option Nat):dem (.map a)=.map a:=Eq.trans rfl rfl
theorem wrap_i64 {n:Int} (h0:-9223372036854775808≤n) (h:n < 9223372036854775808):IntKind.i64.wrap n=n:=by
 simp [IntKind.wrap,IntKind.bits,IntKind.signed]
 split <;> omega
theorem Vb {l pre suf:List Int} {n:Int} (hl:l=pre++n::suf) (h:Int.toNat (pre.length:Int) < l.length):l[Int.toNat (pre.length:Int)]=n:=by
 subst hl;simp
theorem abg {α:Type} {l pre suf:List α} {n:α} (hl:l=pre++n::suf) (h:Int.toNat (pre.length:Int) < l.length):l[Int.toNat (pre.length:Int)]=n:=by
 subst hl;simp
theorem acH (k:Nat):(if k=2 then 1 else k)≠2:=by split <;> omega
theorem vW (Sa Sb:zx):xB zh Sa Sb=true:=rfl
theorem Yi (cs:List Value) (Sa Sb:zx):xB (EP cs) Sa Sb=true:=rfl
end Go.Abs
namespace Go.Abs
open Go.RowKit
section
variable {P:Program} {fx:Fx} {chk:List Nat} {call:FuncId→List Value→M Value} {ops:Array Oper}
theorem sP (f:Func) (i n:Nat) {l:List Oper} {T:List Value} {T1:Value→List Value} {S:zx} {v:Value} {r:Option (List Value×zx)} (hK:ji P fx call ops ((reg f i).toList.drop (n+1)) (T1 v) S=r) (hl:l=(opAt f i n)::((reg f i).toList.drop (n+1)):=by kernel_rfl) (hg:(opAt f i n).guard=none:=by kernel_rfl) (hm:∀ v,vg (opAt f i n) ((reg f i).toList.drop (n+1)) T v=T1 v:=by exact fun _=>rfl) (hs:jV P fx call T (opAt f i n) S=some (v,S):=by kernel_rfl):ji P fx call ops l T S=r :=
 XZ hl hg hm hs hK
theorem sD (f:Func) (i n:Nat) {l:List Oper} {T:List Value} {T1:Value→List Value} {S:zx} {s:Option (Value×zx)} {K:Value→zx→Option (List Value×zx)} (hK:∀ v S1,ji P fx call ops ((reg f i).toList.drop (n+1)) (T1 v) S1=K v S1) (hl:l=(opAt f i n)::((reg f i).toList.drop (n+1)):=by kernel_rfl) (hg:(opAt f i n).guard=none:=by kernel_rfl) (hm:∀ v,vg (opAt f i n) ((reg f i).toList.drop (n+1)) T v=T1 v:=by exact fun _=>rfl) (hs:jV P fx call T (opAt f i n) S=s:=by kernel_rfl):ji P fx call ops l T S=zT s K () :=
 acs hl hg hm hs hK
theorem sG (f:Func) (i n:Nat) {l:List Oper} {T:List Value} {T1:Value→List Value} {S:zx} {j:Nat} {b:Bool} {g:Value} {s:M Value} {K:Value→zx→Option (List Value×zx)} (hK:∀ v S1,ji P fx call ops ((reg f i).toList.drop (n+1)) (T1 v) S1=K v S1) (hl:l=(opAt f i n)::((reg f i).toList.drop (n+1)):=by kernel_rfl) (hg:(opAt f i n).guard=some (j,b):=by kernel_rfl) (hm:∀ v,vg (opAt f i n) ((reg f i).toList.drop (n+1)) T v=T1 v:=by exact fun _=>rfl) (hy:ynd ops T j=vb g:=by kernel_rfl) (hs:jV P fx call T (opAt f i n) S=s S:=by kernel_rfl):ji P fx call ops l T S=gdK g b s S K () :=
 abY hl hg hm hy hs hK
theorem tD (f:Func) (i n:Nat) {l:List Oper} {T:List Value} {T1:Value→List Value} {S:zx} {k:Nat} {s:Option (Value×zx)} {K:Value→zx→Option (List Value×zx)} (hK:∀ v S1,wM P fx chk [] call ops (k+1) [] ((reg f i).toList.drop (n+1)) (T1 v) S1=K v S1) (hc:chk.contains k=false:=by kernel_rfl) (hl:l=(opAt f i n)::((reg f i).toList.drop (n+1)):=by kernel_rfl) (hg:(opAt f i n).guard=none:=by kernel_rfl) (hm:∀ v,vg (opAt f i n) ((reg f i).toList.drop (n+1)) T v=T1 v:=by exact fun _=>rfl) (hs:jV P fx call T (opAt f i n) S=s:=by kernel_rfl):wM P fx chk [] call ops k [] l T S=zT s K () :=
 aaC hc hl hg hm hs hK
theorem tP (f:Func) (i n:Nat) {l:List Oper} {T:List Value} {T1:Value→List Value} {S:zx} {k:Nat} {v:Value} {r:Option (List Value×zx)} (hK:wM P fx chk [] call ops (k+1) [] ((reg f i).toList.drop (n+1)) (T1 v) S=r) (hc:chk.contains k=false:=by kernel_rfl) (hl:l=(opAt f i n)::((reg f i).toList.drop (n+1)):=by kernel_rfl) (hg:(opAt f i n).guard=none:=by kernel_rfl) (hm:∀ v,vg (opAt f i n) ((reg f i).toList.drop (n+1)) T v=T1 v:=by exact fun _=>rfl) (hs:jV P fx call T (opAt f i n) S=some (v,S):=by kernel_rfl):wM P fx chk [] call ops k [] l T S=r :=
 KL hc hl hg hm hs hK
theorem tPC (f:Func) (i n:Nat) {l:List Oper} {T:List Value} {T1:Value→List Value} {S:zx} {k:Nat} {v:Value} {r:Option (List Value×zx)} (hK:wM P fx chk [] call ops (k+1) [] ((reg f i).toList.drop (n+1)) (T1 v) S=r) (hc:chk.contains k=true:=by kernel_rfl) (hl:l=(opAt f i n)::((reg f i).toList.drop (n+1)):=by kernel_rfl) (hg:(opAt f i n).guard=none:=by kernel_rfl) (hm:∀ v,vg (opAt f i n) ((reg f i).toList.drop (n+1)) T v=T1 v:=by exact fun _=>rfl) (hs:jV P fx call T (opAt f i n) S=some (v,S):=by kernel_rfl):wM P fx chk [] call ops k [] l T S=okK v r () :=
 Y3 hc hl hg hm hs hK
end
end Go.Abs
namespace Go.Proofs.Ytpjglojnipjgfaa
open Go.Abs
def O:Ora:=⟨fun _=>none,fun f=>([10,15,22]:List Nat).contains f,fun f=>([8,12,14,15,24,28]:List Nat).contains f⟩
theorem adt:Vl zi O:=aaD
end Go.Proofs.Ytpjglojnipjgfaa
namespace Go.Proofs.Ytpjglojnipjgfaa
open Go.Abs
noncomputable def zu.jd:Code:=(.seq (.seq (.region 7 (reg Try.f7 7) false) (.cond (.tmp 43) Code.skip (.exit 0))) (.seq (.block 1 (.seq (.region 9 (reg Try.f7 9) false) (.cond (.tmp 50) (.seq (.region 10 (reg Try.f7 10) false) Code.ret) Code.skip))) (.region 8 (reg Try.f7 8) false)))
noncomputable def zu.WQ:Code:=(.seq (.region 18 (reg Try.f7 18) false) (.seq (.cond (.tmp 69) Code.skip (.exit 4)) (.seq (.block 5 (.seq (.region 19 (reg Try.f7 19) false) (.seq (.region 20 (reg Try.f7 20) false) (.cond (.tmp 80) (.seq (.region 21 (reg Try.f7 21) false) Code.ret) Code.skip)))) (.region 22 (reg Try.f7 22) false))))
noncomputable def zu.JK:Code:=(.seq (.seq (.region 12 (reg Try.f7 12) false) (.cond (.tmp 53) Code.skip (.exit 2))) (.seq (.block 3 (.seq (.region 14 (reg Try.f7 14) false) (.seq (.seq (.region 15 (reg Try.f7 15) false) (.cond (.tmp 65) (.seq (.region 16 (reg Try.f7 16) false) Code.ret) Code.skip)) (.seq (.seq (.region 17 (reg Try.f7 17) false) (.block 4 (.loop zu.WQ))) (.region 23 (reg Try.f7 23) false))))) (.region 13 (reg Try.f7 13) false)))
noncomputable def zu.code:Code:=(.seq (.region 0 (reg Try.f7 0) false) (.seq (.seq (.region 1 (reg Try.f7 1) false) (.cond (.tmp 14) (.seq (.region 2 (reg Try.f7 2) false) Code.ret) Code.skip)) (.seq (.seq (.region 3 (reg Try.f7 3) false) (.cond (.tmp 37) (.seq (.region 4 (reg Try.f7 4) false) Code.ret) Code.skip)) (.seq (.region 5 (reg Try.f7 5) false) (.seq (.seq (.region 6 (reg Try.f7 6) false) (.block 0 (.loop zu.jd))) (.seq (.seq (.region 11 (reg Try.f7 11) false) (.block 2 (.loop zu.JK))) (.seq (.region 24 (reg Try.f7 24) false) Code.ret)))))))
theorem zu.body:Try.f7.body=some zu.code:=by kernel_rfl
theorem zu.eta {T:List Value} (h:T.length=90):T=[T.getD 0 zh,T.getD 1 zh,T.getD 2 zh,T.getD 3 zh,T.getD 4 zh,T.getD 5 zh,T.getD 6 zh,T.getD 7 zh,T.getD 8 zh,T.getD 9 zh,T.getD 10 zh,T.getD 11 zh,T.getD 12 zh,T.getD 13 zh,T.getD 14 zh,T.getD 15 zh,T.getD 16 zh,T.getD 17 zh,T.getD 18 zh,T.getD 19 zh,T.getD 20 zh,T.getD 21 zh,T.getD 22 zh,T.getD 23 zh,T.getD 24 zh,T.getD 25 zh,T.getD 26 zh,T.getD 27 zh,T.getD 28 zh,T.getD 29 zh,T.getD 30 zh,T.getD 31 zh,T.getD 32 zh,T.getD 33 zh,T.getD 34 zh,T.getD 35 zh,T.getD 36 zh,T.getD 37 zh,T.getD 38 zh,T.getD 39 zh,T.getD 40 zh,T.getD 41 zh,T.getD 42 zh,T.getD 43 zh,T.getD 44 zh,T.getD 45 zh,T.getD 46 zh,T.getD 47 zh,T.getD 48 zh,T.getD 49 zh,T.getD 50 zh,T.getD 51 zh,T.getD 52 zh,T.getD 53 zh,T.getD 54 zh,T.getD 55 zh,T.getD 56 zh,T.getD 57 zh,T.getD 58 zh,T.getD 59 zh,T.getD 60 zh,T.getD 61 zh,T.getD 62 zh,T.getD 63 zh,T.getD 64 zh,T.getD 65 zh,T.getD 66 zh,T.getD 67 zh,T.getD 68 zh,T.getD 69 zh,T.getD 70 zh,T.getD 71 zh,T.getD 72 zh,T.getD 73 zh,T.getD 74 zh,T.getD 75 zh,T.getD 76 zh,T.getD 77 zh,T.getD 78 zh,T.getD 79 zh,T.getD 80 zh,T.getD 81 zh,T.getD 82 zh,T.getD 83 zh,T.getD 84 zh,T.getD 85 zh,T.getD 86 zh,T.getD 87 zh,T.getD 88 zh,T.getD 89 zh]:=(qx T 90 h).trans (by kernel_rfl)
variable (x0 x1 x2 x3 x4 x5 x6 x7 x8 x9 b d f k l m n o p q r s t u w x y z A B C D E F G H I J K L M N P Q R U V W X Y Z a0 a1 a2 a3 a4 a5 a6 a7 a8 a9 b0 b1 b2 b3 b4 g i c b5 b6 b7 b8 b9 c0 c1 c2 c3 c4 c5 c6 c7 c8 c9 d0 d1 d2 d3 d4 d5:Value) (S:zx)
theorem zu.r0 :ji zi ⟨false,false,false⟩ (zU zi O) (reg Try.f7 0) (reg Try.f7 0).toList ([x0,x1,x2,x3,x4,x5,x6,x7,x8,x9,b,d,f,k,l,m,n,o,p,q,r,s,t,u,w,x,y,z,A,B,C,D,E,F,G,H,I,J,K,L,M,N,P,Q,R,U,V,W,X,Y,Z,a0,a1,a2,a3,a4,a5,a6,a7,a8,a9,b0,b1,b2,b3,b4,g,i,c,b5,b6,b7,b8,b9,c0,c1,c2,c3,c4,c5,c6,c7,c8,c9,d0,d1,d2,d3,d4,d5]) S =
  ( some ([x0,x1,x2,x3,x4,x5,Value.bool false,x7,x8,x9,b,d,f,k,l,m,n,o,p,q,r,s,t,u,w,x,y,z,A,B,C,D,E,F,G,H,I,J,K,L,M,N,P,Q,R,U,V,W,X,Y,Z,a0,a1,a2,a3,a4,a5,a6,a7,a8,a9,b0,b1,b2,b3,b4,g,i,c,b5,b6,b7,b8,b9,c0,c1,c2,c3,c4,c5,c6,c7,c8,c9,d0,d1,d2,d3,d4,d5],S)):=by
 kernel_rfl
theorem zu.r1 :ji zi ⟨false,false,false⟩ (zU zi O) (reg Try.f7 1) (reg Try.f7 1).toList ([x0,x1,x2,x3,x4,x5,x6,x7,x8,x9,b,d,f,k,l,m,n,o,p,q,r,s,t,u,w,x,y,z,A,B,C,D,E,F,G,H,I,J,K,L,M,N,P,Q,R,U,V,W,X,Y,Z,a0,a1,a2,a3,a4,a5,a6,a7,a8,a9,b0,b1,b2,b3,b4,g,i,c,b5,b6,b7,b8,b9,c0,c1,c2,c3,c4,c5,c6,c7,c8,c9,d0,d1,d2,d3,d4,d5]) S =
  (zT ((zU zi O) 8 [] S) (fun v0 S1=>zT (aUn zi UnOp.not v0 S1) (fun v1 S2=>some ([x0,x1,x2,x3,x4,x5,x6,x7,x8,x9,b,d,f,v0,v1,m,n,o,p,q,r,s,t,u,w,x,y,z,A,B,C,D,E,F,G,H,I,J,K,L,M,N,P,Q,R,U,V,W,X,Y,Z,a0,a1,a2,a3,a4,a5,a6,a7,a8,a9,b0,b1,b2,b3,b4,g,i,c,b5,b6,b7,b8,b9,c0,c1,c2,c3,c4,c5,c6,c7,c8,c9,d0,d1,d2,d3,d4,d5],S2)) ()) ()):=by
 kernel_rfl
theorem zu.r2 :ji zi ⟨false,false,false⟩ (zU zi O) (reg Try.f7 2) (reg Try.f7 2).toList ([x0,x1,x2,x3,x4,x5,x6,x7,x8,x9,b,d,f,k,l,m,n,o,p,q,r,s,t,u,w,x,y,z,A,B,C,D,E,F,G,H,I,J,K,L,M,N,P,Q,R,U,V,W,X,Y,Z,a0,a1,a2,a3,a4,a5,a6,a7,a8,a9,b0,b1,b2,b3,b4,g,i,c,b5,b6,b7,b8,b9,c0,c1,c2,c3,c4,c5,c6,c7,c8,c9,d0,d1,d2,d3,d4,d5]) S =
  ( some ([x0,x1,x2,x3,x4,x5,Value.bool false,x7,x8,x9,b,d,f,k,l,m,n,o,p,q,r,s,t,u,w,x,y,z,A,B,C,D,E,F,G,H,I,J,K,L,M,N,P,Q,R,U,V,W,X,Y,Z,a0,a1,a2,a3,a4,a5,a6,a7,a8,a9,b0,b1,b2,b3,b4,g,i,c,b5,b6,b7,b8,b9,c0,c1,c2,c3,c4,c5,c6,c7,c8,c9,d0,d1,d2,d3,d4,d5],S)):=by
 kernel_rfl
theorem zu.r3 :ji zi ⟨false,false,false⟩ (zU zi O) (reg Try.f7 3) (reg Try.f7 3).toList ([x0,x1,x2,x3,x4,x5,x6,x7,x8,x9,b,d,f,k,l,m,n,o,p,q,r,s,t,u,w,x,y,z,A,B,C,D,E,F,G,H,I,J,K,L,M,N,P,Q,R,U,V,W,X,Y,Z,a0,a1,a2,a3,a4,a5,a6,a7,a8,a9,b0,b1,b2,b3,b4,g,i,c,b5,b6,b7,b8,b9,c0,c1,c2,c3,c4,c5,c6,c7,c8,c9,d0,d1,d2,d3,d4,d5]) S =
  (zT (wY zi BinOp.lss 3 (dem x1) (.int .i64 2) S) (fun v1 S1=>gdK (dem v1) false (ret x1) S1 (fun v3 S2=>gdK (dem v1) false (wY zi BinOp.gtr 3 (dem v3) (.int .i64 7)) S2 (fun v4 S3=>zT (vK (dem v1) (Value.bool true) v4 S3) (fun v5 S4=>gdK (dem v5) false (ret x0) S4 (fun v7 S5=>gdK (dem v5) false (wY zi BinOp.lss 3 (dem v7) (.int .i64 0)) S5 (fun v8 S6=>zT (vK (dem v5) (Value.bool true) v8 S6) (fun v9 S7=>gdK (dem v9) false (ret x0) S7 (fun d8 S8=>gdK (dem v9) false (ret x1) S8 (fun d9 S9=>gdK (dem v9) false (wY zi BinOp.geq 3 (dem d8) (dem d9)) S9 (fun f0 f5=>zT (vK (dem v9) (Value.bool true) f0 f5) (fun d6 f6=>gdK (dem d6) false (ret x2) f6 (fun f1 f8=>gdK (dem d6) false (wY zi BinOp.lss 3 (dem f1) (.int .i64 0)) f8 (fun f2 f9=>zT (vK (dem d6) (Value.bool true) f2 f9) (fun d7 g0=>gdK (dem d7) false (ret x2) g0 (fun f3 g1=>gdK (dem d7) false (wY zi BinOp.gtr 3 (dem f3) (.int .i64 32)) g1 (fun f4 g2=>zT (vK (dem d7) (Value.bool true) f4 g2) (fun g3 g4=>some ([x0,x1,x2,x3,x4,x5,x6,x7,x8,x9,b,d,f,k,l,dem x1,v1,dem v1,dem v3,v4,v5,dem v5,dem v7,v8,v9,dem v9,dem d8,dem d9,f0,d6,dem d6,dem f1,f2,d7,dem d7,dem f3,f4,g3,K,L,M,N,P,Q,R,U,V,W,X,Y,Z,a0,a1,a2,a3,a4,a5,a6,a7,a8,a9,b0,b1,b2,b3,b4,g,i,c,b5,b6,b7,b8,b9,c0,c1,c2,c3,c4,c5,c6,c7,c8,c9,d0,d1,d2,d3,d4,d5],g4)) ()) ()) ()) ()) ()) ()) ()) ()) ()) ()) ()) ()) ()) ()) ()) ()) ()):=by
 refine sP Try.f7 3 0 (v:=x1) ?_
 refine sD Try.f7 3 1 (fun v1 S1=>?_)
 refine sP Try.f7 3 2 (v:=v1) ?_
 refine sG Try.f7 3 3 (j:=2) (fun v3 S2=>?_)
 refine sG Try.f7 3 4 (j:=2) (fun v4 S3=>?_)
 refine sD Try.f7 3 5 (fun v5 S4=>?_)
 refine sP Try.f7 3 6 (v:=v5) ?_
 refine sG Try.f7 3 7 (j:=6) (fun v7 S5=>?_)
 refine sG Try.f7 3 8 (j:=6) (fun v8 S6=>?_)
 refine sD Try.f7 3 9 (fun v9 S7=>?_)
 refine sP Try.f7 3 10 (v:=v9) ?_
 refine sG Try.f7 3 11 (j:=10) (fun d8 S8=>?_)
 refine sG Try.f7 3 12 (j:=10) (fun d9 S9=>?_)
 refine sG Try.f7 3 13 (j:=10) (fun f0 f5=>?_)
 refine sD Try.f7 3 14 (fun d6 f6=>?_)
 refine sP Try.f7 3 15 (v:=d6) ?_
 refine sG Try.f7 3 16 (j:=15) (fun f1 f8=>?_)
 refine sG Try.f7 3 17 (j:=15) (fun f2 f9=>?_)
 refine sD Try.f7 3 18 (fun d7 g0=>?_)
 refine sP Try.f7 3 19 (v:=d7) ?_
 refine sG Try.f7 3 20 (j:=19) (fun f3 g1=>?_)
 refine sG Try.f7 3 21 (j:=19) (fun f4 g2=>?_)
 refine sD Try.f7 3 22 (fun g3 g4=>?_)
 kernel_rfl
theorem zu.r4 :ji zi ⟨false,false,false⟩ (zU zi O) (reg Try.f7 4) (reg Try.f7 4).toList ([x0,x1,x2,x3,x4,x5,x6,x7,x8,x9,b,d,f,k,l,m,n,o,p,q,r,s,t,u,w,x,y,z,A,B,C,D,E,F,G,H,I,J,K,L,M,N,P,Q,R,U,V,W,X,Y,Z,a0,a1,a2,a3,a4,a5,a6,a7,a8,a9,b0,b1,b2,b3,b4,g,i,c,b5,b6,b7,b8,b9,c0,c1,c2,c3,c4,c5,c6,c7,c8,c9,d0,d1,d2,d3,d4,d5]) S =
  ( some ([x0,x1,x2,x3,x4,x5,Value.bool true,x7,x8,x9,b,d,f,k,l,m,n,o,p,q,r,s,t,u,w,x,y,z,A,B,C,D,E,F,G,H,I,J,K,L,M,N,P,Q,R,U,V,W,X,Y,Z,a0,a1,a2,a3,a4,a5,a6,a7,a8,a9,b0,b1,b2,b3,b4,g,i,c,b5,b6,b7,b8,b9,c0,c1,c2,c3,c4,c5,c6,c7,c8,c9,d0,d1,d2,d3,d4,d5],S)):=by
 kernel_rfl
theorem zu.r5 :ji zi ⟨false,false,false⟩ (zU zi O) (reg Try.f7 5) (reg Try.f7 5).toList ([x0,x1,x2,x3,x4,x5,x6,x7,x8,x9,b,d,f,k,l,m,n,o,p,q,r,s,t,u,w,x,y,z,A,B,C,D,E,F,G,H,I,J,K,L,M,N,P,Q,R,U,V,W,X,Y,Z,a0,a1,a2,a3,a4,a5,a6,a7,a8,a9,b0,b1,b2,b3,b4,g,i,c,b5,b6,b7,b8,b9,c0,c1,c2,c3,c4,c5,c6,c7,c8,c9,d0,d1,d2,d3,d4,d5]) S =
  (zT ((zU zi O) 9 [(dem (dem x0)),(dem (dem x1))] S) (fun v2 S1=>some ([x0,x1,x2,x3,x4,x5,x6,v2,x8,x9,b,d,f,k,l,m,n,o,p,q,r,s,t,u,w,x,y,z,A,B,C,D,E,F,G,H,I,J,dem x0,dem x1,dem v2,N,P,Q,R,U,V,W,X,Y,Z,a0,a1,a2,a3,a4,a5,a6,a7,a8,a9,b0,b1,b2,b3,b4,g,i,c,b5,b6,b7,b8,b9,c0,c1,c2,c3,c4,c5,c6,c7,c8,c9,d0,d1,d2,d3,d4,d5],S1)) ()):=by
 kernel_rfl
theorem zu.r6 :ji zi ⟨false,false,false⟩ (zU zi O) (reg Try.f7 6) (reg Try.f7 6).toList ([x0,x1,x2,x3,x4,x5,x6,x7,x8,x9,b,d,f,k,l,m,n,o,p,q,r,s,t,u,w,x,y,z,A,B,C,D,E,F,G,H,I,J,K,L,M,N,P,Q,R,U,V,W,X,Y,Z,a0,a1,a2,a3,a4,a5,a6,a7,a8,a9,b0,b1,b2,b3,b4,g,i,c,b5,b6,b7,b8,b9,c0,c1,c2,c3,c4,c5,c6,c7,c8,c9,d0,d1,d2,d3,d4,d5]) S =
  ( some ([x0,x1,x2,x3,x4,x5,x6,x7,.int .i64 1,x9,b,d,f,k,l,m,n,o,p,q,r,s,t,u,w,x,y,z,A,B,C,D,E,F,G,H,I,J,K,L,M,N,P,Q,R,U,V,W,X,Y,Z,a0,a1,a2,a3,a4,a5,a6,a7,a8,a9,b0,b1,b2,b3,b4,g,i,c,b5,b6,b7,b8,b9,c0,c1,c2,c3,c4,c5,c6,c7,c8,c9,d0,d1,d2,d3,d4,d5],S)):=by
 kernel_rfl
theorem zu.r7 :ji zi ⟨false,false,false⟩ (zU zi O) (reg Try.f7 7) (reg Try.f7 7).toList ([x0,x1,x2,x3,x4,x5,x6,x7,x8,x9,b,d,f,k,l,m,n,o,p,q,r,s,t,u,w,x,y,z,A,B,C,D,E,F,G,H,I,J,K,L,M,N,P,Q,R,U,V,W,X,Y,Z,a0,a1,a2,a3,a4,a5,a6,a7,a8,a9,b0,b1,b2,b3,b4,g,i,c,b5,b6,b7,b8,b9,c0,c1,c2,c3,c4,c5,c6,c7,c8,c9,d0,d1,d2,d3,d4,d5]) S =
  (zT (wY zi BinOp.leq 3 (dem x8) (dem x2) S) (fun v2 S1=>some ([x0,x1,x2,x3,x4,x5,x6,x7,x8,x9,b,d,f,k,l,m,n,o,p,q,r,s,t,u,w,x,y,z,A,B,C,D,E,F,G,H,I,J,K,L,M,dem x8,dem x2,v2,R,U,V,W,X,Y,Z,a0,a1,a2,a3,a4,a5,a6,a7,a8,a9,b0,b1,b2,b3,b4,g,i,c,b5,b6,b7,b8,b9,c0,c1,c2,c3,c4,c5,c6,c7,c8,c9,d0,d1,d2,d3,d4,d5],S1)) ()):=by
 kernel_rfl
theorem zu.r9 :ji zi ⟨false,false,false⟩ (zU zi O) (reg Try.f7 9) (reg Try.f7 9).toList ([x0,x1,x2,x3,x4,x5,x6,x7,x8,x9,b,d,f,k,l,m,n,o,p,q,r,s,t,u,w,x,y,z,A,B,C,D,E,F,G,H,I,J,K,L,M,N,P,Q,R,U,V,W,X,Y,Z,a0,a1,a2,a3,a4,a5,a6,a7,a8,a9,b0,b1,b2,b3,b4,g,i,c,b5,b6,b7,b8,b9,c0,c1,c2,c3,c4,c5,c6,c7,c8,c9,d0,d1,d2,d3,d4,d5]) S =
  (zT (wY zi BinOp.shl 3 (dem x8) (Value.int IntKind.u64 16) S) (fun v2 S1=>zT ((zU zi O) 10 [(dem (dem x7)),(dem v2)] S1) (fun v3 S2=>zT (aUn zi UnOp.not v3 S2) (fun v4 S3=>some ([x0,x1,x2,x3,x4,x5,x6,x7,x8,x9,b,d,f,k,l,m,n,o,p,q,r,s,t,u,w,x,y,z,A,B,C,D,E,F,G,H,I,J,K,L,M,N,P,Q,R,U,dem x7,dem x8,v2,v3,v4,a0,a1,a2,a3,a4,a5,a6,a7,a8,a9,b0,b1,b2,b3,b4,g,i,c,b5,b6,b7,b8,b9,c0,c1,c2,c3,c4,c5,c6,c7,c8,c9,d0,d1,d2,d3,d4,d5],S3)) ()) ()) ()):=by
 kernel_rfl
theorem zu.r10 :ji zi ⟨false,false,false⟩ (zU zi O) (reg Try.f7 10) (reg Try.f7 10).toList ([x0,x1,x2,x3,x4,x5,x6,x7,x8,x9,b,d,f,k,l,m,n,o,p,q,r,s,t,u,w,x,y,z,A,B,C,D,E,F,G,H,I,J,K,L,M,N,P,Q,R,U,V,W,X,Y,Z,a0,a1,a2,a3,a4,a5,a6,a7,a8,a9,b0,b1,b2,b3,b4,g,i,c,b5,b6,b7,b8,b9,c0,c1,c2,c3,c4,c5,c6,c7,c8,c9,d0,d1,d2,d3,d4,d5]) S =
  ( some ([x0,x1,x2,x3,x4,x5,Value.bool false,x7,x8,x9,b,d,f,k,l,m,n,o,p,q,r,s,t,u,w,x,y,z,A,B,C,D,E,F,G,H,I,J,K,L,M,N,P,Q,R,U,V,W,X,Y,Z,a0,a1,a2,a3,a4,a5,a6,a7,a8,a9,b0,b1,b2,b3,b4,g,i,c,b5,b6,b7,b8,b9,c0,c1,c2,c3,c4,c5,c6,c7,c8,c9,d0,d1,d2,d3,d4,d5],S)):=by
 kernel_rfl
theorem zu.r8 :ji zi ⟨false,false,false⟩ (zU zi O) (reg Try.f7 8) (reg Try.f7 8).toList ([x0,x1,x2,x3,x4,x5,x6,x7,x8,x9,b,d,f,k,l,m,n,o,p,q,r,s,t,u,w,x,y,z,A,B,C,D,E,F,G,H,I,J,K,L,M,N,P,Q,R,U,V,W,X,Y,Z,a0,a1,a2,a3,a4,a5,a6,a7,a8,a9,b0,b1,b2,b3,b4,g,i,c,b5,b6,b7,b8,b9,c0,c1,c2,c3,c4,c5,c6,c7,c8,c9,d0,d1,d2,d3,d4,d5]) S =
  (zT (wY zi BinOp.add 3 (dem x8) (.int .i64 1) S) (fun v1 S1=>some ([x0,x1,x2,x3,x4,x5,x6,x7,v1,x9,b,d,f,k,l,m,n,o,p,q,r,s,t,u,w,x,y,z,A,B,C,D,E,F,G,H,I,J,K,L,M,N,P,Q,dem x8,dem v1,V,W,X,Y,Z,a0,a1,a2,a3,a4,a5,a6,a7,a8,a9,b0,b1,b2,b3,b4,g,i,c,b5,b6,b7,b8,b9,c0,c1,c2,c3,c4,c5,c6,c7,c8,c9,d0,d1,d2,d3,d4,d5],S1)) ()):=by
 kernel_rfl
theorem zu.r11 :ji zi ⟨false,false,false⟩ (zU zi O) (reg Try.f7 11) (reg Try.f7 11).toList ([x0,x1,x2,x3,x4,x5,x6,x7,x8,x9,b,d,f,k,l,m,n,o,p,q,r,s,t,u,w,x,y,z,A,B,C,D,E,F,G,H,I,J,K,L,M,N,P,Q,R,U,V,W,X,Y,Z,a0,a1,a2,a3,a4,a5,a6,a7,a8,a9,b0,b1,b2,b3,b4,g,i,c,b5,b6,b7,b8,b9,c0,c1,c2,c3,c4,c5,c6,c7,c8,c9,d0,d1,d2,d3,d4,d5]) S =
  ( some ([x0,x1,x2,x3,x4,x5,x6,x7,x8,.int .i64 1,b,d,f,k,l,m,n,o,p,q,r,s,t,u,w,x,y,z,A,B,C,D,E,F,G,H,I,J,K,L,M,N,P,Q,R,U,V,W,X,Y,Z,a0,a1,a2,a3,a4,a5,a6,a7,a8,a9,b0,b1,b2,b3,b4,g,i,c,b5,b6,b7,b8,b9,c0,c1,c2,c3,c4,c5,c6,c7,c8,c9,d0,d1,d2,d3,d4,d5],S)):=by
 kernel_rfl
theorem zu.r12 :ji zi ⟨false,false,false⟩ (zU zi O) (reg Try.f7 12) (reg Try.f7 12).toList ([x0,x1,x2,x3,x4,x5,x6,x7,x8,x9,b,d,f,k,l,m,n,o,p,q,r,s,t,u,w,x,y,z,A,B,C,D,E,F,G,H,I,J,K,L,M,N,P,Q,R,U,V,W,X,Y,Z,a0,a1,a2,a3,a4,a5,a6,a7,a8,a9,b0,b1,b2,b3,b4,g,i,c,b5,b6,b7,b8,b9,c0,c1,c2,c3,c4,c5,c6,c7,c8,c9,d0,d1,d2,d3,d4,d5]) S =
  (zT (wY zi BinOp.leq 3 (dem x9) (dem x2) S) (fun v2 S1=>some ([x0,x1,x2,x3,x4,x5,x6,x7,x8,x9,b,d,f,k,l,m,n,o,p,q,r,s,t,u,w,x,y,z,A,B,C,D,E,F,G,H,I,J,K,L,M,N,P,Q,R,U,V,W,X,Y,Z,dem x9,dem x2,v2,a3,a4,a5,a6,a7,a8,a9,b0,b1,b2,b3,b4,g,i,c,b5,b6,b7,b8,b9,c0,c1,c2,c3,c4,c5,c6,c7,c8,c9,d0,d1,d2,d3,d4,d5],S1)) ()):=by
 kernel_rfl
theorem zu.r14 :ji zi ⟨false,false,false⟩ (zU zi O) (reg Try.f7 14) (reg Try.f7 14).toList ([x0,x1,x2,x3,x4,x5,x6,x7,x8,x9,b,d,f,k,l,m,n,o,p,q,r,s,t,u,w,x,y,z,A,B,C,D,E,F,G,H,I,J,K,L,M,N,P,Q,R,U,V,W,X,Y,Z,a0,a1,a2,a3,a4,a5,a6,a7,a8,a9,b0,b1,b2,b3,b4,g,i,c,b5,b6,b7,b8,b9,c0,c1,c2,c3,c4,c5,c6,c7,c8,c9,d0,d1,d2,d3,d4,d5]) S =
  (zT ((zU zi O) 11 [(dem (dem x7))] S) (fun v1 S1=>some ([x0,x1,x2,x3,x4,x5,x6,x7,x8,x9,v1,d,f,k,l,m,n,o,p,q,r,s,t,u,w,x,y,z,A,B,C,D,E,F,G,H,I,J,K,L,M,N,P,Q,R,U,V,W,X,Y,Z,a0,a1,a2,a3,a4,dem x7,dem v1,a7,a8,a9,b0,b1,b2,b3,b4,g,i,c,b5,b6,b7,b8,b9,c0,c1,c2,c3,c4,c5,c6,c7,c8,c9,d0,d1,d2,d3,d4,d5],S1)) ()):=by
 kernel_rfl
theorem zu.r15 :ji zi ⟨false,false,false⟩ (zU zi O) (reg Try.f7 15) (reg Try.f7 15).toList ([x0,x1,x2,x3,x4,x5,x6,x7,x8,x9,b,d,f,k,l,m,n,o,p,q,r,s,t,u,w,x,y,z,A,B,C,D,E,F,G,H,I,J,K,L,M,N,P,Q,R,U,V,W,X,Y,Z,a0,a1,a2,a3,a4,a5,a6,a7,a8,a9,b0,b1,b2,b3,b4,g,i,c,b5,b6,b7,b8,b9,c0,c1,c2,c3,c4,c5,c6,c7,c8,c9,d0,d1,d2,d3,d4,d5]) S =
  (zT (Z7 zi 26 (dem b) S) (fun v1 S1=>zT (wY zi BinOp.sub 3 (dem x2) (dem x9) S1) (fun v4 S2=>zT (wY zi BinOp.add 3 v4 (.int .i64 1) S2) (fun v5 S3=>zT (ku zi false Builtin.min #[3,3] 3 [(.int .i64 8),v5] S3) (fun v6 S4=>zT (wY zi BinOp.neq 3 v1 v6 S4) (fun v7 S5=>some ([x0,x1,x2,x3,x4,x5,x6,x7,x8,x9,b,d,f,k,l,m,n,o,p,q,r,s,t,u,w,x,y,z,A,B,C,D,E,F,G,H,I,J,K,L,M,N,P,Q,R,U,V,W,X,Y,Z,a0,a1,a2,a3,a4,a5,a6,dem b,v1,dem x2,dem x9,v4,v5,v6,v7,g,i,c,b5,b6,b7,b8,b9,c0,c1,c2,c3,c4,c5,c6,c7,c8,c9,d0,d1,d2,d3,d4,d5],S5)) ()) ()) ()) ()) ()):=by
 kernel_rfl
theorem zu.r16 :ji zi ⟨false,false,false⟩ (zU zi O) (reg Try.f7 16) (reg Try.f7 16).toList ([x0,x1,x2,x3,x4,x5,x6,x7,x8,x9,b,d,f,k,l,m,n,o,p,q,r,s,t,u,w,x,y,z,A,B,C,D,E,F,G,H,I,J,K,L,M,N,P,Q,R,U,V,W,X,Y,Z,a0,a1,a2,a3,a4,a5,a6,a7,a8,a9,b0,b1,b2,b3,b4,g,i,c,b5,b6,b7,b8,b9,c0,c1,c2,c3,c4,c5,c6,c7,c8,c9,d0,d1,d2,d3,d4,d5]) S =
  ( some ([x0,x1,x2,x3,x4,x5,Value.bool false,x7,x8,x9,b,d,f,k,l,m,n,o,p,q,r,s,t,u,w,x,y,z,A,B,C,D,E,F,G,H,I,J,K,L,M,N,P,Q,R,U,V,W,X,Y,Z,a0,a1,a2,a3,a4,a5,a6,a7,a8,a9,b0,b1,b2,b3,b4,g,i,c,b5,b6,b7,b8,b9,c0,c1,c2,c3,c4,c5,c6,c7,c8,c9,d0,d1,d2,d3,d4,d5],S)):=by
 kernel_rfl
theorem zu.r17 :ji zi ⟨false,false,false⟩ (zU zi O) (reg Try.f7 17) (reg Try.f7 17).toList ([x0,x1,x2,x3,x4,x5,x6,x7,x8,x9,b,d,f,k,l,m,n,o,p,q,r,s,t,u,w,x,y,z,A,B,C,D,E,F,G,H,I,J,K,L,M,N,P,Q,R,U,V,W,X,Y,Z,a0,a1,a2,a3,a4,a5,a6,a7,a8,a9,b0,b1,b2,b3,b4,g,i,c,b5,b6,b7,b8,b9,c0,c1,c2,c3,c4,c5,c6,c7,c8,c9,d0,d1,d2,d3,d4,d5]) S =
  (zT (Z7 zi 26 (dem b) S) (fun v1 S1=>some ([x0,x1,x2,x3,x4,x5,x6,x7,x8,x9,b,d,f,k,l,m,n,o,p,q,r,s,t,u,w,x,y,z,A,B,C,D,E,F,G,H,I,J,K,L,M,N,P,Q,R,U,V,W,X,Y,Z,a0,a1,a2,a3,a4,a5,a6,a7,a8,a9,b0,b1,b2,b3,b4,dem b,v1,.int .i64 0,b5,b6,b7,b8,b9,c0,c1,c2,c3,c4,c5,c6,c7,c8,c9,d0,d1,d2,d3,d4,d5],S1)) ()):=by
 kernel_rfl
theorem zu.r18 :ji zi ⟨false,false,false⟩ (zU zi O) (reg Try.f7 18) (reg Try.f7 18).toList ([x0,x1,x2,x3,x4,x5,x6,x7,x8,x9,b,d,f,k,l,m,n,o,p,q,r,s,t,u,w,x,y,z,A,B,C,D,E,F,G,H,I,J,K,L,M,N,P,Q,R,U,V,W,X,Y,Z,a0,a1,a2,a3,a4,a5,a6,a7,a8,a9,b0,b1,b2,b3,b4,g,i,c,b5,b6,b7,b8,b9,c0,c1,c2,c3,c4,c5,c6,c7,c8,c9,d0,d1,d2,d3,d4,d5]) S =
  (zT (wY zi BinOp.lss 3 c i S) (fun v0 S1=>some ([x0,x1,x2,x3,x4,x5,x6,x7,x8,x9,b,d,f,k,l,m,n,o,p,q,r,s,t,u,w,x,y,z,A,B,C,D,E,F,G,H,I,J,K,L,M,N,P,Q,R,U,V,W,X,Y,Z,a0,a1,a2,a3,a4,a5,a6,a7,a8,a9,b0,b1,b2,b3,b4,g,i,c,v0,b6,b7,b8,b9,c0,c1,c2,c3,c4,c5,c6,c7,c8,c9,d0,d1,d2,d3,d4,d5],S1)) ()):=by
 kernel_rfl
theorem zu.r19 :ji zi ⟨false,false,false⟩ (zU zi O) (reg Try.f7 19) (reg Try.f7 19).toList ([x0,x1,x2,x3,x4,x5,x6,x7,x8,x9,b,d,f,k,l,m,n,o,p,q,r,s,t,u,w,x,y,z,A,B,C,D,E,F,G,H,I,J,K,L,M,N,P,Q,R,U,V,W,X,Y,Z,a0,a1,a2,a3,a4,a5,a6,a7,a8,a9,b0,b1,b2,b3,b4,g,i,c,b5,b6,b7,b8,b9,c0,c1,c2,c3,c4,c5,c6,c7,c8,c9,d0,d1,d2,d3,d4,d5]) S =
  (zT (zW zi 26 g (dem c) S) (fun v1 S1=>zT (jm zi false 54 v1 S1) (fun v2 S2=>zT (qJ zi 54 S2) (fun v3 S3=>zT (yP zi 54 v3 (dem v2) S3) (fun v5 S4=>some ([x0,x1,x2,x3,x4,x5,x6,x7,x8,x9,b,c,v3,k,l,m,n,o,p,q,r,s,t,u,w,x,y,z,A,B,C,D,E,F,G,H,I,J,K,L,M,N,P,Q,R,U,V,W,X,Y,Z,a0,a1,a2,a3,a4,a5,a6,a7,a8,a9,b0,b1,b2,b3,b4,g,i,dem c,b5,dem c,v1,v2,b9,c0,c1,c2,c3,c4,c5,c6,c7,c8,c9,d0,d1,d2,d3,d4,d5],S4)) ()) ()) ()) ()):=by
 kernel_rfl
theorem zu.r20 :ji zi ⟨false,false,false⟩ (zU zi O) (reg Try.f7 20) (reg Try.f7 20).toList ([x0,x1,x2,x3,x4,x5,x6,x7,x8,x9,b,d,f,k,l,m,n,o,p,q,r,s,t,u,w,x,y,z,A,B,C,D,E,F,G,H,I,J,K,L,M,N,P,Q,R,U,V,W,X,Y,Z,a0,a1,a2,a3,a4,a5,a6,a7,a8,a9,b0,b1,b2,b3,b4,g,i,c,b5,b6,b7,b8,b9,c0,c1,c2,c3,c4,c5,c6,c7,c8,c9,d0,d1,d2,d3,d4,d5]) S =
  (zT (zK zi 54 f 1 S) (fun v0 S1=>zT (zK zi 52 v0 4 S1) (fun v1 S2=>zT (jm zi false 3 v1 S2) (fun v2 S3=>zT (wY zi BinOp.add 3 (dem x9) (dem d) S3) (fun v5 S4=>zT (wY zi BinOp.shl 3 v5 (Value.int IntKind.u64 16) S4) (fun v6 S5=>zT (wY zi BinOp.neq 3 v2 v6 S5) (fun v7 S6=>some ([x0,x1,x2,x3,x4,x5,x6,x7,x8,x9,b,d,f,k,l,m,n,o,p,q,r,s,t,u,w,x,y,z,A,B,C,D,E,F,G,H,I,J,K,L,M,N,P,Q,R,U,V,W,X,Y,Z,a0,a1,a2,a3,a4,a5,a6,a7,a8,a9,b0,b1,b2,b3,b4,g,i,c,b5,b6,b7,b8,v0,v1,v2,dem x9,dem d,v5,v6,v7,c7,c8,c9,d0,d1,d2,d3,d4,d5],S6)) ()) ()) ()) ()) ()) ()):=by
 kernel_rfl
theorem zu.r21 :ji zi ⟨false,false,false⟩ (zU zi O) (reg Try.f7 21) (reg Try.f7 21).toList ([x0,x1,x2,x3,x4,x5,x6,x7,x8,x9,b,d,f,k,l,m,n,o,p,q,r,s,t,u,w,x,y,z,A,B,C,D,E,F,G,H,I,J,K,L,M,N,P,Q,R,U,V,W,X,Y,Z,a0,a1,a2,a3,a4,a5,a6,a7,a8,a9,b0,b1,b2,b3,b4,g,i,c,b5,b6,b7,b8,b9,c0,c1,c2,c3,c4,c5,c6,c7,c8,c9,d0,d1,d2,d3,d4,d5]) S =
  ( some ([x0,x1,x2,x3,x4,x5,Value.bool false,x7,x8,x9,b,d,f,k,l,m,n,o,p,q,r,s,t,u,w,x,y,z,A,B,C,D,E,F,G,H,I,J,K,L,M,N,P,Q,R,U,V,W,X,Y,Z,a0,a1,a2,a3,a4,a5,a6,a7,a8,a9,b0,b1,b2,b3,b4,g,i,c,b5,b6,b7,b8,b9,c0,c1,c2,c3,c4,c5,c6,c7,c8,c9,d0,d1,d2,d3,d4,d5],S)):=by
 kernel_rfl
theorem zu.r22 :ji zi ⟨false,false,false⟩ (zU zi O) (reg Try.f7 22) (reg Try.f7 22).toList ([x0,x1,x2,x3,x4,x5,x6,x7,x8,x9,b,d,f,k,l,m,n,o,p,q,r,s,t,u,w,x,y,z,A,B,C,D,E,F,G,H,I,J,K,L,M,N,P,Q,R,U,V,W,X,Y,Z,a0,a1,a2,a3,a4,a5,a6,a7,a8,a9,b0,b1,b2,b3,b4,g,i,c,b5,b6,b7,b8,b9,c0,c1,c2,c3,c4,c5,c6,c7,c8,c9,d0,d1,d2,d3,d4,d5]) S =
  (zT (wY zi BinOp.add 3 c (.int .i64 1) S) (fun v0 S1=>some ([x0,x1,x2,x3,x4,x5,x6,x7,x8,x9,b,d,f,k,l,m,n,o,p,q,r,s,t,u,w,x,y,z,A,B,C,D,E,F,G,H,I,J,K,L,M,N,P,Q,R,U,V,W,X,Y,Z,a0,a1,a2,a3,a4,a5,a6,a7,a8,a9,b0,b1,b2,b3,b4,g,i,dem v0,b5,b6,b7,b8,b9,c0,c1,c2,c3,c4,c5,c6,v0,c8,c9,d0,d1,d2,d3,d4,d5],S1)) ()):=by
 kernel_rfl
theorem zu.r23 :ji zi ⟨false,false,false⟩ (zU zi O) (reg Try.f7 23) (reg Try.f7 23).toList ([x0,x1,x2,x3,x4,x5,x6,x7,x8,x9,b,d,f,k,l,m,n,o,p,q,r,s,t,u,w,x,y,z,A,B,C,D,E,F,G,H,I,J,K,L,M,N,P,Q,R,U,V,W,X,Y,Z,a0,a1,a2,a3,a4,a5,a6,a7,a8,a9,b0,b1,b2,b3,b4,g,i,c,b5,b6,b7,b8,b9,c0,c1,c2,c3,c4,c5,c6,c7,c8,c9,d0,d1,d2,d3,d4,d5]) S =
  (zT (wY zi BinOp.shl 3 (dem x9) (Value.int IntKind.u64 16) S) (fun v2 S1=>zT ((zU zi O) 13 [(dem (dem x7)),(dem v2)] S1) (fun v3 S2=>some ([x0,x1,x2,x3,x4,x5,x6,x7,x8,x9,b,d,f,k,l,m,n,o,p,q,r,s,t,u,w,x,y,z,A,B,C,D,E,F,G,H,I,J,K,L,M,N,P,Q,R,U,V,W,X,Y,Z,a0,a1,a2,a3,a4,a5,a6,a7,a8,a9,b0,b1,b2,b3,b4,g,i,c,b5,b6,b7,b8,b9,c0,c1,c2,c3,c4,c5,c6,c7,dem x7,dem x9,v2,v3,d2,d3,d4,d5],S2)) ()) ()):=by
 kernel_rfl
theorem zu.r13 :ji zi ⟨false,false,false⟩ (zU zi O) (reg Try.f7 13) (reg Try.f7 13).toList ([x0,x1,x2,x3,x4,x5,x6,x7,x8,x9,b,d,f,k,l,m,n,o,p,q,r,s,t,u,w,x,y,z,A,B,C,D,E,F,G,H,I,J,K,L,M,N,P,Q,R,U,V,W,X,Y,Z,a0,a1,a2,a3,a4,a5,a6,a7,a8,a9,b0,b1,b2,b3,b4,g,i,c,b5,b6,b7,b8,b9,c0,c1,c2,c3,c4,c5,c6,c7,c8,c9,d0,d1,d2,d3,d4,d5]) S =
  (zT (wY zi BinOp.add 3 (dem x9) (.int .i64 1) S) (fun v1 S1=>some ([x0,x1,x2,x3,x4,x5,x6,x7,x8,v1,b,d,f,k,l,m,n,o,p,q,r,s,t,u,w,x,y,z,A,B,C,D,E,F,G,H,I,J,K,L,M,N,P,Q,R,U,V,W,X,Y,Z,a0,a1,a2,dem x9,dem v1,a5,a6,a7,a8,a9,b0,b1,b2,b3,b4,g,i,c,b5,b6,b7,b8,b9,c0,c1,c2,c3,c4,c5,c6,c7,c8,c9,d0,d1,d2,d3,d4,d5],S1)) ()):=by
 kernel_rfl
theorem zu.r24 :ji zi ⟨false,false,false⟩ (zU zi O) (reg Try.f7 24) (reg Try.f7 24).toList ([x0,x1,x2,x3,x4,x5,x6,x7,x8,x9,b,d,f,k,l,m,n,o,p,q,r,s,t,u,w,x,y,z,A,B,C,D,E,F,G,H,I,J,K,L,M,N,P,Q,R,U,V,W,X,Y,Z,a0,a1,a2,a3,a4,a5,a6,a7,a8,a9,b0,b1,b2,b3,b4,g,i,c,b5,b6,b7,b8,b9,c0,c1,c2,c3,c4,c5,c6,c7,c8,c9,d0,d1,d2,d3,d4,d5]) S =
  (zT ((zU zi O) 18 [(dem (dem x7))] S) (fun v1 S1=>zT (Z7 zi 29 v1 S1) (fun v2 S2=>zT (wY zi BinOp.eql 3 v2 (.int .i64 0) S2) (fun v3 S3=>some ([x0,x1,x2,x3,x4,x5,v3,x7,x8,x9,b,d,f,k,l,m,n,o,p,q,r,s,t,u,w,x,y,z,A,B,C,D,E,F,G,H,I,J,K,L,M,N,P,Q,R,U,V,W,X,Y,Z,a0,a1,a2,a3,a4,a5,a6,a7,a8,a9,b0,b1,b2,b3,b4,g,i,c,b5,b6,b7,b8,b9,c0,c1,c2,c3,c4,c5,c6,c7,c8,c9,d0,d1,dem x7,v1,v2,dem v3],S3)) ()) ()) ()):=by
 kernel_rfl
theorem zu.rs:type_of% (ad6 @zu.r0 (ad6 @zu.r1 (ad6 @zu.r2 (ad6 @zu.r3 (ad6 @zu.r4 (ad6 @zu.r5 (ad6 @zu.r6 (ad6 @zu.r7 (ad6 @zu.r9 (ad6 @zu.r10 (ad6 @zu.r8 (ad6 @zu.r11 (ad6 @zu.r12 (ad6 @zu.r14 (ad6 @zu.r15 (ad6 @zu.r16 (ad6 @zu.r17 (ad6 @zu.r18 (ad6 @zu.r19 (ad6 @zu.r20 (ad6 @zu.r21 (ad6 @zu.r22 (ad6 @zu.r23 (ad6 @zu.r13 (@zu.r24))))))))))))))))))))))))):=ad6 @zu.r0 (ad6 @zu.r1 (ad6 @zu.r2 (ad6 @zu.r3 (ad6 @zu.r4 (ad6 @zu.r5 (ad6 @zu.r6 (ad6 @zu.r7 (ad6 @zu.r9 (ad6 @zu.r10 (ad6 @zu.r8 (ad6 @zu.r11 (ad6 @zu.r12 (ad6 @zu.r14 (ad6 @zu.r15 (ad6 @zu.r16 (ad6 @zu.r17 (ad6 @zu.r18 (ad6 @zu.r19 (ad6 @zu.r20 (ad6 @zu.r21 (ad6 @zu.r22 (ad6 @zu.r23 (ad6 @zu.r13 (@zu.r24))))))))))))))))))))))))
theorem zu.runs {x0 x1 x2:Value} {S S1:zx} {e:AEx} {T:List Value} (h:zC zi O false zu.code ([x0,x1,x2,zh,zh,zh,zh,zh,zh,zh,zh,zh,zh,zh,zh,zh,zh,zh,zh,zh,zh,zh,zh,zh,zh,zh,zh,zh,zh,zh,zh,zh,zh,zh,zh,zh,zh,zh,zh,zh,zh,zh,zh,zh,zh,zh,zh,zh,zh,zh,zh,zh,zh,zh,zh,zh,zh,zh,zh,zh,zh,zh,zh,zh,zh,zh,zh,zh,zh,zh,zh,zh,zh,zh,zh,zh,zh,zh,zh,zh,zh,zh,zh,zh,zh,zh,zh,zh,zh,zh]) S=some (e,T,S1)) (he:e=.normal∨e=.ret):zU zi O 7 [x0,x1,x2] S=some (T.getD 6 zh,S1) :=
 jJ rfl rfl Try.func7 (by decide) zu.body (by exact h) he (wH (a:=T.getD 6 zh) ((show zJ zi T S1 Try.f7.results.toList=zJ zi T S1 [(ResultVar.tmp 6)] from by kernel_rfl).trans (by simp only [zJ])) (by kernel_rfl))
end Go.Proofs.Ytpjglojnipjgfaa
namespace Go.Proofs.Ytpjglojnipjgfaa
open Go.Abs
abbrev zy.id:FuncId:=11
noncomputable def zy.jd:Code:=(.seq (.region 3 (reg Try.f11 3) false) (.seq (.cond (.tmp 14) Code.skip (.exit 0)) (.seq (.block 1 (.seq (.region 4 (reg Try.f11 4) false) (.seq (.seq (.region 5 (reg Try.f11 5) false) (.cond (.tmp 20) (.exit 0) Code.skip)) (.seq (.region 6 (reg Try.f11 6) false) (.seq (.region 7 (reg Try.f11 7) true) (.seq (.region 8 (reg Try.f11 8) false) (.region 9 (reg Try.f11 9) true))))))) (.region 10 (reg Try.f11 10) false))))
noncomputable def zy.code:Code:=(.seq (.region 0 (reg Try.f11 0) false) (.seq (.region 1 (reg Try.f11 1) false) (.seq (.seq (.region 2 (reg Try.f11 2) false) (.block 0 (.loop zy.jd))) (.seq (.region 11 (reg Try.f11 11) false) Code.ret))))
theorem zy.body:Try.f11.body=some zy.code:=by kernel_rfl
theorem zy.eta {T:List Value} (h:T.length=71):T=[T.getD 0 zh,T.getD 1 zh,T.getD 2 zh,T.getD 3 zh,T.getD 4 zh,T.getD 5 zh,T.getD 6 zh,T.getD 7 zh,T.getD 8 zh,T.getD 9 zh,T.getD 10 zh,T.getD 11 zh,T.getD 12 zh,T.getD 13 zh,T.getD 14 zh,T.getD 15 zh,T.getD 16 zh,T.getD 17 zh,T.getD 18 zh,T.getD 19 zh,T.getD 20 zh,T.getD 21 zh,T.getD 22 zh,T.getD 23 zh,T.getD 24 zh,T.getD 25 zh,T.getD 26 zh,T.getD 27 zh,T.getD 28 zh,T.getD 29 zh,T.getD 30 zh,T.getD 31 zh,T.getD 32 zh,T.getD 33 zh,T.getD 34 zh,T.getD 35 zh,T.getD 36 zh,T.getD 37 zh,T.getD 38 zh,T.getD 39 zh,T.getD 40 zh,T.getD 41 zh,T.getD 42 zh,T.getD 43 zh,T.getD 44 zh,T.getD 45 zh,T.getD 46 zh,T.getD 47 zh,T.getD 48 zh,T.getD 49 zh,T.getD 50 zh,T.getD 51 zh,T.getD 52 zh,T.getD 53 zh,T.getD 54 zh,T.getD 55 zh,T.getD 56 zh,T.getD 57 zh,T.getD 58 zh,T.getD 59 zh,T.getD 60 zh,T.getD 61 zh,T.getD 62 zh,T.getD 63 zh,T.getD 64 zh,T.getD 65 zh,T.getD 66 zh,T.getD 67 zh,T.getD 68 zh,T.getD 69 zh,T.getD 70 zh]:=(qx T 71 h).trans (by kernel_rfl)
variable (b x1 x2 x3 x4 x5 x6 x7 x8 x9 f g d c i j k l m n o p q r s t u w x y z A B C D E F G H I J K L M N P Q R U V W X Y Z a0 a1 a2 a3 a4 a5 a6 a7 a8 a9 b0 b1 b2 b3 b4 b5 b6:Value) (S:zx)
theorem zy.r0 :ji zi ⟨false,false,false⟩ (zU zi O) (reg Try.f11 0) (reg Try.f11 0).toList ([b,x1,x2,x3,x4,x5,x6,x7,x8,x9,f,g,d,c,i,j,k,l,m,n,o,p,q,r,s,t,u,w,x,y,z,A,B,C,D,E,F,G,H,I,J,K,L,M,N,P,Q,R,U,V,W,X,Y,Z,a0,a1,a2,a3,a4,a5,a6,a7,a8,a9,b0,b1,b2,b3,b4,b5,b6]) S =
  ( some ([b,x1,Value.slice none 0 0,x3,x4,x5,x6,x7,x8,x9,f,g,d,c,i,j,k,l,m,n,o,p,q,r,s,t,u,w,x,y,z,A,B,C,D,E,F,G,H,I,J,K,L,M,N,P,Q,R,U,V,W,X,Y,Z,a0,a1,a2,a3,a4,a5,a6,a7,a8,a9,b0,b1,b2,b3,b4,b5,b6],S)):=by
 kernel_rfl
theorem zy.r1 :ji zi ⟨false,false,false⟩ (zU zi O) (reg Try.f11 1) (reg Try.f11 1).toList ([b,x1,x2,x3,x4,x5,x6,x7,x8,x9,f,g,d,c,i,j,k,l,m,n,o,p,q,r,s,t,u,w,x,y,z,A,B,C,D,E,F,G,H,I,J,K,L,M,N,P,Q,R,U,V,W,X,Y,Z,a0,a1,a2,a3,a4,a5,a6,a7,a8,a9,b0,b1,b2,b3,b4,b5,b6]) S =
  ( some ([b,x1,x2,Value.slice none 0 0,x4,x5,x6,x7,x8,x9,f,g,d,c,i,j,k,l,m,n,o,p,q,r,s,t,u,w,x,y,z,A,B,C,D,E,F,G,H,I,J,K,L,M,N,P,Q,R,U,V,W,X,Y,Z,a0,a1,a2,a3,a4,a5,a6,a7,a8,a9,b0,b1,b2,b3,b4,b5,b6],S)):=by
 kernel_rfl
theorem zy.r2 :ji zi ⟨false,false,false⟩ (zU zi O) (reg Try.f11 2) (reg Try.f11 2).toList ([b,x1,x2,x3,x4,x5,x6,x7,x8,x9,f,g,d,c,i,j,k,l,m,n,o,p,q,r,s,t,u,w,x,y,z,A,B,C,D,E,F,G,H,I,J,K,L,M,N,P,Q,R,U,V,W,X,Y,Z,a0,a1,a2,a3,a4,a5,a6,a7,a8,a9,b0,b1,b2,b3,b4,b5,b6]) S =
  (zT (jf (dem b) S) (fun v1 S1=>zT (zK zi 60 v1 2 S1) (fun v2 S2=>zT (jm zi false 58 v2 S2) (fun v3 S3=>zT (Z7 zi 58 v3 S3) (fun v4 S4=>zT (ku zi false Builtin.min #[3,3] 3 [v4,(.int .i64 8)] S4) (fun v5 S5=>some ([b,x1,x2,x3,x4,x5,x6,dem b,v1,v2,v3,v4,v5,.int .i64 0,i,j,k,l,m,n,o,p,q,r,s,t,u,w,x,y,z,A,B,C,D,E,F,G,H,I,J,K,L,M,N,P,Q,R,U,V,W,X,Y,Z,a0,a1,a2,a3,a4,a5,a6,a7,a8,a9,b0,b1,b2,b3,b4,b5,b6],S5)) ()) ()) ()) ()) ()):=by
 kernel_rfl
theorem zy.r3 :ji zi ⟨false,false,false⟩ (zU zi O) (reg Try.f11 3) (reg Try.f11 3).toList ([b,x1,x2,x3,x4,x5,x6,x7,x8,x9,f,g,d,c,i,j,k,l,m,n,o,p,q,r,s,t,u,w,x,y,z,A,B,C,D,E,F,G,H,I,J,K,L,M,N,P,Q,R,U,V,W,X,Y,Z,a0,a1,a2,a3,a4,a5,a6,a7,a8,a9,b0,b1,b2,b3,b4,b5,b6]) S =
  (zT (wY zi BinOp.lss 3 c d S) (fun v0 S1=>some ([b,x1,x2,x3,x4,x5,x6,x7,x8,x9,f,g,d,c,v0,j,k,l,m,n,o,p,q,r,s,t,u,w,x,y,z,A,B,C,D,E,F,G,H,I,J,K,L,M,N,P,Q,R,U,V,W,X,Y,Z,a0,a1,a2,a3,a4,a5,a6,a7,a8,a9,b0,b1,b2,b3,b4,b5,b6],S1)) ()):=by
 kernel_rfl
theorem zy.r4 :ji zi ⟨false,false,false⟩ (zU zi O) (reg Try.f11 4) (reg Try.f11 4).toList ([b,x1,x2,x3,x4,x5,x6,x7,x8,x9,f,g,d,c,i,j,k,l,m,n,o,p,q,r,s,t,u,w,x,y,z,A,B,C,D,E,F,G,H,I,J,K,L,M,N,P,Q,R,U,V,W,X,Y,Z,a0,a1,a2,a3,a4,a5,a6,a7,a8,a9,b0,b1,b2,b3,b4,b5,b6]) S =
  ( some ([b,x1,x2,x3,c,x5,x6,x7,x8,x9,f,g,d,dem c,i,dem c,k,l,m,n,o,p,q,r,s,t,u,w,x,y,z,A,B,C,D,E,F,G,H,I,J,K,L,M,N,P,Q,R,U,V,W,X,Y,Z,a0,a1,a2,a3,a4,a5,a6,a7,a8,a9,b0,b1,b2,b3,b4,b5,b6],S)):=by
 kernel_rfl
theorem zy.r5 :ji zi ⟨false,false,false⟩ (zU zi O) (reg Try.f11 5) (reg Try.f11 5).toList ([b,x1,x2,x3,x4,x5,x6,x7,x8,x9,f,g,d,c,i,j,k,l,m,n,o,p,q,r,s,t,u,w,x,y,z,A,B,C,D,E,F,G,H,I,J,K,L,M,N,P,Q,R,U,V,W,X,Y,Z,a0,a1,a2,a3,a4,a5,a6,a7,a8,a9,b0,b1,b2,b3,b4,b5,b6]) S =
  (zT (jf (dem b) S) (fun v1 S1=>zT (zK zi 60 v1 1 S1) (fun v2 S2=>zT (jm zi false 3 v2 S2) (fun v3 S3=>zT (wY zi BinOp.lss 3 v3 (.int .i64 2) S3) (fun v4 S4=>some ([b,x1,x2,x3,x4,x5,x6,x7,x8,x9,f,g,d,c,i,j,dem b,v1,v2,v3,v4,p,q,r,s,t,u,w,x,y,z,A,B,C,D,E,F,G,H,I,J,K,L,M,N,P,Q,R,U,V,W,X,Y,Z,a0,a1,a2,a3,a4,a5,a6,a7,a8,a9,b0,b1,b2,b3,b4,b5,b6],S4)) ()) ()) ()) ()):=by
 kernel_rfl
theorem zy.r6 :ji zi ⟨false,false,false⟩ (zU zi O) (reg Try.f11 6) (reg Try.f11 6).toList ([b,x1,x2,x3,x4,x5,x6,x7,x8,x9,f,g,d,c,i,j,k,l,m,n,o,p,q,r,s,t,u,w,x,y,z,A,B,C,D,E,F,G,H,I,J,K,L,M,N,P,Q,R,U,V,W,X,Y,Z,a0,a1,a2,a3,a4,a5,a6,a7,a8,a9,b0,b1,b2,b3,b4,b5,b6]) S =
  (zT (jf (dem b) S) (fun v1 S1=>zT (zK zi 60 v1 2 S1) (fun v2 S2=>zT (jm zi false 58 v2 S2) (fun v3 S3=>zT (zW zi 58 v3 (dem x4) S3) (fun v5 S4=>some ([b,x1,x2,x3,x4,v5,x6,x7,x8,x9,f,g,d,c,i,j,k,l,m,n,o,dem b,v1,v2,v3,dem x4,dem v5,w,x,y,z,A,B,C,D,E,F,G,H,I,J,K,L,M,N,P,Q,R,U,V,W,X,Y,Z,a0,a1,a2,a3,a4,a5,a6,a7,a8,a9,b0,b1,b2,b3,b4,b5,b6],S4)) ()) ()) ()) ()):=by
 kernel_rfl
theorem zy.d7:xk zi (reg Try.f11 7)=true:=by kernel_rfl
theorem zy.ff7:fixed zi (reg Try.f11 7)=false:=by kernel_rfl
theorem zy.k7:checked zi (reg Try.f11 7)=[]:=by kernel_rfl
theorem zy.g7:again zi (reg Try.f11 7)=[]:=by kernel_rfl
theorem zy.r7 :zC zi O false (.region 7 (reg Try.f11 7) true) ([b,x1,x2,x3,x4,x5,x6,x7,x8,x9,f,g,d,c,i,j,k,l,m,n,o,p,q,r,s,t,u,w,x,y,z,A,B,C,D,E,F,G,H,I,J,K,L,M,N,P,Q,R,U,V,W,X,Y,Z,a0,a1,a2,a3,a4,a5,a6,a7,a8,a9,b0,b1,b2,b3,b4,b5,b6]) S =
  aan (zT (jf (dem b) S) (fun v1 S1=>zT (zK zi 60 v1 0 S1) (fun v2 S2=>zT (jm zi false 3 v2 S2) (fun v3 S3=>zT (wY zi BinOp.add 3 v3 (.int .i64 1) S3) (fun v4 S4=>zT (jf (dem x5) S4) (fun v6 S5=>zT (zK zi 64 v6 1 S5) (fun v7 S6=>zT (jm zi false 3 v7 S6) (fun v8 S7=>zT (jf (dem b) S7) (fun b8 S8=>zT (zK zi 60 b8 1 S8) (fun b9 S9=>zT (jm zi false 3 b9 S9) (fun c0 c1=>zT (wY zi BinOp.sub 3 c0 (.int .i64 1) c1) (fun b7 c8=>zT (wY zi BinOp.rem 3 v8 b7 c8) (fun c3 c9=>zT (wY zi BinOp.add 3 v4 c3 c9) (fun c4 d0=>zT (jf (dem b) d0) (fun c5 d1=>zT (zK zi 60 c5 1 d1) (fun c6 d2=>zT (jm zi false 3 c6 d2) (fun c7 d3=>zT (wY zi BinOp.rem 3 c4 c7 d3) (fun c2 d4=>some ([b,x1,x2,x3,x4,x5,c2,x7,x8,x9,f,g,d,c,i,j,k,l,m,n,o,p,q,r,s,t,u,dem b,v1,v2,v3,v4,dem x5,v6,v7,v8,dem b,b8,b9,c0,b7,c3,c4,dem b,c5,c6,c7,dem c2,U,V,W,X,Y,Z,a0,a1,a2,a3,a4,a5,a6,a7,a8,a9,b0,b1,b2,b3,b4,b5,b6],d4)) ()) ()) ()) ()) ()) ()) ()) ()) ()) ()) ()) ()) ()) ()) ()) ()) ()):=by
 rw [Ze zy.d7 zy.ff7 zy.k7 zy.g7]
 refine congrArg aan ?_
 refine tP Try.f11 7 0 (v:=b) ?_
 refine tD Try.f11 7 1 (fun v1 S1=>?_)
 refine tD Try.f11 7 2 (fun v2 S2=>?_)
 refine tD Try.f11 7 3 (fun v3 S3=>?_)
 refine tD Try.f11 7 4 (fun v4 S4=>?_)
 refine tP Try.f11 7 5 (v:=x5) ?_
 refine tD Try.f11 7 6 (fun v6 S5=>?_)
 refine tD Try.f11 7 7 (fun v7 S6=>?_)
 refine tD Try.f11 7 8 (fun v8 S7=>?_)
 refine tP Try.f11 7 9 (v:=b) ?_
 refine tD Try.f11 7 10 (fun b8 S8=>?_)
 refine tD Try.f11 7 11 (fun b9 S9=>?_)
 refine tD Try.f11 7 12 (fun c0 c1=>?_)
 refine tD Try.f11 7 13 (fun b7 c8=>?_)
 refine tD Try.f11 7 14 (fun c3 c9=>?_)
 refine tD Try.f11 7 15 (fun c4 d0=>?_)
 refine tP Try.f11 7 16 (v:=b) ?_
 refine tD Try.f11 7 17 (fun c5 d1=>?_)
 refine tD Try.f11 7 18 (fun c6 d2=>?_)
 refine tD Try.f11 7 19 (fun c7 d3=>?_)
 refine tD Try.f11 7 20 (fun c2 d4=>?_)
 refine tP Try.f11 7 21 (v:=c2) ?_
 kernel_rfl
theorem zy.r8 :ji zi ⟨false,false,false⟩ (zU zi O) (reg Try.f11 8) (reg Try.f11 8).toList ([b,x1,x2,x3,x4,x5,x6,x7,x8,x9,f,g,d,c,i,j,k,l,m,n,o,p,q,r,s,t,u,w,x,y,z,A,B,C,D,E,F,G,H,I,J,K,L,M,N,P,Q,R,U,V,W,X,Y,Z,a0,a1,a2,a3,a4,a5,a6,a7,a8,a9,b0,b1,b2,b3,b4,b5,b6]) S =
  (zT (jf (dem x5) S) (fun v1 S1=>zT (zK zi 64 v1 1 S1) (fun v2 S2=>zT (jm zi false 3 v2 S2) (fun v3 S3=>zT (wY zi BinOp.add 3 v3 (.int .i64 1) S3) (fun v4 S4=>zT (jf (dem x5) S4) (fun v5 S5=>zT (zK zi 64 v5 1 S5) (fun v6 S6=>zT (yP zi 3 v6 (dem v4) S6) (fun v7 S7=>some ([b,x1,x2,x3,x4,x5,x6,x7,x8,x9,f,g,d,c,i,j,k,l,m,n,o,p,q,r,s,t,u,w,x,y,z,A,B,C,D,E,F,G,H,I,J,K,L,M,N,P,Q,R,dem x5,v1,v2,v3,v4,v5,v6,a1,a2,a3,a4,a5,a6,a7,a8,a9,b0,b1,b2,b3,b4,b5,b6],S7)) ()) ()) ()) ()) ()) ()) ()):=by
 kernel_rfl
theorem zy.d9:xk zi (reg Try.f11 9)=true:=by kernel_rfl
theorem zy.ff9:fixed zi (reg Try.f11 9)=false:=by kernel_rfl
theorem zy.k9:checked zi (reg Try.f11 9)=[0]:=by kernel_rfl
theorem zy.g9:again zi (reg Try.f11 9)=[]:=by kernel_rfl
theorem zy.r9 :zC zi O false (.region 9 (reg Try.f11 9) true) ([b,x1,x2,x3,x4,x5,x6,x7,x8,x9,f,g,d,c,i,j,k,l,m,n,o,p,q,r,s,t,u,w,x,y,z,A,B,C,D,E,F,G,H,I,J,K,L,M,N,P,Q,R,U,V,W,X,Y,Z,a0,a1,a2,a3,a4,a5,a6,a7,a8,a9,b0,b1,b2,b3,b4,b5,b6]) S =
  aan (okK x3 ( zT (jf (dem b) S) (fun v3 S1=>zT (zK zi 60 v3 0 S1) (fun v4 S2=>zT (jm zi false 3 v4 S2) (fun v5 S3=>zT (jf (dem x5) S3) (fun v7 S4=>zT (zK zi 64 v7 0 S4) (fun v8 S5=>zT (jm zi false 3 v8 S5) (fun v9 S6=>zT (wG zi 52 [(0,(.int .i64 2)),(1,(dem v5)),(4,(dem v9))] S6) (fun b8 S7=>zT (wG zi 54 [(0,(dem (dem x6))),(1,(dem b8))] S7) (fun b9 S8=>zT (wE zi 26 1 [(0,b9)] S8) (fun c0 S9=>zT (yY zi 26 26 x3 c0 S9) (fun b7 c1=>some ([b,x1,x2,b7,x4,x5,x6,x7,x8,x9,f,g,d,c,i,j,k,l,m,n,o,p,q,r,s,t,u,w,x,y,z,A,B,C,D,E,F,G,H,I,J,K,L,M,N,P,Q,R,U,V,W,X,Y,Z,a0,dem x3,dem x6,dem b,v3,v4,v5,dem x5,v7,v8,v9,b8,b9,c0,dem b7,b5,b6],c1)) ()) ()) ()) ()) ()) ()) ()) ()) ()) ()) ()):=by
 rw [Ze zy.d9 zy.ff9 zy.k9 zy.g9]
 refine congrArg aan ?_
 refine tPC Try.f11 9 0 (v:=x3) ?_
 refine tP Try.f11 9 1 (v:=x6) ?_
 refine tP Try.f11 9 2 (v:=b) ?_
 refine tD Try.f11 9 3 (fun v3 S1=>?_)
 refine tD Try.f11 9 4 (fun v4 S2=>?_)
 refine tD Try.f11 9 5 (fun v5 S3=>?_)
 refine tP Try.f11 9 6 (v:=x5) ?_
 refine tD Try.f11 9 7 (fun v7 S4=>?_)
 refine tD Try.f11 9 8 (fun v8 S5=>?_)
 refine tD Try.f11 9 9 (fun v9 S6=>?_)
 refine tD Try.f11 9 10 (fun b8 S7=>?_)
 refine tD Try.f11 9 11 (fun b9 S8=>?_)
 refine tD Try.f11 9 12 (fun c0 S9=>?_)
 refine tD Try.f11 9 13 (fun b7 c1=>?_)
 refine tP Try.f11 9 14 (v:=b7) ?_
 kernel_rfl
theorem zy.r10 :ji zi ⟨false,false,false⟩ (zU zi O) (reg Try.f11 10) (reg Try.f11 10).toList ([b,x1,x2,x3,x4,x5,x6,x7,x8,x9,f,g,d,c,i,j,k,l,m,n,o,p,q,r,s,t,u,w,x,y,z,A,B,C,D,E,F,G,H,I,J,K,L,M,N,P,Q,R,U,V,W,X,Y,Z,a0,a1,a2,a3,a4,a5,a6,a7,a8,a9,b0,b1,b2,b3,b4,b5,b6]) S =
  (zT (wY zi BinOp.add 3 c (.int .i64 1) S) (fun v0 S1=>some ([b,x1,x2,x3,x4,x5,x6,x7,x8,x9,f,g,d,dem v0,i,j,k,l,m,n,o,p,q,r,s,t,u,w,x,y,z,A,B,C,D,E,F,G,H,I,J,K,L,M,N,P,Q,R,U,V,W,X,Y,Z,a0,a1,a2,a3,a4,a5,a6,a7,a8,a9,b0,b1,b2,b3,b4,v0,b6],S1)) ()):=by
 kernel_rfl
theorem zy.r11 :ji zi ⟨false,false,false⟩ (zU zi O) (reg Try.f11 11) (reg Try.f11 11).toList ([b,x1,x2,x3,x4,x5,x6,x7,x8,x9,f,g,d,c,i,j,k,l,m,n,o,p,q,r,s,t,u,w,x,y,z,A,B,C,D,E,F,G,H,I,J,K,L,M,N,P,Q,R,U,V,W,X,Y,Z,a0,a1,a2,a3,a4,a5,a6,a7,a8,a9,b0,b1,b2,b3,b4,b5,b6]) S =
  ( some ([b,x1,x3,dem x3,x4,x5,x6,x7,x8,x9,f,g,d,c,i,j,k,l,m,n,o,p,q,r,s,t,u,w,x,y,z,A,B,C,D,E,F,G,H,I,J,K,L,M,N,P,Q,R,U,V,W,X,Y,Z,a0,a1,a2,a3,a4,a5,a6,a7,a8,a9,b0,b1,b2,b3,b4,b5,dem x3],S)):=by
 kernel_rfl
theorem zy.rs:type_of% (ad6 @zy.r0 (ad6 @zy.r1 (ad6 @zy.r2 (ad6 @zy.r3 (ad6 @zy.r4 (ad6 @zy.r5 (ad6 @zy.r6 (ad6 @zy.r7 (ad6 @zy.r8 (ad6 @zy.r9 (ad6 @zy.r10 (@zy.r11)))))))))))):=ad6 @zy.r0 (ad6 @zy.r1 (ad6 @zy.r2 (ad6 @zy.r3 (ad6 @zy.r4 (ad6 @zy.r5 (ad6 @zy.r6 (ad6 @zy.r7 (ad6 @zy.r8 (ad6 @zy.r9 (ad6 @zy.r10 (@zy.r11)))))))))))
theorem zy.runs {b:Value} {S S1:zx} {e:AEx} {T:List Value} (h:zC zi O false zy.code ([b,zh,zh,zh,zh,zh,zh,zh,zh,zh,zh,zh,zh,zh,zh,zh,zh,zh,zh,zh,zh,zh,zh,zh,zh,zh,zh,zh,zh,zh,zh,zh,zh,zh,zh,zh,zh,zh,zh,zh,zh,zh,zh,zh,zh,zh,zh,zh,zh,zh,zh,zh,zh,zh,zh,zh,zh,zh,zh,zh,zh,zh,zh,zh,zh,zh,zh,zh,zh,zh,zh]) S=some (e,T,S1)) (he:e=.normal∨e=.ret):zU zi O 11 [b] S=some (T.getD 2 zh,S1) :=
 jJ rfl rfl Try.func11 (by decide) zy.body (by exact h) he (wH (a:=T.getD 2 zh) ((show zJ zi T S1 Try.f11.results.toList=zJ zi T S1 [(ResultVar.tmp 2)] from by kernel_rfl).trans (by simp only [zJ])) (by kernel_rfl))
end Go.Proofs.Ytpjglojnipjgfaa
namespace Go.Proofs.Ytpjglojnipjgfaa
open Go.Abs
abbrev jg.id:FuncId:=9
noncomputable def jg.code:Code:=(.seq (.region 0 (reg Try.f9 0) false) (.seq (.region 1 (reg Try.f9 1) false) Code.ret))
theorem jg.body:Try.f9.body=some jg.code:=by kernel_rfl
variable (b c f g m i j k l:Value) (S:zx)
theorem jg.r0 :ji zi ⟨false,false,false⟩ (zU zi O) (reg Try.f9 0) (reg Try.f9 0).toList ([b,c,f,g,m,i,j,k,l]) S =
  ( some ([b,c,f,g,Value.pointer none,i,j,k,l],S)):=by
 kernel_rfl
theorem jg.r1 :ji zi ⟨false,false,false⟩ (zU zi O) (reg Try.f9 1) (reg Try.f9 1).toList ([b,c,f,g,m,i,j,k,l]) S =
  (zT (wG zi 60 [(0,(dem (dem b))),(1,(dem (dem c)))] S) (fun n d=>zT (Xm (dem n) d) (fun o p=>some ([b,c,f,g,o,dem b,dem c,n,dem o],p)) ()) ()):=by
 kernel_rfl
theorem jg.rs:type_of% (ad6 @jg.r0 (@jg.r1)):=ad6 @jg.r0 (@jg.r1)
theorem jg.runs {b c:Value} {S d:zx} {e:AEx} {T:List Value} (h:zC zi O false jg.code ([b,c,zh,zh,zh,zh,zh,zh,zh]) S=some (e,T,d)) (he:e=.normal∨e=.ret):zU zi O 9 [b,c] S=some (T.getD 4 zh,d) :=
 jJ rfl rfl Try.func9 (by decide) jg.body (by exact h) he (wH (a:=T.getD 4 zh) ((show zJ zi T d Try.f9.results.toList=zJ zi T d [(ResultVar.tmp 4)] from by kernel_rfl).trans (by simp only [zJ])) (by kernel_rfl))
end Go.Proofs.Ytpjglojnipjgfaa
namespace Go.Proofs.Ytpjglojnipjgfaa
open Go.Abs
abbrev zA.id:FuncId:=18
noncomputable def zA.jd:Code:=(.seq (.region 3 (reg Try.f18 3) false) (.seq (.cond (.tmp 12) Code.skip (.exit 0)) (.seq (.block 1 (.seq (.region 4 (reg Try.f18 4) false) (.region 5 (reg Try.f18 5) false))) (.region 6 (reg Try.f18 6) false))))
noncomputable def zA.code:Code:=(.seq (.region 0 (reg Try.f18 0) false) (.seq (.region 1 (reg Try.f18 1) false) (.seq (.seq (.region 2 (reg Try.f18 2) false) (.block 0 (.loop zA.jd))) (.seq (.region 7 (reg Try.f18 7) false) Code.ret))))
theorem zA.body:Try.f18.body=some zA.code:=by kernel_rfl
theorem zA.eta {T:List Value} (h:T.length=22):T=[T.getD 0 zh,T.getD 1 zh,T.getD 2 zh,T.getD 3 zh,T.getD 4 zh,T.getD 5 zh,T.getD 6 zh,T.getD 7 zh,T.getD 8 zh,T.getD 9 zh,T.getD 10 zh,T.getD 11 zh,T.getD 12 zh,T.getD 13 zh,T.getD 14 zh,T.getD 15 zh,T.getD 16 zh,T.getD 17 zh,T.getD 18 zh,T.getD 19 zh,T.getD 20 zh,T.getD 21 zh]:=(qx T 22 h).trans (by kernel_rfl)
variable (p r y q s t v w x u c b d f g i j k l m n o:Value) (S:zx)
theorem zA.r0 :ji zi ⟨false,false,false⟩ (zU zi O) (reg Try.f18 0) (reg Try.f18 0).toList ([p,r,y,q,s,t,v,w,x,u,c,b,d,f,g,i,j,k,l,m,n,o]) S =
  ( some ([p,r,Value.slice none 0 0,q,s,t,v,w,x,u,c,b,d,f,g,i,j,k,l,m,n,o],S)):=by
 kernel_rfl
theorem zA.r1 :ji zi ⟨false,false,false⟩ (zU zi O) (reg Try.f18 1) (reg Try.f18 1).toList ([p,r,y,q,s,t,v,w,x,u,c,b,d,f,g,i,j,k,l,m,n,o]) S =
  ( some ([p,r,y,Value.slice none 0 0,s,t,v,w,x,u,c,b,d,f,g,i,j,k,l,m,n,o],S)):=by
 kernel_rfl
theorem zA.r2 :ji zi ⟨false,false,false⟩ (zU zi O) (reg Try.f18 2) (reg Try.f18 2).toList ([p,r,y,q,s,t,v,w,x,u,c,b,d,f,g,i,j,k,l,m,n,o]) S =
  (zT (jf (dem p) S) (fun A z=>zT (zK zi 60 A 2 z) (fun B E=>zT (jm zi false 58 B E) (fun D F=>zT (Z7 zi 58 D F) (fun H G=>some ([p,r,y,q,s,t,dem p,A,B,D,H,.int .i64 0,d,f,g,i,j,k,l,m,n,o],G)) ()) ()) ()) ()):=by
 kernel_rfl
theorem zA.r3 :ji zi ⟨false,false,false⟩ (zU zi O) (reg Try.f18 3) (reg Try.f18 3).toList ([p,r,y,q,s,t,v,w,x,u,c,b,d,f,g,i,j,k,l,m,n,o]) S =
  (zT (wY zi BinOp.lss 3 b c S) (fun C z=>some ([p,r,y,q,s,t,v,w,x,u,c,b,C,f,g,i,j,k,l,m,n,o],z)) ()):=by
 kernel_rfl
theorem zA.r4 :ji zi ⟨false,false,false⟩ (zU zi O) (reg Try.f18 4) (reg Try.f18 4).toList ([p,r,y,q,s,t,v,w,x,u,c,b,d,f,g,i,j,k,l,m,n,o]) S =
  (zT (zW zi 58 u b S) (fun C z=>zT (jm zi false 64 C z) (fun A E=>zT (qJ zi 64 E) (fun B F=>zT (yP zi 64 B (dem A) F) (fun D G=>some ([p,r,y,q,s,B,v,w,x,u,c,b,d,C,A,i,j,k,l,m,n,o],G)) ()) ()) ()) ()):=by
 kernel_rfl
theorem zA.r5 :ji zi ⟨false,false,false⟩ (zU zi O) (reg Try.f18 5) (reg Try.f18 5).toList ([p,r,y,q,s,t,v,w,x,u,c,b,d,f,g,i,j,k,l,m,n,o]) S =
  (zT (zK zi 64 t 0 S) (fun A z=>zT (jm zi false 3 A z) (fun B E=>zT (wE zi 29 1 [(0,B)] E) (fun D F=>zT (yY zi 29 29 q D F) (fun H G=>some ([p,r,y,H,s,t,v,w,x,u,c,b,d,f,g,dem q,A,B,D,dem H,n,o],G)) ()) ()) ()) ()):=by
 kernel_rfl
theorem zA.r6 :ji zi ⟨false,false,false⟩ (zU zi O) (reg Try.f18 6) (reg Try.f18 6).toList ([p,r,y,q,s,t,v,w,x,u,c,b,d,f,g,i,j,k,l,m,n,o]) S =
  (zT (wY zi BinOp.add 3 b (.int .i64 1) S) (fun C z=>some ([p,r,y,q,s,t,v,w,x,u,c,dem C,d,f,g,i,j,k,l,m,C,o],z)) ()):=by
 kernel_rfl
theorem zA.r7 :ji zi ⟨false,false,false⟩ (zU zi O) (reg Try.f18 7) (reg Try.f18 7).toList ([p,r,y,q,s,t,v,w,x,u,c,b,d,f,g,i,j,k,l,m,n,o]) S =
  ( some ([p,r,q,dem q,s,t,v,w,x,u,c,b,d,f,g,i,j,k,l,m,n,dem q],S)):=by
 kernel_rfl
theorem zA.rs:type_of% (ad6 @zA.r0 (ad6 @zA.r1 (ad6 @zA.r2 (ad6 @zA.r3 (ad6 @zA.r4 (ad6 @zA.r5 (ad6 @zA.r6 (@zA.r7)))))))):=ad6 @zA.r0 (ad6 @zA.r1 (ad6 @zA.r2 (ad6 @zA.r3 (ad6 @zA.r4 (ad6 @zA.r5 (ad6 @zA.r6 (@zA.r7)))))))
theorem zA.runs {p:Value} {S z:zx} {e:AEx} {T:List Value} (h:zC zi O false zA.code ([p,zh,zh,zh,zh,zh,zh,zh,zh,zh,zh,zh,zh,zh,zh,zh,zh,zh,zh,zh,zh,zh]) S=some (e,T,z)) (he:e=.normal∨e=.ret):zU zi O 18 [p] S=some (T.getD 2 zh,z) :=
 jJ rfl rfl Try.func18 (by decide) zA.body (by exact h) he (wH (a:=T.getD 2 zh) ((show zJ zi T z Try.f18.results.toList=zJ zi T z [(ResultVar.tmp 2)] from by kernel_rfl).trans (by simp only [zJ])) (by kernel_rfl))
end Go.Proofs.Ytpjglojnipjgfaa
namespace Go.Proofs.Ytpjglojnipjgfaa
open Go.Abs
abbrev zB.id:FuncId:=10
noncomputable def zB.code:Code:=(.seq (.region 0 (reg Try.f10 0) false) (.seq (.seq (.region 1 (reg Try.f10 1) false) (.cond (.tmp 21) (.seq (.region 2 (reg Try.f10 2) false) Code.ret) Code.skip)) (.seq (.region 3 (reg Try.f10 3) false) (.seq (.region 4 (reg Try.f10 4) false) Code.ret))))
theorem zB.body:Try.f10.body=some zB.code:=by kernel_rfl
variable (b c G H Q J K L M N d f g i k l m n o p q r s t u w x y z A B C D:Value) (S:zx)
theorem zB.r0 :ji zi ⟨true,false,false⟩ (jP O.hp true (zU zi O)) (reg Try.f10 0) (reg Try.f10 0).toList ([b,c,G,H,Q,J,K,L,M,N,d,f,g,i,k,l,m,n,o,p,q,r,s,t,u,w,x,y,z,A,B,C,D]) S =
  ( some ([b,c,G,H,Value.bool false,J,K,L,M,N,d,f,g,i,k,l,m,n,o,p,q,r,s,t,u,w,x,y,z,A,B,C,D],S)):=by
 kernel_rfl
theorem zB.r1 :ji zi ⟨true,false,false⟩ (jP O.hp true (zU zi O)) (reg Try.f10 1) (reg Try.f10 1).toList ([b,c,G,H,Q,J,K,L,M,N,d,f,g,i,k,l,m,n,o,p,q,r,s,t,u,w,x,y,z,A,B,C,D]) S =
  (zT (kF (zU zi O) 19 [(dem (dem c))] S) (fun v1 P=>zT (wY zi BinOp.eql 3 v1 (.int .i64 0) P) (fun F S2=>gdK (dem F) false (ret b) S2 (fun U S3=>gdK (dem F) false (kF (zU zi O) 18 [(dem (dem U))]) S3 (fun v5 S4=>gdK (dem F) false (ret c) S4 (fun V S5=>gdK (dem F) false (kF (zU zi O) 20 [(dem v5),(dem (dem V))]) S5 (fun W S6=>zT (vK (dem F) (Value.bool true) W S6) (fun E S7=>gdK (dem E) false (ret b) S7 (fun I S8=>gdK (dem E) false (jf (dem I)) S8 (fun R S9=>gdK (dem E) false (zK zi 60 R 2) S9 (fun X a1=>gdK (dem E) false (jm zi false 58 X) a1 (fun Y a2=>gdK (dem E) false (Z7 zi 58 Y) a2 (fun Z a3=>gdK (dem E) false (wY zi BinOp.geq 3 Z (.int .i64 32)) a3 (fun a0 a4=>zT (vK (dem E) (Value.bool true) a0 a4) (fun a5 a6=>some ([b,c,G,H,Q,dem c,v1,F,dem F,dem U,v5,dem V,W,E,dem E,dem I,R,X,Y,Z,a0,a5,s,t,u,w,x,y,z,A,B,C,D],a6)) ()) ()) ()) ()) ()) ()) ()) ()) ()) ()) ()) ()) ()) ()):=by
 refine sP Try.f10 1 0 (v:=c) ?_
 refine sD Try.f10 1 1 (fun v1 P=>?_)
 refine sD Try.f10 1 2 (fun F S2=>?_)
 refine sP Try.f10 1 3 (v:=F) ?_
 refine sG Try.f10 1 4 (j:=3) (fun U S3=>?_)
 refine sG Try.f10 1 5 (j:=3) (fun v5 S4=>?_)
 refine sG Try.f10 1 6 (j:=3) (fun V S5=>?_)
 refine sG Try.f10 1 7 (j:=3) (fun W S6=>?_)
 refine sD Try.f10 1 8 (fun E S7=>?_)
 refine sP Try.f10 1 9 (v:=E) ?_
 refine sG Try.f10 1 10 (j:=9) (fun I S8=>?_)
 refine sG Try.f10 1 11 (j:=9) (fun R S9=>?_)
 refine sG Try.f10 1 12 (j:=9) (fun X a1=>?_)
 refine sG Try.f10 1 13 (j:=9) (fun Y a2=>?_)
 refine sG Try.f10 1 14 (j:=9) (fun Z a3=>?_)
 refine sG Try.f10 1 15 (j:=9) (fun a0 a4=>?_)
 refine sD Try.f10 1 16 (fun a5 a6=>?_)
 kernel_rfl
theorem zB.r2 :ji zi ⟨true,false,false⟩ (jP O.hp true (zU zi O)) (reg Try.f10 2) (reg Try.f10 2).toList ([b,c,G,H,Q,J,K,L,M,N,d,f,g,i,k,l,m,n,o,p,q,r,s,t,u,w,x,y,z,A,B,C,D]) S =
  ( some ([b,c,G,H,Value.bool false,J,K,L,M,N,d,f,g,i,k,l,m,n,o,p,q,r,s,t,u,w,x,y,z,A,B,C,D],S)):=by
 kernel_rfl
theorem zB.r3 :ji zi ⟨true,false,false⟩ (jP O.hp true (zU zi O)) (reg Try.f10 3) (reg Try.f10 3).toList ([b,c,G,H,Q,J,K,L,M,N,d,f,g,i,k,l,m,n,o,p,q,r,s,t,u,w,x,y,z,A,B,C,D]) S =
  (zT (jf (dem b) S) (fun F P=>zT (zK zi 60 F 2 P) (fun v3 S2=>zT (jm zi false 58 v3 S2) (fun U S3=>zT (wG zi 64 [(0,(dem (dem c)))] S3) (fun V S4=>zT (jl zi 58 1 [(0,(dem V))] S4) (fun W S5=>zT (wS zi true 58 58 U W S5) (fun E S6=>zT (jf (dem b) S6) (fun v9 S7=>zT (zK zi 60 v9 2 S7) (fun I S8=>zT (yP zi 58 I (dem E) S8) (fun R S9=>some ([b,c,G,H,Q,J,K,L,M,N,d,f,g,i,k,l,m,n,o,p,q,r,dem b,dem b,F,v3,dem U,dem c,V,W,E,v9,I],S9)) ()) ()) ()) ()) ()) ()) ()) ()) ()):=by
 kernel_rfl
theorem zB.r4 :ji zi ⟨true,false,false⟩ (jP O.hp true (zU zi O)) (reg Try.f10 4) (reg Try.f10 4).toList ([b,c,G,H,Q,J,K,L,M,N,d,f,g,i,k,l,m,n,o,p,q,r,s,t,u,w,x,y,z,A,B,C,D]) S =
  ( some ([b,c,G,H,Value.bool true,J,K,L,M,N,d,f,g,i,k,l,m,n,o,p,q,r,s,t,u,w,x,y,z,A,B,C,D],S)):=by
 kernel_rfl
theorem zB.rs:type_of% (ad6 @zB.r0 (ad6 @zB.r1 (ad6 @zB.r2 (ad6 @zB.r3 (@zB.r4))))):=ad6 @zB.r0 (ad6 @zB.r1 (ad6 @zB.r2 (ad6 @zB.r3 (@zB.r4))))
theorem zB.runs {b c:Value} {S P:zx} {e:AEx} {T:List Value} (h:zC zi O true zB.code ([b,c,zh,zh,zh,zh,zh,zh,zh,zh,zh,zh,zh,zh,zh,zh,zh,zh,zh,zh,zh,zh,zh,zh,zh,zh,zh,zh,zh,zh,zh,zh,zh]) S=some (e,T,P)) (he:e=.normal∨e=.ret):zU zi O 10 [b,c] S=some (T.getD 4 zh,P) :=
 jJ rfl rfl Try.func10 (by decide) zB.body (by exact h) he (wH (a:=T.getD 4 zh) ((show zJ zi T P Try.f10.results.toList=zJ zi T P [(ResultVar.tmp 4)] from by kernel_rfl).trans (by simp only [zJ])) (by kernel_rfl))
end Go.Proofs.Ytpjglojnipjgfaa
namespace Go.Proofs.Ytpjglojnipjgfaa
open Go.Abs
abbrev zH.id:FuncId:=13
noncomputable def zH.code:Code:=(.seq (.region 0 (reg Try.f13 0) false) (.region 1 (reg Try.f13 1) false))
theorem zH.body:Try.f13.body=some zH.code:=by kernel_rfl
variable (a b j d k l m n o p f g i:Value) (S:zx)
theorem zH.r0 :ji zi ⟨false,false,false⟩ (zU zi O) (reg Try.f13 0) (reg Try.f13 0).toList ([a,b,j,d,k,l,m,n,o,p,f,g,i]) S =
  (zT (Xm (dem b) S) (fun w c=>some ([a,b,j,w,k,l,m,n,o,p,f,g,i],c)) ()):=by
 kernel_rfl
theorem zH.r1 :ji zi ⟨false,false,false⟩ (zU zi O) (reg Try.f13 1) (reg Try.f13 1).toList ([a,b,j,d,k,l,m,n,o,p,f,g,i]) S =
  (zT (jf (dem a) S) (fun q c=>zT (zK zi 60 q 2 c) (fun r x=>zT (jm zi false 58 r x) (fun s y=>zT ((zU zi O) 22 [(dem s),(Value.func (Fn.func 23) #[] #[(dem d)])] y) (fun t z=>zT (jf (dem a) z) (fun u A=>zT (zK zi 60 u 2 A) (fun v B=>zT (yP zi 58 v (dem t) B) (fun D C=>some ([a,b,j,d,dem a,dem a,q,r,s,Value.func (Fn.func 23) #[] #[(dem d)],t,u,v],C)) ()) ()) ()) ()) ()) ()) ()):=by
 kernel_rfl
theorem zH.rs:type_of% (ad6 @zH.r0 (@zH.r1)):=ad6 @zH.r0 (@zH.r1)
theorem zH.runs {a b:Value} {S c:zx} {e:AEx} {T:List Value} (h:zC zi O false zH.code ([a,b,zh,zh,zh,zh,zh,zh,zh,zh,zh,zh,zh]) S=some (e,T,c)) (he:e=.normal∨e=.ret):zU zi O 13 [a,b] S=some (Value.tuple #[],c) :=
 jJ rfl rfl Try.func13 (by decide) zH.body (by exact h) he rfl
end Go.Proofs.Ytpjglojnipjgfaa
namespace Go.Proofs.Ytpjglojnipjgfaa
open Go.Abs
abbrev zF.id:FuncId:=23
noncomputable def zF.code:Code:=(.seq (.region 0 (reg Try.f23 0) false) (.seq (.region 1 (reg Try.f23 1) false) Code.ret))
theorem zF.body:Try.f23.body=some zF.code:=by kernel_rfl
variable (b c f m i j k l:Value) (S:zx)
theorem zF.r0 :ji zi ⟨false,false,false⟩ (zU zi O) (reg Try.f23 0) (reg Try.f23 0).toList ([b,c,f,m,i,j,k,l]) S =
  (zT (Xm (dem b) S) (fun g d=>some ([b,c,g,Value.bool false,i,j,k,l],d)) ()):=by
 kernel_rfl
theorem zF.r1 :ji zi ⟨false,false,false⟩ (zU zi O) (reg Try.f23 1) (reg Try.f23 1).toList ([b,c,f,m,i,j,k,l]) S =
  (zT (zK zi 64 f 0 S) (fun g d=>zT (jm zi false 3 g d) (fun n q=>zT (jm zi false 3 c q) (fun o r=>zT (wY zi BinOp.eql 3 n o r) (fun p s=>some ([b,c,f,p,g,n,o,dem p],s)) ()) ()) ()) ()):=by
 kernel_rfl
theorem zF.rs:type_of% (ad6 @zF.r0 (@zF.r1)):=ad6 @zF.r0 (@zF.r1)
theorem zF.runs {b c:Value} {S d:zx} {e:AEx} {T:List Value} (h:zC zi O false zF.code ([b,c,zh,zh,zh,zh,zh,zh]) S=some (e,T,d)) (he:e=.normal∨e=.ret):zU zi O 23 [b,c] S=some (T.getD 3 zh,d) :=
 jJ rfl rfl Try.func23 (by decide) zF.body (by exact h) he (wH (a:=T.getD 3 zh) ((show zJ zi T d Try.f23.results.toList=zJ zi T d [(ResultVar.tmp 3)] from by kernel_rfl).trans (by simp only [zJ])) (by kernel_rfl))
end Go.Proofs.Ytpjglojnipjgfaa
namespace Go.Proofs.Ytpjglojnipjgfaa
open Go.Abs
abbrev slices_IndexFunc.id:FuncId:=27
noncomputable def slices_IndexFunc.jd:Code:=(.seq (.region 2 (reg Try.f27 2) false) (.seq (.cond (.tmp 9) Code.skip (.exit 0)) (.seq (.block 1 (.seq (.region 3 (reg Try.f27 3) false) (.seq (.region 4 (reg Try.f27 4) false) (.cond (.tmp 16) (.seq (.region 5 (reg Try.f27 5) false) Code.ret) Code.skip)))) (.region 6 (reg Try.f27 6) false))))
noncomputable def slices_IndexFunc.code:Code:=(.seq (.region 0 (reg Try.f27 0) false) (.seq (.seq (.region 1 (reg Try.f27 1) false) (.block 0 (.loop slices_IndexFunc.jd))) (.seq (.region 7 (reg Try.f27 7) false) Code.ret)))
theorem slices_IndexFunc.body:Try.f27.body=some slices_IndexFunc.code:=by kernel_rfl
theorem slices_IndexFunc.eta {T:List Value} (h:T.length=19):T=[T.getD 0 zh,T.getD 1 zh,T.getD 2 zh,T.getD 3 zh,T.getD 4 zh,T.getD 5 zh,T.getD 6 zh,T.getD 7 zh,T.getD 8 zh,T.getD 9 zh,T.getD 10 zh,T.getD 11 zh,T.getD 12 zh,T.getD 13 zh,T.getD 14 zh,T.getD 15 zh,T.getD 16 zh,T.getD 17 zh,T.getD 18 zh]:=(qx T 19 h).trans (by kernel_rfl)
variable (b n q r v o t s p u c d f g i j k l m:Value) (S:zx)
theorem slices_IndexFunc.r0 :ji zi ⟨false,false,false⟩ (zU zi O) (reg Try.f27 0) (reg Try.f27 0).toList ([b,n,q,r,v,o,t,s,p,u,c,d,f,g,i,j,k,l,m]) S =
  ( some ([b,n,q,r,.int .i64 0,o,t,s,p,u,c,d,f,g,i,j,k,l,m],S)):=by
 kernel_rfl
theorem slices_IndexFunc.r1 :ji zi ⟨false,false,false⟩ (zU zi O) (reg Try.f27 1) (reg Try.f27 1).toList ([b,n,q,r,v,o,t,s,p,u,c,d,f,g,i,j,k,l,m]) S =
  (zT (Z7 zi 58 (dem b) S) (fun A w=>some ([b,n,q,r,v,o,dem b,A,.int .i64 0,u,c,d,f,g,i,j,k,l,m],w)) ()):=by
 kernel_rfl
theorem slices_IndexFunc.r2 :ji zi ⟨false,false,false⟩ (zU zi O) (reg Try.f27 2) (reg Try.f27 2).toList ([b,n,q,r,v,o,t,s,p,u,c,d,f,g,i,j,k,l,m]) S =
  (zT (wY zi BinOp.lss 3 p s S) (fun x w=>some ([b,n,q,r,v,o,t,s,p,x,c,d,f,g,i,j,k,l,m],w)) ()):=by
 kernel_rfl
theorem slices_IndexFunc.r3 :ji zi ⟨false,false,false⟩ (zU zi O) (reg Try.f27 3) (reg Try.f27 3).toList ([b,n,q,r,v,o,t,s,p,u,c,d,f,g,i,j,k,l,m]) S =
  ( some ([b,n,q,r,v,p,t,s,dem p,u,dem p,d,f,g,i,j,k,l,m],S)):=by
 kernel_rfl
theorem slices_IndexFunc.r4 :ji zi ⟨false,false,false⟩ (zU zi O) (reg Try.f27 4) (reg Try.f27 4).toList ([b,n,q,r,v,o,t,s,p,u,c,d,f,g,i,j,k,l,m]) S =
  (zT (zW zi 58 (dem b) (dem o) S) (fun y w=>zT (jm zi false 64 y w) (fun z B=>zT (adB (zU zi O) (dem n) [(dem z)] B) (fun C D=>some ([b,n,q,r,v,o,t,s,p,u,c,dem n,dem b,dem o,y,z,C,l,m],D)) ()) ()) ()):=by
 kernel_rfl
theorem slices_IndexFunc.r5 :ji zi ⟨false,false,false⟩ (zU zi O) (reg Try.f27 5) (reg Try.f27 5).toList ([b,n,q,r,v,o,t,s,p,u,c,d,f,g,i,j,k,l,m]) S =
  ( some ([b,n,q,r,o,dem o,t,s,p,u,c,d,f,g,i,j,k,dem o,m],S)):=by
 kernel_rfl
theorem slices_IndexFunc.r6 :ji zi ⟨false,false,false⟩ (zU zi O) (reg Try.f27 6) (reg Try.f27 6).toList ([b,n,q,r,v,o,t,s,p,u,c,d,f,g,i,j,k,l,m]) S =
  (zT (wY zi BinOp.add 3 p (.int .i64 1) S) (fun x w=>some ([b,n,q,r,v,o,t,s,dem x,u,c,d,f,g,i,j,k,l,x],w)) ()):=by
 kernel_rfl
theorem slices_IndexFunc.r7 :ji zi ⟨false,false,false⟩ (zU zi O) (reg Try.f27 7) (reg Try.f27 7).toList ([b,n,q,r,v,o,t,s,p,u,c,d,f,g,i,j,k,l,m]) S =
  ( some ([b,n,q,r,.int .i64 (-1),o,t,s,p,u,c,d,f,g,i,j,k,l,m],S)):=by
 kernel_rfl
theorem slices_IndexFunc.rs:type_of% (ad6 @slices_IndexFunc.r0 (ad6 @slices_IndexFunc.r1 (ad6 @slices_IndexFunc.r2 (ad6 @slices_IndexFunc.r3 (ad6 @slices_IndexFunc.r4 (ad6 @slices_IndexFunc.r5 (ad6 @slices_IndexFunc.r6 (@slices_IndexFunc.r7)))))))):=ad6 @slices_IndexFunc.r0 (ad6 @slices_IndexFunc.r1 (ad6 @slices_IndexFunc.r2 (ad6 @slices_IndexFunc.r3 (ad6 @slices_IndexFunc.r4 (ad6 @slices_IndexFunc.r5 (ad6 @slices_IndexFunc.r6 (@slices_IndexFunc.r7)))))))
theorem slices_IndexFunc.runs {b n:Value} {S w:zx} {e:AEx} {T:List Value} (h:zC zi O false slices_IndexFunc.code ([b,n,zh,zh,zh,zh,zh,zh,zh,zh,zh,zh,zh,zh,zh,zh,zh,zh,zh]) S=some (e,T,w)) (he:e=.normal∨e=.ret):zU zi O 27 [b,n] S=some (T.getD 4 zh,w) :=
 jJ rfl rfl Try.func27 (by decide) slices_IndexFunc.body (by exact h) he (wH (a:=T.getD 4 zh) ((show zJ zi T w Try.f27.results.toList=zJ zi T w [(ResultVar.tmp 4)] from by kernel_rfl).trans (by simp only [zJ])) (by kernel_rfl))
end Go.Proofs.Ytpjglojnipjgfaa
namespace Go.Proofs.Ytpjglojnipjgfaa
open Go.Abs
abbrev slices_DeleteFunc.id:FuncId:=22
noncomputable def slices_DeleteFunc.jd:Code:=(.seq (.seq (.region 5 (reg Try.f22 5) false) (.cond (.tmp 19) Code.skip (.exit 0))) (.seq (.block 1 (.seq (.region 7 (reg Try.f22 7) false) (.seq (.region 8 (reg Try.f22 8) false) (.cond (.tmp 29) (.seq (.region 9 (reg Try.f22 9) false) (.region 10 (reg Try.f22 10) false)) Code.skip)))) (.region 6 (reg Try.f22 6) false)))
noncomputable def slices_DeleteFunc.code:Code:=(.seq (.region 0 (reg Try.f22 0) false) (.seq (.region 1 (reg Try.f22 1) false) (.seq (.seq (.region 2 (reg Try.f22 2) false) (.cond (.tmp 12) (.seq (.region 3 (reg Try.f22 3) false) Code.ret) Code.skip)) (.seq (.seq (.region 4 (reg Try.f22 4) false) (.block 0 (.loop slices_DeleteFunc.jd))) (.seq (.region 11 (reg Try.f22 11) false) (.seq (.region 12 (reg Try.f22 12) false) Code.ret))))))
theorem slices_DeleteFunc.body:Try.f22.body=some slices_DeleteFunc.code:=by kernel_rfl
theorem slices_DeleteFunc.eta {T:List Value} (h:T.length=42):T=[T.getD 0 zh,T.getD 1 zh,T.getD 2 zh,T.getD 3 zh,T.getD 4 zh,T.getD 5 zh,T.getD 6 zh,T.getD 7 zh,T.getD 8 zh,T.getD 9 zh,T.getD 10 zh,T.getD 11 zh,T.getD 12 zh,T.getD 13 zh,T.getD 14 zh,T.getD 15 zh,T.getD 16 zh,T.getD 17 zh,T.getD 18 zh,T.getD 19 zh,T.getD 20 zh,T.getD 21 zh,T.getD 22 zh,T.getD 23 zh,T.getD 24 zh,T.getD 25 zh,T.getD 26 zh,T.getD 27 zh,T.getD 28 zh,T.getD 29 zh,T.getD 30 zh,T.getD 31 zh,T.getD 32 zh,T.getD 33 zh,T.getD 34 zh,T.getD 35 zh,T.getD 36 zh,T.getD 37 zh,T.getD 38 zh,T.getD 39 zh,T.getD 40 zh,T.getD 41 zh]:=(qx T 42 h).trans (by kernel_rfl)
variable (b L P Q W K M N U V c d f g i j k l m n o p q r s t u v w x y z A B C D E F G H I J:Value) (S:zx)
theorem slices_DeleteFunc.r0 :ji zi ⟨true,false,false⟩ (jP O.hp true (zU zi O)) (reg Try.f22 0) (reg Try.f22 0).toList ([b,L,P,Q,W,K,M,N,U,V,c,d,f,g,i,j,k,l,m,n,o,p,q,r,s,t,u,v,w,x,y,z,A,B,C,D,E,F,G,H,I,J]) S =
  ( some ([b,L,P,Q,Value.slice none 0 0,K,M,N,U,V,c,d,f,g,i,j,k,l,m,n,o,p,q,r,s,t,u,v,w,x,y,z,A,B,C,D,E,F,G,H,I,J],S)):=by
 kernel_rfl
theorem slices_DeleteFunc.r1 :ji zi ⟨true,false,false⟩ (jP O.hp true (zU zi O)) (reg Try.f22 1) (reg Try.f22 1).toList ([b,L,P,Q,W,K,M,N,U,V,c,d,f,g,i,j,k,l,m,n,o,p,q,r,s,t,u,v,w,x,y,z,A,B,C,D,E,F,G,H,I,J]) S =
  (zT (kF (zU zi O) 27 [(dem (dem b)),(dem (dem L))] S) (fun X R=>some ([b,L,P,Q,W,X,M,N,dem b,dem L,dem X,d,f,g,i,j,k,l,m,n,o,p,q,r,s,t,u,v,w,x,y,z,A,B,C,D,E,F,G,H,I,J],R)) ()):=by
 kernel_rfl
theorem slices_DeleteFunc.r2 :ji zi ⟨true,false,false⟩ (jP O.hp true (zU zi O)) (reg Try.f22 2) (reg Try.f22 2).toList ([b,L,P,Q,W,K,M,N,U,V,c,d,f,g,i,j,k,l,m,n,o,p,q,r,s,t,u,v,w,x,y,z,A,B,C,D,E,F,G,H,I,J]) S =
  (zT (wY zi BinOp.eql 3 (dem K) (.int .i64 (-1)) S) (fun Y R=>some ([b,L,P,Q,W,K,M,N,U,V,c,dem K,Y,g,i,j,k,l,m,n,o,p,q,r,s,t,u,v,w,x,y,z,A,B,C,D,E,F,G,H,I,J],R)) ()):=by
 kernel_rfl
theorem slices_DeleteFunc.r3 :ji zi ⟨true,false,false⟩ (jP O.hp true (zU zi O)) (reg Try.f22 3) (reg Try.f22 3).toList ([b,L,P,Q,W,K,M,N,U,V,c,d,f,g,i,j,k,l,m,n,o,p,q,r,s,t,u,v,w,x,y,z,A,B,C,D,E,F,G,H,I,J]) S =
  ( some ([dem b,L,P,Q,b,K,M,N,U,V,c,d,f,dem b,i,j,k,l,m,n,o,p,q,r,s,t,u,v,w,x,y,z,A,B,C,D,E,F,G,H,I,J],S)):=by
 kernel_rfl
theorem slices_DeleteFunc.r4 :ji zi ⟨true,false,false⟩ (jP O.hp true (zU zi O)) (reg Try.f22 4) (reg Try.f22 4).toList ([b,L,P,Q,W,K,M,N,U,V,c,d,f,g,i,j,k,l,m,n,o,p,q,r,s,t,u,v,w,x,y,z,A,B,C,D,E,F,G,H,I,J]) S =
  (zT (wY zi BinOp.add 3 (dem K) (.int .i64 1) S) (fun Y R=>some ([b,L,P,Q,W,K,Y,N,U,V,c,d,f,g,dem K,dem Y,k,l,m,n,o,p,q,r,s,t,u,v,w,x,y,z,A,B,C,D,E,F,G,H,I,J],R)) ()):=by
 kernel_rfl
theorem slices_DeleteFunc.r5 :ji zi ⟨true,false,false⟩ (jP O.hp true (zU zi O)) (reg Try.f22 5) (reg Try.f22 5).toList ([b,L,P,Q,W,K,M,N,U,V,c,d,f,g,i,j,k,l,m,n,o,p,q,r,s,t,u,v,w,x,y,z,A,B,C,D,E,F,G,H,I,J]) S =
  (zT (Z7 zi 58 (dem b) S) (fun X R=>zT (wY zi BinOp.lss 3 (dem M) X R) (fun Z S2=>some ([b,L,P,Q,W,K,M,N,U,V,c,d,f,g,i,j,dem M,dem b,X,Z,o,p,q,r,s,t,u,v,w,x,y,z,A,B,C,D,E,F,G,H,I,J],S2)) ()) ()):=by
 kernel_rfl
theorem slices_DeleteFunc.r7 :ji zi ⟨true,false,false⟩ (jP O.hp true (zU zi O)) (reg Try.f22 7) (reg Try.f22 7).toList ([b,L,P,Q,W,K,M,N,U,V,c,d,f,g,i,j,k,l,m,n,o,p,q,r,s,t,u,v,w,x,y,z,A,B,C,D,E,F,G,H,I,J]) S =
  (zT (zW zi 58 (dem b) (dem M) S) (fun X R=>zT (jm zi false 64 X R) (fun Z S2=>zT (qJ zi 64 S2) (fun v4 S3=>zT (yP zi 64 v4 (dem Z) S3) (fun v5 S4=>some ([b,L,P,Q,W,K,M,v4,U,V,c,d,f,g,i,j,k,l,m,n,o,p,dem b,dem M,X,Z,u,v,w,x,y,z,A,B,C,D,E,F,G,H,I,J],S4)) ()) ()) ()) ()):=by
 kernel_rfl
theorem slices_DeleteFunc.r8 :ji zi ⟨true,false,false⟩ (jP O.hp true (zU zi O)) (reg Try.f22 8) (reg Try.f22 8).toList ([b,L,P,Q,W,K,M,N,U,V,c,d,f,g,i,j,k,l,m,n,o,p,q,r,s,t,u,v,w,x,y,z,A,B,C,D,E,F,G,H,I,J]) S =
  (zT (jm zi false 64 N S) (fun Y R=>zT (adB (jP O.hp true (zU zi O)) (dem L) [(dem Y)] R) (fun X S2=>zT (aUn zi UnOp.not X S2) (fun Z S3=>some ([b,L,P,Q,W,K,M,N,U,V,c,d,f,g,i,j,k,l,m,n,o,p,q,r,s,t,dem L,Y,X,Z,y,z,A,B,C,D,E,F,G,H,I,J],S3)) ()) ()) ()):=by
 kernel_rfl
theorem slices_DeleteFunc.r9 :ji zi ⟨true,false,false⟩ (jP O.hp true (zU zi O)) (reg Try.f22 9) (reg Try.f22 9).toList ([b,L,P,Q,W,K,M,N,U,V,c,d,f,g,i,j,k,l,m,n,o,p,q,r,s,t,u,v,w,x,y,z,A,B,C,D,E,F,G,H,I,J]) S =
  (zT (jm zi false 64 N S) (fun X R=>zT (zW zi 58 (dem b) (dem K) R) (fun Z S2=>zT (yP zi 64 Z (dem X) S2) (fun v4 S3=>some ([b,L,P,Q,W,K,M,N,U,V,c,d,f,g,i,j,k,l,m,n,o,p,q,r,s,t,u,v,w,x,dem b,dem K,X,Z,C,D,E,F,G,H,I,J],S3)) ()) ()) ()):=by
 kernel_rfl
theorem slices_DeleteFunc.r10 :ji zi ⟨true,false,false⟩ (jP O.hp true (zU zi O)) (reg Try.f22 10) (reg Try.f22 10).toList ([b,L,P,Q,W,K,M,N,U,V,c,d,f,g,i,j,k,l,m,n,o,p,q,r,s,t,u,v,w,x,y,z,A,B,C,D,E,F,G,H,I,J]) S =
  (zT (wY zi BinOp.add 3 (dem K) (.int .i64 1) S) (fun Y R=>some ([b,L,P,Q,W,Y,M,N,U,V,c,d,f,g,i,j,k,l,m,n,o,p,q,r,s,t,u,v,w,x,y,z,A,B,dem K,dem Y,E,F,G,H,I,J],R)) ()):=by
 kernel_rfl
theorem slices_DeleteFunc.r6 :ji zi ⟨true,false,false⟩ (jP O.hp true (zU zi O)) (reg Try.f22 6) (reg Try.f22 6).toList ([b,L,P,Q,W,K,M,N,U,V,c,d,f,g,i,j,k,l,m,n,o,p,q,r,s,t,u,v,w,x,y,z,A,B,C,D,E,F,G,H,I,J]) S =
  (zT (wY zi BinOp.add 3 (dem M) (.int .i64 1) S) (fun Y R=>some ([b,L,P,Q,W,K,Y,N,U,V,c,d,f,g,i,j,k,l,m,n,dem M,dem Y,q,r,s,t,u,v,w,x,y,z,A,B,C,D,E,F,G,H,I,J],R)) ()):=by
 kernel_rfl
theorem slices_DeleteFunc.r11 :ji zi ⟨true,false,false⟩ (jP O.hp true (zU zi O)) (reg Try.f22 11) (reg Try.f22 11).toList ([b,L,P,Q,W,K,M,N,U,V,c,d,f,g,i,j,k,l,m,n,o,p,q,r,s,t,u,v,w,x,y,z,A,B,C,D,E,F,G,H,I,J]) S =
  (zT (wU zi false 58 (dem b) (some (dem K)) none S) (fun X R=>zT (Jq zi 58 X R) (fun Z S2=>some ([b,L,P,Q,W,K,M,N,U,V,c,d,f,g,i,j,k,l,m,n,o,p,q,r,s,t,u,v,w,x,y,z,A,B,C,D,dem b,dem K,X,H,I,J],S2)) ()) ()):=by
 kernel_rfl
theorem slices_DeleteFunc.r12 :ji zi ⟨true,false,false⟩ (jP O.hp true (zU zi O)) (reg Try.f22 12) (reg Try.f22 12).toList ([b,L,P,Q,W,K,M,N,U,V,c,d,f,g,i,j,k,l,m,n,o,p,q,r,s,t,u,v,w,x,y,z,A,B,C,D,E,F,G,H,I,J]) S =
  (zT (wU zi false 58 (dem b) none (some (dem K)) S) (fun X R=>some ([b,L,P,Q,X,K,M,N,U,V,c,d,f,g,i,j,k,l,m,n,o,p,q,r,s,t,u,v,w,x,y,z,A,B,C,D,E,F,G,dem b,dem K,dem X],R)) ()):=by
 kernel_rfl
theorem slices_DeleteFunc.rs:type_of% (ad6 @slices_DeleteFunc.r0 (ad6 @slices_DeleteFunc.r1 (ad6 @slices_DeleteFunc.r2 (ad6 @slices_DeleteFunc.r3 (ad6 @slices_DeleteFunc.r4 (ad6 @slices_DeleteFunc.r5 (ad6 @slices_DeleteFunc.r7 (ad6 @slices_DeleteFunc.r8 (ad6 @slices_DeleteFunc.r9 (ad6 @slices_DeleteFunc.r10 (ad6 @slices_DeleteFunc.r6 (ad6 @slices_DeleteFunc.r11 (@slices_DeleteFunc.r12))))))))))))):=ad6 @slices_DeleteFunc.r0 (ad6 @slices_DeleteFunc.r1 (ad6 @slices_DeleteFunc.r2 (ad6 @slices_DeleteFunc.r3 (ad6 @slices_DeleteFunc.r4 (ad6 @slices_DeleteFunc.r5 (ad6 @slices_DeleteFunc.r7 (ad6 @slices_DeleteFunc.r8 (ad6 @slices_DeleteFunc.r9 (ad6 @slices_DeleteFunc.r10 (ad6 @slices_DeleteFunc.r6 (ad6 @slices_DeleteFunc.r11 (@slices_DeleteFunc.r12))))))))))))
theorem slices_DeleteFunc.runs {b L:Value} {S R:zx} {e:AEx} {T:List Value} (h:zC zi O true slices_DeleteFunc.code ([b,L,zh,zh,zh,zh,zh,zh,zh,zh,zh,zh,zh,zh,zh,zh,zh,zh,zh,zh,zh,zh,zh,zh,zh,zh,zh,zh,zh,zh,zh,zh,zh,zh,zh,zh,zh,zh,zh,zh,zh,zh]) S=some (e,T,R)) (he:e=.normal∨e=.ret):zU zi O 22 [b,L] S=some (T.getD 4 zh,R) :=
 jJ rfl rfl Try.func22 (by decide) slices_DeleteFunc.body (by exact h) he (wH (a:=T.getD 4 zh) ((show zJ zi T R Try.f22.results.toList=zJ zi T R [(ResultVar.tmp 4)] from by kernel_rfl).trans (by simp only [zJ])) (by kernel_rfl))
end Go.Proofs.Ytpjglojnipjgfaa
namespace Go.Abs
open Go.RowKit
theorem Xg {cs xs:List Value} (h:cs.length=xs.length):splice cs 0 xs=xs:=by
 unfold splice
 rw [List.take_zero,List.nil_append,Nat.zero_add,← h,List.drop_length,List.append_nil]
theorem Zu {P:Program} {t:TypeId} {z xs:List Value} {x:Value} (S:zx) (hx:x.cells.toList=xs) (hs:yH P t=some z.length) (hl:xs.length=z.length) (h1:xs.all (·.oneCell')=true) :
  ∃ S2,yP P t (.pointer (some ⟨S.next,0,none⟩)) x (S.push (.cells z (.own []) 0))=some (zh,S2)∧S2.get S.next=some (.cells xs (.own []) 0)∧Ext S S2∧S.next < S2.next:=by
 have hg:(S.push (.cells z (.own []) 0)).get S.next=some (.cells z (.own []) 0):=by rw [zx.zQ,if_pos rfl]
 refine ⟨_,qP hg hs (by rw [← Array.length_toList,hx,hl]) (by rw [hx];exact h1) (by simp),?_,(Ext.push S _).set (Nat.le_refl _) _,by simp [zx.kills]⟩
 rw [zx.jc,if_pos rfl,hx,Xg hl.symm]
theorem abo (x:Value) (S:zx):∃ S2,Xm x S=some (.pointer (some ⟨S.next,0,none⟩),S2)∧S2.get S.next=some (.cells x.cells.toList (.own []) 0)∧Ext S S2∧S.next < S2.next :=
 ⟨_,rfl,by rw [zx.zQ,if_pos rfl],Ext.push _ _,by simp⟩
end Go.Abs
namespace Go.Abs
open Go.RowKit
abbrev ms (q n:Nat):Value:=.slice (some ⟨q,0,none⟩) n n
theorem aaQ {P:Program} {O:Ora} {g:FuncId} {args:List Value} {S:zx} {r:Option (Value×zx)} (h:zU P O g args S=r) (ha:args.all (fun x=>!kR x)=true):kF (zU P O) g args S=r:=(QJ ha).trans h
theorem WX {α:Type} {f:α→List Value} {e q:Nat} {l:List α} {rest:List Value} {anc:List Nat} {S:zx} (hf:∀ x,(f x).length=e) (hg:S.get q=some (.cells (l.flatMap f++rest) (.own anc) e)) :
  qC (ms q l.length) S=some (vs f e 1 l,S.set q .dead):=by
 have hl:=jo hf l
 rw [KC hg (by rw [List.length_append,hl];omega),List.drop_zero,← hl,List.take_left]
 rfl
theorem WU {x y:Value} {args:List Value} {S S1:zx} (h:qC x S=some (y,S1)) (ha:args.all (fun x=>!kR x)=true):yN (x::args) S=some (y::args,S1):=by
 simp only [yN,h,vN ha]
section
variable {P:Program} {O:Ora} {α:Type} {f:α→List Value} {e q:Nat} {l:List α} {rest:List Value} {anc:List Nat} {S:zx}
end
end Go.Abs
namespace Go.Abs
open Go.RowKit
def Fr (fp:List Nat) (S S1:zx):Prop:=S.next≤S1.next∧∀ p,p < S.next→p ∉ fp→S1.get p=S.get p
theorem Fr.refl (fp:List Nat) (S:zx):Fr fp S S:=⟨Nat.le_refl _,fun _ _ _=>rfl⟩
theorem Fr.ext {fp:List Nat} {S S1:zx} (h:Ext S S1):Fr fp S S1:=⟨h.next,fun p hp _=>h.get p hp⟩
theorem Fr.trans {fp fp2:List Nat} {S S1 S2:zx} (h:Fr fp S S1) (k:Fr fp2 S1 S2) (hs:∀ x ∈ fp2,x ∈ fp∨S.next≤x):Fr fp S S2:=⟨Nat.le_trans h.1 k.1,fun p hp hn=>by
 rw [k.2 p (Nat.lt_of_lt_of_le hp h.1) (fun hx=>(hs p hx).elim hn (fun h=>by omega)),h.2 p hp hn]⟩
theorem Fr.set {fp:List Nat} {S S1:zx} (h:Fr fp S S1) {r:Nat} (hr:r ∈ fp∨S.next≤r) (o:jX):Fr fp S (S1.set r o):=⟨h.1,fun p hp hn=>by
 rw [zx.jc,if_neg (fun e=>by subst e;exact hr.elim hn (fun h=>by omega))];exact h.2 p hp hn⟩
theorem Fr.kills {fp:List Nat} {S S1:zx} (h:Fr fp S S1) {l:List Nat} (hl:∀ x ∈ l,x ∈ fp∨S.next≤x):Fr fp S (S1.kills l):=⟨by rw [zx.vT];exact h.1,fun p hp hn=>by
 rw [zx.yM,if_neg (fun e=>(hl p e).elim hn (fun h=>by omega))];exact h.2 p hp hn⟩
theorem Fr.push {fp:List Nat} {S S1:zx} (h:Fr fp S S1) (o:jX):Fr fp S (S1.push o):=⟨by simp;have:=h.1;omega,fun p hp hn=>by
 rw [zx.zQ,if_neg (by have:=h.1;omega)];exact h.2 p hp hn⟩
theorem Fr.more {fp fp2:List Nat} {S S1:zx} (h:Fr fp S S1) (hs:∀ x ∈ fp,x ∈ fp2∨S.next≤x):Fr fp2 S S1:=⟨h.1,fun p hp hn=>h.2 p hp (fun hx=>(hs p hx).elim hn (fun h=>by omega))⟩
def Many (S:zx) (x:Nat):Prop:=∀ cs own,S.get x≠some (.cells cs own 0)
def yX {α:Type} (f:α→List Value) (e:Nat) (S:zx) (a:Option Addr) (l:List α) (fp:List Nat):Prop :=
 (a=none∧l=[]∧fp=[])∨∃ r anc rest,a=some ⟨r,0,none⟩∧fp=r::anc∧S.get r=some (.cells (l.flatMap f++rest) (.own anc) e)∧∀ x ∈ fp,x < S.next∧Many S x
theorem vG {A B C D:List Value} {o:Nat} (h:o=A.length) (hl:B.length=C.length):splice (A++(B++D)) o C=A++(C++D):=by
 subst h
 unfold splice
 rw [List.take_left,← hl,List.drop_append,List.drop_eq_nil_of_le (by omega),List.nil_append,show A.length+B.length - A.length=B.length by omega,List.drop_left,List.append_assoc]
section
variable {α:Type} {f:α→List Value} {e:Nat} {S S1:zx} {a:Option Addr} {l:List α} {fp:List Nat}
theorem yX.keep (h:yX f e S a l fp) (hn:S.next≤S1.next) (hk:∀ x ∈ fp,S1.get x=S.get x):yX f e S1 a l fp:=by
 rcases h with h | ⟨r,anc,rest,h1,h2,h3,h4⟩
 ·
  exact .inl h
 ·
  refine .inr ⟨r,anc,rest,h1,h2,by rw [hk r (by rw [h2];simp)];exact h3,fun x hx=>⟨Nat.lt_of_lt_of_le (h4 x hx).1 hn,fun cs own=>by rw [hk x hx];exact (h4 x hx).2 cs own⟩⟩
theorem yX.lt (h:yX f e S a l fp):∀ x ∈ fp,x < S.next:=by
 rcases h with ⟨_,_,rfl⟩ | ⟨r,anc,rest,h1,h2,h3,h4⟩
 ·
  intro x hx;cases hx
 ·
  exact fun x hx=>(h4 x hx).1
theorem yX.many (h:yX f e S a l fp):∀ x ∈ fp,Many S x:=by
 rcases h with ⟨_,_,rfl⟩ | ⟨r,anc,rest,h1,h2,h3,h4⟩
 ·
  intro x hx;cases hx
 ·
  exact fun x hx=>(h4 x hx).2
theorem yX.ext (h:yX f e S a l fp) (k:Ext S S1):yX f e S1 a l fp:=h.keep k.next fun x hx=>k.get x (h.lt x hx)
theorem yX.fr {fp2:List Nat} (h:yX f e S a l fp) (k:Fr fp2 S S1) (hd:∀ x ∈ fp,x ∉ fp2):yX f e S1 a l fp:=h.keep k.1 fun x hx=>k.2 x (h.lt x hx) (hd x hx)
theorem yX.Qc (h:yX f e S a l fp) {p:Nat} {cs:List Value} {own:Own} (hp:S.get p=some (.cells cs own 0)):p ∉ fp:=fun hx=>h.many p hx cs own hp
theorem yX.take (h:yX f e S a l fp) (n:Nat):yX f e S a (l.take n) fp:=by
 rcases h with ⟨h1,h2,h3⟩ | ⟨r,anc,rest,h1,h2,h3,h4⟩
 ·
  exact .inl ⟨h1,by rw [h2,List.take_nil],h3⟩
 ·
  refine .inr ⟨r,anc,(l.drop n).flatMap f++rest,h1,h2,?_,h4⟩
  rw [h3,← List.append_assoc,← List.flatMap_append,List.take_append_drop]
theorem Zm {x r:Nat} {cs:List Value} {own:Own} (he:e≠0) (h:Many S x):Many (S.set r (.cells cs own e)) x:=fun cs' own'=>by
 rw [zx.jc]
 split
 ·
  intro hx;simp only [Option.some.injEq,jX.cells.injEq] at hx;exact he hx.2.2
 ·
  exact h cs' own'
theorem vJ {x:Nat} {l:List Nat} (h:Many S x):Many (S.kills l) x:=fun cs' own'=>by
 rw [zx.yM]
 split
 ·
  intro hx;simp at hx
 ·
  exact h cs' own'
theorem Xu {x:Nat} {cs:List Value} {own:Own} (he:e≠0) (h:Many S x):Many (S.push (.cells cs own e)) x:=fun cs' own'=>by
 rw [zx.zQ]
 split
 ·
  intro hx;simp only [Option.some.injEq,jX.cells.injEq] at hx;exact he hx.2.2
 ·
  exact h cs' own'
variable {P:Program} {t te tx:TypeId} {z:Value} {bytes:Nat}
theorem yX.append (u:P.underlying t=some (.slice te)) (us:yH P te=some e) (hz:zeroOf P te=some z) (hzs:z.cells.size=e) (hb:bytesOf P te=some bytes) (hpos:0 < e) (hf:∀ x,(f x).length=e) (h1:∀ x,(f x).all (·.oneCell')=true)
  (hd:yX f e S a l fp) {x:Value} {b:List α} (hsrc:Zp P tx e x S=some (b.length,b.flatMap f)) (hm:(l.length+b.length) * bytes≤140737488355328) (hm2:l.length+b.length≤4611686018427387903) :
  ∃ a' S1 fp',wS P true t tx (.slice a l.length l.length) x S=some (.slice a' (l++b).length (l++b).length,S1)∧yX f e S1 a' (l++b) fp'∧(∀ x ∈ fp',x ∈ fp∨S.next≤x)∧Fr fp S S1:=by
 have hone:∀ l:List α,(l.flatMap f).all (·.oneCell')=true:=by
  intro l
  rw [List.all_flatMap,List.all_eq_true]
  exact fun x _=>h1 x
 have he:e≠0:=by omega
 rcases hd with ⟨rfl,rfl,rfl⟩ | ⟨r,anc,rest,rfl,rfl,k2,k3⟩
 ·
  have e1:=Kq (t:=t) (tx:=tx) (S:=S) u us hz hzs hb hpos hsrc (by simpa using hm) (by simpa using hm2)
  by_cases h0:b.length=0
  ·
   have hb:b=[]:=List.length_eq_zero_iff.1 h0
   subst hb
   exact ⟨none,S,[],e1,.inl ⟨rfl,rfl,rfl⟩,(fun x hx=>by cases hx),Fr.refl _ _⟩
  ·
   rw [if_neg h0,if_neg h0] at e1
   refine ⟨some ⟨S.next,0,none⟩,_,[S.next],e1,.inr ⟨S.next,[],[],rfl,rfl,?_,fun x hx=>?_⟩,(fun x hx=>by simp at hx;omega),(Fr.refl _ _).push _⟩
   ·
    rw [zx.zQ,if_pos rfl,List.append_nil,List.nil_append]
   ·
    simp only [List.mem_singleton] at hx
    subst hx
    refine ⟨by simp,fun cs own=>?_⟩
    rw [zx.zQ,if_pos rfl]
    intro hx;simp only [Option.some.injEq,jX.cells.injEq] at hx;exact he hx.2.2
 ·
  have hlen:(l.flatMap f).length=l.length * e:=jo hf l
  have htk:((l.flatMap f++rest).drop 0).take (l.length * e)=l.flatMap f:=by rw [List.drop_zero,← hlen,List.take_left]
  have e1:=KR (hp:=true) (t:=t) (tx:=tx) (o:=0) (n:=l.length) (c:=l.length) u us hz hzs hb hpos hsrc k2 (by rw [List.length_append,hlen];omega) hm hm2 (by rw [htk];exact hone l)
  rw [htk,← List.length_append] at e1
  have hnew:∀ {S2:zx} {cs:List Value} {own:Own},Many (S2.push (.cells cs own e)) S2.next:=fun {S2 cs own} cs' own'=>by
   rw [zx.zQ,if_pos rfl]
   intro hx;simp only [Option.some.injEq,jX.cells.injEq] at hx;exact he hx.2.2
  by_cases h0:0+l.length * e=(l.flatMap f++rest).length
  ·
   rw [if_pos h0] at e1
   refine ⟨some ⟨S.next,0,none⟩,_,_,e1,.inr ⟨S.next,_,[],rfl,rfl,by rw [zx.zQ,zx.Zn,if_pos rfl,List.append_nil,List.flatMap_append],fun x hx=>?_⟩,fun x hx=>?_,((Fr.refl _ _).set (.inl (by simp)) _).push _⟩
   ·
    rcases List.mem_cons.1 hx with rfl | hx
    ·
     exact ⟨by simp,hnew (S2:=S.set r (.cells (l.flatMap f++rest) .ro e))⟩
    ·
     have hx:x ∈ r::anc:=by
      split at hx
      ·
       cases hx
      ·
       exact hx
     exact ⟨by have:=(k3 x hx).1;simp;omega,Xu he (Zm he (k3 x hx).2)⟩
   ·
    rcases List.mem_cons.1 hx with rfl | hx
    ·
     exact .inr (Nat.le_refl _)
    ·
     left
     split at hx
     ·
      cases hx
     ·
      exact hx
  ·
   rw [if_neg h0] at e1
   refine ⟨some ⟨S.next,0,none⟩,_,[S.next],e1,.inr ⟨S.next,[],[],rfl,rfl,by rw [zx.zQ,zx.Zn,zx.vT,if_pos rfl,List.append_nil,List.flatMap_append],fun x hx=>?_⟩,fun x hx=>?_,(((Fr.refl _ _).kills (l:=anc) (fun x hx=>.inl (by simp [hx]))).set (.inl (by simp)) _).push _⟩
   ·
    simp only [List.mem_singleton] at hx
    subst hx
    exact ⟨by simp,by have:=hnew (S2:=(S.kills anc).set r .dead) (cs:=l.flatMap f++b.flatMap f) (own:=.own []);rwa [zx.Zn,zx.vT] at this⟩
   ·
    simp only [List.mem_singleton] at hx
    exact .inr (by omega)
theorem yX.abP (hf:∀ x,(f x).length=e) {x:α} {pre suf:List α} {rest:List Value}:(((pre++x::suf).flatMap f++rest).drop (0+pre.length * e)).take e=f x:=by
 rw [List.flatMap_append,List.flatMap_cons,List.append_assoc,List.append_assoc,Nat.zero_add,← jo hf pre,List.drop_left,← hf x,List.take_left]
theorem yX.load (g:yc P te=some true) (us:yH P te=some e) (hf:∀ x,(f x).length=e) (hdm:∀ x,(f x).map yT=f x) {r:Nat} {own:Own} {x:α} {pre suf:List α} {rest:List Value} (hg:S.get r=some (.cells ((pre++x::suf).flatMap f++rest) own e)) :
  jm P false te (.pointer (some ⟨r,0+pre.length * e,none⟩)) S=some (.agg (f x).toArray,S):=by
 have hle:0+pre.length * e+e≤((pre++x::suf).flatMap f++rest).length:=by
  rw [List.length_append,jo hf,List.length_append,List.length_cons,Nat.add_mul,Nat.add_mul];omega
 rw [Qz hg g us hle,abP hf]
 simp only [List.map_toArray,hdm]
theorem yX.put (us:yH P te=some e) (hf:∀ x,(f x).length=e) (h1:∀ x,(f x).all (·.oneCell')=true) (he:e≠0) {r:Nat} {anc:List Nat} {x y:α} {pre suf:List α} {rest:List Value} (hg:S.get r=some (.cells ((pre++x::suf).flatMap f++rest) (.own anc) e))
  (hx:∀ k ∈ r::anc,k < S.next∧Many S k) :
  ∃ S1,yP P te (.pointer (some ⟨r,0+pre.length * e,none⟩)) (.agg (f y).toArray) S=some (zh,S1)∧S1.get r=some (.cells ((pre++y::suf).flatMap f++rest) (.own []) e)∧S1.next=S.next∧Fr (r::anc) S S1∧Many S1 r:=by
 have hle:0+pre.length * e+e≤((pre++x::suf).flatMap f++rest).length:=by
  rw [List.length_append,jo hf,List.length_append,List.length_cons,Nat.add_mul,Nat.add_mul];omega
 have hs:splice ((pre++x::suf).flatMap f++rest) (0+pre.length * e) (f y)=(pre++y::suf).flatMap f++rest:=by
  rw [List.flatMap_append,List.flatMap_cons,List.append_assoc,List.append_assoc,vG (by rw [jo hf,Nat.zero_add]) (by rw [hf,hf]),List.flatMap_append,List.flatMap_cons,List.append_assoc,List.append_assoc]
 have:=qP (P:=P) (t:=te) (o:=0+pre.length * e) (n:=e) (x:=.agg (f y).toArray) hg us (by rw [yO,List.size_toArray,hf]) (by rw [yO];exact h1 y) hle
 refine ⟨_,this,?_,by simp,((Fr.refl _ _).kills (fun k hk=>.inl (by simp [hk]))).set (.inl (by simp)) _,?_⟩
 ·
  rw [zx.jc,if_pos rfl,yO]
  show some (jX.cells (splice _ _ (f y)) _ _)=_
  rw [hs]
 ·
  refine Zm he (vJ (hx r (by simp)).2)
theorem yX.clear (u:P.underlying t=some (.slice te)) (us:yH P te=some e) (hz:zeroOf P te=some z) (hgz:ground z=true) (hzs:z.cells.size=e) (hz1:z.cells.toList.all (·.oneCell')=true) (hpos:0 < e) (hf:∀ x,(f x).length=e)
  {r:Nat} {anc:List Nat} {pre suf:List α} {rest:List Value} (hg:S.get r=some (.cells ((pre++suf).flatMap f++rest) (.own anc) e)) (hn:suf.length≠0) (hx:∀ k ∈ r::anc,k < S.next∧Many S k) (c:Nat) :
  ∃ S1 rest1,Jq P t (.slice (some ⟨r,0+pre.length * e,none⟩) suf.length c) S=some (zh,S1)∧S1.get r=some (.cells (pre.flatMap f++rest1) (.own []) e)∧S1.next=S.next∧Fr (r::anc) S S1∧Many S1 r:=by
 have hel:wo P t=some te:=by simp only [wo,u]
 have hle:0+pre.length * e+suf.length * e≤((pre++suf).flatMap f++rest).length:=by
  rw [List.length_append,jo hf,List.length_append,Nat.add_mul];omega
 have hs:splice ((pre++suf).flatMap f++rest) (0+pre.length * e) (zl z.cells.toList suf.length)=pre.flatMap f++(zl z.cells.toList suf.length++rest):=by
  rw [List.flatMap_append,List.append_assoc,vG (by rw [jo hf,Nat.zero_add]) (by rw [VI,jo hf,show z.cells.toList.length=e from hzs])]
 refine ⟨(S.kills anc).set r (.cells (splice ((pre++suf).flatMap f++rest) (0+pre.length * e) (zl z.cells.toList suf.length)) (.own []) e),zl z.cells.toList suf.length++rest,?_,by rw [zx.jc,if_pos rfl,hs],by simp,((Fr.refl _ _).kills (fun k hk=>.inl (by simp [hk]))).set (.inl (by simp)) _,Zm (by omega) (vJ (hx r (by simp)).2)⟩
 simp only [Jq,qp,hel,us,hz,hg]
 rw [if_neg hn,if_pos hgz,if_pos hzs,if_pos hz1,if_pos hpos,if_pos hle]
end
end Go.Abs
namespace Go.Proofs.Ytpjglojnipjgfaa
open Go.Abs
abbrev slices_Index.id:FuncId:=26
noncomputable def slices_Index.jd:Code:=(.seq (.region 2 (reg Try.f26 2) false) (.seq (.cond (.tmp 9) Code.skip (.exit 0)) (.seq (.block 1 (.seq (.region 3 (reg Try.f26 3) false) (.seq (.region 4 (reg Try.f26 4) false) (.cond (.tmp 16) (.seq (.region 5 (reg Try.f26 5) false) Code.ret) Code.skip)))) (.region 6 (reg Try.f26 6) false))))
noncomputable def slices_Index.code:Code:=(.seq (.region 0 (reg Try.f26 0) false) (.seq (.seq (.region 1 (reg Try.f26 1) false) (.block 0 (.loop slices_Index.jd))) (.seq (.region 7 (reg Try.f26 7) false) Code.ret)))
theorem slices_Index.body:Try.f26.body=some slices_Index.code:=by kernel_rfl
theorem slices_Index.eta {T:List Value} (h:T.length=19):T=[T.getD 0 zh,T.getD 1 zh,T.getD 2 zh,T.getD 3 zh,T.getD 4 zh,T.getD 5 zh,T.getD 6 zh,T.getD 7 zh,T.getD 8 zh,T.getD 9 zh,T.getD 10 zh,T.getD 11 zh,T.getD 12 zh,T.getD 13 zh,T.getD 14 zh,T.getD 15 zh,T.getD 16 zh,T.getD 17 zh,T.getD 18 zh]:=(qx T 19 h).trans (by kernel_rfl)
variable (b n q r v o t s p u c d f g i j k l m:Value) (S:zx)
theorem slices_Index.r0 :ji zi ⟨false,false,false⟩ (zU zi O) (reg Try.f26 0) (reg Try.f26 0).toList ([b,n,q,r,v,o,t,s,p,u,c,d,f,g,i,j,k,l,m]) S =
  ( some ([b,n,q,r,.int .i64 0,o,t,s,p,u,c,d,f,g,i,j,k,l,m],S)):=by
 kernel_rfl
theorem slices_Index.r1 :ji zi ⟨false,false,false⟩ (zU zi O) (reg Try.f26 1) (reg Try.f26 1).toList ([b,n,q,r,v,o,t,s,p,u,c,d,f,g,i,j,k,l,m]) S =
  (zT (Z7 zi 29 (dem b) S) (fun A w=>some ([b,n,q,r,v,o,dem b,A,.int .i64 0,u,c,d,f,g,i,j,k,l,m],w)) ()):=by
 kernel_rfl
theorem slices_Index.r2 :ji zi ⟨false,false,false⟩ (zU zi O) (reg Try.f26 2) (reg Try.f26 2).toList ([b,n,q,r,v,o,t,s,p,u,c,d,f,g,i,j,k,l,m]) S =
  (zT (wY zi BinOp.lss 3 p s S) (fun x w=>some ([b,n,q,r,v,o,t,s,p,x,c,d,f,g,i,j,k,l,m],w)) ()):=by
 kernel_rfl
theorem slices_Index.r3 :ji zi ⟨false,false,false⟩ (zU zi O) (reg Try.f26 3) (reg Try.f26 3).toList ([b,n,q,r,v,o,t,s,p,u,c,d,f,g,i,j,k,l,m]) S =
  ( some ([b,n,q,r,v,p,t,s,dem p,u,dem p,d,f,g,i,j,k,l,m],S)):=by
 kernel_rfl
theorem slices_Index.r4 :ji zi ⟨false,false,false⟩ (zU zi O) (reg Try.f26 4) (reg Try.f26 4).toList ([b,n,q,r,v,o,t,s,p,u,c,d,f,g,i,j,k,l,m]) S =
  (zT (zW zi 29 (dem b) (dem o) S) (fun y w=>zT (jm zi false 3 y w) (fun z B=>zT (wY zi BinOp.eql 3 (dem n) z B) (fun C D=>some ([b,n,q,r,v,o,t,s,p,u,c,dem n,dem b,dem o,y,z,C,l,m],D)) ()) ()) ()):=by
 kernel_rfl
theorem slices_Index.r5 :ji zi ⟨false,false,false⟩ (zU zi O) (reg Try.f26 5) (reg Try.f26 5).toList ([b,n,q,r,v,o,t,s,p,u,c,d,f,g,i,j,k,l,m]) S =
  ( some ([b,n,q,r,o,dem o,t,s,p,u,c,d,f,g,i,j,k,dem o,m],S)):=by
 kernel_rfl
theorem slices_Index.r6 :ji zi ⟨false,false,false⟩ (zU zi O) (reg Try.f26 6) (reg Try.f26 6).toList ([b,n,q,r,v,o,t,s,p,u,c,d,f,g,i,j,k,l,m]) S =
  (zT (wY zi BinOp.add 3 p (.int .i64 1) S) (fun x w=>some ([b,n,q,r,v,o,t,s,dem x,u,c,d,f,g,i,j,k,l,x],w)) ()):=by
 kernel_rfl
theorem slices_Index.r7 :ji zi ⟨false,false,false⟩ (zU zi O) (reg Try.f26 7) (reg Try.f26 7).toList ([b,n,q,r,v,o,t,s,p,u,c,d,f,g,i,j,k,l,m]) S =
  ( some ([b,n,q,r,.int .i64 (-1),o,t,s,p,u,c,d,f,g,i,j,k,l,m],S)):=by
 kernel_rfl
theorem slices_Index.rs:type_of% (ad6 @slices_Index.r0 (ad6 @slices_Index.r1 (ad6 @slices_Index.r2 (ad6 @slices_Index.r3 (ad6 @slices_Index.r4 (ad6 @slices_Index.r5 (ad6 @slices_Index.r6 (@slices_Index.r7)))))))):=ad6 @slices_Index.r0 (ad6 @slices_Index.r1 (ad6 @slices_Index.r2 (ad6 @slices_Index.r3 (ad6 @slices_Index.r4 (ad6 @slices_Index.r5 (ad6 @slices_Index.r6 (@slices_Index.r7)))))))
theorem slices_Index.runs {b n:Value} {S w:zx} {e:AEx} {T:List Value} (h:zC zi O false slices_Index.code ([b,n,zh,zh,zh,zh,zh,zh,zh,zh,zh,zh,zh,zh,zh,zh,zh,zh,zh]) S=some (e,T,w)) (he:e=.normal∨e=.ret):zU zi O 26 [b,n] S=some (T.getD 4 zh,w) :=
 jJ rfl rfl Try.func26 (by decide) slices_Index.body (by exact h) he (wH (a:=T.getD 4 zh) ((show zJ zi T w Try.f26.results.toList=zJ zi T w [(ResultVar.tmp 4)] from by kernel_rfl).trans (by simp only [zJ])) (by kernel_rfl))
end Go.Proofs.Ytpjglojnipjgfaa
namespace Go.Proofs.Ytpjglojnipjgfaa
open Go.Abs
abbrev slices_Contains.id:FuncId:=20
noncomputable def slices_Contains.code:Code:=(.seq (.region 0 (reg Try.f20 0) false) (.seq (.region 1 (reg Try.f20 1) false) Code.ret))
theorem slices_Contains.body:Try.f20.body=some slices_Contains.code:=by kernel_rfl
variable (b c f g m i j k l:Value) (S:zx)
theorem slices_Contains.r0 :ji zi ⟨false,false,false⟩ (zU zi O) (reg Try.f20 0) (reg Try.f20 0).toList ([b,c,f,g,m,i,j,k,l]) S =
  ( some ([b,c,f,g,Value.bool false,i,j,k,l],S)):=by
 kernel_rfl
theorem slices_Contains.r1 :ji zi ⟨false,false,false⟩ (zU zi O) (reg Try.f20 1) (reg Try.f20 1).toList ([b,c,f,g,m,i,j,k,l]) S =
  (zT ((zU zi O) 26 [(dem (dem b)),(dem (dem c))] S) (fun n d=>zT (wY zi BinOp.geq 3 n (.int .i64 0) d) (fun o p=>some ([b,c,f,g,o,dem b,dem c,n,dem o],p)) ()) ()):=by
 kernel_rfl
theorem slices_Contains.rs:type_of% (ad6 @slices_Contains.r0 (@slices_Contains.r1)):=ad6 @slices_Contains.r0 (@slices_Contains.r1)
theorem slices_Contains.runs {b c:Value} {S d:zx} {e:AEx} {T:List Value} (h:zC zi O false slices_Contains.code ([b,c,zh,zh,zh,zh,zh,zh,zh]) S=some (e,T,d)) (he:e=.normal∨e=.ret):zU zi O 20 [b,c] S=some (T.getD 4 zh,d) :=
 jJ rfl rfl Try.func20 (by decide) slices_Contains.body (by exact h) he (wH (a:=T.getD 4 zh) ((show zJ zi T d Try.f20.results.toList=zJ zi T d [(ResultVar.tmp 4)] from by kernel_rfl).trans (by simp only [zJ])) (by kernel_rfl))
end Go.Proofs.Ytpjglojnipjgfaa
namespace Go.Proofs.Ytpjglojnipjgfaa
open Go.Abs
theorem acJ:yH zi 3=some 1:=by kernel_rfl
theorem adH:bytesOf zi 3=some 8:=by kernel_rfl
theorem adI:zeroOf zi 3=(some (Value.int IntKind.i64 0)):=by kernel_rfl
theorem ZU:yc zi 3=some false:=by kernel_rfl
theorem qA:zi.underlying 26=some (TypeDesc.slice 54):=by kernel_rfl
theorem JO:zi.underlying 29=some (TypeDesc.slice 3):=by kernel_rfl
theorem xI:yH zi 54=some 14:=by kernel_rfl
theorem Vx:bytesOf zi 54=some 128:=by kernel_rfl
theorem Vs:zeroOf zi 54=(some (Value.agg #[(Value.int IntKind.i64 0),(Value.int IntKind.i64 0),(Value.int IntKind.i64 0),(Value.int IntKind.i64 0),(Value.int IntKind.i64 0),(Value.int IntKind.i64 0),(Value.int IntKind.i64 0),(Value.int IntKind.i64 0),(Value.int IntKind.i64 0),(Value.int IntKind.i64 0),(Value.int IntKind.i64 0),(Value.int IntKind.i64 0),(Value.int IntKind.i64 0),(Value.slice none 0 0)])):=by kernel_rfl
theorem aac:yc zi 54=some true:=by kernel_rfl
theorem zS:zi.underlying 58=some (TypeDesc.slice 64):=by kernel_rfl
theorem kL:yH zi 58=some 1:=by kernel_rfl
theorem wQ:yc zi 58=some false:=by kernel_rfl
theorem zY:yH zi 64=some 2:=by kernel_rfl
theorem Yo:bytesOf zi 64=some 16:=by kernel_rfl
theorem vY:zeroOf zi 64=(some (Value.agg #[(Value.int IntKind.i64 0),(Value.int IntKind.i64 0)])):=by kernel_rfl
theorem yU:yc zi 64=some true:=by kernel_rfl
theorem Yk (q o:Nat) (S:zx):zK zi 52 (.pointer (some ⟨q,o,none⟩)) 4 S=some (.pointer (some ⟨q,o+4,none⟩),S):=by kernel_rfl
theorem YJ (q o:Nat) (S:zx):zK zi 54 (.pointer (some ⟨q,o,none⟩)) 1 S=some (.pointer (some ⟨q,o+1,none⟩),S):=by kernel_rfl
theorem Zh (q o:Nat) (S:zx):zK zi 60 (.pointer (some ⟨q,o,none⟩)) 0 S=some (.pointer (some ⟨q,o+0,none⟩),S):=by kernel_rfl
theorem qH (q o:Nat) (S:zx):zK zi 60 (.pointer (some ⟨q,o,none⟩)) 1 S=some (.pointer (some ⟨q,o+1,none⟩),S):=by kernel_rfl
theorem jI (q o:Nat) (S:zx):zK zi 60 (.pointer (some ⟨q,o,none⟩)) 2 S=some (.pointer (some ⟨q,o+2,none⟩),S):=by kernel_rfl
theorem yR (q o:Nat) (S:zx):zK zi 64 (.pointer (some ⟨q,o,none⟩)) 0 S=some (.pointer (some ⟨q,o+0,none⟩),S):=by kernel_rfl
theorem Zy (q o:Nat) (S:zx):zK zi 64 (.pointer (some ⟨q,o,none⟩)) 1 S=some (.pointer (some ⟨q,o+1,none⟩),S):=by kernel_rfl
theorem KY {fx:Bool} {x0 x1 x2 x3 x4 x5 x6 x7 x8 x9 x10 x11 x12 x13:Value} {S:zx}:jm zi fx 54 (EP [x0,x1,x2,x3,x4,x5,x6,x7,x8,x9,x10,x11,x12,x13]) S=some (.agg [x0,x1,x2,x3,x4,x5,x6,x7,x8,x9,x10,x11,x12,x13].toArray,S):=YP aac xI rfl
theorem xu {q:Nat} {x0 x1:Value} {own:Own} {e:Nat} {S:zx} (h:S.get q=some (.cells [x0,x1] own e)):jm zi false 64 (.pointer (some ⟨q,0,none⟩)) S=some (.agg [yT x0,yT x1].toArray,S):=(Qz (o:=0) h yU zY (by simp)).trans (by simp)
theorem Zg {y0 y1 y4:Value} (h0:y0.cells=#[y0]) (h1:y1.cells=#[y1]) (h4:y4.cells=#[y4]) (S:zx):wG zi 52 [(0,y0),(1,y1),(4,y4)] S=some (.agg [y0,y1,(Value.int IntKind.i64 0),(Value.int IntKind.i64 0),y4,(Value.int IntKind.i64 0),(Value.int IntKind.i64 0),(Value.int IntKind.i64 0),(Value.int IntKind.i64 0),(Value.int IntKind.i64 0),(Value.int IntKind.i64 0),(Value.int IntKind.i64 0),(Value.slice none 0 0)].toArray,S):=by
 rw [show wG zi 52 [(0,y0),(1,y1),(4,y4)] S=(match yS ([(0,1),(1,1),(2,1),(3,1),(4,1),(5,1),(6,2),(8,5)][·]?) [(Value.int IntKind.i64 0),(Value.int IntKind.i64 0),(Value.int IntKind.i64 0),(Value.int IntKind.i64 0),(Value.int IntKind.i64 0),(Value.int IntKind.i64 0),(Value.int IntKind.i64 0),(Value.int IntKind.i64 0),(Value.int IntKind.i64 0),(Value.int IntKind.i64 0),(Value.int IntKind.i64 0),(Value.int IntKind.i64 0),(Value.slice none 0 0)] [(0,y0),(1,y1),(4,y4)] with | some l=>some (.agg l.toArray,S) | none=>none) from by kernel_rfl]
 simp [yS,splice,yO,h0,h1,h4]
theorem kS {y0 y1_0 y1_1 y1_2 y1_3 y1_4 y1_5 y1_6 y1_7 y1_8 y1_9 y1_10 y1_11 y1_12:Value} (h0:y0.cells=#[y0]) (S:zx):wG zi 54 [(0,y0),(1,.agg [y1_0,y1_1,y1_2,y1_3,y1_4,y1_5,y1_6,y1_7,y1_8,y1_9,y1_10,y1_11,y1_12].toArray)] S=some (.agg [y0,y1_0,y1_1,y1_2,y1_3,y1_4,y1_5,y1_6,y1_7,y1_8,y1_9,y1_10,y1_11,y1_12].toArray,S):=by
 rw [show wG zi 54 [(0,y0),(1,.agg [y1_0,y1_1,y1_2,y1_3,y1_4,y1_5,y1_6,y1_7,y1_8,y1_9,y1_10,y1_11,y1_12].toArray)] S=(match yS ([(0,1),(1,13)][·]?) [(Value.int IntKind.i64 0),(Value.int IntKind.i64 0),(Value.int IntKind.i64 0),(Value.int IntKind.i64 0),(Value.int IntKind.i64 0),(Value.int IntKind.i64 0),(Value.int IntKind.i64 0),(Value.int IntKind.i64 0),(Value.int IntKind.i64 0),(Value.int IntKind.i64 0),(Value.int IntKind.i64 0),(Value.int IntKind.i64 0),(Value.int IntKind.i64 0),(Value.slice none 0 0)] [(0,y0),(1,.agg [y1_0,y1_1,y1_2,y1_3,y1_4,y1_5,y1_6,y1_7,y1_8,y1_9,y1_10,y1_11,y1_12].toArray)] with | some l=>some (.agg l.toArray,S) | none=>none) from by kernel_rfl]
 simp [yS,splice,yO,h0]
theorem xY {y0 y1:Value} (h0:y0.cells=#[y0]) (h1:y1.cells=#[y1]) (S:zx):wG zi 60 [(0,y0),(1,y1)] S=some (.agg [y0,y1,(Value.slice none 0 0)].toArray,S):=by
 rw [show wG zi 60 [(0,y0),(1,y1)] S=(match yS ([(0,1),(1,1),(2,1)][·]?) [(Value.int IntKind.i64 0),(Value.int IntKind.i64 0),(Value.slice none 0 0)] [(0,y0),(1,y1)] with | some l=>some (.agg l.toArray,S) | none=>none) from by kernel_rfl]
 simp [yS,splice,yO,h0,h1]
theorem Zt {y0:Value} (h0:y0.cells=#[y0]) (S:zx):wG zi 64 [(0,y0)] S=some (.agg [y0,(Value.int IntKind.i64 0)].toArray,S):=by
 rw [show wG zi 64 [(0,y0)] S=(match yS ([(0,1),(1,1)][·]?) [(Value.int IntKind.i64 0),(Value.int IntKind.i64 0)] [(0,y0)] with | some l=>some (.agg l.toArray,S) | none=>none) from by kernel_rfl]
 simp [yS,splice,yO,h0]
theorem Xc (x0:Int) (S:zx):wE zi 29 1 [(0,.int IntKind.i64 x0)] S=some (sv 2 1 1 [.int IntKind.i64 x0],S):=by kernel_rfl
theorem abG {k:Nat} {l:List Int} {S:zx} (h:Okl k l):Z7 zi 29 (iz k l) S=some (goInt l.length,S):=VQ JO h
theorem adO {k:Nat} {l:List Int} {S:zx} {ki:IntKind} {i:Int} (h:Okl k l) (h0:0≤i) (hi:i < l.length):zW zi 29 (iz k l) (.int ki i) S=some (EP [.int .i64 (l[i.toNat]'(by omega))],S):=acu JO acJ abO h h0 hi
theorem X7 {fx:Bool} {v:Value} {S:zx}:jm zi fx 3 (EP [v]) S=some (v,S):=Xw ZU
theorem XC {k:Nat} {l:List Int} {S:zx} {j:Nat} {m:List Int} (h:Okl k l) (hk:k≠1) (hm:Okl j m) (hl:l.length+m.length≤17592186044416):yY zi 29 29 (iz k l) (iz j m) S=some (iz (if k=0∧m.length=0 then 0 else 2) (l++m),S):=YG JO acJ adI rfl adH (by omega) JO abO adp h hk hm (by omega) (by omega)
theorem wk:type_of% (ad6 @Je (ad6 @xP (ad6 @Za (ad6 @Z5 (ad6 @Jr (ad6 @Z4 (ad6 @ZX (ad6 @Zv (ad6 @Zb (ad6 @Yh (ad6 @Zr (ad6 @YD (ad6 @QF (ad6 @xw (ad6 @Js (ad6 @ZA (ad6 @Jz (ad6 @ZL (ad6 @YS (ad6 @abd (ad6 @abD (ad6 @abJ (ad6 @abv (ad6 @aa8 (ad6 @Vm (ad6 @VZ (ad6 @Xt (ad6 @Xr (ad6 @VU (ad6 @QM (ad6 @vW (ad6 @Yi (ad6 @Bool.and_true (ad6 @Bool.true_and (ad6 @Bool.and_self (ad6 @Qy (ad6 @VB (ad6 @Jt (ad6 @YM (ad6 @ZJ (ad6 @abE (ad6 @aby (ad6 @abI (ad6 @abB (ad6 @ac0 (ad6 @adg (ad6 @adv (ad6 @ac7 (ad6 @ac6 (ad6 @abr (ad6 @abl (ad6 @abn (ad6 @abh (ad6 @abT (ad6 @Vy (ad6 @Jw (ad6 @Bool.false_eq_true (ad6 @QU (ad6 @Xx (ad6 @Ji (ad6 @YF (ad6 @Yd (ad6 @abC (ad6 @Yn (ad6 @abL (ad6 @YL (ad6 @aah (ad6 @QN (ad6 @JJ (ad6 @Vh (ad6 @Vq (ad6 @yC (ad6 @kY (ad6 @Yt (ad6 @Ve (ad6 @abM (ad6 @Vg (ad6 @Wl (ad6 @QI (ad6 @ZV (ad6 @Ya (ad6 @Yr (ad6 @Jl (ad6 @xM (ad6 @kJ (ad6 @ZK (ad6 @Ye (ad6 @vO (ad6 @JE (ad6 @kQ (ad6 @kP (ad6 @kM (ad6 @QC (ad6 @QD (ad6 @Qw (ad6 @QX (ad6 @QY (ad6 @QW (ad6 @Qs (ad6 @Qu (ad6 @Qv (ad6 @Xq (ad6 @Bool.not_true (ad6 @Bool.not_false (ad6 @Bool.true_eq_false (ad6 @decide_true (ad6 @decide_false (ad6 @VP (ad6 @XJ (ad6 @VT (ad6 @X0 (ad6 @V6 (ad6 @Xv (ad6 @XH (ad6 @V8 (ad6 @VN (ad6 @Xy (ad6 @Vt (ad6 @Vr (ad6 @XI (ad6 @VY (@X8)))))))))))))))))))))))))))))))))))))))))))))))))))))))))))))))))))))))))))))))))))))))))))))))))))))))))))))))))))))))))):=ad6 @Je (ad6 @xP (ad6 @Za (ad6 @Z5 (ad6 @Jr (ad6 @Z4 (ad6 @ZX (ad6 @Zv (ad6 @Zb (ad6 @Yh (ad6 @Zr (ad6 @YD (ad6 @QF (ad6 @xw (ad6 @Js (ad6 @ZA (ad6 @Jz (ad6 @ZL (ad6 @YS (ad6 @abd (ad6 @abD (ad6 @abJ (ad6 @abv (ad6 @aa8 (ad6 @Vm (ad6 @VZ (ad6 @Xt (ad6 @Xr (ad6 @VU (ad6 @QM (ad6 @vW (ad6 @Yi (ad6 @Bool.and_true (ad6 @Bool.true_and (ad6 @Bool.and_self (ad6 @Qy (ad6 @VB (ad6 @Jt (ad6 @YM (ad6 @ZJ (ad6 @abE (ad6 @aby (ad6 @abI (ad6 @abB (ad6 @ac0 (ad6 @adg (ad6 @adv (ad6 @ac7 (ad6 @ac6 (ad6 @abr (ad6 @abl (ad6 @abn (ad6 @abh (ad6 @abT (ad6 @Vy (ad6 @Jw (ad6 @Bool.false_eq_true (ad6 @QU (ad6 @Xx (ad6 @Ji (ad6 @YF (ad6 @Yd (ad6 @abC (ad6 @Yn (ad6 @abL (ad6 @YL (ad6 @aah (ad6 @QN (ad6 @JJ (ad6 @Vh (ad6 @Vq (ad6 @yC (ad6 @kY (ad6 @Yt (ad6 @Ve (ad6 @abM (ad6 @Vg (ad6 @Wl (ad6 @QI (ad6 @ZV (ad6 @Ya (ad6 @Yr (ad6 @Jl (ad6 @xM (ad6 @kJ (ad6 @ZK (ad6 @Ye (ad6 @vO (ad6 @JE (ad6 @kQ (ad6 @kP (ad6 @kM (ad6 @QC (ad6 @QD (ad6 @Qw (ad6 @QX (ad6 @QY (ad6 @QW (ad6 @Qs (ad6 @Qu (ad6 @Qv (ad6 @Xq (ad6 @Bool.not_true (ad6 @Bool.not_false (ad6 @Bool.true_eq_false (ad6 @decide_true (ad6 @decide_false (ad6 @VP (ad6 @XJ (ad6 @VT (ad6 @X0 (ad6 @V6 (ad6 @Xv (ad6 @XH (ad6 @V8 (ad6 @VN (ad6 @Xy (ad6 @Vt (ad6 @Vr (ad6 @XI (ad6 @VY (@X8)))))))))))))))))))))))))))))))))))))))))))))))))))))))))))))))))))))))))))))))))))))))))))))))))))))))))))))))))))))))))
theorem zSs:type_of% (ad6 wk (ad6 (@List.getD_cons_succ Value) (ad6 (@List.getD_cons_zero Value) (ad6 @if_true.{1} (ad6 @if_false.{1} (ad6 (@List.getElem?_cons_succ Value) (ad6 (@List.getElem?_cons_zero Value) (ad6 @Option.map_some.{0,0} @eq_self.{1})))))))):=ad6 wk (ad6 (@List.getD_cons_succ Value) (ad6 (@List.getD_cons_zero Value) (ad6 @if_true.{1} (ad6 @if_false.{1} (ad6 (@List.getElem?_cons_succ Value) (ad6 (@List.getElem?_cons_zero Value) (ad6 @Option.map_some.{0,0} @eq_self.{1})))))))
end Go.Proofs.Ytpjglojnipjgfaa
namespace Go.Proofs.Ytpjglojnipjgfaa
open Go.Abs
theorem adL (x:Int):sv 2 1 1 [.int .i64 x]=iz 2 [x]:=rfl
theorem acp {k:Nat} {l:List Int} {x:Int} {S:zx} (h:Okl k l) (hk:k≠1) (hl:l.length≤17592186044000):yY zi 29 29 (iz k l) (iz 2 [x]) S=some (iz 2 (l++[x]),S):=by
 rw [XC h hk Okl.own (by simp;omega),if_neg (fun h=>by have:=h.2;simp at this)]
end Go.Proofs.Ytpjglojnipjgfaa
namespace Go.Proofs.Ytpjglojnipjgfaa
open Go.Abs
def idxFrom {α:Type} (p:α→Bool):Int→List α→Int
 | _,[]=>-1
 | i,x::r=>if p x then i else idxFrom p (i+1) r
theorem xE {α:Type} {p:α→Bool}:∀ {l:List α} {i:Int},l.any p=false→idxFrom p i l=-1
 | [],_,_=>rfl
 | x::r,i,h=>by
  rw [List.any_cons,Bool.or_eq_false_iff] at h
  rw [idxFrom,h.1]
  exact xE h.2
theorem QK {α:Type} {p:α→Bool}:∀ {l:List α} {i:Int},l.any p=true→i≤idxFrom p i l
 | [],_,h=>by cases h
 | x::r,i,h=>by
  rw [idxFrom]
  split
  ·
   omega
  ·
   rename_i hx
   rw [List.any_cons,Bool.or_eq_true] at h
   have:=QK (i:=i+1) (h.resolve_left hx)
   omega
theorem acF {α:Type} {p:α→Bool} {l:List α}:decide (0≤idxFrom p 0 l)=l.any p:=by
 cases h:l.any p with
 | false=>rw [xE h];decide
 | true=>rw [decide_eq_true_eq];exact QK h
section
variable {k:Nat} {l:List Int}
theorem slices_Index.round (hv:Okl k l) (hk:k≠2) (hlen:l.length≤17592186044416) {v:Int} {S:zx}:∀ (suf pre:List Int) {T:List Value} {r:St},wW (zC zi O false slices_Index.jd) T S=r→T.length=19 →
  T.getD 0 zh=iz k l→T.getD 1 zh=.int .i64 v→T.getD 7 zh=.int .i64 l.length→T.getD 8 zh=.int .i64 pre.length→l=pre++suf →
  ∃ e T',r=some (e,T',S)∧if suf.any (fun x=>decide (v=x)) then e=.ret∧T'.getD 4 zh=.int .i64 (idxFrom (fun x=>decide (v=x)) pre.length suf) else e=.exit 0∧T'.length=19:=by
 intro suf
 induction suf with
 | nil =>
  intro pre T r hL hT h0 h1 h7 h8 hl
  have hTe:=slices_Index.eta hT
  rw [h0,h1,h7,h8] at hTe
  have hr:zC zi O false slices_Index.jd T S=zC zi O false slices_Index.jd T S:=rfl
  have hd:¬ (pre.length:Int) < (l.length:Int):=by rw [hl];simp
  conv at hr =>
   rhs
   rw [hTe]
   simp only [slices_Index.jd,slices_Index.code,slices_Index.rs,zSs,reduceIte,zk,zn,zo,zq,hd]
  exact ⟨_,_,hL.symm.trans (jA hr (by simp)),rfl,rfl⟩
 | cons x suf ih =>
  intro pre T r hL hT h0 h1 h7 h8 hl
  have hTe:=slices_Index.eta hT
  rw [h0,h1,h7,h8] at hTe
  have hr:zC zi O false slices_Index.jd T S=zC zi O false slices_Index.jd T S:=rfl
  have hd:(pre.length:Int) < (l.length:Int):=by rw [hl];simp;omega
  have e1:∀ S,zW zi 29 (iz k l) (.int .i64 pre.length) S=some (EP [.int .i64 x],S):=fun S=>by
   rw [adO hv (by omega) hd];rw [Vb hl]
  have wi:IntKind.i64.wrap ((pre.length:Int)+1)=((pre++[x]).length:Int):=by rw [wrap_i64 (by omega) (by omega)];simp
  rw [List.any_cons,idxFrom]
  by_cases hx:v=x
  ·
   have hx2:=decide_eq_true hx
   conv at hr =>
    rhs
    rw [hTe]
    simp only [slices_Index.jd,slices_Index.code,slices_Index.rs,zSs,reduceIte,zk,zn,zo,zq,if_neg hk,hd,e1,X7,hx2]
   refine ⟨_,_,hL.symm.trans (jA hr (by simp)),?_⟩
   rw [hx2,Bool.true_or]
   exact ⟨rfl,rfl⟩
  ·
   have hx2:=decide_eq_false hx
   conv at hr =>
    rhs
    rw [hTe]
    simp only [slices_Index.jd,slices_Index.code,slices_Index.rs,zSs,reduceIte,zk,zn,zo,zq,if_neg hk,hd,e1,X7,hx2,wi]
   obtain ⟨e,T',g1,g2⟩:=ih (pre++[x]) ((jY hr).symm.trans hL) rfl rfl rfl rfl rfl (by simp [hl])
   refine ⟨e,T',g1,?_⟩
   rw [hx2,Bool.false_or]
   rw [show (((pre++[x]).length:Nat):Int)=(pre.length:Int)+1 by simp] at g2
   exact g2
theorem slices_Index.v (hv:Okl k l) (hk:k≠2) (hlen:l.length≤17592186044416) {v:Int} (S:zx):zU zi O slices_Index.id [iz k l,.int .i64 v] S=some (.int .i64 (idxFrom (fun x=>decide (v=x)) 0 l),S):=by
 obtain ⟨T,hTe⟩:∃ T,T=(iz k l::.int .i64 v::zh::zh::zh::zh::zh::zh::zh::zh::zh::zh::zh::zh::zh::zh::zh::zh::zh::[]):=⟨_,rfl⟩
 have hr:zC zi O false slices_Index.code T S=zC zi O false slices_Index.code T S:=rfl
 conv at hr =>
  rhs
  rw [hTe]
  simp only [slices_Index.code,slices_Index.rs,zSs,reduceIte,zk,zn,zo,zq,if_neg hk,abG hv,goInt]
 generalize hL:wW (zC zi O false slices_Index.jd) _ _=r at hr
 obtain ⟨e,T',rfl,g⟩:=slices_Index.round hv hk hlen l [] hL rfl rfl rfl rfl rfl rfl
 cases h:l.any (fun x=>decide (v=x)) with
 | true =>
  rw [h] at g
  obtain ⟨rfl,g2⟩:=g
  conv at hr =>
   rhs
   simp only [zSs,reduceIte,zk,zn,zo,zq]
  rw [hTe] at hr
  have hrun:=slices_Index.runs hr (.inr rfl)
  rw [g2] at hrun
  exact hrun
 | false =>
  rw [h] at g
  obtain ⟨rfl,g2⟩:=g
  have hTe':=slices_Index.eta g2
  conv at hr =>
   rhs
   rw [hTe']
   simp only [slices_Index.code,slices_Index.rs,zSs,reduceIte,zk,zn,zo,zq]
  rw [hTe] at hr
  rw [xE h]
  exact slices_Index.runs hr (.inr rfl)
theorem slices_Contains.v (hv:Okl k l) (hk:k≠2) (hlen:l.length≤17592186044416) {v:Int} (S:zx):zU zi O slices_Contains.id [iz k l,.int .i64 v] S=some (.bool (l.any fun x=>decide (v=x)),S):=by
 obtain ⟨T,hTe⟩:∃ T,T=(iz k l::.int .i64 v::zh::zh::zh::zh::zh::zh::zh::[]):=⟨_,rfl⟩
 have hr:zC zi O false slices_Contains.code T S=zC zi O false slices_Contains.code T S:=rfl
 have c1:=fun S=>slices_Index.v hv hk hlen (v:=v) S
 conv at hr =>
  rhs
  rw [hTe]
  simp only [slices_Contains.code,slices_Contains.rs,zSs,reduceIte,zk,zn,zo,zq,if_neg hk,c1,acF]
 rw [hTe] at hr
 exact slices_Contains.runs hr (.inr rfl)
end
end Go.Proofs.Ytpjglojnipjgfaa
