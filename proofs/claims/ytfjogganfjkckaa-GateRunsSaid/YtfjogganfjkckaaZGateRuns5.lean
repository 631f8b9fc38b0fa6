/-
The law GateRuns returns true for every input, and leaves it as it was; no condition. Part 5 of 7 of the texts (put together by a program: own names are short, what isn't needed is left out).
-/
import Derived.Test.YtfjogganfjkckaaZGateRuns4
import Derived.Test.YtfjogganfjkckaaChecked
import Derived.KernelRfl
set_option linter.unusedVariables false
set_option linter.unusedSimpArgs false
set_option maxRecDepth 100000
open Go renaming undef → zh
open Go.Proofs.Try renaming prog → zi
open Nat renaming reduceEqDiff → zk
open Int renaming reduceEq → zn
open Int renaming reduceLT → zo
open Int renaming reduceLE → zq
open Go renaming Value → zu
open List renaming toList_toArray → zD
namespace Go.Proofs.Ytfjogganfjkckaa
open Go.Abs
theorem wK.goes (x0 x1 x2 x3 x4 x5 x6 x7 x8 x9 x10 x11 x12 x13 x14 x15 x16 x17 x18 x19 x20 x21 x22 x23 x24 x25 x26 x27 x28 x29 x30 x31 x32 x33 x34 x35 x36 x37 x38 x39 x40 x41 x42 x43 x44 x45 x46 x47 x48 x49 x50 x51 x52 x53 x54 x55 x56 x57:zu) (i:Int) {S:zS}{k:Nat}{l:List UInt8} (hv:je k l) (hk:k≠2) (h0:x0=jk k l) (h7:x7=.int .i64 i):∃y10 y11 y12 y13 y14 y15 y16,zW zi ⟨false,false,false⟩ (zU zi O) (reg Try.f28 4) (reg Try.f28 4).toList (x0::x1::x2::x3::x4::x5::x6::x7::x8::x9::x10::x11::x12::x13::x14::x15::x16::x17::x18::x19::x20::x21::x22::x23::x24::x25::x26::x27::x28::x29::x30::x31::x32::x33::x34::x35::x36::x37::x38::x39::x40::x41::x42::x43::x44::x45::x46::x47::x48::x49::x50::x51::x52::x53::x54::x55::x56::x57::[]) S =
  some ((x0::x1::x2::x3::x4::x5::x6::x7::x8::x9::y10::y11::y12::y13::y14::y15::y16::.bool (decide (i<l.length∧i<10))::x18::x19::x20::x21::x22::x23::x24::x25::x26::x27::x28::x29::x30::x31::x32::x33::x34::x35::x36::x37::x38::x39::x40::x41::x42::x43::x44::x45::x46::x47::x48::x49::x50::x51::x52::x53::x54::x55::x56::x57::[]),S):=by
 subst h7 h0;rw[wK.r4];simp only[jc,reduceIte,zk,zn,zo,zq,zM hk,Jm hv,goInt];rcases Bool.eq_false_or_eq_true (decide (i<(l.length:Int)))with d1 |d1<;>rcases Bool.eq_false_or_eq_true (decide (i<10))with d2 |d2 <;>
  simp only[d1,d2,jc,reduceIte,zk,zn,zo,zq]<;>simp only[decide_eq_true_eq,decide_eq_false_iff_not]at d1 d2 <;>
  simp only[d1,d2,and_true,and_false,true_and,false_and,decide_true,decide_false]<;>exact⟨_,_,_,_,_,_,_,rfl⟩
theorem wK.nine {T:List zu}{S:zS}{i c:Int}(hT:T.length=58) (h7:T.getD 7 zh=.int .i64 i) (h8:T.getD 8 zh=.int .u64 c):∃T',zW zi ⟨false,false,false⟩ (zU zi O) (reg Try.f28 7) (reg Try.f28 7).toList T S=some (T',S) ∧
  T'.length=58∧T'.getD 31 zh=.bool (decide (i=9∧1<c))∧∀j,j<10→T'.getD j zh=T.getD j zh:=by
 obtain⟨x0,x1,x2,x3,x4,x5,x6,x7,x8,x9,x10,x11,x12,x13,x14,x15,x16,x17,x18,x19,x20,x21,x22,x23,x24,x25,x26,x27,x28,x29,x30,x31,x32,x33,x34,x35,x36,x37,x38,x39,x40,x41,x42,x43,x44,x45,x46,x47,x48,x49,x50,x51,x52,x53,x54,x55,x56,x57,rfl⟩:=wK.list hT;simp only[List.getD_cons_succ,List.getD_cons_zero]at h7 h8;subst h7 h8;rw[wK.r7];simp only[jc,reduceIte,zk,zn,zo,zq];rcases Bool.eq_false_or_eq_true (decide (i=9))with d1 |d1<;>rcases Bool.eq_false_or_eq_true (decide (1<c))with d2 |d2 <;>
  simp only[d1,d2,jc,reduceIte,zk,zn,zo,zq]<;>simp only[decide_eq_true_eq,decide_eq_false_iff_not]at d1 d2 <;>
  simp only[d1,d2,and_true,and_false,true_and,false_and,decide_true,decide_false]<;>exact⟨_,rfl,rfl,rfl,fun j hj=>by(match j,hj with | 0,_=>rfl | 1,_=>rfl | 2,_=>rfl | 3,_=>rfl | 4,_=>rfl | 5,_=>rfl | 6,_=>rfl | 7,_=>rfl | 8,_=>rfl | 9,_=>rfl)⟩
theorem MR (k:Nat):∀n,128 ^ k≤n→n<128 ^ (k+1)→(enc n).length=k+1:=by
 induction k with
 |zero=>intro n _ h;rw[Y4 (by omega)];rfl
 |succ k ih=>
  intro n h1 h2;have hn:¬n<128:=by
   have:128 ^ 1≤128 ^ (k+1):=Nat.pow_le_pow_right (by omega) (by omega)
   omega
  rw[KD hn,List.length_cons,ih (n / 128) (by rw[Nat.le_div_iff_mul_le (by omega)];exact h1) (by rw[Nat.div_lt_iff_lt_mul (by omega)];exact h2)]
theorem su (n:Nat):0<(enc n).length:=by
 by_cases h:n<128
 ·rw[Y4 h];simp
 ·rw[KD h];simp
section
variable {k:Nat}{l:List UInt8} {S:zS}
theorem wK.out (hv:je k l) (hk:k≠2) {i:Nat}{T:List zu}{r:St}(hL:yj (zX zi O false wK.jg) T S=r) (hT:T.length=58)
  (h0:T.getD 0 zh=jk k l) (h7:T.getD 7 zh=.int .i64 i) (hi:l.length≤i∨10≤i):∃T',r=some (.exit 0,T',S)∧T'.length=58:=by
 obtain⟨x0,x1,x2,x3,x4,x5,x6,x7,x8,x9,x10,x11,x12,x13,x14,x15,x16,x17,x18,x19,x20,x21,x22,x23,x24,x25,x26,x27,x28,x29,x30,x31,x32,x33,x34,x35,x36,x37,x38,x39,x40,x41,x42,x43,x44,x45,x46,x47,x48,x49,x50,x51,x52,x53,x54,x55,x56,x57,hTe⟩:=wK.list hT;rw[hTe]at h0 h7;simp only[List.getD_cons_succ,List.getD_cons_zero]at h0 h7;have hr:=Eq.refl (zX zi O false wK.jg T S);obtain⟨y10,y11,y12,y13,y14,y15,y16,e1⟩:=wK.goes x0 x1 x2 x3 x4 x5 x6 x7 x8 x9 x10 x11 x12 x13 x14 x15 x16 x17 x18 x19 x20 x21 x22 x23 x24 x25 x26 x27 x28 x29 x30 x31 x32 x33 x34 x35 x36 x37 x38 x39 x40 x41 x42 x43 x44 x45 x46 x47 x48 x49 x50 x51 x52 x53 x54 x55 x56 x57 (i:Int) (S:=S) hv hk h0 h7;have hd:decide ((i:Int)<(l.length:Int)∧(i:Int)<10)=false:=by simp;omega
 rw[hd]at e1;conv at hr=>
  rhs;rw[hTe];simp only[wK.jg,jc,reduceIte,zk,zn,zo,zq,e1]
 exact⟨_,hL.symm.trans (yX hr (by simp)),rfl⟩
theorem wK.round (hv:je k l) (hk:k≠2) (hlen:l.length≤140737488355328):∀(suf pre:List UInt8) (acc:Nat) {T:List zu}{r:St},yj (zX zi O false wK.jg) T S=r→T.length=58 →
  T.getD 0 zh=jk k l→T.getD 7 zh=.int .i64 pre.length→T.getD 5 zh=.int .u64 acc→T.getD 6 zh=.int .u64 (128 ^ pre.length:Nat)→l=pre++suf→acc<128 ^ pre.length→pre.length≤9 →
  ∃e T',r=some (e,T',S)∧match scan pre.length acc suf with
   |none=>(e=.exit 0∧T'.length=58)∨(e=.ret∧T'.getD 2 zh=.int .u64 0∧T'.getD 3 zh=.slice none 0 0∧T'.getD 4 zh=.int .i64 11)
   |some (m,rest)=>e=.ret∧T'.getD 2 zh=.int .u64 m∧T'.getD 3 zh=jk 2 rest∧T'.getD 4 zh=.int .i64 0:=by
 intro suf;induction suf with
 |nil=>
  intro pre acc T r hL hT h0 h7 h5 h6 hl hacc hpre;obtain⟨T',h1,h2⟩:=wK.out hv hk hL hT h0 h7 (by rw[hl];simp)
  exact⟨_,T',h1,.inl ⟨rfl,h2⟩⟩
 |cons x suf ih=>
  intro pre acc T r hL hT h0 h7 h5 h6 hl hacc hpre;obtain⟨x0,x1,x2,x3,x4,x5,x6,x7,x8,x9,x10,x11,x12,x13,x14,x15,x16,x17,x18,x19,x20,x21,x22,x23,x24,x25,x26,x27,x28,x29,x30,x31,x32,x33,x34,x35,x36,x37,x38,x39,x40,x41,x42,x43,x44,x45,x46,x47,x48,x49,x50,x51,x52,x53,x54,x55,x56,x57,hTe⟩:=wK.list hT;rw[hTe]at h0 h7 h5 h6;simp only[List.getD_cons_succ,List.getD_cons_zero]at h0 h7 h5 h6;have hr:=Eq.refl (zX zi O false wK.jg T S);have hlt:(pre.length:Int)<(l.length:Int):=by rw[hl];simp;omega
  have k0:k≠0:=fun h=>by have:=hv.nil h;rw[this]at hl;simp at hl
  have e1:∀S,jZ zi 33 (jk k l) (.int .i64 pre.length) S=some (EP [.int .u8 x.toNat],S):=fun S=>by
   rw[aC hv (by omega) hlt];rw[Qu hl]
  have hx256:=x.toNat_lt;obtain⟨y10,y11,y12,y13,y14,y15,y16,e3⟩:=wK.goes x0 x1 x2 x3 x4 x5 x6 x7 x8 x9 x10 x11 x12 x13 x14 x15 x16 x17 x18 x19 x20 x21 x22 x23 x24 x25 x26 x27 x28 x29 x30 x31 x32 x33 x34 x35 x36 x37 x38 x39 x40 x41 x42 x43 x44 x45 x46 x47 x48 x49 x50 x51 x52 x53 x54 x55 x56 x57 (pre.length:Int) (S:=S) hv hk h0 h7;have hd:decide ((pre.length:Int)<(l.length:Int)∧(pre.length:Int)<10)=true:=by rw[decide_eq_true_eq];omega
  rw[hd,h7,h5,h6,h0]at e3;have hlow:(x.toNat:Int).tmod 128=((x.toNat % 128:Nat):Int):=Fe _;conv at hr=>
   rhs;rw[hTe];simp only[wK.jg,jc,reduceIte,zk,zn,zo,zq,h7,h5,h6,h0,e3,wK.r6,zM hk,e1,X3,Xe _ _ _ (show(128:Int)≠0 by omega),hlow,aJ,Kt (show x.toNat % 128<2 ^ 64 by omega)]
  generalize hT2:(_::_:List zu)=T2 at hr;have t0:T2.length=58:=by rw[←hT2];rfl
  have t1:T2.getD 0 zh=jk k l:=by rw[←hT2];rfl
  have t2:T2.getD 5 zh=.int .u64 acc:=by rw[←hT2];rfl
  have t3:T2.getD 6 zh=.int .u64 (128 ^ pre.length:Nat):=by rw[←hT2];rfl
  have t4:T2.getD 7 zh=.int .i64 pre.length:=by rw[←hT2];rfl
  have t5:T2.getD 8 zh=.int .u64 (x.toNat % 128:Nat):=by rw[←hT2];rfl
  obtain⟨T3,e4,f0,f1,f2⟩:=wK.nine (S:=S) t0 t4 t5;rw[←f2 _ (by omega)]at t1 t2 t3 t4 t5
  conv at hr=>
   rhs;simp only[e4,jc,reduceIte,zk,zn,zo,zq,f1]
  clear hT2 e4 f1 f2 e3 hTe h7 h5 h6 h0;obtain⟨z0,z1,z2,z3,z4,z5,z6,z7,z8,z9,z10,z11,z12,z13,z14,z15,z16,z17,z18,z19,z20,z21,z22,z23,z24,z25,z26,z27,z28,z29,z30,z31,z32,z33,z34,z35,z36,z37,z38,z39,z40,z41,z42,z43,z44,z45,z46,z47,z48,z49,z50,z51,z52,z53,z54,z55,z56,z57,hTe⟩:=wK.list f0;rw[hTe]at t1 t2 t3 t4 t5;simp only[List.getD_cons_succ,List.getD_cons_zero]at t1 t2 t3 t4 t5;subst t1;by_cases hs1:pre.length=9∧1<x.toNat % 128
  ·have hd1:decide ((pre.length:Int)=9∧1<((x.toNat % 128:Nat):Int))=true:=by rw[decide_eq_true_eq];omega
   conv at hr=>
    rhs;rw[hTe];simp only[hd1,jc,reduceIte,zk,zn,zo,zq,wK.r8]
   refine⟨_,_,hL.symm.trans (yX hr (by simp)),?_⟩
   rw[scan,zN (.inl ⟨hs1.1,by omega⟩)]
   exact .inr ⟨rfl,rfl,rfl,rfl⟩
  ·have hd1:decide ((pre.length:Int)=9∧1<((x.toNat % 128:Nat):Int))=false:=by rw[decide_eq_false_iff_not];omega
   have hpw:128 ^ pre.length≤128 ^ 9:=Nat.pow_le_pow_right (by omega) hpre
   have hc64:x.toNat % 128*128 ^ pre.length<2 ^ 64:=by
    by_cases h9:pre.length=9
    ·rw[h9];have:x.toNat % 128≤1:=by omega
     exact Nat.lt_of_le_of_lt (Nat.mul_le_mul_right _ this) (by decide)
    ·have h8:128 ^ pre.length≤128 ^ 8:=Nat.pow_le_pow_right (by omega) (by omega)
     exact Nat.lt_of_le_of_lt (Nat.mul_le_mul (by omega:x.toNat % 128≤127) h8) (by decide)
   have ha64:acc+x.toNat % 128*128 ^ pre.length<2 ^ 64:=by
    by_cases h9:pre.length=9
    ·rw[h9]at hacc ⊢;have:x.toNat % 128≤1:=by omega
     have h1:x.toNat % 128*128 ^ 9≤1*128 ^ 9:=Nat.mul_le_mul_right _ this;have h2:(128:Nat) ^ 9+1*128 ^ 9=2 ^ 64:=by decide
     omega
    ·have h8:128 ^ (pre.length+1)≤128 ^ 9:=Nat.pow_le_pow_right (by omega) (by omega)
     have h3:acc+x.toNat % 128*128 ^ pre.length<128 ^ (pre.length+1):=by
      rw[Nat.pow_succ];have:x.toNat % 128*128 ^ pre.length≤127*128 ^ pre.length:=Nat.mul_le_mul_right _ (by omega)
      omega
     exact Nat.lt_of_lt_of_le h3 (Nat.le_trans h8 (by decide))
   have w1:IntKind.u64.wrap (((x.toNat % 128:Nat):Int)*((128 ^ pre.length:Nat):Int))=((x.toNat % 128*128 ^ pre.length:Nat):Int):=by
    rw[←Int.natCast_mul,Kt hc64]
   have w2:IntKind.u64.wrap ((acc:Int)+((x.toNat % 128*128 ^ pre.length:Nat):Int))=((acc+x.toNat % 128*128 ^ pre.length:Nat):Int):=by
    rw[←Int.natCast_add,Kt ha64]
   conv at hr=>
    rhs;rw[hTe];simp only[hd1,jc,reduceIte,zk,zn,zo,zq,wK.r9,wK.r10,wK.r11,t2,t3,t4,t5,w1,w2,zM hk,e1,X3]
   have hi1:IntKind.i64.wrap ((pre.length:Int)+1)=(pre.length:Int)+1:=wrap_i64 (by omega) (by omega)
   by_cases hxs:x.toNat<128
   ·have hxm:x.toNat % 128=x.toNat:=by omega
    rw[hxm]at hr ha64;have hd2:decide ((x.toNat:Int)<128)=true:=by rw[decide_eq_true_eq];omega
    conv at hr=>
     rhs;simp only[hd2,jc,reduceIte,zk,zn,zo,zq,wK.r12,qF.v _ ha64,wK.r13,Jm (je.read),goInt,hi1]
    by_cases hz:0<pre.length∧x.toNat=0
    ·have hlen2:(enc (acc+x.toNat*128 ^ pre.length)).length≤pre.length:=by
      obtain⟨q,hq⟩:∃q,pre.length=q+1:=⟨pre.length - 1,by omega⟩
      rw[hz.2,Nat.zero_mul,Nat.add_zero,hq];exact rZ q acc (by rw[←hq];exact hacc)
     have hd3:decide ((((enc (acc+x.toNat*128 ^ pre.length)).length:Nat):Int)=(pre.length:Int)+1)=false:=by rw[decide_eq_false_iff_not];omega
     conv at hr=>
      rhs;simp only[hd3,jc,reduceIte,zk,zn,zo,zq,wK.vP]
     refine⟨_,_,hL.symm.trans (yX hr (by simp)),?_⟩
     rw[scan,zN (.inr hz)];exact .inr ⟨rfl,rfl,rfl,rfl⟩
    ·have hlen2:(enc (acc+x.toNat*128 ^ pre.length)).length=pre.length+1:=by
      by_cases hp0:pre.length=0
      ·rw[hp0]at hacc ⊢;rw[Y4 (by omega)];rfl
      ·refine MR _ _ ?_ ?_
       ·have:1*128 ^ pre.length≤x.toNat*128 ^ pre.length:=Nat.mul_le_mul_right _ (by omega)
        omega
       ·rw[Nat.pow_succ];have:x.toNat*128 ^ pre.length≤127*128 ^ pre.length:=Nat.mul_le_mul_right _ (by omega)
        omega
     have hd3:decide ((((enc (acc+x.toNat*128 ^ pre.length)).length:Nat):Int)=(pre.length:Int)+1)=true:=by rw[decide_eq_true_eq];omega
     have e4:∀S,JI zi 33 (jk k l) (some (.int .i64 ((pre.length:Int)+1))) none S=some (jk k suf,S):=fun S=>by
      rw[pO hv (lo:=some (.int .i64 ((pre.length:Int)+1))) (hi:=none) (i:=(pre.length:Int)+1) (j:=l.length) rfl rfl (by omega) (by omega) (by omega),rY hl,zM hk]
     have ok2:je k suf:=⟨hv.le,fun h=>absurd h k0⟩
     have e5:∀S,yF zi 33 33 (jk 2 []) (jk k suf) S=some (jk 2 suf,S):=fun S=>by
      rw[Wj je.own (by decide) ok2 (by have:=congrArg List.length hl;simp at this;simp;omega)];rfl
     conv at hr=>
      rhs;simp only[hd3,jc,reduceIte,zk,zn,zo,zq,wK.Zi,KA,X0,hi1,zM hk,e4,e5]
     refine⟨_,_,hL.symm.trans (yX hr (by simp)),?_⟩
     rw[scan,zM (by rintro(h |h);exact absurd ⟨h.1,by omega⟩ hs1;exact hz h),zN hxs]
     exact⟨rfl,rfl,rfl,rfl⟩
   ·have hd2:decide ((x.toNat:Int)<128)=false:=by rw[decide_eq_false_iff_not];omega
    conv at hr=>
     rhs;simp only[hd2,jc,reduceIte,zk,zn,zo,zq,wK.r5,hi1]
    obtain⟨T1,hr,q0,q1,q2,q3,q4⟩:∃T1,zX zi O false wK.jg T S=some (.normal,T1,S)∧T1.length=58∧T1.getD 0 zh=jk k l∧T1.getD 7 zh=.int .i64 ((pre.length:Int)+1) ∧
     T1.getD 5 zh=.int .u64 ((acc+x.toNat % 128*128 ^ pre.length:Nat):Int)∧T1.getD 6 zh=.int .u64 (IntKind.u64.wrap (((128 ^ pre.length:Nat):Int)*128)):=⟨_,hr,rfl,rfl,rfl,rfl,rfl⟩
    by_cases hp9:pre.length=9
    ·obtain⟨T',h1,h2⟩:=wK.out hv hk ((xk hr).symm.trans hL) q0 q1 (i:=pre.length+1) q2 (.inr (by omega))
     refine⟨_,T',h1,?_⟩;rw[scan,zN (.inl ⟨hp9,by omega⟩)]
     exact .inl ⟨rfl,h2⟩
    ·have hpl:IntKind.u64.wrap (((128 ^ pre.length:Nat):Int)*128)=((128 ^ (pre.length+1):Nat):Int):=by
      have h8:128 ^ (pre.length+1)≤128 ^ 9:=Nat.pow_le_pow_right (by omega) (by omega)
      rw[show((128 ^ pre.length:Nat):Int)*128=((128 ^ (pre.length+1):Nat):Int) by rw[Nat.pow_succ,Int.natCast_mul];rfl]
      exact Kt (Nat.lt_of_le_of_lt h8 (by decide))
     rw[hpl]at q4;have hadd:acc+x.toNat % 128*128 ^ pre.length<128 ^ (pre.length+1):=by
      rw[Nat.pow_succ];have:x.toNat % 128*128 ^ pre.length≤127*128 ^ pre.length:=Nat.mul_le_mul_right _ (by omega)
      omega
     have hpl2:(pre++[x]).length=pre.length+1:=by simp
     obtain⟨e,T',g1,g3⟩:=ih (pre++[x]) (acc+x.toNat % 128*128 ^ pre.length) ((xk hr).symm.trans hL) q0 q1 (by rw[hpl2];exact q2) q3 (by rw[hpl2];exact q4) (by simp[hl]) (by rw[hpl2];exact hadd) (by rw[hpl2];omega)
     refine⟨e,T',g1,?_⟩;rw[scan,zM (by omega),zM hxs]
     have hxm:x.toNat % 128=x.toNat - 128:=by omega
     rw[hxm,hpl2]at g3;exact g3
theorem wK.v (hv:je k l) (hk:k≠2) (hlen:l.length≤140737488355328) (S:zS):zU zi O wK.id [jk k l] S=some (YP l,S):=by
 obtain⟨T,hTe⟩:∃T,T=(jk k l::[zh,zh,zh,zh,zh,zh,zh,zh,zh,zh,zh,zh,zh,zh,zh,zh,zh,zh,zh,zh,zh,zh,zh,zh,zh,zh,zh,zh,zh,zh,zh,zh,zh,zh,zh,zh,zh,zh,zh,zh,zh,zh,zh,zh,zh,zh,zh,zh,zh,zh,zh,zh,zh,zh,zh,zh,zh]):=⟨_,rfl⟩;have hr:=Eq.refl (zX zi O false wK.code T S);conv at hr=>
  rhs;rw[hTe];simp only[wK.code,jc,reduceIte,zk,zn,zo,zq,wK.r0,wK.r1,wK.r2,wK.r3]
 generalize hL:yj (zX zi O false wK.jg) _ _=r at hr;obtain⟨e,T',rfl,g3⟩:=wK.round hv hk hlen l [] 0 hL rfl rfl rfl rfl rfl rfl (by simp) (by simp)
 simp only[List.length_nil]at g3;unfold YP;cases hsc:scan 0 0 l with
 |none=>
  rw[hsc]at g3;rcases g3 with ⟨rfl,hT'⟩ |⟨rfl,h2,h3,h4⟩
  ·obtain⟨x0,x1,x2,x3,x4,x5,x6,x7,x8,x9,x10,x11,x12,x13,x14,x15,x16,x17,x18,x19,x20,x21,x22,x23,x24,x25,x26,x27,x28,x29,x30,x31,x32,x33,x34,x35,x36,x37,x38,x39,x40,x41,x42,x43,x44,x45,x46,x47,x48,x49,x50,x51,x52,x53,x54,x55,x56,x57,hTe'⟩:=wK.list hT';conv at hr=>
    rhs;rw[hTe'];simp only[jc,reduceIte,zk,zn,zo,zq,wK.r16]
   rw[hTe]at hr;exact wK.runs hr (.inr rfl) rfl rfl rfl
  ·conv at hr=>
    rhs;simp only[jc,reduceIte,zk,zn,zo,zq]
   rw[hTe]at hr;have hrun:=wK.runs hr (.inr rfl) (by rw[h2];rfl) (by rw[h3];rfl) (by rw[h4];rfl)
   rw[h2,h3,h4]at hrun;exact hrun
 |some mr=>
  obtain⟨m,rest⟩:=mr;rw[hsc]at g3;obtain⟨rfl,h2,h3,h4⟩:=g3;conv at hr=>
   rhs;simp only[jc,reduceIte,zk,zn,zo,zq]
  rw[hTe]at hr;have hrun:=wK.runs hr (.inr rfl) (by rw[h2];rfl) (by rw[h3];exact qQ) (by rw[h4];rfl)
  rw[h2,h3,h4]at hrun;exact hrun
end
theorem Fg {n:Nat}(h:n<256):(UInt8.ofNat n).toNat=n:=by rw[UInt8.toNat_ofNat'];omega
theorem TF :∀(n i acc:Nat) (r:List UInt8),i≤9→(0<i→0<n)→n*128 ^ i<2 ^ 64→scan i acc (enc n++r)=some (acc+n*128 ^ i,r):=by
 intro n;induction n using Nat.strongRecOn with
 | _ n ih=>
  intro i acc r hi hn hlt;have h9:i=9→n≤1:=by
   intro h;subst h;have:(128:Nat) ^ 9=2 ^ 63:=by decide
   omega
  by_cases hs:n<128
  ·rw[Y4 hs,List.singleton_append,scan,Fg (by omega),zM (by rintro(⟨h1,h2⟩ |⟨h1,h2⟩);exact absurd (h9 h1) (by omega);exact absurd (hn h1) (by omega)),zN hs]
  ·rw[KD hs,List.cons_append,scan,Fg (by omega)]
   have hi9:i≠9:=fun h=>by have:=h9 h;omega
   rw[zM (by rintro(⟨h1,h2⟩ |⟨h1,h2⟩);exact hi9 h1;omega),zM (by omega)]
   have hmul:n / 128*128 ^ (i+1)≤n*128 ^ i:=by
    rw[Nat.pow_succ,←Nat.mul_assoc,Nat.mul_right_comm];exact Nat.mul_le_mul_right _ (by omega)
   rw[ih (n / 128) (by omega) (i+1) _ r (by omega) (fun _=>by omega) (Nat.lt_of_le_of_lt hmul hlt)]
   congr 2
   have:n=n % 128+n / 128*128:=by omega
   have e1:(n % 128+128 - 128)*128 ^ i+n / 128*128 ^ (i+1)=n*128 ^ i:=by
    rw[Nat.pow_succ];conv=>rhs;rw[this,Nat.add_mul]
    rw[Nat.add_sub_cancel,Nat.mul_comm (128 ^ i) 128,←Nat.mul_assoc]
   omega
theorem VG {n:Nat}(h:n<2 ^ 64) (r:List UInt8):scan 0 0 (enc n++r)=some (n,r):=by
 rw[TF n 0 0 r (by omega) (by omega) (by simpa using h)];simp
theorem TG :∀(l:List UInt8) (i acc m:Nat) (r:List UInt8),scan i acc l=some (m,r)→∃n,l=enc n++r∧m=acc+n*128 ^ i∧(0<i→0<n):=by
 intro l;induction l with
 |nil=>intro i acc m r h;cases h
 |cons x l ih=>
  intro i acc m r h;rw[scan]at h;have hx:=x.toNat_lt;split at h
  ·cases h
  ·rename_i hs;split at h
   ·rename_i hx2;cases h;refine⟨x.toNat,?_,rfl,fun hi=>by omega⟩
    rw[Y4 hx2];simp
   ·rename_i hx2;obtain⟨n,h1,h2,h3⟩:=ih _ _ _ _ h;refine⟨x.toNat - 128+n*128,?_,?_,fun _=>?_⟩
    ·have hn:=h3 (by omega)
     rw[KD (by omega),show(x.toNat - 128+n*128) / 128=n by omega,show(x.toNat - 128+n*128) % 128+128=x.toNat by omega,h1]
     simp
    ·rw[h2,Nat.pow_succ,Nat.add_mul];rw[Nat.mul_comm (128 ^ i) 128,←Nat.mul_assoc];omega
    ·have:=h3 (by omega);omega
theorem EG {l r:List UInt8} {m:Nat}(h:scan 0 0 l=some (m,r)):l=enc m++r∧m<2 ^ 64:=by
 obtain⟨n,h1,h2,_⟩:=TG l 0 0 m r h;have:m=n:=by simpa using h2
 subst this;exact⟨h1,(VH l 0 0 (by decide) (by omega) m r h).1⟩
theorem MQ {a b:Nat}(ha:a<2 ^ 64) (hb:b<2 ^ 64) {r s:List UInt8} (h:enc a++r=enc b++s):a=b∧r=s:=by
 have h1:=VG ha r;rw[h,VG hb s]at h1;simp only[Option.some.injEq,Prod.mk.injEq]at h1;exact⟨h1.1.symm,h1.2.symm⟩
end Go.Proofs.Ytfjogganfjkckaa
namespace Go.Abs
open Go.RowKit
theorem Oy {b:Nat}{e:Ty}{α:Type}(f:α→List zu) (Q:α→Prop) (h:∀x,e.Good x→∃y,e.Zd x=f y∧Q y) (hf:∀y,(f y).length=e.sz) (x:(Ty.slc b e).Val) (hg:(Ty.slc b e).Good x) :
  ∃k l,je k l∧k≠2∧(Ty.slc b e).Zd x=[vs f e.sz k l]∧l.length*b≤140737488351232∧∀y∈l,Q y:=by
 match x,hg with
 |none,_=>exact⟨0,[],je.none,by decide,rfl,by simp,fun y hy=>by cases hy⟩
 |some xs,hg=>
  obtain⟨h1,h2,h3⟩:=hg;have key:∀xs:List e.Val,(∀n∈xs,e.Good n)→∃l:List α,xs.flatMap e.Zd=l.flatMap f∧l.length=xs.length∧∀y∈l,Q y:=by
   intro xs;induction xs with
   |nil=>intro _;exact⟨[],rfl,rfl,fun y hy=>by cases hy⟩
   |cons n xs ih=>
    intro hn;obtain⟨y,hy,hq⟩:=h n (hn n (by simp))
    obtain⟨l,k1,k2,k3⟩:=ih (fun m hm=>hn m (by simp[hm]))
    refine⟨y::l,by rw[List.flatMap_cons,List.flatMap_cons,hy,k1],by simp[k2],fun z hz=>?_⟩
    rcases List.mem_cons.1 hz with rfl |hz
    ·exact hq
    ·exact k3 z hz
  obtain⟨l,k1,k2,k3⟩:=key xs h3;refine⟨1,l,je.read,by decide,?_,by rw[k2];exact h1,k3⟩
  show [SL 1 e.sz (List.length xs) (List.flatMap e.Zd xs)]=[_];unfold vs;rw[EZ,k1,k2]
theorem Uz {cs xs:List zu}(h:cs.length=xs.length):splice cs 0 xs=xs:=by
 unfold splice;rw[List.take_zero,List.nil_append,Nat.zero_add,←h,List.drop_length,List.append_nil]
theorem P7 {k e n:Nat}{cs:List zu}:(sv k e n cs).oneCell'=true:=by unfold sv;split<;>rfl
theorem KQ {α:Type}{f:α→List zu}{e k:Nat}{l:List α}:(vs f e k l).oneCell'=true:=P7
theorem lU {k:IntKind}{n:Int}:(Value.int k n).oneCell'=true:=rfl
theorem bI {P:Program}{t:TypeId}{z xs:List zu}{x:zu}(S:zS) (hx:x.cells.toList=xs) (hs:y7 P t=some z.length) (hl:xs.length=z.length) (h1:xs.all (·.oneCell')=true) :
  ∃S2,jI P t (.pointer (some ⟨S.next,0,none⟩)) x (S.push (.cells z (.own []) 0))=some (zh,S2)∧S2.get S.next=some (.cells xs (.own []) 0)∧Ext S S2∧S.next<S2.next:=by
 have hg:(S.push (.cells z (.own []) 0)).get S.next=some (.cells z (.own []) 0):=by rw[zS.qO,zN rfl]
 refine⟨_,YT hg hs (by rw[←Array.length_toList,hx,hl]) (by rw[hx];exact h1) (by simp),?_,(Ext.push S _).set (Nat.le_refl _) _,by simp[zS.kills]⟩
 rw[zS.kM,zN rfl,hx,Uz hl.symm]
theorem Vq {P:Program}{t:TypeId}{q o n:Nat}{cs:List zu}{e:Nat}{x:zu}{S S0:zS}(hg:S.get q=some (.cells cs (.own []) e)) (hs:y7 P t=some n) (hn:x.cells.size=n) (h1:x.cells.toList.all (·.oneCell')=true) (hle:o+n≤cs.length) (hE:Ext S0 S) (hq:S0.next≤q) :
  ∃S2,jI P t (.pointer (some ⟨q,o,none⟩)) x S=some (zh,S2)∧S2.get q=some (.cells (splice cs o x.cells.toList) (.own []) e)∧Ext S0 S2∧S2.next=S.next∧∀k,k≠q→S2.get k=S.get k:=by
 exact⟨_,YT hg hs hn h1 hle,by rw[zS.kM,zN rfl],hE.set hq _,by simp[zS.kills],fun k hk=>by rw[zS.kM,zM hk];rfl⟩
theorem ak (x:zu) (S:zS):∃S2,qm x S=some (.pointer (some ⟨S.next,0,none⟩),S2)∧S2.get S.next=some (.cells x.cells.toList (.own []) 0)∧Ext S S2∧S.next<S2.next :=
 ⟨_,rfl,by rw[zS.qO,zN rfl],Ext.push _ _,by simp⟩
end Go.Abs
namespace Go.Proofs.Ytfjogganfjkckaa
open Go.Abs
theorem bb0 (S:zS):yO zi 33 0 [] S=some (jk 2 [],S):=by rw[KA];rfl
structure Tb where
 k:Nat
 b:List UInt8
structure Tb.Ok (t:Tb):Prop where
 okl:je t.k t.b
 ne:t.k≠2
 le:t.b.length≤140737488351232
def fB (t:Tb):List zu:=[jk t.k t.b]
theorem tV (t:Tb):(fB t).length=1:=rfl
def encs (l:List Int):List UInt8:=l.flatMap fun n=>enc (n+1).toNat
def Xz (k:Nat) (l:List Int):zu:=if 64<l.length∨∃n∈l,n < -1 then .tuple #[.slice none 0 0,.int .i64 11]else .tuple #[jk (if l=[]then k else 2) (encs l),.int .i64 0]
theorem GN {n:Int}(h:-1≤n) (h2:n<9223372036854775808):IntKind.u64.wrap (IntKind.u64.wrap n+1)=((n+1).toNat:Int):=by
 simp[IntKind.wrap,IntKind.bits,IntKind.signed];omega
theorem Xo (a b:List Int):encs (a++b)=encs a++encs b:=by simp[encs]
theorem sH (n:Int):encs [n]=enc (n+1).toNat:=by simp[encs]
theorem Qz {l:List Int}(h:∀n∈l,n<9223372036854775808):(encs l).length≤l.length*10:=by
 induction l with
 |nil=>simp[encs]
 |cons n l ih=>
  have h1:=ih fun m hm=>h m (by simp[hm])
  have h2:(enc (n+1).toNat).length≤10:=Xn (by have:=h n (by simp);omega)
  simp only[encs,List.flatMap_cons,List.length_append,List.length_cons]at *
  omega
theorem wJ.round {k:Nat}{l:List Int}(hv:je k l) (hk:k≠2) (h64:l.length≤64) (hb:∀n∈l,n<9223372036854775808) {S:zS}:∀(suf pre:List Int) {T:List zu}{r:St},yj (zX zi O false wJ.jg) T S=r→T.length=26 →
  T.getD 10 zh=iz k l→T.getD 11 zh=.int .i64 l.length→T.getD 12 zh=.int .i64 pre.length→T.getD 4 zh=jk (if pre=[]then 0 else 2) (encs pre)→l=pre++suf →
  ∃e T',r=some (e,T',S)∧if(∃n∈suf,n < -1)then e=.ret∧T'.getD 2 zh=.slice none 0 0∧T'.getD 3 zh=.int .i64 11 else e=.exit 0∧T'.length=26∧T'.getD 4 zh=jk (if l=[]then 0 else 2) (encs l):=by
 intro suf;induction suf with
 |nil=>
  intro pre T r hL hT ha hb hc h4 hl;have hTe:=wJ.eta hT;rw[ha,hb,hc,h4]at hTe;have hr:=Eq.refl (zX zi O false wJ.jg T S);have hd:¬(pre.length:Int)<(l.length:Int):=by rw[hl];simp
  conv at hr=>
   rhs;rw[hTe];simp only[wJ.jg,wJ.code,wJ.rs,jc,reduceIte,zk,zn,zo,zq,hd]
  refine⟨_,_,hL.symm.trans (yX hr (by simp)),?_⟩
  rw[zM (by simp)]
  simp only[List.append_nil]at hl;subst hl;exact⟨rfl,rfl,rfl⟩
 |cons n suf ih=>
  intro pre T r hL hT ha hbb hc h4 hl;have hTe:=wJ.eta hT;rw[ha,hbb,hc,h4]at hTe;have hr:=Eq.refl (zX zi O false wJ.jg T S);have hll:l.length=pre.length+(suf.length+1):=by rw[hl];simp
  have hlt:(pre.length:Int)<(l.length:Int):=by omega
  have e1:∀S,jZ zi 24 (iz k l) (.int .i64 pre.length) S=some (EP [.int .i64 n],S):=fun S=>by
   rw[QG hv (by omega) hlt];rw[aZ hl]
  have hn:=hb n (by rw[hl];simp)
  by_cases h1:n < -1
  ·conv at hr=>
    rhs;rw[hTe];simp only[wJ.jg,wJ.code,wJ.rs,jc,reduceIte,zk,zn,zo,zq,hlt,e1,kS,h1]
   refine⟨_,_,hL.symm.trans (yX hr (by simp)),?_⟩
   rw[zN ⟨n,by simp,h1⟩]
   exact⟨rfl,rfl,rfl⟩
  ·have w1:=GN (n:=n) (by omega) (by omega)
   have hpb:(encs pre).length≤pre.length*10:=Qz fun m hm=>hb m (by rw[hl];simp[hm])
   have hp10:(enc (n+1).toNat).length≤10:=Xn (by omega)
   have hpp:=su (n+1).toNat;have g1:=fun S=>qJ.v (n+1).toNat (by omega) S
   have e2:∀S,yF zi 33 33 (jk (if pre=[]then 0 else 2) (encs pre)) (jk 2 (enc (n+1).toNat)) S=some (jk 2 (encs (pre++[n])),S):=fun S=>by
    have ok:je (if pre=[]then 0 else 2) (encs pre):=⟨by split<;>omega,fun h=>by split at h<;>first |(rename_i hp;subst hp;rfl) |omega⟩
    rw[Wj ok (by split<;>omega) je.own (by omega),zM (fun h=>by have:=h.2;omega),Xo,sH]
   have wi:IntKind.i64.wrap ((pre.length:Int)+1)=((pre++[n]).length:Int):=by rw[wrap_i64 (by omega) (by omega)];simp
   conv at hr=>
    rhs;rw[hTe];simp only[wJ.jg,wJ.code,wJ.rs,jc,reduceIte,zk,zn,zo,zq,hlt,e1,kS,h1,gJ,w1,g1,e2,wi]
   obtain⟨e,T',g1,g2⟩:=ih (pre++[n]) ((xk hr).symm.trans hL) rfl rfl rfl rfl (by rw[zM (show ¬pre++[n]=[] by simp)];rfl) (by simp[hl])
   refine⟨e,T',g1,?_⟩;by_cases h2:∃m∈suf,m < -1
   ·rw[zN h2]at g2;obtain⟨m,hm,hm2⟩:=h2;rw[zN ⟨m,by simp[hm],hm2⟩]
    exact g2
   ·rw[zM h2]at g2;rw[zM (by rintro⟨m,hm,hm2⟩;rcases List.mem_cons.1 hm with rfl |hm;exact h1 hm2;exact h2 ⟨m,hm,hm2⟩)]
    exact g2
theorem wJ.v {k:Nat}{l:List Int}(hv:je k l) (hk:k≠2) (hb:∀n∈l,n<9223372036854775808) (S:zS):zU zi O wJ.id [iz k l] S=some (Xz 0 l,S):=by
 obtain⟨T,hTe⟩:∃T,T=(iz k l::[zh,zh,zh,zh,zh,zh,zh,zh,zh,zh,zh,zh,zh,zh,zh,zh,zh,zh,zh,zh,zh,zh,zh,zh,zh]):=⟨_,rfl⟩;have hr:=Eq.refl (zX zi O false wJ.code T S);unfold Xz;by_cases h1:64<l.length
 ·have d1:(64:Int)<(l.length:Int):=by omega
  conv at hr=>
   rhs;rw[hTe];simp only[wJ.code,wJ.rs,jc,reduceIte,zk,zn,zo,zq,zM hk,KH hv,goInt,d1]
  rw[hTe]at hr;rw[zN (.inl h1)];exact wJ.runs hr (.inr rfl) (by simp only[List.getD_cons_succ,List.getD_cons_zero,qQ,kH,kJ,kG,kF]) (by simp only[List.getD_cons_succ,List.getD_cons_zero,qQ,kH,kJ,kG,kF])
 ·have d1:¬(64:Int)<(l.length:Int):=by omega
  conv at hr=>
   rhs;rw[hTe];simp only[wJ.code,wJ.rs,jc,reduceIte,zk,zn,zo,zq,zM hk,KH hv,goInt,d1,KA,X0]
  generalize hL:yj (zX zi O false wJ.jg) _ _=r at hr;obtain⟨e,T',rfl,g⟩:=wJ.round hv hk (by omega) hb l [] hL rfl rfl rfl rfl rfl rfl
  by_cases h2:∃n∈l,n < -1
  ·rw[zN h2]at g;obtain⟨rfl,g2,g3⟩:=g;conv at hr=>
    rhs;simp only[jc,reduceIte,zk,zn,zo,zq]
   rw[hTe]at hr;rw[zN (.inr h2)];have hrun:=wJ.runs hr (.inr rfl) (by rw[g2];rfl) (by rw[g3];rfl)
   rw[g2,g3]at hrun;exact hrun
  ·rw[zM h2]at g;obtain⟨rfl,g2,g3⟩:=g;have hTe':=wJ.eta g2;rw[g3]at hTe';conv at hr=>
    rhs;rw[hTe'];simp only[wJ.code,wJ.rs,jc,reduceIte,zk,zn,zo,zq]
   rw[hTe]at hr;rw[zM (by rintro(h |h);exact h1 h;exact h2 h)]
   exact wJ.runs hr (.inr rfl) (by simp only[List.getD_cons_succ,List.getD_cons_zero,qQ,kH,kJ,kG,kF]) (by simp only[List.getD_cons_succ,List.getD_cons_zero,qQ,kH,kJ,kG,kF])
theorem wF.round {k:Nat}{l:List Int}(hv:je k l) (hk:k≠2) (h64:l.length≤64) (hb:∀n∈l,n<9223372036854775808) {S:zS}:∀(suf pre:List Int) {T:List zu}{r:St},yj (zX zi O false wF.jg) T S=r→T.length=27 →
  T.getD 11 zh=iz k l→T.getD 12 zh=.int .i64 l.length→T.getD 13 zh=.int .i64 pre.length→T.getD 4 zh=jk (if pre=[]then 2 else 2) (encs pre)→l=pre++suf →
  ∃e T',r=some (e,T',S)∧if(∃n∈suf,n < -1)then e=.ret∧T'.getD 2 zh=.slice none 0 0∧T'.getD 3 zh=.int .i64 11 else e=.exit 0∧T'.length=27∧T'.getD 4 zh=jk (if l=[]then 2 else 2) (encs l):=by
 intro suf;induction suf with
 |nil=>
  intro pre T r hL hT ha hb hc h4 hl;have hTe:=wF.eta hT;rw[ha,hb,hc,h4]at hTe;have hr:=Eq.refl (zX zi O false wF.jg T S);have hd:¬(pre.length:Int)<(l.length:Int):=by rw[hl];simp
  conv at hr=>
   rhs;rw[hTe];simp only[wF.jg,wF.code,wF.rs,jc,reduceIte,zk,zn,zo,zq,hd]
  refine⟨_,_,hL.symm.trans (yX hr (by simp)),?_⟩
  rw[zM (by simp)]
  simp only[List.append_nil]at hl;subst hl;exact⟨rfl,rfl,rfl⟩
 |cons n suf ih=>
  intro pre T r hL hT ha hbb hc h4 hl;have hTe:=wF.eta hT;rw[ha,hbb,hc,h4]at hTe;have hr:=Eq.refl (zX zi O false wF.jg T S);have hll:l.length=pre.length+(suf.length+1):=by rw[hl];simp
  have hlt:(pre.length:Int)<(l.length:Int):=by omega
  have e1:∀S,jZ zi 24 (iz k l) (.int .i64 pre.length) S=some (EP [.int .i64 n],S):=fun S=>by
   rw[QG hv (by omega) hlt];rw[aZ hl]
  have hn:=hb n (by rw[hl];simp)
  by_cases h1:n < -1
  ·conv at hr=>
    rhs;rw[hTe];simp only[wF.jg,wF.code,wF.rs,jc,reduceIte,zk,zn,zo,zq,hlt,e1,kS,h1]
   refine⟨_,_,hL.symm.trans (yX hr (by simp)),?_⟩
   rw[zN ⟨n,by simp,h1⟩]
   exact⟨rfl,rfl,rfl⟩
  ·have w1:=GN (n:=n) (by omega) (by omega)
   have hpb:(encs pre).length≤pre.length*10:=Qz fun m hm=>hb m (by rw[hl];simp[hm])
   have hp10:(enc (n+1).toNat).length≤10:=Xn (by omega)
   have hpp:=su (n+1).toNat;have g1:=fun S=>qF.v (n+1).toNat (by omega) S
   have e2:∀S,yF zi 33 33 (jk (if pre=[]then 2 else 2) (encs pre)) (jk 2 (enc (n+1).toNat)) S=some (jk 2 (encs (pre++[n])),S):=fun S=>by
    have ok:je (if pre=[]then 2 else 2) (encs pre):=⟨by split<;>omega,fun h=>by split at h<;>first |(rename_i hp;subst hp;rfl) |omega⟩
    rw[Wj ok (by split<;>omega) je.own (by omega),zM (fun h=>by have:=h.2;omega),Xo,sH]
   have wi:IntKind.i64.wrap ((pre.length:Int)+1)=((pre++[n]).length:Int):=by rw[wrap_i64 (by omega) (by omega)];simp
   conv at hr=>
    rhs;rw[hTe];simp only[wF.jg,wF.code,wF.rs,jc,reduceIte,zk,zn,zo,zq,hlt,e1,kS,h1,gJ,w1,g1,e2,wi]
   obtain⟨e,T',g1,g2⟩:=ih (pre++[n]) ((xk hr).symm.trans hL) rfl rfl rfl rfl (by rw[zM (show ¬pre++[n]=[] by simp)];rfl) (by simp[hl])
   refine⟨e,T',g1,?_⟩;by_cases h2:∃m∈suf,m < -1
   ·rw[zN h2]at g2;obtain⟨m,hm,hm2⟩:=h2;rw[zN ⟨m,by simp[hm],hm2⟩]
    exact g2
   ·rw[zM h2]at g2;rw[zM (by rintro⟨m,hm,hm2⟩;rcases List.mem_cons.1 hm with rfl |hm;exact h1 hm2;exact h2 ⟨m,hm,hm2⟩)]
    exact g2
theorem wF.v {k:Nat}{l:List Int}(hv:je k l) (hk:k≠2) (hb:∀n∈l,n<9223372036854775808) (S:zS):zU zi O wF.id [iz k l] S=some (Xz 2 l,S):=by
 obtain⟨T,hTe⟩:∃T,T=(iz k l::[zh,zh,zh,zh,zh,zh,zh,zh,zh,zh,zh,zh,zh,zh,zh,zh,zh,zh,zh,zh,zh,zh,zh,zh,zh,zh]):=⟨_,rfl⟩;have hr:=Eq.refl (zX zi O false wF.code T S);unfold Xz;by_cases h1:64<l.length
 ·have d1:(64:Int)<(l.length:Int):=by omega
  conv at hr=>
   rhs;rw[hTe];simp only[wF.code,wF.rs,jc,reduceIte,zk,zn,zo,zq,zM hk,KH hv,goInt,d1]
  rw[hTe]at hr;rw[zN (.inl h1)];exact wF.runs hr (.inr rfl) (by simp only[List.getD_cons_succ,List.getD_cons_zero,qQ,kH,kJ,kG,kF]) (by simp only[List.getD_cons_succ,List.getD_cons_zero,qQ,kH,kJ,kG,kF])
 ·have d1:¬(64:Int)<(l.length:Int):=by omega
  conv at hr=>
   rhs;rw[hTe];simp only[wF.code,wF.rs,jc,reduceIte,zk,zn,zo,zq,zM hk,KH hv,goInt,d1,KA,X0]
  generalize hL:yj (zX zi O false wF.jg) _ _=r at hr;obtain⟨e,T',rfl,g⟩:=wF.round hv hk (by omega) hb l [] hL rfl rfl rfl rfl rfl rfl
  by_cases h2:∃n∈l,n < -1
  ·rw[zN h2]at g;obtain⟨rfl,g2,g3⟩:=g;conv at hr=>
    rhs;simp only[jc,reduceIte,zk,zn,zo,zq]
   rw[hTe]at hr;rw[zN (.inr h2)];have hrun:=wF.runs hr (.inr rfl) (by rw[g2];rfl) (by rw[g3];rfl)
   rw[g2,g3]at hrun;exact hrun
  ·rw[zM h2]at g;obtain⟨rfl,g2,g3⟩:=g;have hTe':=wF.eta g2;rw[g3]at hTe';conv at hr=>
    rhs;rw[hTe'];simp only[wF.code,wF.rs,jc,reduceIte,zk,zn,zo,zq]
   rw[hTe]at hr;rw[zM (by rintro(h |h);exact h1 h;exact h2 h)]
   exact wF.runs hr (.inr rfl) (by simp only[List.getD_cons_succ,List.getD_cons_zero,qQ,kH,kJ,kG,kF]) (by simp only[List.getD_cons_succ,List.getD_cons_zero,qQ,kH,kJ,kG,kF])
def qh :Nat→List UInt8→Option (List Int×List UInt8)
 | 0,l=>some ([],l)
 |m+1,l=>match scan 0 0 l with
  |some (n,r)=>if n≤4611686018427387905 then(match qh m r with
   |some (a,b)=>some (((n:Int) - 1)::a,b)
   |none=>none)else none
  |none=>none
def JY (k0 k1:Nat) (many:Int) (l:List UInt8):zu :=
 if many<0∨64<many then .tuple #[.slice none 0 0,.slice none 0 0,.int .i64 11]
 else match qh many.toNat l with
  |some (a,b)=>.tuple #[iz (if many=0 then k0 else 2) a,jk (if many=0 then k1 else 2) b,.int .i64 0]
  |none=>.tuple #[.slice none 0 0,.slice none 0 0,.int .i64 11]
theorem jT.round {many:Int}(hmany:many≤64) {S:zS}:∀(m:Nat) (i:Int) (rest:List UInt8) (kr:Nat) (out:List Int) (ko:Nat) {T:List zu}{r:St},yj (zX zi O false jT.jg) T S=r→T.length=45 →
  T.getD 20 zh=.int .i64 many→T.getD 21 zh=.int .i64 i→T.getD 7 zh=jk kr rest→T.getD 8 zh=iz ko out→0≤i→many=i+m→je kr rest→rest.length≤140737488355328→je ko out→ko≠1→(out.length:Int)=i →
  ∃e T',r=some (e,T',S)∧match qh m rest with
   |none=>e=.ret∧T'.getD 4 zh=.slice none 0 0∧T'.getD 5 zh=.slice none 0 0∧T'.getD 6 zh=.int .i64 11
   |some (a,b)=>e=.exit 0∧T'.length=45∧T'.getD 8 zh=iz (if m=0 then ko else 2) (out++a)∧T'.getD 7 zh=jk (if m=0 then kr else 2) b:=by
 intro m;induction m with
 |zero=>
  intro i rest kr out ko T r hL hT h1 h2 h3 h4 h0 hm hkr hlen hko hk1 hol;have hTe:=jT.eta hT;rw[h1,h2,h3,h4]at hTe;have hr:=Eq.refl (zX zi O false jT.jg T S);have hd:¬i<many:=by omega
  conv at hr=>
   rhs;rw[hTe];simp only[jT.jg,jT.code,jT.rs,jc,reduceIte,zk,zn,zo,zq,hd]
  exact⟨_,_,hL.symm.trans (yX hr (by simp)),rfl,rfl,by simp,rfl⟩
 |succ m ih=>
  intro i rest kr out ko T r hL hT h1 h2 h3 h4 h0 hm hkr hlen hko hk1 hol;have hTe:=jT.eta hT;rw[h1,h2,h3,h4]at hTe;have hr:=Eq.refl (zX zi O false jT.jg T S);have hd:i<many:=by omega
  have g1:∀S,zU zi O yL.id [jk (if kr=2 then 1 else kr) rest] S=some (YP rest,S):=yL.v hkr.zQ (by split<;>omega) hlen
  unfold YP at g1;rw[qh];cases hsc:scan 0 0 rest with
  |none=>
   rw[hsc]at g1;have d11:¬(11:Int)=0:=by omega
   conv at hr=>
    rhs;rw[hTe];simp only[jT.jg,jT.code,jT.rs,jc,reduceIte,zk,zn,zo,zq,JM,hd,g1,d11]
   exact⟨_,_,hL.symm.trans (yX hr (by simp)),rfl,rfl,rfl,rfl⟩
  |some nr=>
   obtain⟨n,r'⟩:=nr;rw[hsc]at g1;obtain⟨hn,hrl⟩:=VH rest 0 0 (by decide) (by omega) n r' hsc
   dsimp only;by_cases h5:n≤4611686018427387905
   ·have d1:¬(4611686018427387905:Int)<(n:Int):=by omega
    have w1:IntKind.i64.wrap (n:Int)=(n:Int):=wrap_i64 (by omega) (by omega)
    have w2:IntKind.i64.wrap ((n:Int) - 1)=(n:Int) - 1:=wrap_i64 (by omega) (by omega)
    have w3:IntKind.i64.wrap (i+1)=i+1:=wrap_i64 (by omega) (by omega)
    have e1:∀x S,yF zi 24 24 (iz ko out) (iz 2 [x]) S=some (iz 2 (out++[x]),S):=fun x S=>BO hko hk1 (by omega)
    conv at hr=>
     rhs;rw[hTe];simp only[jT.jg,jT.code,jT.rs,jc,reduceIte,zk,zn,zo,zq,JM,hd,g1,d1,rH,w1,w2,w3,au,aY,e1]
    obtain⟨e,T',g2,g3⟩:=ih (i+1) r' 2 (out++[(n:Int) - 1]) 2 ((xk hr).symm.trans hL) rfl rfl rfl rfl rfl (by omega) (by omega) je.own (by omega) je.own (by decide) (by simp;omega)
    refine⟨e,T',g2,?_⟩;rw[zN h5];cases hrn:qh m r' with
    |none=>rw[hrn]at g3;exact g3
    |some ab=>
     obtain⟨a,b⟩:=ab;rw[hrn]at g3;obtain⟨q1,q2,q3,q4⟩:=g3;refine⟨q1,q2,?_,?_⟩
     ·rw[q3];simp
     ·rw[q4];simp
   ·have d1:(4611686018427387905:Int)<(n:Int):=by omega
    conv at hr=>
     rhs;rw[hTe];simp only[jT.jg,jT.code,jT.rs,jc,reduceIte,zk,zn,zo,zq,JM,hd,g1,d1]
    refine⟨_,_,hL.symm.trans (yX hr (by simp)),?_⟩
    rw[zM h5];exact⟨rfl,rfl,rfl,rfl⟩
theorem jS.round {many:Int}(hmany:many≤64) {S:zS}:∀(m:Nat) (i:Int) (rest:List UInt8) (kr:Nat) (out:List Int) (ko:Nat) {T:List zu}{r:St},yj (zX zi O false jS.jg) T S=r→T.length=49 →
  T.getD 1 zh=.int .i64 many→T.getD 9 zh=.int .i64 i→T.getD 8 zh=jk kr rest→T.getD 7 zh=iz ko out→0≤i→many=i+m→je kr rest→rest.length≤140737488355328→je ko out→ko≠1→(out.length:Int)=i →
  ∃e T',r=some (e,T',S)∧match qh m rest with
   |none=>e=.ret∧T'.getD 4 zh=.slice none 0 0∧T'.getD 5 zh=.slice none 0 0∧T'.getD 6 zh=.int .i64 11
   |some (a,b)=>e=.exit 0∧T'.length=49∧T'.getD 7 zh=iz (if m=0 then ko else 2) (out++a)∧T'.getD 8 zh=jk (if m=0 then kr else 2) b:=by
 intro m;induction m with
 |zero=>
  intro i rest kr out ko T r hL hT h1 h2 h3 h4 h0 hm hkr hlen hko hk1 hol;have hTe:=jS.eta hT;rw[h1,h2,h3,h4]at hTe;have hr:=Eq.refl (zX zi O false jS.jg T S);have hd:¬i<many:=by omega
  conv at hr=>
   rhs;rw[hTe];simp only[jS.jg,jS.code,jS.rs,jc,reduceIte,zk,zn,zo,zq,hd]
  exact⟨_,_,hL.symm.trans (yX hr (by simp)),rfl,rfl,by simp,rfl⟩
 |succ m ih=>
  intro i rest kr out ko T r hL hT h1 h2 h3 h4 h0 hm hkr hlen hko hk1 hol;have hTe:=jS.eta hT;rw[h1,h2,h3,h4]at hTe;have hr:=Eq.refl (zX zi O false jS.jg T S);have hd:i<many:=by omega
  have g1:∀S,zU zi O wK.id [jk (if kr=2 then 1 else kr) rest] S=some (YP rest,S):=wK.v hkr.zQ (by split<;>omega) hlen
  unfold YP at g1;rw[qh];cases hsc:scan 0 0 rest with
  |none=>
   rw[hsc]at g1;have d11:¬(11:Int)=0:=by omega
   conv at hr=>
    rhs;rw[hTe];simp only[jS.jg,jS.code,jS.rs,jc,reduceIte,zk,zn,zo,zq,JM,hd,g1,d11]
   exact⟨_,_,hL.symm.trans (yX hr (by simp)),rfl,rfl,rfl,rfl⟩
  |some nr=>
   obtain⟨n,r'⟩:=nr;rw[hsc]at g1;obtain⟨hn,hrl⟩:=VH rest 0 0 (by decide) (by omega) n r' hsc
   dsimp only;by_cases h5:n≤4611686018427387905
   ·have d1:¬(4611686018427387905:Int)<(n:Int):=by omega
    have w1:IntKind.i64.wrap (n:Int)=(n:Int):=wrap_i64 (by omega) (by omega)
    have w2:IntKind.i64.wrap ((n:Int) - 1)=(n:Int) - 1:=wrap_i64 (by omega) (by omega)
    have w3:IntKind.i64.wrap (i+1)=i+1:=wrap_i64 (by omega) (by omega)
    have e1:∀x S,yF zi 24 24 (iz ko out) (iz 2 [x]) S=some (iz 2 (out++[x]),S):=fun x S=>BO hko hk1 (by omega)
    conv at hr=>
     rhs;rw[hTe];simp only[jS.jg,jS.code,jS.rs,jc,reduceIte,zk,zn,zo,zq,JM,hd,g1,d1,rH,w1,w2,w3,au,aY,e1]
    obtain⟨e,T',g2,g3⟩:=ih (i+1) r' 2 (out++[(n:Int) - 1]) 2 ((xk hr).symm.trans hL) rfl rfl rfl rfl rfl (by omega) (by omega) je.own (by omega) je.own (by decide) (by simp;omega)
    refine⟨e,T',g2,?_⟩;rw[zN h5];cases hrn:qh m r' with
    |none=>rw[hrn]at g3;exact g3
    |some ab=>
     obtain⟨a,b⟩:=ab;rw[hrn]at g3;obtain⟨q1,q2,q3,q4⟩:=g3;refine⟨q1,q2,?_,?_⟩
     ·rw[q3];simp
     ·rw[q4];simp
   ·have d1:(4611686018427387905:Int)<(n:Int):=by omega
    conv at hr=>
     rhs;rw[hTe];simp only[jS.jg,jS.code,jS.rs,jc,reduceIte,zk,zn,zo,zq,JM,hd,g1,d1]
    refine⟨_,_,hL.symm.trans (yX hr (by simp)),?_⟩
    rw[zM h5];exact⟨rfl,rfl,rfl,rfl⟩
theorem jT.v {k:Nat}{l:List UInt8} {many:Int}(hv:je k l) (hk:k≠2) (hlen:l.length≤140737488355328) (S:zS):zU zi O jT.id [jk k l,.int .i64 many] S=some (JY 0 (if k=0 then 0 else 2) many l,S):=by
 obtain⟨T,hTe⟩:∃T,T=(jk k l::.int .i64 many::[zh,zh,zh,zh,zh,zh,zh,zh,zh,zh,zh,zh,zh,zh,zh,zh,zh,zh,zh,zh,zh,zh,zh,zh,zh,zh,zh,zh,zh,zh,zh,zh,zh,zh,zh,zh,zh,zh,zh,zh,zh,zh,zh]):=⟨_,rfl⟩;have hr:=Eq.refl (zX zi O false jT.code T S);have c1:∀S,zU zi O 54 [jk k l] S=some (jk (if k=0 then 0 else 2) l,S):=slices_Clone.v hv hk hlen;unfold JY;by_cases h1:many<0
 ·conv at hr=>
   rhs;rw[hTe];simp only[jT.code,jT.rs,jc,reduceIte,zk,zn,zo,zq,h1]
  rw[hTe]at hr;rw[zN (.inl h1)];exact jT.runs hr (.inr rfl) (by simp only[List.getD_cons_succ,List.getD_cons_zero,qQ,kH,kJ,kG,kF]) (by simp only[List.getD_cons_succ,List.getD_cons_zero,qQ,kH,kJ,kG,kF]) (by simp only[List.getD_cons_succ,List.getD_cons_zero,qQ,kH,kJ,kG,kF])
 ·by_cases h2:64<many
  ·conv at hr=>
    rhs;rw[hTe];simp only[jT.code,jT.rs,jc,reduceIte,zk,zn,zo,zq,h1,h2]
   rw[hTe]at hr;rw[zN (.inr h2)];exact jT.runs hr (.inr rfl) (by simp only[List.getD_cons_succ,List.getD_cons_zero,qQ,kH,kJ,kG,kF]) (by simp only[List.getD_cons_succ,List.getD_cons_zero,qQ,kH,kJ,kG,kF]) (by simp only[List.getD_cons_succ,List.getD_cons_zero,qQ,kH,kJ,kG,kF])
  ·rw[zM (by omega)]
   conv at hr=>
    rhs;rw[hTe];simp only[jT.code,jT.rs,jc,reduceIte,zk,zn,zo,zq,h1,h2,zM hk,c1]
   generalize hL:yj (zX zi O false jT.jg) _ _=r at hr;have okr:je (if k=0 then 0 else 2) l:=⟨by split<;>omega,fun h=>by split at h<;>first |(rename_i hp;exact hv.nil hp) |omega⟩
   obtain⟨e,T',rfl,g⟩:=jT.round (many:=many) (by omega) many.toNat 0 l (if k=0 then 0 else 2) [] 0 hL rfl rfl rfl rfl rfl (by omega) (by omega) okr hlen je.none (by decide) rfl
   cases hrn:qh many.toNat l with
   |none=>
    rw[hrn]at g;obtain⟨rfl,g2,g3,g4⟩:=g;conv at hr=>
     rhs;simp only[jc,reduceIte,zk,zn,zo,zq]
    rw[hTe]at hr;have hrun:=jT.runs hr (.inr rfl) (by rw[g2];rfl) (by rw[g3];rfl) (by rw[g4];rfl)
    rw[g2,g3,g4]at hrun;exact hrun
   |some ab=>
    obtain⟨a,b⟩:=ab;rw[hrn]at g;obtain⟨rfl,g2,g3,g4⟩:=g;have hTe':=jT.eta g2;rw[g3,g4]at hTe';have hz:(many.toNat=0)↔(many=0):=by omega
    simp only[hz,List.nil_append]at hTe';conv at hr=>
     rhs;rw[hTe'];simp only[jT.code,jT.rs,jc,reduceIte,zk,zn,zo,zq]
    rw[hTe]at hr;exact jT.runs hr (.inr rfl) (by simp only[List.getD_cons_succ,List.getD_cons_zero,qQ,kH,kJ,kG,kF]) (by simp only[List.getD_cons_succ,List.getD_cons_zero,qQ,kH,kJ,kG,kF]) (by simp only[List.getD_cons_succ,List.getD_cons_zero,qQ,kH,kJ,kG,kF])
theorem jS.v {k:Nat}{l:List UInt8} {many:Int}(hv:je k l) (hk:k≠2) (hlen:l.length≤140737488355328) (S:zS):zU zi O jS.id [jk k l,.int .i64 many] S=some (JY 2 2 many l,S):=by
 obtain⟨T,hTe⟩:∃T,T=(jk k l::.int .i64 many::[zh,zh,zh,zh,zh,zh,zh,zh,zh,zh,zh,zh,zh,zh,zh,zh,zh,zh,zh,zh,zh,zh,zh,zh,zh,zh,zh,zh,zh,zh,zh,zh,zh,zh,zh,zh,zh,zh,zh,zh,zh,zh,zh,zh,zh,zh,zh]):=⟨_,rfl⟩;have hr:=Eq.refl (zX zi O false jS.code T S);have c1:=fun S=>I8 hv hlen (S:=S)
 unfold JY;by_cases h1:many<0
 ·conv at hr=>
   rhs;rw[hTe];simp only[jS.code,jS.rs,jc,reduceIte,zk,zn,zo,zq,h1]
  rw[hTe]at hr;rw[zN (.inl h1)];exact jS.runs hr (.inr rfl) (by simp only[List.getD_cons_succ,List.getD_cons_zero,qQ,kH,kJ,kG,kF]) (by simp only[List.getD_cons_succ,List.getD_cons_zero,qQ,kH,kJ,kG,kF]) (by simp only[List.getD_cons_succ,List.getD_cons_zero,qQ,kH,kJ,kG,kF])
 ·by_cases h2:64<many
  ·conv at hr=>
    rhs;rw[hTe];simp only[jS.code,jS.rs,jc,reduceIte,zk,zn,zo,zq,h1,h2]
   rw[hTe]at hr;rw[zN (.inr h2)];exact jS.runs hr (.inr rfl) (by simp only[List.getD_cons_succ,List.getD_cons_zero,qQ,kH,kJ,kG,kF]) (by simp only[List.getD_cons_succ,List.getD_cons_zero,qQ,kH,kJ,kG,kF]) (by simp only[List.getD_cons_succ,List.getD_cons_zero,qQ,kH,kJ,kG,kF])
  ·rw[zM (by omega)]
   conv at hr=>
    rhs;rw[hTe];simp only[jS.code,jS.rs,jc,reduceIte,zk,zn,zo,zq,h1,h2,zM hk,Lh,bb0,c1]
   generalize hL:yj (zX zi O false jS.jg) _ _=r at hr;obtain⟨e,T',rfl,g⟩:=jS.round (many:=many) (by omega) many.toNat 0 l 2 [] 2 hL rfl rfl rfl rfl rfl (by omega) (by omega) je.own hlen je.own (by decide) rfl
   cases hrn:qh many.toNat l with
   |none=>
    rw[hrn]at g;obtain⟨rfl,g2,g3,g4⟩:=g;conv at hr=>
     rhs;simp only[jc,reduceIte,zk,zn,zo,zq]
    rw[hTe]at hr;have hrun:=jS.runs hr (.inr rfl) (by rw[g2];rfl) (by rw[g3];rfl) (by rw[g4];rfl)
    rw[g2,g3,g4]at hrun;exact hrun
   |some ab=>
    obtain⟨a,b⟩:=ab;rw[hrn]at g;obtain⟨rfl,g2,g3,g4⟩:=g;have hTe':=jS.eta g2;rw[g3,g4]at hTe';simp only[ite_self,List.nil_append]at hTe';conv at hr=>
     rhs;rw[hTe'];simp only[jS.code,jS.rs,jc,reduceIte,zk,zn,zo,zq]
    rw[hTe]at hr;simp only[ite_self];exact jS.runs hr (.inr rfl) (by simp only[List.getD_cons_succ,List.getD_cons_zero,qQ,kH,kJ,kG,kF]) (by simp only[List.getD_cons_succ,List.getD_cons_zero,qQ,kH,kJ,kG,kF]) (by simp only[List.getD_cons_succ,List.getD_cons_zero,qQ,kH,kJ,kG,kF])
def Zk (n:Int):Prop:=-1≤n∧n≤4611686018427387904
theorem ZF :∀(m:Nat) (l:List UInt8) (a:List Int) (b:List UInt8),qh m l=some (a,b)↔a.length=m∧l=encs a++b∧∀n∈a,Zk n:=by
 intro m;induction m with
 |zero=>
  intro l a b;constructor
  ·intro h;cases h;exact⟨rfl,rfl,fun n h=>by cases h⟩
  ·rintro⟨h1,h2,_⟩;have:a=[]:=List.length_eq_zero_iff.mp h1;subst this;rw[h2];rfl
 |succ m ih=>
  intro l a b;rw[qh];constructor
  ·intro h;cases hsc:scan 0 0 l with
   |none=>rw[hsc]at h;cases h
   |some nr=>
    obtain⟨n,r⟩:=nr;rw[hsc]at h;dsimp only at h;split at h
    ·rename_i hn;cases hr:qh m r with
     |none=>rw[hr]at h;cases h
     |some ab=>
      obtain⟨a',b'⟩:=ab;rw[hr]at h;obtain⟨h1,h2,h3⟩:=(ih r a' b').mp hr;cases h;obtain⟨f1,f2⟩:=EG hsc;refine⟨by simp[h1],?_,fun x hx=>?_⟩
      ·rw[f1,h2];have:((n:Int) - 1+1).toNat=n:=by omega
       simp[encs,this]
      ·rcases List.mem_cons.1 hx with rfl |hx
       ·unfold Zk;omega
       ·exact h3 x hx
    ·cases h
  ·rintro⟨h1,h2,h3⟩;cases a with
   |nil=>simp at h1
   |cons x a=>
    have hx:Zk x:=h3 x (by simp)
    unfold Zk at hx;have he:encs (x::a)++b=enc (x+1).toNat++(encs a++b):=by simp[encs]
    rw[h2,he,VG (by omega)]
    dsimp only;rw[zN (by omega),(ih (encs a++b) a b).mpr ⟨by simpa using h1,rfl,fun n hn=>h3 n (by simp[hn])⟩]
    have:((x+1).toNat:Int) - 1=x:=by omega
    simp only[this]
theorem bW {m:Nat}{l:List UInt8} {a:List Int}{b:List UInt8} (h:qh m l=some (a,b)):a.length=m∧b.length≤l.length:=by
 obtain⟨h1,h2,_⟩:=(ZF m l a b).mp h;exact⟨h1,by rw[h2];simp⟩
theorem Xp {a c:List Int}{b d:List UInt8} (h:a.length=c.length) (ha:∀n∈a,Zk n) (hc:∀n∈c,Zk n) (he:encs a++b=encs c++d):a=c∧b=d:=by
 have h1:=(ZF a.length (encs a++b) a b).mpr ⟨rfl,rfl,ha⟩;have h2:=(ZF a.length (encs a++b) c d).mpr ⟨h.symm,he,hc⟩;rw[h1]at h2;simpa using h2
theorem KO {k:Nat}{l:List Int}(h:l.length≤64) (h1:∀n∈l,-1≤n) (h0:l≠[]):Xz k l=.tuple #[jk 2 (encs l),.int .i64 0]:=by
 unfold Xz;rw[zM (by rintro(h2 |⟨n,h2,h3⟩);{ omega };{ have:=h1 n h2;omega }),zM h0]
theorem QU {k0 k1 m:Nat}{l:List UInt8} (h0:0<m) (h:m≤64):JY k0 k1 m l=match qh m l with
  |some (a,b)=>.tuple #[iz 2 a,jk 2 b,.int .i64 0]
  |none=>.tuple #[.slice none 0 0,.slice none 0 0,.int .i64 11]:=by
 unfold JY;rw[zM (by omega),Int.toNat_natCast]
 have:(m:Int)≠0:=by omega
 simp only[zM this];all_goals (cases qh m l<;>rfl)
noncomputable def rd {α:Type}(ok:α→Prop) (e:α→List UInt8) (b:List UInt8):Option α:=open Classical in if h:∃x,ok x∧b=e x then some h.choose else none
theorem mD {α:Type}{ok:α→Prop}{e:α→List UInt8} (inj:∀x y,ok x→ok y→e x=e y→x=y) (b:List UInt8) (x:α):rd ok e b=some x↔ok x∧b=e x:=by
 unfold rd;constructor
 ·intro h;split at h
  ·rename_i he;cases h;exact he.choose_spec
  ·cases h
 ·intro h;have he:∃x,ok x∧b=e x:=⟨x,h⟩;rw[dif_pos he];exact congrArg some (inj _ _ he.choose_spec.1 h.1 (he.choose_spec.2.symm.trans h.2))
def ZH (n:Int):Int:=IntKind.u64.wrap (IntKind.u64.wrap (IntKind.u64.wrap n+1)*11400714819323198485)
def JW (h:Int) (x:UInt8):Int:=IntKind.u64.wrap (J8 .u64 h (x.toNat:Int)*1099511628211)
def lI (h:Int):Int:=J8 .u64 h (h.fdiv (2 ^ min (Int.toNat 29) (IntKind.bits .u64)))
def JA (key:Int) (b:List UInt8):Int:=lI (b.foldl JW (J8 .u64 key 14695981039346656037))
theorem GL (x:UInt8):IntKind.u64.wrap (x.toNat:Int)=(x.toNat:Int):=Kt (by have:=x.toNat_lt;omega)
theorem dL (x:Int):IntKind.u64.wrap x=x % 18446744073709551616:=rfl
theorem GR (a b:Int):0≤J8 .u64 a b∧J8 .u64 a b<18446744073709551616:=by
 unfold J8;have h:∀x:Int,0≤IntKind.u64.wrap x∧IntKind.u64.wrap x<18446744073709551616:=fun x=>by rw[dL];omega
 first |exact h _ |(simp only[IntKind.ofBits,IntKind.signed];first |exact h _ |omega)
theorem Pq (h:Int) (x:UInt8):0≤JW h x∧JW h x<18446744073709551616:=by unfold JW;rw[dL];omega
theorem ZL.v (n:Int) (S:zS):zU zi O ZL.id [.int .i64 n] S=some (.int .u64 (ZH n),S):=by
 obtain⟨T,hTe⟩:∃T,T=(.int .i64 n::[zh,zh,zh,zh,zh,zh]):=⟨_,rfl⟩;have hr:=Eq.refl (zX zi O false ZL.code T S);conv at hr=>
  rhs;rw[hTe];simp only[ZL.code,ZL.rs,jc,reduceIte,zk,zn,zo,zq,XR,gJ]
 rw[hTe]at hr;exact ZL.runs hr (.inr rfl)
theorem SA (S:zS):zU zi O YL.id [.int .i64 0] S=some (.int .u64 (ZH 0),S):=Xa (n:=70) (by kernel_rfl)
theorem SB (S:zS):zU zi O YL.id [.int .i64 1] S=some (.int .u64 (ZH 1),S):=Xa (n:=70) (by kernel_rfl)
theorem SC (S:zS):zU zi O YL.id [.int .i64 2] S=some (.int .u64 (ZH 2),S):=Xa (n:=70) (by kernel_rfl)
theorem SE (S:zS):zU zi O YL.id [.int .i64 3] S=some (.int .u64 (ZH 3),S):=Xa (n:=70) (by kernel_rfl)
theorem SG (S:zS):zU zi O YL.id [.int .i64 4] S=some (.int .u64 (ZH 4),S):=Xa (n:=70) (by kernel_rfl)
theorem SH (S:zS):zU zi O YL.id [.int .i64 5] S=some (.int .u64 (ZH 5),S):=Xa (n:=70) (by kernel_rfl)
theorem SI (S:zS):zU zi O YL.id [.int .i64 6] S=some (.int .u64 (ZH 6),S):=Xa (n:=70) (by kernel_rfl)
theorem YL.v {n:Int}(h0:0≤n) (h6:n≤6) (S:zS):zU zi O YL.id [.int .i64 n] S=some (.int .u64 (ZH n),S):=by
 have:n=0∨n=1∨n=2∨n=3∨n=4∨n=5∨n=6:=by omega
 rcases this with rfl |rfl |rfl |rfl |rfl |rfl |rfl
 ·exact SA S
 ·exact SB S
 ·exact SC S
 ·exact SE S
 ·exact SG S
 ·exact SH S
 ·exact SI S
section
variable {l:List UInt8} {k:Nat}
theorem jY.round (hv:je k l) (hlen:l.length≤140737488355328) {S:zS}:∀(suf pre:List UInt8) (h:Int) {T:List zu}{r:St},yj (zX zi O false jY.jg) T S=r→T.length=35 →
  T.getD 5 zh=.int .u64 h→T.getD 18 zh=jk k l→T.getD 19 zh=.int .i64 l.length→T.getD 20 zh=.int .i64 pre.length→l=pre++suf →
  ∃T',r=some (.exit 2,T',S)∧T'.length=35∧T'.getD 5 zh=.int .u64 (suf.foldl JW h)∧T'.getD 12 zh=T.getD 12 zh∧T'.getD 13 zh=T.getD 13 zh∧T'.getD 14 zh=T.getD 14 zh:=by
 intro suf;induction suf with
 |nil=>
  intro pre h T r hL hT h5 h18 h19 h20 hl;have hTe:=jY.eta hT;rw[h5,h18,h19,h20]at hTe;have hr:=Eq.refl (zX zi O false jY.jg T S);have d1:¬(pre.length:Int)<(l.length:Int):=by rw[hl];simp
  conv at hr=>
   rhs;rw[hTe];simp only[jY.jg,jY.code,jY.rs,jc,reduceIte,zk,zn,zo,zq,d1]
  exact⟨_,hL.symm.trans (yX hr (by simp)),rfl,rfl,rfl,rfl,rfl⟩
 |cons x suf ih=>
  intro pre h T r hL hT h5 h18 h19 h20 hl;have hTe:=jY.eta hT;rw[h5,h18,h19,h20]at hTe;have hr:=Eq.refl (zX zi O false jY.jg T S);have d1:(pre.length:Int)<(l.length:Int):=by rw[hl];simp;omega
  have e1:∀S,jZ zi 33 (jk k l) (.int .i64 pre.length) S=some (EP [.int .u8 x.toNat],S):=fun S=>by
   rw[aC hv (by omega) d1];rw[Qu hl]
  have wi:IntKind.i64.wrap ((pre.length:Int)+1)=((pre++[x]).length:Int):=by rw[wrap_i64 (by omega) (by omega)];simp
  have em:IntKind.u64.wrap (J8 .u64 h (x.toNat:Int)*1099511628211)=JW h x:=rfl;conv at hr=>
   rhs;rw[hTe];simp only[jY.jg,jY.code,jY.rs,jc,reduceIte,zk,zn,zo,zq,d1,e1,X3,aJ,GL,Xf,XR,em,wi]
  obtain⟨T',q1,q2,q3,q4,q5,q6⟩:=ih (pre++[x]) (JW h x) ((xk hr).symm.trans hL) rfl rfl rfl rfl rfl (by simp[hl])
  exact⟨T',q1,q2,q3,q4,q5,q6⟩
theorem aA (S:zS):yO zi 29 1 [(0,jk 1 l)] S=some (sv 2 1 1 [jk 1 l],S):=by kernel_rfl
theorem RP (i:Int) (hi:i=0) (S:zS):jZ zi 29 (sv 1 1 1 [jk 1 l]) (.int .i64 i) S=some (EP [jk 1 l],S):=by subst hi;exact FZ VW mM ⟨by decide,fun h=>by cases h⟩ (by omega) (by omega)
theorem jY.v (hlen:l.length≤140737488355328) {key:Int}(S:zS):zU zi O jY.id [.int .u64 key,sv 1 1 1 [jk 1 l]] S=some (.int .u64 (JA key l),S):=by
 obtain⟨T,hTe⟩:∃T,T=(.int .u64 key::sv 1 1 1 [jk 1 l]::[zh,zh,zh,zh,zh,zh,zh,zh,zh,zh,zh,zh,zh,zh,zh,zh,zh,zh,zh,zh,zh,zh,zh,zh,zh,zh,zh,zh,zh,zh,zh,zh,zh]):=⟨_,rfl⟩;have hr:=Eq.refl (zX zi O false jY.code T S);have ln:∀S,yK zi 29 (sv 1 1 1 [jk 1 l]) S=some (.int .i64 1,S):=fun S=>by kernel_rfl
 have lb:∀S,yK zi 33 (jk 1 l) S=some (.int .i64 l.length,S):=fun S=>Jm je.read
 conv at hr=>
  rhs;rw[hTe];simp only[jY.code,jY.rs,jc,reduceIte,zk,zn,zo,zq,Xf,ln]
 generalize hL:yj (zX zi O false jY.qE) _ _=r at hr;have key1:∃T',r=some (.exit 0,T',S)∧T'.length=35∧T'.getD 5 zh=.int .u64 (l.foldl JW (J8 .u64 key 14695981039346656037)):=by
  generalize hT0:(_::_:List zu)=T0 at hL;have hT0':T0.length=35:=by rw[←hT0];rfl
  have g5:T0.getD 5 zh=.int .u64 (J8 .u64 key 14695981039346656037):=by rw[←hT0];rfl
  have g12:T0.getD 12 zh=sv 1 1 1 [jk 1 l]:=by rw[←hT0];rfl
  have g13:T0.getD 13 zh=.int .i64 1:=by rw[←hT0];rfl
  have g14:T0.getD 14 zh=.int .i64 0:=by rw[←hT0];rfl
  have hTe:=jY.eta hT0';rw[g5,g12,g13,g14]at hTe;have hr:=Eq.refl (zX zi O false jY.qE T0 S);have z1:(0:Int)<1:=by omega
  conv at hr=>
   rhs;rw[hTe];simp only[jY.qE,jY.code,jY.rs,jc,reduceIte,zk,zn,zo,zq,z1,RP 0 rfl,dP iH,lb]
  generalize hL1:yj (zX zi O false jY.jg) _ _=r1 at hr;obtain⟨T1,rfl,q1,q2,q3,q4,q5⟩:=jY.round (je.read (l:=l)) hlen l [] _ hL1 rfl rfl rfl rfl rfl rfl;have q3:T1.getD 12 zh=sv 1 1 1 [jk 1 l]:=q3;have q4:T1.getD 13 zh=.int .i64 1:=q4;have q5:T1.getD 14 zh=.int .i64 0:=q5;have hT1:=jY.eta q1;rw[q2,q3,q4,q5]at hT1;have w1:IntKind.i64.wrap (0+1)=1:=by decide
  conv at hr=>
   rhs;rw[hT1];simp only[jY.code,jY.rs,jc,reduceIte,zk,zn,zo,zq,w1]
  have hL2:=(xk hr).symm.trans hL;generalize hT2:(_::_:List zu)=T2 at hL2;have hT2':T2.length=35:=by rw[←hT2];rfl
  have f5:T2.getD 5 zh=.int .u64 (l.foldl JW (J8 .u64 key 14695981039346656037)):=by rw[←hT2];rfl
  have f13:T2.getD 13 zh=.int .i64 1:=by rw[←hT2];rfl
  have f14:T2.getD 14 zh=.int .i64 1:=by rw[←hT2];rfl
  have hTe2:=jY.eta hT2';rw[f5,f13,f14]at hTe2;have hr2:zX zi O false jY.qE T2 S=zX zi O false jY.qE T2 S:=rfl;have z2:¬(1:Int)<1:=by omega
  conv at hr2=>
   rhs;rw[hTe2];simp only[jY.qE,jY.code,jY.rs,jc,reduceIte,zk,zn,zo,zq,z2]
  exact⟨_,hL2.symm.trans (yX hr2 (by simp)),rfl,rfl⟩
 obtain⟨T',rfl,g1,g2⟩:=key1;have hT':=jY.eta g1;rw[g2]at hT';conv at hr=>
  rhs;rw[hT'];simp only[jY.code,jY.rs,jc,reduceIte,zk,zn,zo,zq,Xf,oq _ _ _ _ (show(0:Int)≤29 by omega)]
 rw[hTe]at hr;exact jY.runs hr (.inr rfl)
theorem ZM.v (hv:je k l) (k1:k=1) (hlen:l.length≤140737488355328) {key mark:Int}(S:zS):zU zi O ZM.id [.int .u64 key,.int .u64 mark,jk k l] S=some (.bool (decide (JA key l=mark)),S):=by
 subst k1;obtain⟨T,hTe⟩:∃T,T=(.int .u64 key::.int .u64 mark::jk 1 l::[zh,zh,zh,zh,zh,zh,zh,zh,zh,zh]):=⟨_,rfl⟩;have hr:=Eq.refl (zX zi O false ZM.code T S);have c1:=fun S=>jY.v hlen (key:=key) S
 have z:¬(1:Nat)=2:=by decide
 conv at hr=>
  rhs;rw[hTe];simp only[ZM.code,ZM.rs,jc,reduceIte,zk,zn,zo,zq,zM z,aA,c1]
 rw[hTe]at hr;exact ZM.runs hr (.inr rfl)
theorem mref (h:Int):IntKind.u64.wrap (IntKind.u64.wrap (IntKind.u64.wrap (h*2 ^ (min (Int.toNat 40) (IntKind.bits .u64)))+IntKind.u64.wrap (h*2 ^ (min (Int.toNat 8) (IntKind.bits .u64))))+IntKind.u64.wrap (h*179))=IntKind.u64.wrap (h*1099511628211):=by
 have e1:(2:Int) ^ (min (Int.toNat 40) (IntKind.bits .u64))=1099511627776:=by decide
 have e2:(2:Int) ^ (min (Int.toNat 8) (IntKind.bits .u64))=256:=by decide
 rw[e1,e2];simp only[dL];omega
theorem Pm {h:Int}(h0:0≤h) (h1:h<18446744073709551616):J8 .u64 h (IntKind.u64.wrap (h.tdiv 536870912))=lI h:=by
 unfold lI
 congr 1
 have e1:(2:Int) ^ (min (Int.toNat 29) (IntKind.bits .u64))=536870912:=by decide
 rw[e1,dL,Int.tdiv_eq_ediv_of_nonneg h0,Int.fdiv_eq_ediv_of_nonneg _ (by omega)]
 omega
theorem uj :∀(l:List UInt8) (h:Int),0≤h→h<18446744073709551616→0≤l.foldl JW h∧l.foldl JW h<18446744073709551616
 | [],h,h0,h1=>⟨h0,h1⟩
 |x::l,h,h0,h1=>by
  have:=Pq h x;exact uj l _ this.1 this.2
theorem yG.round (hv:je k l) (hk:k≠2) (hlen:l.length≤140737488355328) {S:zS}:∀(suf pre:List UInt8) (h:Int) {T:List zu}{r:St},yj (zX zi O false yG.jg) T S=r→T.length=34 →
  T.getD 1 zh=jk k l→T.getD 5 zh=.int .u64 h→T.getD 6 zh=.int .i64 pre.length→l=pre++suf →
  ∃T',r=some (.exit 0,T',S)∧T'.length=34∧T'.getD 5 zh=.int .u64 (suf.foldl JW h):=by
 intro suf;induction suf with
 |nil=>
  intro pre h T r hL hT h1 h5 h6 hl;have hTe:=yG.eta hT;rw[h1,h5,h6]at hTe;have hr:=Eq.refl (zX zi O false yG.jg T S);have d1:¬(pre.length:Int)<(l.length:Int):=by rw[hl];simp
  conv at hr=>
   rhs;rw[hTe];simp only[yG.jg,yG.code,yG.rs,jc,reduceIte,zk,zn,zo,zq,zM hk,Jm hv,goInt,d1]
  exact⟨_,hL.symm.trans (yX hr (by simp)),rfl,rfl⟩
 |cons x suf ih=>
  intro pre h T r hL hT h1 h5 h6 hl;have hTe:=yG.eta hT;rw[h1,h5,h6]at hTe;have hr:=Eq.refl (zX zi O false yG.jg T S);have d1:(pre.length:Int)<(l.length:Int):=by rw[hl];simp;omega
  have e1:∀S,jZ zi 33 (jk k l) (.int .i64 pre.length) S=some (EP [.int .u8 x.toNat],S):=fun S=>by
   rw[aC hv (by omega) d1];rw[Qu hl]
  have wi:IntKind.i64.wrap ((pre.length:Int)+1)=((pre++[x]).length:Int):=by rw[wrap_i64 (by omega) (by omega)];simp
  have em:IntKind.u64.wrap (J8 .u64 h (x.toNat:Int)*1099511628211)=JW h x:=rfl;conv at hr=>
   rhs;rw[hTe];simp only[yG.jg,yG.code,yG.rs,jc,reduceIte,zk,zn,zo,zq,zM hk,Jm hv,goInt,d1,e1,X3,aJ,GL,Xf,XR,eP _ _ _ _ (show(0:Int)≤40 by omega),eP _ _ _ _ (show(0:Int)≤8 by omega),mref,em,wi]
  obtain⟨T',q1,q2,q3⟩:=ih (pre++[x]) (JW h x) ((xk hr).symm.trans hL) rfl rfl rfl rfl (by simp[hl])
  exact⟨T',q1,q2,q3⟩
theorem yG.v (hv:je k l) (hk:k≠2) (hlen:l.length≤140737488355328) {key:Int}(S:zS):zU zi O yG.id [.int .u64 key,jk k l] S=some (.int .u64 (JA key l),S):=by
 obtain⟨T,hTe⟩:∃T,T=(.int .u64 key::jk k l::[zh,zh,zh,zh,zh,zh,zh,zh,zh,zh,zh,zh,zh,zh,zh,zh,zh,zh,zh,zh,zh,zh,zh,zh,zh,zh,zh,zh,zh,zh,zh,zh]):=⟨_,rfl⟩;have hr:=Eq.refl (zX zi O false yG.code T S);conv at hr=>
  rhs;rw[hTe];simp only[yG.code,yG.rs,jc,reduceIte,zk,zn,zo,zq,Xf]
 generalize hL:yj (zX zi O false yG.jg) _ _=r at hr;obtain⟨T',rfl,g1,g2⟩:=yG.round hv hk hlen l [] _ hL rfl rfl rfl rfl rfl;have hT':=yG.eta g1;rw[g2]at hT';have hx:=GR key 14695981039346656037;have hi:=uj l _ hx.1 hx.2;have em:=Pm hi.1 hi.2;conv at hr=>
  rhs;rw[hT'];simp only[yG.code,yG.rs,jc,reduceIte,zk,zn,zo,zq,Wh _ _ _ (show(536870912:Int)≠0 by omega),Xf,em]
 rw[hTe]at hr;exact yG.runs hr (.inr rfl)
end
section
abbrev yI.id :FuncId:=57
noncomputable def yI.code :Code:=(.seq (.region 0 (reg Try.f57 0) false) (.seq (.region 1 (reg Try.f57 1) false) (.seq (.seq (.region 2 (reg Try.f57 2) false) (.cond (.tmp 16) (.seq (.region 3 (reg Try.f57 3) false) Code.ret) Code.skip)) (.seq (.region 4 (reg Try.f57 4) false) (.seq (.region 5 (reg Try.f57 5) true) (.seq (.seq (.region 6 (reg Try.f57 6) false) (.cond (.tmp 43) (.seq (.region 7 (reg Try.f57 7) false) Code.ret) Code.skip)) (.seq (.region 8 (reg Try.f57 8) false) Code.ret)))))))
theorem yI.body :Try.f57.body=some yI.code:=by kernel_rfl
variable (U x1 X x3 a Y V W Z x9 c d f g i k l m n o p q r s t u w x y z A B C D E F G H I J K L M N P Q:zu) (S:zS)
theorem yI.r0 :zW zi ⟨false,false,false⟩ (zU zi O) (reg Try.f57 0) (reg Try.f57 0).toList ([U,x1,X,x3,a,Y,V,W,Z,x9,c,d,f,g,i,k,l,m,n,o,p,q,r,s,t,u,w,x,y,z,A,B,C,D,E,F,G,H,I,J,K,L,M,N,P,Q]) S =
  (zT (wR zi 46 S) (fun v0 R=>some ([U,x1,v0,.int .i64 0,a,Y,V,W,Z,x9,c,d,f,g,i,k,l,m,n,o,p,q,r,s,t,u,w,x,y,z,A,B,C,D,E,F,G,H,I,J,K,L,M,N,P,Q],R)) ()):=by kernel_rfl
theorem yI.r1 :zW zi ⟨false,false,false⟩ (zU zi O) (reg Try.f57 1) (reg Try.f57 1).toList ([U,x1,X,x3,a,Y,V,W,Z,x9,c,d,f,g,i,k,l,m,n,o,p,q,r,s,t,u,w,x,y,z,A,B,C,D,E,F,G,H,I,J,K,L,M,N,P,Q]) S =
  (zT ((zU zi O) 55 [(zQ (zQ U)),(.int .i64 4)] S) (fun b R=>zT (jv b 0 R) (fun v3 S2=>zT (jv (jh 0 b) 1 S2) (fun v4 S3=>zT (jv (jh 1 (jh 0 b)) 2 S3) (fun v5 S4=>some ([U,x1,X,x3,v3,v4,v5,W,Z,jh 2 (jh 1 (jh 0 b)),zQ U,zQ b,zQ v3,zQ v4,zQ v5,k,l,m,n,o,p,q,r,s,t,u,w,x,y,z,A,B,C,D,E,F,G,H,I,J,K,L,M,N,P,Q],S4)) ()) ()) ()) ()):=by kernel_rfl
theorem yI.r2 :zW zi ⟨false,false,false⟩ (zU zi O) (reg Try.f57 2) (reg Try.f57 2).toList ([U,x1,X,x3,a,Y,V,W,Z,x9,c,d,f,g,i,k,l,m,n,o,p,q,r,s,t,u,w,x,y,z,A,B,C,D,E,F,G,H,I,J,K,L,M,N,P,Q]) S =
  (zT (jd zi BinOp.neq 64 (zQ V) (.int .i64 0) S) (fun b R=>some ([U,x1,X,x3,a,Y,V,W,Z,x9,c,d,f,g,i,zQ V,b,m,n,o,p,q,r,s,t,u,w,x,y,z,A,B,C,D,E,F,G,H,I,J,K,L,M,N,P,Q],R)) ()):=by kernel_rfl
theorem yI.r3 :zW zi ⟨false,false,false⟩ (zU zi O) (reg Try.f57 3) (reg Try.f57 3).toList ([U,x1,X,x3,a,Y,V,W,Z,x9,c,d,f,g,i,k,l,m,n,o,p,q,r,s,t,u,w,x,y,z,A,B,C,D,E,F,G,H,I,J,K,L,M,N,P,Q]) S =
  (zT (wS zi 46 [] S) (fun v0 R=>zT (jI zi 46 X (zQ v0) R) (fun b S2=>some ([U,x1,X,.int .i64 71,a,Y,V,W,Z,x9,c,d,f,g,i,k,l,v0,n,o,p,q,r,s,t,u,w,x,y,z,A,B,C,D,E,F,G,H,I,J,K,L,M,N,P,Q],S2)) ()) ()):=by kernel_rfl
theorem yI.r4 :zW zi ⟨false,false,false⟩ (zU zi O) (reg Try.f57 4) (reg Try.f57 4).toList ([U,x1,X,x3,a,Y,V,W,Z,x9,c,d,f,g,i,k,l,m,n,o,p,q,r,s,t,u,w,x,y,z,A,B,C,D,E,F,G,H,I,J,K,L,M,N,P,Q]) S =
  (zT ((zU zi O) 65 [(zQ (zQ Y))] S) (fun b R=>zT (jv b 0 R) (fun v3 S2=>zT (jv (jh 0 b) 1 S2) (fun v4 S3=>some ([U,x1,X,x3,a,Y,v4,v3,Z,x9,c,d,f,g,i,k,l,m,jh 1 (jh 0 b),zQ Y,zQ b,zQ v3,zQ v4,s,t,u,w,x,y,z,A,B,C,D,E,F,G,H,I,J,K,L,M,N,P,Q],S3)) ()) ()) ()):=by kernel_rfl
theorem yI.d5 :vg zi (reg Try.f57 5)=true:=by kernel_rfl
theorem yI.Vf :fixed zi (reg Try.f57 5)=false:=by kernel_rfl
theorem yI.k5 :checked zi (reg Try.f57 5)=[0,1,2,3,4,5,6,7,8,9,10,11,12,13]:=by kernel_rfl
theorem yI.g5 :again zi (reg Try.f57 5)=[(2,14),(5,14),(8,14),(11,14)]:=by kernel_rfl
theorem yI.r5 :zX zi O false (.region 5 (reg Try.f57 5) true) ([U,x1,X,x3,a,Y,V,W,Z,x9,c,d,f,g,i,k,l,m,n,o,p,q,r,s,t,u,w,x,y,z,A,B,C,D,E,F,G,H,I,J,K,L,M,N,P,Q]) S =
  yY (jK a ( zT (jZ zi 24 (zQ a) (.int .i64 0) S) (fun b R=>jK b ( zT (zZ zi false 3 b R) (fun v2 S2=>jK v2 ( jK a ( zT (jZ zi 24 (zQ a) (.int .i64 1) S2) (fun v4 S3=>jK v4 ( zT (zZ zi false 3 v4 S3) (fun v5 S4=>jK v5 ( jK a ( zT (jZ zi 24 (zQ a) (.int .i64 2) S4) (fun v7 S5=>jK v7 ( zT (zZ zi false 3 v7 S5) (fun v8 S6=>jK v8 ( jK a ( zT (jZ zi 24 (zQ a) (.int .i64 3) S6) (fun a0 S7=>jK a0 ( zT (zZ zi false 3 a0 S7) (fun a2 S8=>jK a2 ( jK W ( zT (wS zi 46 [(0,(zQ v2)),(1,(zQ v5)),(2,(zQ v8)),(3,(zQ a2)),(4,(zQ (zQ W)))] S8) (fun a3 S9=>jK a3 ( zT (wR zi 46 S9) (fun a4 a1=>zT (jI zi 46 a4 (zQ a3) a1) (fun a6 a5=>Jy (y8 b R a1&&(y8 v4 S3 a1&&(y8 v7 S5 a1&&(y8 a0 S7 a1&&(true))))) (some ([U,x1,X,x3,a,Y,V,W,a4,x9,c,d,f,g,i,k,l,m,n,o,p,q,r,zQ a,b,v2,zQ a,v4,v5,zQ a,v7,v8,zQ a,a0,a2,zQ W,a3,H,I,J,K,L,M,N,P,Q],a5)) ()) ()) ()) ()) ()) ()) ()) ()) ()) ()) ()) ()) ()) ()) ()) ()) ()) ()) ()) ()) ()) ()) ()) ()) ()) ()):=by
 rw[Jh yI.d5 yI.Vf yI.k5 yI.g5];refine congrArg yY ?_;refine Zb Try.f57 5 0 (v:=a) (pe:=zh) ?_;refine yH Try.f57 5 1 (pe:=zh) (fun b R=>?_)
 refine yH Try.f57 5 2 (pe:=b) (fun v2 S2=>?_)
 refine Zb Try.f57 5 3 (v:=a) (pe:=zh) ?_;refine yH Try.f57 5 4 (pe:=zh) (fun v4 S3=>?_)
 refine yH Try.f57 5 5 (pe:=v4) (fun v5 S4=>?_)
 refine Zb Try.f57 5 6 (v:=a) (pe:=zh) ?_;refine yH Try.f57 5 7 (pe:=zh) (fun v7 S5=>?_)
 refine yH Try.f57 5 8 (pe:=v7) (fun v8 S6=>?_)
 refine Zb Try.f57 5 9 (v:=a) (pe:=zh) ?_;refine yH Try.f57 5 10 (pe:=zh) (fun a0 S7=>?_)
 refine yH Try.f57 5 11 (pe:=a0) (fun a2 S8=>?_)
 refine Zb Try.f57 5 12 (v:=W) (pe:=zh) ?_;refine yH Try.f57 5 13 (pe:=zh) (fun a3 S9=>?_)
 refine uD Try.f57 5 14 (pe:=zh) (fun a4 a1=>?_)
 refine uD Try.f57 5 15 (pe:=zh) (fun a6 a5=>?_)
 kernel_rfl
theorem yI.r6 :zW zi ⟨false,false,false⟩ (zU zi O) (reg Try.f57 6) (reg Try.f57 6).toList ([U,x1,X,x3,a,Y,V,W,Z,x9,c,d,f,g,i,k,l,m,n,o,p,q,r,s,t,u,w,x,y,z,A,B,C,D,E,F,G,H,I,J,K,L,M,N,P,Q]) S =
  (zT (jd zi BinOp.neq 64 (zQ V) (.int .i64 0) S) (fun b R=>zY (zQ b) false (zZ zi false 46 Z) R (fun v3 S2=>zY (zQ b) false ((zU zi O) 45 [(zQ v3)]) S2 (fun v4 S3=>zY (zQ b) false (qo zi UnOp.not v4) S3 (fun v5 S4=>zT (jH (zQ b) (Value.bool true) v5 S4) (fun v6 S5=>some ([U,x1,X,x3,a,Y,V,W,Z,x9,c,d,f,g,i,k,l,m,n,o,p,q,r,s,t,u,w,x,y,z,A,B,C,D,E,F,G,zQ V,b,zQ b,v3,v4,v5,v6,P,Q],S5)) ()) ()) ()) ()) ()):=by
 refine sP Try.f57 6 0 (v:=V) ?_;refine sD Try.f57 6 1 (fun b R=>?_)
 refine sP Try.f57 6 2 (v:=b) ?_;refine sG Try.f57 6 3 (j:=2) (fun v3 S2=>?_)
 refine sG Try.f57 6 4 (j:=2) (fun v4 S3=>?_)
 refine sG Try.f57 6 5 (j:=2) (fun v5 S4=>?_)
 refine sD Try.f57 6 6 (fun v6 S5=>?_)
 kernel_rfl
theorem yI.r7 :zW zi ⟨false,false,false⟩ (zU zi O) (reg Try.f57 7) (reg Try.f57 7).toList ([U,x1,X,x3,a,Y,V,W,Z,x9,c,d,f,g,i,k,l,m,n,o,p,q,r,s,t,u,w,x,y,z,A,B,C,D,E,F,G,H,I,J,K,L,M,N,P,Q]) S =
  (zT (wS zi 46 [] S) (fun v0 R=>zT (jI zi 46 X (zQ v0) R) (fun b S2=>some ([U,x1,X,.int .i64 71,a,Y,V,W,Z,x9,c,d,f,g,i,k,l,m,n,o,p,q,r,s,t,u,w,x,y,z,A,B,C,D,E,F,G,H,I,J,K,L,M,N,v0,Q],S2)) ()) ()):=by kernel_rfl
theorem yI.r8 :zW zi ⟨false,false,false⟩ (zU zi O) (reg Try.f57 8) (reg Try.f57 8).toList ([U,x1,X,x3,a,Y,V,W,Z,x9,c,d,f,g,i,k,l,m,n,o,p,q,r,s,t,u,w,x,y,z,A,B,C,D,E,F,G,H,I,J,K,L,M,N,P,Q]) S =
  (zT (zZ zi false 46 Z S) (fun v0 R=>zT (jI zi 46 X (zQ v0) R) (fun b S2=>some ([U,x1,X,.int .i64 0,a,Y,V,W,Z,x9,c,d,f,g,i,k,l,m,n,o,p,q,r,s,t,u,w,x,y,z,A,B,C,D,E,F,G,H,I,J,K,L,M,N,P,v0],S2)) ()) ()):=by kernel_rfl
theorem yI.rs :type_of% (zJ @yI.r0 (zJ @yI.r1 (zJ @yI.r2 (zJ @yI.r3 (zJ @yI.r4 (zJ @yI.r5 (zJ @yI.r6 (zJ @yI.r7 (@yI.r8))))))))):=zJ @yI.r0 (zJ @yI.r1 (zJ @yI.r2 (zJ @yI.r3 (zJ @yI.r4 (zJ @yI.r5 (zJ @yI.r6 (zJ @yI.r7 (@yI.r8))))))))
theorem yI.runs {U:zu}{S R:zS}{e:wC}{T:List zu}(h:zX zi O false yI.code ([U,zh,zh,zh,zh,zh,zh,zh,zh,zh,zh,zh,zh,zh,zh,zh,zh,zh,zh,zh,zh,zh,zh,zh,zh,zh,zh,zh,zh,zh,zh,zh,zh,zh,zh,zh,zh,zh,zh,zh,zh,zh,zh,zh,zh,zh]) zS.empty=some (e,T,R)) (he:e=.normal∨e=.ret) {w0:zu}(c0:zZ zi false 46 (T.getD 2 zh) R=some (w0,R)) (h0:yc (w0)=true) (h1:yc (T.getD 3 zh)=true) (hca:[U].all (jw 16)=true) (hcv:jw 16 (Value.tuple #[w0,T.getD 3 zh])=true):zU zi O 57 [U] S=some (Value.tuple #[w0,T.getD 3 zh],S) :=
 kC rfl rfl Try.func57 (by decide) yI.body (by exact h) he ((Zc ((show jl zi T R Try.f57.results.toList=jl zi T R [(ResultVar.cell 2 46),(ResultVar.tmp 3)] from by kernel_rfl).trans (by simp only[jl,c0])) (by kernel_rfl) (by simp only[List.all_cons,List.all_nil,h0,h1,Bool.and_true])).trans rfl) hca hcv
end
section
abbrev yJ.id :FuncId:=31
noncomputable def yJ.code :Code:=(.seq (.region 0 (reg Try.f31 0) false) (.seq (.region 1 (reg Try.f31 1) false) (.seq (.seq (.region 2 (reg Try.f31 2) false) (.cond (.tmp 17) (.seq (.region 3 (reg Try.f31 3) false) Code.ret) Code.skip)) (.seq (.region 4 (reg Try.f31 4) false) (.seq (.region 5 (reg Try.f31 5) true) (.seq (.seq (.region 6 (reg Try.f31 6) false) (.cond (.tmp 44) (.seq (.region 7 (reg Try.f31 7) false) Code.ret) Code.skip)) (.seq (.region 8 (reg Try.f31 8) false) Code.ret)))))))
theorem yJ.body :Try.f31.body=some yJ.code:=by kernel_rfl
variable (V x1 X x3 a Z x6 W Y x9 c d f g i k l m n o p q r s t u w x y z A B C D E F G H I J K L M N P Q R:zu) (S:zS)
theorem yJ.r0 :zW zi ⟨false,false,false⟩ (zU zi O) (reg Try.f31 0) (reg Try.f31 0).toList ([V,x1,X,x3,a,Z,x6,W,Y,x9,c,d,f,g,i,k,l,m,n,o,p,q,r,s,t,u,w,x,y,z,A,B,C,D,E,F,G,H,I,J,K,L,M,N,P,Q,R]) S =
  (zT (wR zi 46 S) (fun v0 U=>some ([V,x1,v0,.int .i64 0,a,Z,x6,W,Y,x9,c,d,f,g,i,k,l,m,n,o,p,q,r,s,t,u,w,x,y,z,A,B,C,D,E,F,G,H,I,J,K,L,M,N,P,Q,R],U)) ()):=by kernel_rfl
theorem yJ.r1 :zW zi ⟨false,false,false⟩ (zU zi O) (reg Try.f31 1) (reg Try.f31 1).toList ([V,x1,X,x3,a,Z,x6,W,Y,x9,c,d,f,g,i,k,l,m,n,o,p,q,r,s,t,u,w,x,y,z,A,B,C,D,E,F,G,H,I,J,K,L,M,N,P,Q,R]) S =
  (zT ((zU zi O) 29 [(zQ (zQ V)),(.int .i64 4)] S) (fun b U=>zT (jv b 0 U) (fun v3 S2=>zT (jv (jh 0 b) 1 S2) (fun v4 S3=>zT (jv (jh 1 (jh 0 b)) 2 S3) (fun v5 S4=>some ([V,x1,X,x3,v3,v4,v5,W,Y,x9,jh 2 (jh 1 (jh 0 b)),zQ V,zQ b,zQ v3,zQ v4,zQ v5,l,m,n,o,p,q,r,s,t,u,w,x,y,z,A,B,C,D,E,F,G,H,I,J,K,L,M,N,P,Q,R],S4)) ()) ()) ()) ()):=by kernel_rfl
theorem yJ.r2 :zW zi ⟨false,false,false⟩ (zU zi O) (reg Try.f31 2) (reg Try.f31 2).toList ([V,x1,X,x3,a,Z,x6,W,Y,x9,c,d,f,g,i,k,l,m,n,o,p,q,r,s,t,u,w,x,y,z,A,B,C,D,E,F,G,H,I,J,K,L,M,N,P,Q,R]) S =
  (zT (jd zi BinOp.neq 3 (zQ x6) (.int .i64 0) S) (fun b U=>some ([V,x1,X,x3,a,Z,x6,W,Y,x9,c,d,f,g,i,k,zQ x6,b,n,o,p,q,r,s,t,u,w,x,y,z,A,B,C,D,E,F,G,H,I,J,K,L,M,N,P,Q,R],U)) ()):=by kernel_rfl
theorem yJ.r3 :zW zi ⟨false,false,false⟩ (zU zi O) (reg Try.f31 3) (reg Try.f31 3).toList ([V,x1,X,x3,a,Z,x6,W,Y,x9,c,d,f,g,i,k,l,m,n,o,p,q,r,s,t,u,w,x,y,z,A,B,C,D,E,F,G,H,I,J,K,L,M,N,P,Q,R]) S =
  (zT (wS zi 46 [] S) (fun v0 U=>zT (jI zi 46 X (zQ v0) U) (fun b S2=>some ([V,x1,X,.int .i64 71,a,Z,x6,W,Y,x9,c,d,f,g,i,k,l,m,v0,o,p,q,r,s,t,u,w,x,y,z,A,B,C,D,E,F,G,H,I,J,K,L,M,N,P,Q,R],S2)) ()) ()):=by kernel_rfl
theorem yJ.r4 :zW zi ⟨false,false,false⟩ (zU zi O) (reg Try.f31 4) (reg Try.f31 4).toList ([V,x1,X,x3,a,Z,x6,W,Y,x9,c,d,f,g,i,k,l,m,n,o,p,q,r,s,t,u,w,x,y,z,A,B,C,D,E,F,G,H,I,J,K,L,M,N,P,Q,R]) S =
  (zT ((zU zi O) 49 [(zQ (zQ Z))] S) (fun b U=>zT (jv b 0 U) (fun v3 S2=>zT (jv (jh 0 b) 1 S2) (fun v4 S3=>some ([V,x1,X,x3,a,Z,x6,v3,v4,x9,c,d,f,g,i,k,l,m,n,jh 1 (jh 0 b),zQ Z,zQ b,zQ v3,zQ v4,t,u,w,x,y,z,A,B,C,D,E,F,G,H,I,J,K,L,M,N,P,Q,R],S3)) ()) ()) ()):=by kernel_rfl
theorem yJ.d5 :vg zi (reg Try.f31 5)=true:=by kernel_rfl
theorem yJ.Vf :fixed zi (reg Try.f31 5)=false:=by kernel_rfl
theorem yJ.k5 :checked zi (reg Try.f31 5)=[0,1,2,3,4,5,6,7,8,9,10,11,12,13]:=by kernel_rfl
theorem yJ.g5 :again zi (reg Try.f31 5)=[(2,14),(5,14),(8,14),(11,14)]:=by kernel_rfl
theorem yJ.r5 :zX zi O false (.region 5 (reg Try.f31 5) true) ([V,x1,X,x3,a,Z,x6,W,Y,x9,c,d,f,g,i,k,l,m,n,o,p,q,r,s,t,u,w,x,y,z,A,B,C,D,E,F,G,H,I,J,K,L,M,N,P,Q,R]) S =
  yY (jK a ( zT (jZ zi 24 (zQ a) (.int .i64 0) S) (fun b U=>jK b ( zT (zZ zi false 3 b U) (fun v2 S2=>jK v2 ( jK a ( zT (jZ zi 24 (zQ a) (.int .i64 1) S2) (fun v4 S3=>jK v4 ( zT (zZ zi false 3 v4 S3) (fun v5 S4=>jK v5 ( jK a ( zT (jZ zi 24 (zQ a) (.int .i64 2) S4) (fun v7 S5=>jK v7 ( zT (zZ zi false 3 v7 S5) (fun v8 S6=>jK v8 ( jK a ( zT (jZ zi 24 (zQ a) (.int .i64 3) S6) (fun a0 S7=>jK a0 ( zT (zZ zi false 3 a0 S7) (fun a2 S8=>jK a2 ( jK W ( zT (wS zi 46 [(0,(zQ v2)),(1,(zQ v5)),(2,(zQ v8)),(3,(zQ a2)),(4,(zQ (zQ W)))] S8) (fun a3 S9=>jK a3 ( zT (wR zi 46 S9) (fun a4 a1=>zT (jI zi 46 a4 (zQ a3) a1) (fun a6 a5=>Jy (y8 b U a1&&(y8 v4 S3 a1&&(y8 v7 S5 a1&&(y8 a0 S7 a1&&(true))))) (some ([V,x1,X,x3,a,Z,x6,W,Y,a4,c,d,f,g,i,k,l,m,n,o,p,q,r,s,zQ a,b,v2,zQ a,v4,v5,zQ a,v7,v8,zQ a,a0,a2,zQ W,a3,I,J,K,L,M,N,P,Q,R],a5)) ()) ()) ()) ()) ()) ()) ()) ()) ()) ()) ()) ()) ()) ()) ()) ()) ()) ()) ()) ()) ()) ()) ()) ()) ()) ()):=by
 rw[Jh yJ.d5 yJ.Vf yJ.k5 yJ.g5];refine congrArg yY ?_;refine Zb Try.f31 5 0 (v:=a) (pe:=zh) ?_;refine yH Try.f31 5 1 (pe:=zh) (fun b U=>?_)
 refine yH Try.f31 5 2 (pe:=b) (fun v2 S2=>?_)
 refine Zb Try.f31 5 3 (v:=a) (pe:=zh) ?_;refine yH Try.f31 5 4 (pe:=zh) (fun v4 S3=>?_)
 refine yH Try.f31 5 5 (pe:=v4) (fun v5 S4=>?_)
 refine Zb Try.f31 5 6 (v:=a) (pe:=zh) ?_;refine yH Try.f31 5 7 (pe:=zh) (fun v7 S5=>?_)
 refine yH Try.f31 5 8 (pe:=v7) (fun v8 S6=>?_)
 refine Zb Try.f31 5 9 (v:=a) (pe:=zh) ?_;refine yH Try.f31 5 10 (pe:=zh) (fun a0 S7=>?_)
 refine yH Try.f31 5 11 (pe:=a0) (fun a2 S8=>?_)
 refine Zb Try.f31 5 12 (v:=W) (pe:=zh) ?_;refine yH Try.f31 5 13 (pe:=zh) (fun a3 S9=>?_)
 refine uD Try.f31 5 14 (pe:=zh) (fun a4 a1=>?_)
 refine uD Try.f31 5 15 (pe:=zh) (fun a6 a5=>?_)
 kernel_rfl
theorem yJ.r6 :zW zi ⟨false,false,false⟩ (zU zi O) (reg Try.f31 6) (reg Try.f31 6).toList ([V,x1,X,x3,a,Z,x6,W,Y,x9,c,d,f,g,i,k,l,m,n,o,p,q,r,s,t,u,w,x,y,z,A,B,C,D,E,F,G,H,I,J,K,L,M,N,P,Q,R]) S =
  (zT (jd zi BinOp.neq 3 (zQ Y) (.int .i64 0) S) (fun b U=>zY (zQ b) false (zZ zi false 46 x9) U (fun v3 S2=>zY (zQ b) false ((zU zi O) 32 [(zQ v3)]) S2 (fun v4 S3=>zY (zQ b) false (qo zi UnOp.not v4) S3 (fun v5 S4=>zT (jH (zQ b) (Value.bool true) v5 S4) (fun v6 S5=>some ([V,x1,X,x3,a,Z,x6,W,Y,x9,c,d,f,g,i,k,l,m,n,o,p,q,r,s,t,u,w,x,y,z,A,B,C,D,E,F,G,H,zQ Y,b,zQ b,v3,v4,v5,v6,Q,R],S5)) ()) ()) ()) ()) ()):=by
 refine sP Try.f31 6 0 (v:=Y) ?_;refine sD Try.f31 6 1 (fun b U=>?_)
 refine sP Try.f31 6 2 (v:=b) ?_;refine sG Try.f31 6 3 (j:=2) (fun v3 S2=>?_)
 refine sG Try.f31 6 4 (j:=2) (fun v4 S3=>?_)
 refine sG Try.f31 6 5 (j:=2) (fun v5 S4=>?_)
 refine sD Try.f31 6 6 (fun v6 S5=>?_)
 kernel_rfl
theorem yJ.r7 :zW zi ⟨false,false,false⟩ (zU zi O) (reg Try.f31 7) (reg Try.f31 7).toList ([V,x1,X,x3,a,Z,x6,W,Y,x9,c,d,f,g,i,k,l,m,n,o,p,q,r,s,t,u,w,x,y,z,A,B,C,D,E,F,G,H,I,J,K,L,M,N,P,Q,R]) S =
  (zT (wS zi 46 [] S) (fun v0 U=>zT (jI zi 46 X (zQ v0) U) (fun b S2=>some ([V,x1,X,.int .i64 71,a,Z,x6,W,Y,x9,c,d,f,g,i,k,l,m,n,o,p,q,r,s,t,u,w,x,y,z,A,B,C,D,E,F,G,H,I,J,K,L,M,N,P,v0,R],S2)) ()) ()):=by kernel_rfl
theorem yJ.r8 :zW zi ⟨false,false,false⟩ (zU zi O) (reg Try.f31 8) (reg Try.f31 8).toList ([V,x1,X,x3,a,Z,x6,W,Y,x9,c,d,f,g,i,k,l,m,n,o,p,q,r,s,t,u,w,x,y,z,A,B,C,D,E,F,G,H,I,J,K,L,M,N,P,Q,R]) S =
  (zT (zZ zi false 46 x9 S) (fun v0 U=>zT (jI zi 46 X (zQ v0) U) (fun b S2=>some ([V,x1,X,.int .i64 0,a,Z,x6,W,Y,x9,c,d,f,g,i,k,l,m,n,o,p,q,r,s,t,u,w,x,y,z,A,B,C,D,E,F,G,H,I,J,K,L,M,N,P,Q,v0],S2)) ()) ()):=by kernel_rfl
theorem yJ.rs :type_of% (zJ @yJ.r0 (zJ @yJ.r1 (zJ @yJ.r2 (zJ @yJ.r3 (zJ @yJ.r4 (zJ @yJ.r5 (zJ @yJ.r6 (zJ @yJ.r7 (@yJ.r8))))))))):=zJ @yJ.r0 (zJ @yJ.r1 (zJ @yJ.r2 (zJ @yJ.r3 (zJ @yJ.r4 (zJ @yJ.r5 (zJ @yJ.r6 (zJ @yJ.r7 (@yJ.r8))))))))
theorem yJ.runs {V:zu}{S U:zS}{e:wC}{T:List zu}(h:zX zi O false yJ.code ([V,zh,zh,zh,zh,zh,zh,zh,zh,zh,zh,zh,zh,zh,zh,zh,zh,zh,zh,zh,zh,zh,zh,zh,zh,zh,zh,zh,zh,zh,zh,zh,zh,zh,zh,zh,zh,zh,zh,zh,zh,zh,zh,zh,zh,zh,zh]) zS.empty=some (e,T,U)) (he:e=.normal∨e=.ret) {w0:zu}(c0:zZ zi false 46 (T.getD 2 zh) U=some (w0,U)) (h0:yc (w0)=true) (h1:yc (T.getD 3 zh)=true) (hca:[V].all (jw 16)=true) (hcv:jw 16 (Value.tuple #[w0,T.getD 3 zh])=true):zU zi O 31 [V] S=some (Value.tuple #[w0,T.getD 3 zh],S) :=
 kC rfl rfl Try.func31 (by decide) yJ.body (by exact h) he ((Zc ((show jl zi T U Try.f31.results.toList=jl zi T U [(ResultVar.cell 2 46),(ResultVar.tmp 3)] from by kernel_rfl).trans (by simp only[jl,c0])) (by kernel_rfl) (by simp only[List.all_cons,List.all_nil,h0,h1,Bool.and_true])).trans rfl) hca hcv
end
section
abbrev xg.id :FuncId:=73
noncomputable def xg.code :Code:=(.seq (.region 0 (reg Try.f73 0) false) (.seq (.region 1 (reg Try.f73 1) false) Code.ret))
theorem xg.body :Try.f73.body=some xg.code:=by kernel_rfl
variable (g i k l x4 x5 x6 x7 x8 x9 o p q r s t u w x y z A B C D E F G H I J K L M N P Q R:zu) (S:zS)
theorem xg.r0 :zW zi ⟨false,false,false⟩ (zU zi O) (reg Try.f73 0) (reg Try.f73 0).toList ([g,i,k,l,x4,x5,x6,x7,x8,x9,o,p,q,r,s,t,u,w,x,y,z,A,B,C,D,E,F,G,H,I,J,K,L,M,N,P,Q,R]) S =
  (zT (qm (zQ g) S) (fun U m=>zT (qm (zQ i) m) (fun V S2=>some ([g,i,U,V,Value.bool false,x5,x6,x7,x8,x9,o,p,q,r,s,t,u,w,x,y,z,A,B,C,D,E,F,G,H,I,J,K,L,M,N,P,Q,R],S2)) ()) ()):=by kernel_rfl
theorem xg.r1 :zW zi ⟨false,false,false⟩ (zU zi O) (reg Try.f73 1) (reg Try.f73 1).toList ([g,i,k,l,x4,x5,x6,x7,x8,x9,o,p,q,r,s,t,u,w,x,y,z,A,B,C,D,E,F,G,H,I,J,K,L,M,N,P,Q,R]) S =
  (zT (jf zi 46 k 0 S) (fun U m=>zT (zZ zi false 3 U m) (fun V S2=>zT (jf zi 46 l 0 S2) (fun v2 S3=>zT (zZ zi false 3 v2 S3) (fun v3 S4=>zT (jd zi BinOp.eql 3 V v3 S4) (fun f S5=>zY (zQ f) true (jf zi 46 k 1) S5 (fun v6 S6=>zY (zQ f) true (zZ zi false 3 v6) S6 (fun v7 S7=>zY (zQ f) true (jf zi 46 l 1) S7 (fun v8 S8=>zY (zQ f) true (zZ zi false 3 v8) S8 (fun v9 S9=>zY (zQ f) true (jd zi BinOp.eql 3 v7 v9) S9 (fun W b2=>zT (jH (zQ f) W (Value.bool false) b2) (fun b b3=>zY (zQ b) true (jf zi 46 k 2) b3 (fun X b4=>zY (zQ b) true (zZ zi false 3 X) b4 (fun Y b5=>zY (zQ b) true (jf zi 46 l 2) b5 (fun Z b6=>zY (zQ b) true (zZ zi false 3 Z) b6 (fun a0 b7=>zY (zQ b) true (jd zi BinOp.eql 3 Y a0) b7 (fun a1 b8=>zT (jH (zQ b) a1 (Value.bool false) b8) (fun c b9=>zY (zQ c) true (jf zi 46 k 3) b9 (fun a2 c0=>zY (zQ c) true (zZ zi false 3 a2) c0 (fun a3 c1=>zY (zQ c) true (jf zi 46 l 3) c1 (fun a4 c2=>zY (zQ c) true (zZ zi false 3 a4) c2 (fun a5 c3=>zY (zQ c) true (jd zi BinOp.eql 3 a3 a5) c3 (fun a6 c4=>zT (jH (zQ c) a6 (Value.bool false) c4) (fun d c5=>zY (zQ d) true (jf zi 46 k 4) c5 (fun a7 c6=>zY (zQ d) true (zZ zi false 44 a7) c6 (fun a8 c7=>zY (zQ d) true (jf zi 46 l 4) c7 (fun a9 c8=>zY (zQ d) true (zZ zi false 44 a9) c8 (fun b0 c9=>zY (zQ d) true ((zU zi O) 75 [(zQ a8),(zQ b0)]) c9 (fun b1 d0=>zT (jH (zQ d) b1 (Value.bool false) d0) (fun n d1=>some ([g,i,k,l,n,U,V,v2,v3,f,zQ f,v6,v7,v8,v9,W,b,zQ b,X,Y,Z,a0,a1,c,zQ c,a2,a3,a4,a5,a6,d,zQ d,a7,a8,a9,b0,b1,zQ n],d1)) ()) ()) ()) ()) ()) ()) ()) ()) ()) ()) ()) ()) ()) ()) ()) ()) ()) ()) ()) ()) ()) ()) ()) ()) ()) ()) ()) ()) ()):=by
 refine sD Try.f73 1 0 (fun U m=>?_)
 refine sD Try.f73 1 1 (fun V S2=>?_)
 refine sD Try.f73 1 2 (fun v2 S3=>?_)
 refine sD Try.f73 1 3 (fun v3 S4=>?_)
 refine sD Try.f73 1 4 (fun f S5=>?_)
 refine sP Try.f73 1 5 (v:=f) ?_;refine sG Try.f73 1 6 (j:=5) (fun v6 S6=>?_)
 refine sG Try.f73 1 7 (j:=5) (fun v7 S7=>?_)
 refine sG Try.f73 1 8 (j:=5) (fun v8 S8=>?_)
 refine sG Try.f73 1 9 (j:=5) (fun v9 S9=>?_)
 refine sG Try.f73 1 10 (j:=5) (fun W b2=>?_)
 refine sD Try.f73 1 11 (fun b b3=>?_)
 refine sP Try.f73 1 12 (v:=b) ?_;refine sG Try.f73 1 13 (j:=12) (fun X b4=>?_)
 refine sG Try.f73 1 14 (j:=12) (fun Y b5=>?_)
 refine sG Try.f73 1 15 (j:=12) (fun Z b6=>?_)
 refine sG Try.f73 1 16 (j:=12) (fun a0 b7=>?_)
 refine sG Try.f73 1 17 (j:=12) (fun a1 b8=>?_)
 refine sD Try.f73 1 18 (fun c b9=>?_)
 refine sP Try.f73 1 19 (v:=c) ?_;refine sG Try.f73 1 20 (j:=19) (fun a2 c0=>?_)
 refine sG Try.f73 1 21 (j:=19) (fun a3 c1=>?_)
 refine sG Try.f73 1 22 (j:=19) (fun a4 c2=>?_)
 refine sG Try.f73 1 23 (j:=19) (fun a5 c3=>?_)
 refine sG Try.f73 1 24 (j:=19) (fun a6 c4=>?_)
 refine sD Try.f73 1 25 (fun d c5=>?_)
 refine sP Try.f73 1 26 (v:=d) ?_;refine sG Try.f73 1 27 (j:=26) (fun a7 c6=>?_)
 refine sG Try.f73 1 28 (j:=26) (fun a8 c7=>?_)
 refine sG Try.f73 1 29 (j:=26) (fun a9 c8=>?_)
 refine sG Try.f73 1 30 (j:=26) (fun b0 c9=>?_)
 refine sG Try.f73 1 31 (j:=26) (fun b1 d0=>?_)
 refine sD Try.f73 1 32 (fun n d1=>?_)
 refine sP Try.f73 1 33 (v:=n) ?_
 kernel_rfl
theorem xg.rs :type_of% (zJ @xg.r0 (@xg.r1)):=zJ @xg.r0 (@xg.r1)
theorem xg.runs {g i:zu}{S m:zS}{e:wC}{T:List zu}(h:zX zi O false xg.code ([g,i,zh,zh,zh,zh,zh,zh,zh,zh,zh,zh,zh,zh,zh,zh,zh,zh,zh,zh,zh,zh,zh,zh,zh,zh,zh,zh,zh,zh,zh,zh,zh,zh,zh,zh,zh,zh]) zS.empty=some (e,T,m)) (he:e=.normal∨e=.ret) (hca:[g,i].all (jw 16)=true) (hcv:jw 16 (T.getD 4 zh)=true):zU zi O 73 [g,i] S=some (T.getD 4 zh,S) :=
 kC rfl rfl Try.func73 (by decide) xg.body (by exact h) he (qI (a:=T.getD 4 zh) ((show jl zi T m Try.f73.results.toList=jl zi T m [(ResultVar.tmp 4)] from by kernel_rfl).trans (by simp only[jl])) (by kernel_rfl)) hca hcv
end
section
abbrev kZ.id :FuncId:=18
noncomputable def kZ.code :Code:=(.seq (.region 0 (reg Try.f18 0) false) (.seq (.region 1 (reg Try.f18 1) false) Code.ret))
theorem kZ.body :Try.f18.body=some kZ.code:=by kernel_rfl
variable (g i k l x4 x5 x6 x7 x8 x9 o p q r s t u w x y z A B C D E F G H I J K L M N P Q R:zu) (S:zS)
theorem kZ.r0 :zW zi ⟨false,false,false⟩ (zU zi O) (reg Try.f18 0) (reg Try.f18 0).toList ([g,i,k,l,x4,x5,x6,x7,x8,x9,o,p,q,r,s,t,u,w,x,y,z,A,B,C,D,E,F,G,H,I,J,K,L,M,N,P,Q,R]) S =
  (zT (qm (zQ g) S) (fun U m=>zT (qm (zQ i) m) (fun V S2=>some ([g,i,U,V,Value.bool false,x5,x6,x7,x8,x9,o,p,q,r,s,t,u,w,x,y,z,A,B,C,D,E,F,G,H,I,J,K,L,M,N,P,Q,R],S2)) ()) ()):=by kernel_rfl
theorem kZ.r1 :zW zi ⟨false,false,false⟩ (zU zi O) (reg Try.f18 1) (reg Try.f18 1).toList ([g,i,k,l,x4,x5,x6,x7,x8,x9,o,p,q,r,s,t,u,w,x,y,z,A,B,C,D,E,F,G,H,I,J,K,L,M,N,P,Q,R]) S =
  (zT (jf zi 46 k 0 S) (fun U m=>zT (zZ zi false 3 U m) (fun V S2=>zT (jf zi 46 l 0 S2) (fun v2 S3=>zT (zZ zi false 3 v2 S3) (fun v3 S4=>zT (jd zi BinOp.eql 3 V v3 S4) (fun f S5=>zY (zQ f) true (jf zi 46 k 1) S5 (fun v6 S6=>zY (zQ f) true (zZ zi false 3 v6) S6 (fun v7 S7=>zY (zQ f) true (jf zi 46 l 1) S7 (fun v8 S8=>zY (zQ f) true (zZ zi false 3 v8) S8 (fun v9 S9=>zY (zQ f) true (jd zi BinOp.eql 3 v7 v9) S9 (fun W b2=>zT (jH (zQ f) W (Value.bool false) b2) (fun b b3=>zY (zQ b) true (jf zi 46 k 2) b3 (fun X b4=>zY (zQ b) true (zZ zi false 3 X) b4 (fun Y b5=>zY (zQ b) true (jf zi 46 l 2) b5 (fun Z b6=>zY (zQ b) true (zZ zi false 3 Z) b6 (fun a0 b7=>zY (zQ b) true (jd zi BinOp.eql 3 Y a0) b7 (fun a1 b8=>zT (jH (zQ b) a1 (Value.bool false) b8) (fun c b9=>zY (zQ c) true (jf zi 46 k 3) b9 (fun a2 c0=>zY (zQ c) true (zZ zi false 3 a2) c0 (fun a3 c1=>zY (zQ c) true (jf zi 46 l 3) c1 (fun a4 c2=>zY (zQ c) true (zZ zi false 3 a4) c2 (fun a5 c3=>zY (zQ c) true (jd zi BinOp.eql 3 a3 a5) c3 (fun a6 c4=>zT (jH (zQ c) a6 (Value.bool false) c4) (fun d c5=>zY (zQ d) true (jf zi 46 k 4) c5 (fun a7 c6=>zY (zQ d) true (zZ zi false 44 a7) c6 (fun a8 c7=>zY (zQ d) true (jf zi 46 l 4) c7 (fun a9 c8=>zY (zQ d) true (zZ zi false 44 a9) c8 (fun b0 c9=>zY (zQ d) true ((zU zi O) 33 [(zQ a8),(zQ b0)]) c9 (fun b1 d0=>zT (jH (zQ d) b1 (Value.bool false) d0) (fun n d1=>some ([g,i,k,l,n,U,V,v2,v3,f,zQ f,v6,v7,v8,v9,W,b,zQ b,X,Y,Z,a0,a1,c,zQ c,a2,a3,a4,a5,a6,d,zQ d,a7,a8,a9,b0,b1,zQ n],d1)) ()) ()) ()) ()) ()) ()) ()) ()) ()) ()) ()) ()) ()) ()) ()) ()) ()) ()) ()) ()) ()) ()) ()) ()) ()) ()) ()) ()) ()):=by
 refine sD Try.f18 1 0 (fun U m=>?_)
 refine sD Try.f18 1 1 (fun V S2=>?_)
 refine sD Try.f18 1 2 (fun v2 S3=>?_)
 refine sD Try.f18 1 3 (fun v3 S4=>?_)
 refine sD Try.f18 1 4 (fun f S5=>?_)
 refine sP Try.f18 1 5 (v:=f) ?_;refine sG Try.f18 1 6 (j:=5) (fun v6 S6=>?_)
 refine sG Try.f18 1 7 (j:=5) (fun v7 S7=>?_)
 refine sG Try.f18 1 8 (j:=5) (fun v8 S8=>?_)
 refine sG Try.f18 1 9 (j:=5) (fun v9 S9=>?_)
 refine sG Try.f18 1 10 (j:=5) (fun W b2=>?_)
 refine sD Try.f18 1 11 (fun b b3=>?_)
 refine sP Try.f18 1 12 (v:=b) ?_;refine sG Try.f18 1 13 (j:=12) (fun X b4=>?_)
 refine sG Try.f18 1 14 (j:=12) (fun Y b5=>?_)
 refine sG Try.f18 1 15 (j:=12) (fun Z b6=>?_)
 refine sG Try.f18 1 16 (j:=12) (fun a0 b7=>?_)
 refine sG Try.f18 1 17 (j:=12) (fun a1 b8=>?_)
 refine sD Try.f18 1 18 (fun c b9=>?_)
 refine sP Try.f18 1 19 (v:=c) ?_;refine sG Try.f18 1 20 (j:=19) (fun a2 c0=>?_)
 refine sG Try.f18 1 21 (j:=19) (fun a3 c1=>?_)
 refine sG Try.f18 1 22 (j:=19) (fun a4 c2=>?_)
 refine sG Try.f18 1 23 (j:=19) (fun a5 c3=>?_)
 refine sG Try.f18 1 24 (j:=19) (fun a6 c4=>?_)
 refine sD Try.f18 1 25 (fun d c5=>?_)
 refine sP Try.f18 1 26 (v:=d) ?_;refine sG Try.f18 1 27 (j:=26) (fun a7 c6=>?_)
 refine sG Try.f18 1 28 (j:=26) (fun a8 c7=>?_)
 refine sG Try.f18 1 29 (j:=26) (fun a9 c8=>?_)
 refine sG Try.f18 1 30 (j:=26) (fun b0 c9=>?_)
 refine sG Try.f18 1 31 (j:=26) (fun b1 d0=>?_)
 refine sD Try.f18 1 32 (fun n d1=>?_)
 refine sP Try.f18 1 33 (v:=n) ?_
 kernel_rfl
theorem kZ.rs :type_of% (zJ @kZ.r0 (@kZ.r1)):=zJ @kZ.r0 (@kZ.r1)
theorem kZ.runs {g i:zu}{S m:zS}{e:wC}{T:List zu}(h:zX zi O false kZ.code ([g,i,zh,zh,zh,zh,zh,zh,zh,zh,zh,zh,zh,zh,zh,zh,zh,zh,zh,zh,zh,zh,zh,zh,zh,zh,zh,zh,zh,zh,zh,zh,zh,zh,zh,zh,zh,zh]) zS.empty=some (e,T,m)) (he:e=.normal∨e=.ret) (hca:[g,i].all (jw 16)=true) (hcv:jw 16 (T.getD 4 zh)=true):zU zi O 18 [g,i] S=some (T.getD 4 zh,S) :=
 kC rfl rfl Try.func18 (by decide) kZ.body (by exact h) he (qI (a:=T.getD 4 zh) ((show jl zi T m Try.f18.results.toList=jl zi T m [(ResultVar.tmp 4)] from by kernel_rfl).trans (by simp only[jl])) (by kernel_rfl)) hca hcv
end
section
abbrev kK.id :FuncId:=46
noncomputable def kK.code :Code:=(.seq (.region 0 (reg Try.f46 0) false) (.seq (.seq (.region 1 (reg Try.f46 1) false) (.cond (.tmp 10) (.seq (.region 2 (reg Try.f46 2) false) Code.ret) Code.skip)) (.seq (.region 3 (reg Try.f46 3) false) (.seq (.region 4 (reg Try.f46 4) false) (.seq (.region 5 (reg Try.f46 5) false) Code.ret)))))
theorem kK.body :Try.f46.body=some kK.code:=by kernel_rfl
variable (a b K L B F C G H I c d f g i j k l m n o p q r s t u v w x y z A:zu) (S:zS)
theorem kK.r0 :zW zi ⟨false,false,false⟩ (zU zi O) (reg Try.f46 0) (reg Try.f46 0).toList ([a,b,K,L,B,F,C,G,H,I,c,d,f,g,i,j,k,l,m,n,o,p,q,r,s,t,u,v,w,x,y,z,A]) S =
  (zT (qm (zQ a) S) (fun J D=>some ([a,J,Value.slice none 0 0,.int .i64 0,B,F,C,G,H,I,c,d,f,g,i,j,k,l,m,n,o,p,q,r,s,t,u,v,w,x,y,z,A],D)) ()):=by kernel_rfl
theorem kK.r1 :zW zi ⟨false,false,false⟩ (zU zi O) (reg Try.f46 1) (reg Try.f46 1).toList ([a,b,K,L,B,F,C,G,H,I,c,d,f,g,i,j,k,l,m,n,o,p,q,r,s,t,u,v,w,x,y,z,A]) S =
  (zT (zZ zi false 46 b S) (fun J D=>zT ((zU zi O) 45 [(zQ J)] D) (fun M N=>zT (qo zi UnOp.not M N) (fun E P=>some ([a,b,K,L,B,F,C,G,J,M,E,d,f,g,i,j,k,l,m,n,o,p,q,r,s,t,u,v,w,x,y,z,A],P)) ()) ()) ()):=by kernel_rfl
theorem kK.r2 :zW zi ⟨false,false,false⟩ (zU zi O) (reg Try.f46 2) (reg Try.f46 2).toList ([a,b,K,L,B,F,C,G,H,I,c,d,f,g,i,j,k,l,m,n,o,p,q,r,s,t,u,v,w,x,y,z,A]) S =
  ( some ([a,b,Value.slice none 0 0,.int .i64 71,B,F,C,G,H,I,c,d,f,g,i,j,k,l,m,n,o,p,q,r,s,t,u,v,w,x,y,z,A],S)):=by kernel_rfl
theorem kK.r3 :zW zi ⟨false,false,false⟩ (zU zi O) (reg Try.f46 3) (reg Try.f46 3).toList ([a,b,K,L,B,F,C,G,H,I,c,d,f,g,i,j,k,l,m,n,o,p,q,r,s,t,u,v,w,x,y,z,A]) S =
  (zT (jf zi 46 b 0 S) (fun J D=>zT (zZ zi false 3 J D) (fun M N=>zT (jf zi 46 b 1 N) (fun E P=>zT (zZ zi false 3 E P) (fun Z X=>zT (jf zi 46 b 2 X) (fun Q Y=>zT (zZ zi false 3 Q Y) (fun R S6=>zT (jf zi 46 b 3 S6) (fun v6 S7=>zT (zZ zi false 3 v6 S7) (fun v7 S8=>zT (yO zi 24 4 [(0,M),(1,Z),(2,R),(3,v7)] S8) (fun v8 S9=>zT ((zU zi O) 63 [(zQ v8)] S9) (fun U a0=>zT (jv U 0 a0) (fun V a1=>zT (jv (jh 0 U) 1 a1) (fun W a2=>some ([a,b,K,L,V,W,C,G,H,I,c,jh 1 (jh 0 U),J,M,E,Z,Q,R,v6,v7,v8,zQ U,zQ V,zQ W,s,t,u,v,w,x,y,z,A],a2)) ()) ()) ()) ()) ()) ()) ()) ()) ()) ()) ()) ()):=by kernel_rfl
theorem kK.r4 :zW zi ⟨false,false,false⟩ (zU zi O) (reg Try.f46 4) (reg Try.f46 4).toList ([a,b,K,L,B,F,C,G,H,I,c,d,f,g,i,j,k,l,m,n,o,p,q,r,s,t,u,v,w,x,y,z,A]) S =
  (zT (jf zi 46 b 4 S) (fun J D=>zT (zZ zi false 44 J D) (fun M N=>zT ((zU zi O) 62 [(zQ M)] N) (fun E P=>zT (jv E 0 P) (fun Q X=>zT (jv (jh 0 E) 1 X) (fun R Y=>some ([a,b,K,L,B,F,Q,R,H,I,c,d,f,g,i,j,k,l,m,n,o,p,q,r,jh 1 (jh 0 E),J,M,zQ E,zQ Q,zQ R,y,z,A],Y)) ()) ()) ()) ()) ()):=by kernel_rfl
theorem kK.r5 :zW zi ⟨false,false,false⟩ (zU zi O) (reg Try.f46 5) (reg Try.f46 5).toList ([a,b,K,L,B,F,C,G,H,I,c,d,f,g,i,j,k,l,m,n,o,p,q,r,s,t,u,v,w,x,y,z,A]) S =
  (zT (yF zi 33 33 B (zQ C) S) (fun E D=>some ([a,b,E,.int .i64 0,zQ B,F,C,G,H,I,c,d,f,g,i,j,k,l,m,n,o,p,q,r,s,t,u,v,w,x,zQ B,zQ C,zQ E],D)) ()):=by kernel_rfl
theorem kK.rs :type_of% (zJ @kK.r0 (zJ @kK.r1 (zJ @kK.r2 (zJ @kK.r3 (zJ @kK.r4 (@kK.r5)))))):=zJ @kK.r0 (zJ @kK.r1 (zJ @kK.r2 (zJ @kK.r3 (zJ @kK.r4 (@kK.r5)))))
theorem kK.runs {a:zu}{S D:zS}{e:wC}{T:List zu}(h:zX zi O false kK.code ([a,zh,zh,zh,zh,zh,zh,zh,zh,zh,zh,zh,zh,zh,zh,zh,zh,zh,zh,zh,zh,zh,zh,zh,zh,zh,zh,zh,zh,zh,zh,zh,zh]) zS.empty=some (e,T,D)) (he:e=.normal∨e=.ret)  (h0:yc (T.getD 2 zh)=true) (h1:yc (T.getD 3 zh)=true) (hca:[a].all (jw 16)=true) (hcv:jw 16 (Value.tuple #[T.getD 2 zh,T.getD 3 zh])=true):zU zi O 46 [a] S=some (Value.tuple #[T.getD 2 zh,T.getD 3 zh],S) :=
 kC rfl rfl Try.func46 (by decide) kK.body (by exact h) he ((Zc ((show jl zi T D Try.f46.results.toList=jl zi T D [(ResultVar.tmp 2),(ResultVar.tmp 3)] from by kernel_rfl).trans (by simp only[jl])) (by kernel_rfl) (by simp only[List.all_cons,List.all_nil,h0,h1,Bool.and_true])).trans rfl) hca hcv
end
section
abbrev kP.id :FuncId:=37
noncomputable def kP.code :Code:=(.seq (.region 0 (reg Try.f37 0) false) (.seq (.seq (.region 1 (reg Try.f37 1) false) (.cond (.tmp 10) (.seq (.region 2 (reg Try.f37 2) false) Code.ret) Code.skip)) (.seq (.region 3 (reg Try.f37 3) false) (.seq (.region 4 (reg Try.f37 4) false) (.seq (.region 5 (reg Try.f37 5) false) Code.ret)))))
theorem kP.body :Try.f37.body=some kP.code:=by kernel_rfl
variable (a b K L B F C G H I c d f g i j k l m n o p q r s t u v w x y z A:zu) (S:zS)
theorem kP.r0 :zW zi ⟨false,false,false⟩ (zU zi O) (reg Try.f37 0) (reg Try.f37 0).toList ([a,b,K,L,B,F,C,G,H,I,c,d,f,g,i,j,k,l,m,n,o,p,q,r,s,t,u,v,w,x,y,z,A]) S =
  (zT (qm (zQ a) S) (fun J D=>some ([a,J,Value.slice none 0 0,.int .i64 0,B,F,C,G,H,I,c,d,f,g,i,j,k,l,m,n,o,p,q,r,s,t,u,v,w,x,y,z,A],D)) ()):=by kernel_rfl
theorem kP.r1 :zW zi ⟨false,false,false⟩ (zU zi O) (reg Try.f37 1) (reg Try.f37 1).toList ([a,b,K,L,B,F,C,G,H,I,c,d,f,g,i,j,k,l,m,n,o,p,q,r,s,t,u,v,w,x,y,z,A]) S =
  (zT (zZ zi false 46 b S) (fun J D=>zT ((zU zi O) 32 [(zQ J)] D) (fun M N=>zT (qo zi UnOp.not M N) (fun E P=>some ([a,b,K,L,B,F,C,G,J,M,E,d,f,g,i,j,k,l,m,n,o,p,q,r,s,t,u,v,w,x,y,z,A],P)) ()) ()) ()):=by kernel_rfl
theorem kP.r2 :zW zi ⟨false,false,false⟩ (zU zi O) (reg Try.f37 2) (reg Try.f37 2).toList ([a,b,K,L,B,F,C,G,H,I,c,d,f,g,i,j,k,l,m,n,o,p,q,r,s,t,u,v,w,x,y,z,A]) S =
  ( some ([a,b,Value.slice none 0 0,.int .i64 71,B,F,C,G,H,I,c,d,f,g,i,j,k,l,m,n,o,p,q,r,s,t,u,v,w,x,y,z,A],S)):=by kernel_rfl
theorem kP.r3 :zW zi ⟨false,false,false⟩ (zU zi O) (reg Try.f37 3) (reg Try.f37 3).toList ([a,b,K,L,B,F,C,G,H,I,c,d,f,g,i,j,k,l,m,n,o,p,q,r,s,t,u,v,w,x,y,z,A]) S =
  (zT (jf zi 46 b 0 S) (fun J D=>zT (zZ zi false 3 J D) (fun M N=>zT (jf zi 46 b 1 N) (fun E P=>zT (zZ zi false 3 E P) (fun Z X=>zT (jf zi 46 b 2 X) (fun Q Y=>zT (zZ zi false 3 Q Y) (fun R S6=>zT (jf zi 46 b 3 S6) (fun v6 S7=>zT (zZ zi false 3 v6 S7) (fun v7 S8=>zT (yO zi 24 4 [(0,M),(1,Z),(2,R),(3,v7)] S8) (fun v8 S9=>zT ((zU zi O) 35 [(zQ v8)] S9) (fun U a0=>zT (jv U 0 a0) (fun V a1=>zT (jv (jh 0 U) 1 a1) (fun W a2=>some ([a,b,K,L,V,W,C,G,H,I,c,jh 1 (jh 0 U),J,M,E,Z,Q,R,v6,v7,v8,zQ U,zQ V,zQ W,s,t,u,v,w,x,y,z,A],a2)) ()) ()) ()) ()) ()) ()) ()) ()) ()) ()) ()) ()):=by kernel_rfl
theorem kP.r4 :zW zi ⟨false,false,false⟩ (zU zi O) (reg Try.f37 4) (reg Try.f37 4).toList ([a,b,K,L,B,F,C,G,H,I,c,d,f,g,i,j,k,l,m,n,o,p,q,r,s,t,u,v,w,x,y,z,A]) S =
  (zT (jf zi 46 b 4 S) (fun J D=>zT (zZ zi false 44 J D) (fun M N=>zT ((zU zi O) 50 [(zQ M)] N) (fun E P=>zT (jv E 0 P) (fun Q X=>zT (jv (jh 0 E) 1 X) (fun R Y=>some ([a,b,K,L,B,F,Q,R,H,I,c,d,f,g,i,j,k,l,m,n,o,p,q,r,jh 1 (jh 0 E),J,M,zQ E,zQ Q,zQ R,y,z,A],Y)) ()) ()) ()) ()) ()):=by kernel_rfl
theorem kP.r5 :zW zi ⟨false,false,false⟩ (zU zi O) (reg Try.f37 5) (reg Try.f37 5).toList ([a,b,K,L,B,F,C,G,H,I,c,d,f,g,i,j,k,l,m,n,o,p,q,r,s,t,u,v,w,x,y,z,A]) S =
  (zT (yF zi 33 33 B (zQ C) S) (fun E D=>some ([a,b,E,.int .i64 0,zQ B,F,C,G,H,I,c,d,f,g,i,j,k,l,m,n,o,p,q,r,s,t,u,v,w,x,zQ B,zQ C,zQ E],D)) ()):=by kernel_rfl
theorem kP.rs :type_of% (zJ @kP.r0 (zJ @kP.r1 (zJ @kP.r2 (zJ @kP.r3 (zJ @kP.r4 (@kP.r5)))))):=zJ @kP.r0 (zJ @kP.r1 (zJ @kP.r2 (zJ @kP.r3 (zJ @kP.r4 (@kP.r5)))))
theorem kP.runs {a:zu}{S D:zS}{e:wC}{T:List zu}(h:zX zi O false kP.code ([a,zh,zh,zh,zh,zh,zh,zh,zh,zh,zh,zh,zh,zh,zh,zh,zh,zh,zh,zh,zh,zh,zh,zh,zh,zh,zh,zh,zh,zh,zh,zh,zh]) zS.empty=some (e,T,D)) (he:e=.normal∨e=.ret)  (h0:yc (T.getD 2 zh)=true) (h1:yc (T.getD 3 zh)=true) (hca:[a].all (jw 16)=true) (hcv:jw 16 (Value.tuple #[T.getD 2 zh,T.getD 3 zh])=true):zU zi O 37 [a] S=some (Value.tuple #[T.getD 2 zh,T.getD 3 zh],S) :=
 kC rfl rfl Try.func37 (by decide) kP.body (by exact h) he ((Zc ((show jl zi T D Try.f37.results.toList=jl zi T D [(ResultVar.tmp 2),(ResultVar.tmp 3)] from by kernel_rfl).trans (by simp only[jl])) (by kernel_rfl) (by simp only[List.all_cons,List.all_nil,h0,h1,Bool.and_true])).trans rfl) hca hcv
end
section
abbrev yC.id :FuncId:=45
noncomputable def yC.code :Code:=(.seq (.region 0 (reg Try.f45 0) false) (.seq (.seq (.region 1 (reg Try.f45 1) false) (.cond (.tmp 20) (.seq (.region 2 (reg Try.f45 2) false) Code.ret) Code.skip)) (.seq (.seq (.region 3 (reg Try.f45 3) false) (.cond (.tmp 37) (.seq (.region 4 (reg Try.f45 4) false) Code.ret) Code.skip)) (.seq (.region 5 (reg Try.f45 5) false) (.seq (.region 6 (reg Try.f45 6) false) Code.ret)))))
theorem yC.body :Try.f45.body=some yC.code:=by kernel_rfl
variable (U b x2 X V Y Z x7 x8 x9 c d f g i k l m n o p q r s t u w x y z A B C D E F G H I J K L M N P Q:zu) (S:zS)
theorem yC.r0 :zW zi ⟨false,false,false⟩ (zU zi O) (reg Try.f45 0) (reg Try.f45 0).toList ([U,b,x2,X,V,Y,Z,x7,x8,x9,c,d,f,g,i,k,l,m,n,o,p,q,r,s,t,u,w,x,y,z,A,B,C,D,E,F,G,H,I,J,K,L,M,N,P,Q]) S =
  (zT (qm (zQ U) S) (fun v0 W=>some ([U,v0,Value.bool false,X,V,Y,Z,x7,x8,x9,c,d,f,g,i,k,l,m,n,o,p,q,r,s,t,u,w,x,y,z,A,B,C,D,E,F,G,H,I,J,K,L,M,N,P,Q],W)) ()):=by kernel_rfl
theorem yC.r1 :zW zi ⟨false,false,false⟩ (zU zi O) (reg Try.f45 1) (reg Try.f45 1).toList ([U,b,x2,X,V,Y,Z,x7,x8,x9,c,d,f,g,i,k,l,m,n,o,p,q,r,s,t,u,w,x,y,z,A,B,C,D,E,F,G,H,I,J,K,L,M,N,P,Q]) S =
  (zT (jf zi 46 b 0 S) (fun v0 W=>zT (zZ zi false 3 v0 W) (fun v1 S2=>zT ((zU zi O) 60 [(zQ v1),(.int .i64 1),(.int .i64 4095)] S2) (fun R S3=>zT (qo zi UnOp.not R S3) (fun v3 S4=>zY (zQ v3) false (jf zi 46 b 1) S4 (fun v5 S5=>zY (zQ v3) false (zZ zi false 3 v5) S5 (fun v6 S6=>zY (zQ v3) false ((zU zi O) 60 [(zQ v6),(.int .i64 0),(.int .i64 6)]) S6 (fun v7 S7=>zY (zQ v3) false (qo zi UnOp.not v7) S7 (fun v8 S8=>zT (jH (zQ v3) (Value.bool true) v8 S8) (fun v9 S9=>zY (zQ v9) false (jf zi 46 b 2) S9 (fun a0 a5=>zY (zQ v9) false (zZ zi false 3 a0) a5 (fun a1 a6=>zY (zQ v9) false ((zU zi O) 60 [(zQ a1),(.int .i64 0),(.int .i64 255)]) a6 (fun a2 a7=>zY (zQ v9) false (qo zi UnOp.not a2) a7 (fun a3 a8=>zT (jH (zQ v9) (Value.bool true) a3 a8) (fun a4 a9=>some ([U,b,x2,X,V,v0,v1,R,v3,zQ v3,v5,v6,v7,v8,v9,zQ v9,a0,a1,a2,a3,a4,q,r,s,t,u,w,x,y,z,A,B,C,D,E,F,G,H,I,J,K,L,M,N,P,Q],a9)) ()) ()) ()) ()) ()) ()) ()) ()) ()) ()) ()) ()) ()) ()):=by
 refine sD Try.f45 1 0 (fun v0 W=>?_)
 refine sD Try.f45 1 1 (fun v1 S2=>?_)
 refine sD Try.f45 1 2 (fun R S3=>?_)
 refine sD Try.f45 1 3 (fun v3 S4=>?_)
 refine sP Try.f45 1 4 (v:=v3) ?_;refine sG Try.f45 1 5 (j:=4) (fun v5 S5=>?_)
 refine sG Try.f45 1 6 (j:=4) (fun v6 S6=>?_)
 refine sG Try.f45 1 7 (j:=4) (fun v7 S7=>?_)
 refine sG Try.f45 1 8 (j:=4) (fun v8 S8=>?_)
 refine sD Try.f45 1 9 (fun v9 S9=>?_)
 refine sP Try.f45 1 10 (v:=v9) ?_;refine sG Try.f45 1 11 (j:=10) (fun a0 a5=>?_)
 refine sG Try.f45 1 12 (j:=10) (fun a1 a6=>?_)
 refine sG Try.f45 1 13 (j:=10) (fun a2 a7=>?_)
 refine sG Try.f45 1 14 (j:=10) (fun a3 a8=>?_)
 refine sD Try.f45 1 15 (fun a4 a9=>?_)
 kernel_rfl
theorem yC.r2 :zW zi ⟨false,false,false⟩ (zU zi O) (reg Try.f45 2) (reg Try.f45 2).toList ([U,b,x2,X,V,Y,Z,x7,x8,x9,c,d,f,g,i,k,l,m,n,o,p,q,r,s,t,u,w,x,y,z,A,B,C,D,E,F,G,H,I,J,K,L,M,N,P,Q]) S =
  ( some ([U,b,Value.bool false,X,V,Y,Z,x7,x8,x9,c,d,f,g,i,k,l,m,n,o,p,q,r,s,t,u,w,x,y,z,A,B,C,D,E,F,G,H,I,J,K,L,M,N,P,Q],S)):=by kernel_rfl
theorem yC.r3 :zW zi ⟨false,false,false⟩ (zU zi O) (reg Try.f45 3) (reg Try.f45 3).toList ([U,b,x2,X,V,Y,Z,x7,x8,x9,c,d,f,g,i,k,l,m,n,o,p,q,r,s,t,u,w,x,y,z,A,B,C,D,E,F,G,H,I,J,K,L,M,N,P,Q]) S =
  (zT (jf zi 46 b 3 S) (fun v0 W=>zT (zZ zi false 3 v0 W) (fun v1 S2=>zT (jd zi BinOp.neq 3 v1 (.int .i64 0) S2) (fun R S3=>zY (zQ R) true (jf zi 46 b 3) S3 (fun v4 S4=>zY (zQ R) true (zZ zi false 3 v4) S4 (fun v5 S5=>zY (zQ R) true ((zU zi O) 61 [(zQ v5)]) S5 (fun v6 S6=>zY (zQ R) true (qo zi UnOp.not v6) S6 (fun v7 S7=>zY (zQ R) true (ret v7) S7 (fun v8 S8=>zY (zQ v8) false (jf zi 46 b 3) S8 (fun v9 S9=>zY (zQ v8) false (zZ zi false 3 v9) S9 (fun b0 a5=>zY (zQ v8) false (jd zi BinOp.quo 3 b0 (.int .i64 65536)) a5 (fun a0 a6=>zY (zQ v8) false (jf zi 46 b 0) a6 (fun a1 a7=>zY (zQ v8) false (zZ zi false 3 a1) a7 (fun a2 a8=>zY (zQ v8) false (jd zi BinOp.geq 3 a0 a2) a8 (fun a3 a9=>zY (zQ R) true (jH (zQ v8) (Value.bool true) a3) a9 (fun a4 b1=>zT (jH (zQ R) a4 (Value.bool false) b1) (fun b2 b3=>some ([U,b,x2,X,V,Y,Z,x7,x8,x9,c,d,f,g,i,k,l,m,n,o,p,v0,v1,R,zQ R,v4,v5,v6,v7,zQ v8,v9,b0,a0,a1,a2,a3,a4,b2,I,J,K,L,M,N,P,Q],b3)) ()) ()) ()) ()) ()) ()) ()) ()) ()) ()) ()) ()) ()) ()) ()) ()):=by
 refine sD Try.f45 3 0 (fun v0 W=>?_)
 refine sD Try.f45 3 1 (fun v1 S2=>?_)
 refine sD Try.f45 3 2 (fun R S3=>?_)
 refine sP Try.f45 3 3 (v:=R) ?_;refine sG Try.f45 3 4 (j:=3) (fun v4 S4=>?_)
 refine sG Try.f45 3 5 (j:=3) (fun v5 S5=>?_)
 refine sG Try.f45 3 6 (j:=3) (fun v6 S6=>?_)
 refine sG Try.f45 3 7 (j:=3) (fun v7 S7=>?_)
 refine sG Try.f45 3 8 (j:=3) (fun v8 S8=>?_)
 refine sG Try.f45 3 9 (j:=8) (fun v9 S9=>?_)
 refine sG Try.f45 3 10 (j:=8) (fun b0 a5=>?_)
 refine sG Try.f45 3 11 (j:=8) (fun a0 a6=>?_)
 refine sG Try.f45 3 12 (j:=8) (fun a1 a7=>?_)
 refine sG Try.f45 3 13 (j:=8) (fun a2 a8=>?_)
 refine sG Try.f45 3 14 (j:=8) (fun a3 a9=>?_)
 refine sG Try.f45 3 15 (j:=3) (fun a4 b1=>?_)
 refine sD Try.f45 3 16 (fun b2 b3=>?_)
 kernel_rfl
theorem yC.r4 :zW zi ⟨false,false,false⟩ (zU zi O) (reg Try.f45 4) (reg Try.f45 4).toList ([U,b,x2,X,V,Y,Z,x7,x8,x9,c,d,f,g,i,k,l,m,n,o,p,q,r,s,t,u,w,x,y,z,A,B,C,D,E,F,G,H,I,J,K,L,M,N,P,Q]) S =
  ( some ([U,b,Value.bool false,X,V,Y,Z,x7,x8,x9,c,d,f,g,i,k,l,m,n,o,p,q,r,s,t,u,w,x,y,z,A,B,C,D,E,F,G,H,I,J,K,L,M,N,P,Q],S)):=by kernel_rfl
theorem yC.r5 :zW zi ⟨false,false,false⟩ (zU zi O) (reg Try.f45 5) (reg Try.f45 5).toList ([U,b,x2,X,V,Y,Z,x7,x8,x9,c,d,f,g,i,k,l,m,n,o,p,q,r,s,t,u,w,x,y,z,A,B,C,D,E,F,G,H,I,J,K,L,M,N,P,Q]) S =
  (zT (jf zi 46 b 4 S) (fun v0 W=>zT (zZ zi false 44 v0 W) (fun v1 S2=>zT ((zU zi O) 62 [(zQ v1)] S2) (fun R S3=>zT (jv R 0 S3) (fun v4 S4=>zT (jv (jh 0 R) 1 S4) (fun v5 S5=>some ([U,b,x2,v4,v5,Y,Z,x7,x8,x9,c,d,f,g,i,k,l,m,n,o,p,q,r,s,t,u,w,x,y,z,A,B,C,D,E,F,G,H,jh 1 (jh 0 R),v0,v1,zQ R,zQ v4,zQ v5,P,Q],S5)) ()) ()) ()) ()) ()):=by kernel_rfl
theorem yC.r6 :zW zi ⟨false,false,false⟩ (zU zi O) (reg Try.f45 6) (reg Try.f45 6).toList ([U,b,x2,X,V,Y,Z,x7,x8,x9,c,d,f,g,i,k,l,m,n,o,p,q,r,s,t,u,w,x,y,z,A,B,C,D,E,F,G,H,I,J,K,L,M,N,P,Q]) S =
  (zT (jd zi BinOp.eql 64 (zQ V) (.int .i64 0) S) (fun v1 W=>some ([U,b,v1,X,V,Y,Z,x7,x8,x9,c,d,f,g,i,k,l,m,n,o,p,q,r,s,t,u,w,x,y,z,A,B,C,D,E,F,G,H,I,J,K,L,M,N,zQ V,zQ v1],W)) ()):=by kernel_rfl
theorem yC.rs :type_of% (zJ @yC.r0 (zJ @yC.r1 (zJ @yC.r2 (zJ @yC.r3 (zJ @yC.r4 (zJ @yC.r5 (@yC.r6))))))):=zJ @yC.r0 (zJ @yC.r1 (zJ @yC.r2 (zJ @yC.r3 (zJ @yC.r4 (zJ @yC.r5 (@yC.r6))))))
theorem yC.runs {U:zu}{S W:zS}{e:wC}{T:List zu}(h:zX zi O false yC.code ([U,zh,zh,zh,zh,zh,zh,zh,zh,zh,zh,zh,zh,zh,zh,zh,zh,zh,zh,zh,zh,zh,zh,zh,zh,zh,zh,zh,zh,zh,zh,zh,zh,zh,zh,zh,zh,zh,zh,zh,zh,zh,zh,zh,zh,zh]) zS.empty=some (e,T,W)) (he:e=.normal∨e=.ret) (hca:[U].all (jw 16)=true) (hcv:jw 16 (T.getD 2 zh)=true):zU zi O 45 [U] S=some (T.getD 2 zh,S) :=
 kC rfl rfl Try.func45 (by decide) yC.body (by exact h) he (qI (a:=T.getD 2 zh) ((show jl zi T W Try.f45.results.toList=jl zi T W [(ResultVar.tmp 2)] from by kernel_rfl).trans (by simp only[jl])) (by kernel_rfl)) hca hcv
end
section
abbrev wB.id :FuncId:=32
noncomputable def wB.code :Code:=(.seq (.region 0 (reg Try.f32 0) false) (.seq (.seq (.region 1 (reg Try.f32 1) false) (.cond (.tmp 36) (.seq (.region 2 (reg Try.f32 2) false) Code.ret) Code.skip)) (.seq (.region 3 (reg Try.f32 3) false) (.seq (.seq (.region 4 (reg Try.f32 4) false) (.cond (.tmp 44) (.seq (.region 5 (reg Try.f32 5) false) Code.ret) Code.skip)) (.seq (.seq (.region 6 (reg Try.f32 6) false) (.cond (.tmp 47) (.seq (.region 7 (reg Try.f32 7) false) Code.ret) Code.skip)) (.seq (.region 8 (reg Try.f32 8) false) (.seq (.region 9 (reg Try.f32 9) false) Code.ret)))))))
theorem wB.body :Try.f32.body=some wB.code:=by kernel_rfl
variable (x0 b x2 x3 x4 x5 x6 x7 x8 x9 c d f g i k l m n o p q r s t u w x y z A B C D E F G H I J K L M N P Q R U V W X Y Z a0 a1 a2 a3 a4 a5 a6 a7 a8 a9:zu) (S:zS)
theorem wB.r0 :zW zi ⟨false,false,false⟩ (zU zi O) (reg Try.f32 0) (reg Try.f32 0).toList ([x0,b,x2,x3,x4,x5,x6,x7,x8,x9,c,d,f,g,i,k,l,m,n,o,p,q,r,s,t,u,w,x,y,z,A,B,C,D,E,F,G,H,I,J,K,L,M,N,P,Q,R,U,V,W,X,Y,Z,a0,a1,a2,a3,a4,a5,a6,a7,a8,a9]) S =
  (zT (qm (zQ x0) S) (fun v0 S1=>some ([x0,v0,Value.bool false,x3,x4,x5,x6,x7,x8,x9,c,d,f,g,i,k,l,m,n,o,p,q,r,s,t,u,w,x,y,z,A,B,C,D,E,F,G,H,I,J,K,L,M,N,P,Q,R,U,V,W,X,Y,Z,a0,a1,a2,a3,a4,a5,a6,a7,a8,a9],S1)) ()):=by kernel_rfl
theorem wB.r1 :zW zi ⟨false,false,false⟩ (zU zi O) (reg Try.f32 1) (reg Try.f32 1).toList ([x0,b,x2,x3,x4,x5,x6,x7,x8,x9,c,d,f,g,i,k,l,m,n,o,p,q,r,s,t,u,w,x,y,z,A,B,C,D,E,F,G,H,I,J,K,L,M,N,P,Q,R,U,V,W,X,Y,Z,a0,a1,a2,a3,a4,a5,a6,a7,a8,a9]) S =
  (zT (jf zi 46 b 0 S) (fun v0 S1=>zT (zZ zi false 3 v0 S1) (fun v1 S2=>zT (jd zi BinOp.lss 3 v1 (.int .i64 1) S2) (fun v2 S3=>zY (zQ v2) false (jf zi 46 b 0) S3 (fun v4 S4=>zY (zQ v2) false (zZ zi false 3 v4) S4 (fun v5 S5=>zY (zQ v2) false (jd zi BinOp.gtr 3 v5 (.int .i64 4095)) S5 (fun v6 S6=>zT (jH (zQ v2) (Value.bool true) v6 S6) (fun v7 S7=>zY (zQ v7) false (jf zi 46 b 1) S7 (fun v9 S8=>zY (zQ v7) false (zZ zi false 3 v9) S8 (fun b3 S9=>zY (zQ v7) false (jd zi BinOp.lss 3 b3 (.int .i64 0)) S9 (fun b4 c4=>zT (jH (zQ v7) (Value.bool true) b4 c4) (fun b0 c5=>zY (zQ b0) false (jf zi 46 b 1) c5 (fun b5 c6=>zY (zQ b0) false (zZ zi false 3 b5) c6 (fun b6 c7=>zY (zQ b0) false (jd zi BinOp.gtr 3 b6 (.int .i64 6)) c7 (fun b7 c8=>zT (jH (zQ b0) (Value.bool true) b7 c8) (fun b1 c9=>zY (zQ b1) false (jf zi 46 b 2) c9 (fun b8 d0=>zY (zQ b1) false (zZ zi false 3 b8) d0 (fun b9 d1=>zY (zQ b1) false (jd zi BinOp.lss 3 b9 (.int .i64 0)) d1 (fun c0 d2=>zT (jH (zQ b1) (Value.bool true) c0 d2) (fun b2 d3=>zY (zQ b2) false (jf zi 46 b 2) d3 (fun c1 d4=>zY (zQ b2) false (zZ zi false 3 c1) d4 (fun c2 d5=>zY (zQ b2) false (jd zi BinOp.gtr 3 c2 (.int .i64 255)) d5 (fun c3 d6=>zT (jH (zQ b2) (Value.bool true) c3 d6) (fun d7 d8=>some ([x0,b,x2,x3,x4,x5,x6,x7,x8,v0,v1,v2,zQ v2,v4,v5,v6,v7,zQ v7,v9,b3,b4,b0,zQ b0,b5,b6,b7,b1,zQ b1,b8,b9,c0,b2,zQ b2,c1,c2,c3,d7,H,I,J,K,L,M,N,P,Q,R,U,V,W,X,Y,Z,a0,a1,a2,a3,a4,a5,a6,a7,a8,a9],d8)) ()) ()) ()) ()) ()) ()) ()) ()) ()) ()) ()) ()) ()) ()) ()) ()) ()) ()) ()) ()) ()) ()) ()):=by
 refine sD Try.f32 1 0 (fun v0 S1=>?_)
 refine sD Try.f32 1 1 (fun v1 S2=>?_)
 refine sD Try.f32 1 2 (fun v2 S3=>?_)
 refine sP Try.f32 1 3 (v:=v2) ?_;refine sG Try.f32 1 4 (j:=3) (fun v4 S4=>?_)
 refine sG Try.f32 1 5 (j:=3) (fun v5 S5=>?_)
 refine sG Try.f32 1 6 (j:=3) (fun v6 S6=>?_)
 refine sD Try.f32 1 7 (fun v7 S7=>?_)
 refine sP Try.f32 1 8 (v:=v7) ?_;refine sG Try.f32 1 9 (j:=8) (fun v9 S8=>?_)
 refine sG Try.f32 1 10 (j:=8) (fun b3 S9=>?_)
 refine sG Try.f32 1 11 (j:=8) (fun b4 c4=>?_)
 refine sD Try.f32 1 12 (fun b0 c5=>?_)
 refine sP Try.f32 1 13 (v:=b0) ?_;refine sG Try.f32 1 14 (j:=13) (fun b5 c6=>?_)
 refine sG Try.f32 1 15 (j:=13) (fun b6 c7=>?_)
 refine sG Try.f32 1 16 (j:=13) (fun b7 c8=>?_)
 refine sD Try.f32 1 17 (fun b1 c9=>?_)
 refine sP Try.f32 1 18 (v:=b1) ?_;refine sG Try.f32 1 19 (j:=18) (fun b8 d0=>?_)
 refine sG Try.f32 1 20 (j:=18) (fun b9 d1=>?_)
 refine sG Try.f32 1 21 (j:=18) (fun c0 d2=>?_)
 refine sD Try.f32 1 22 (fun b2 d3=>?_)
 refine sP Try.f32 1 23 (v:=b2) ?_;refine sG Try.f32 1 24 (j:=23) (fun c1 d4=>?_)
 refine sG Try.f32 1 25 (j:=23) (fun c2 d5=>?_)
 refine sG Try.f32 1 26 (j:=23) (fun c3 d6=>?_)
 refine sD Try.f32 1 27 (fun d7 d8=>?_)
 kernel_rfl
theorem wB.r2 :zW zi ⟨false,false,false⟩ (zU zi O) (reg Try.f32 2) (reg Try.f32 2).toList ([x0,b,x2,x3,x4,x5,x6,x7,x8,x9,c,d,f,g,i,k,l,m,n,o,p,q,r,s,t,u,w,x,y,z,A,B,C,D,E,F,G,H,I,J,K,L,M,N,P,Q,R,U,V,W,X,Y,Z,a0,a1,a2,a3,a4,a5,a6,a7,a8,a9]) S =
  ( some ([x0,b,Value.bool false,x3,x4,x5,x6,x7,x8,x9,c,d,f,g,i,k,l,m,n,o,p,q,r,s,t,u,w,x,y,z,A,B,C,D,E,F,G,H,I,J,K,L,M,N,P,Q,R,U,V,W,X,Y,Z,a0,a1,a2,a3,a4,a5,a6,a7,a8,a9],S)):=by kernel_rfl
theorem wB.r3 :zW zi ⟨false,false,false⟩ (zU zi O) (reg Try.f32 3) (reg Try.f32 3).toList ([x0,b,x2,x3,x4,x5,x6,x7,x8,x9,c,d,f,g,i,k,l,m,n,o,p,q,r,s,t,u,w,x,y,z,A,B,C,D,E,F,G,H,I,J,K,L,M,N,P,Q,R,U,V,W,X,Y,Z,a0,a1,a2,a3,a4,a5,a6,a7,a8,a9]) S =
  (zT (jf zi 46 b 4 S) (fun v0 S1=>zT (zZ zi false 44 v0 S1) (fun v1 S2=>zT ((zU zi O) 50 [(zQ v1)] S2) (fun v2 S3=>zT (jv v2 0 S3) (fun v4 S4=>zT (jv (jh 0 v2) 1 S4) (fun v5 S5=>some ([x0,b,x2,v4,v5,x5,x6,x7,x8,x9,c,d,f,g,i,k,l,m,n,o,p,q,r,s,t,u,w,x,y,z,A,B,C,D,E,F,G,jh 1 (jh 0 v2),v0,v1,zQ v2,zQ v4,zQ v5,N,P,Q,R,U,V,W,X,Y,Z,a0,a1,a2,a3,a4,a5,a6,a7,a8,a9],S5)) ()) ()) ()) ()) ()):=by kernel_rfl
theorem wB.r4 :zW zi ⟨false,false,false⟩ (zU zi O) (reg Try.f32 4) (reg Try.f32 4).toList ([x0,b,x2,x3,x4,x5,x6,x7,x8,x9,c,d,f,g,i,k,l,m,n,o,p,q,r,s,t,u,w,x,y,z,A,B,C,D,E,F,G,H,I,J,K,L,M,N,P,Q,R,U,V,W,X,Y,Z,a0,a1,a2,a3,a4,a5,a6,a7,a8,a9]) S =
  (zT (jd zi BinOp.neq 3 (zQ x4) (.int .i64 0) S) (fun v1 S1=>some ([x0,b,x2,x3,x4,x5,x6,x7,x8,x9,c,d,f,g,i,k,l,m,n,o,p,q,r,s,t,u,w,x,y,z,A,B,C,D,E,F,G,H,I,J,K,L,M,zQ x4,v1,Q,R,U,V,W,X,Y,Z,a0,a1,a2,a3,a4,a5,a6,a7,a8,a9],S1)) ()):=by kernel_rfl
theorem wB.r5 :zW zi ⟨false,false,false⟩ (zU zi O) (reg Try.f32 5) (reg Try.f32 5).toList ([x0,b,x2,x3,x4,x5,x6,x7,x8,x9,c,d,f,g,i,k,l,m,n,o,p,q,r,s,t,u,w,x,y,z,A,B,C,D,E,F,G,H,I,J,K,L,M,N,P,Q,R,U,V,W,X,Y,Z,a0,a1,a2,a3,a4,a5,a6,a7,a8,a9]) S =
  ( some ([x0,b,Value.bool false,x3,x4,x5,x6,x7,x8,x9,c,d,f,g,i,k,l,m,n,o,p,q,r,s,t,u,w,x,y,z,A,B,C,D,E,F,G,H,I,J,K,L,M,N,P,Q,R,U,V,W,X,Y,Z,a0,a1,a2,a3,a4,a5,a6,a7,a8,a9],S)):=by kernel_rfl
theorem wB.r6 :zW zi ⟨false,false,false⟩ (zU zi O) (reg Try.f32 6) (reg Try.f32 6).toList ([x0,b,x2,x3,x4,x5,x6,x7,x8,x9,c,d,f,g,i,k,l,m,n,o,p,q,r,s,t,u,w,x,y,z,A,B,C,D,E,F,G,H,I,J,K,L,M,N,P,Q,R,U,V,W,X,Y,Z,a0,a1,a2,a3,a4,a5,a6,a7,a8,a9]) S =
  (zT (jf zi 46 b 3 S) (fun v0 S1=>zT (zZ zi false 3 v0 S1) (fun v1 S2=>zT (jd zi BinOp.eql 3 v1 (.int .i64 0) S2) (fun v2 S3=>some ([x0,b,x2,x3,x4,x5,x6,x7,x8,x9,c,d,f,g,i,k,l,m,n,o,p,q,r,s,t,u,w,x,y,z,A,B,C,D,E,F,G,H,I,J,K,L,M,N,P,v0,v1,v2,V,W,X,Y,Z,a0,a1,a2,a3,a4,a5,a6,a7,a8,a9],S3)) ()) ()) ()):=by kernel_rfl
theorem wB.r7 :zW zi ⟨false,false,false⟩ (zU zi O) (reg Try.f32 7) (reg Try.f32 7).toList ([x0,b,x2,x3,x4,x5,x6,x7,x8,x9,c,d,f,g,i,k,l,m,n,o,p,q,r,s,t,u,w,x,y,z,A,B,C,D,E,F,G,H,I,J,K,L,M,N,P,Q,R,U,V,W,X,Y,Z,a0,a1,a2,a3,a4,a5,a6,a7,a8,a9]) S =
  ( some ([x0,b,Value.bool true,x3,x4,x5,x6,x7,x8,x9,c,d,f,g,i,k,l,m,n,o,p,q,r,s,t,u,w,x,y,z,A,B,C,D,E,F,G,H,I,J,K,L,M,N,P,Q,R,U,V,W,X,Y,Z,a0,a1,a2,a3,a4,a5,a6,a7,a8,a9],S)):=by kernel_rfl
theorem wB.r8 :zW zi ⟨false,false,false⟩ (zU zi O) (reg Try.f32 8) (reg Try.f32 8).toList ([x0,b,x2,x3,x4,x5,x6,x7,x8,x9,c,d,f,g,i,k,l,m,n,o,p,q,r,s,t,u,w,x,y,z,A,B,C,D,E,F,G,H,I,J,K,L,M,N,P,Q,R,U,V,W,X,Y,Z,a0,a1,a2,a3,a4,a5,a6,a7,a8,a9]) S =
  (zT (jf zi 46 b 3 S) (fun v0 S1=>zT (zZ zi false 3 v0 S1) (fun v1 S2=>zT ((zU zi O) 51 [(zQ v1)] S2) (fun v2 S3=>zT (jv v2 0 S3) (fun v4 S4=>zT (jv (jh 0 v2) 1 S4) (fun v5 S5=>zT (jv (jh 1 (jh 0 v2)) 2 S5) (fun v6 S6=>zT (jv (jh 2 (jh 1 (jh 0 v2))) 3 S6) (fun v7 S7=>some ([x0,b,x2,x3,x4,v4,v5,v6,v7,x9,c,d,f,g,i,k,l,m,n,o,p,q,r,s,t,u,w,x,y,z,A,B,C,D,E,F,G,H,I,J,K,L,M,N,P,Q,R,U,jh 3 (jh 2 (jh 1 (jh 0 v2))),v0,v1,zQ v2,zQ v4,zQ v5,zQ v6,zQ v7,a3,a4,a5,a6,a7,a8,a9],S7)) ()) ()) ()) ()) ()) ()) ()):=by kernel_rfl
theorem wB.r9 :zW zi ⟨false,false,false⟩ (zU zi O) (reg Try.f32 9) (reg Try.f32 9).toList ([x0,b,x2,x3,x4,x5,x6,x7,x8,x9,c,d,f,g,i,k,l,m,n,o,p,q,r,s,t,u,w,x,y,z,A,B,C,D,E,F,G,H,I,J,K,L,M,N,P,Q,R,U,V,W,X,Y,Z,a0,a1,a2,a3,a4,a5,a6,a7,a8,a9]) S =
  (zY (zQ x8) true (ret x5) S (fun v2 S1=>zY (zQ x8) true (jf zi 46 b 0) S1 (fun v3 S2=>zY (zQ x8) true (zZ zi false 3 v3) S2 (fun v4 S3=>zY (zQ x8) true (jd zi BinOp.lss 3 (zQ v2) v4) S3 (fun v5 S4=>zT (jH (zQ x8) v5 (Value.bool false) S4) (fun v6 S5=>some ([x0,b,v6,x3,x4,x5,x6,x7,zQ x8,x9,c,d,f,g,i,k,l,m,n,o,p,q,r,s,t,u,w,x,y,z,A,B,C,D,E,F,G,H,I,J,K,L,M,N,P,Q,R,U,V,W,X,Y,Z,a0,a1,a2,x8,zQ x8,zQ v2,v3,v4,v5,zQ v6],S5)) ()) ()) ()) ()) ()):=by
 refine sP Try.f32 9 0 (v:=x8) ?_;refine sP Try.f32 9 1 (v:=x8) ?_;refine sG Try.f32 9 2 (j:=1) (fun v2 S1=>?_)
 refine sG Try.f32 9 3 (j:=1) (fun v3 S2=>?_)
 refine sG Try.f32 9 4 (j:=1) (fun v4 S3=>?_)
 refine sG Try.f32 9 5 (j:=1) (fun v5 S4=>?_)
 refine sD Try.f32 9 6 (fun v6 S5=>?_)
 refine sP Try.f32 9 7 (v:=v6) ?_
 kernel_rfl
theorem wB.rs :type_of% (zJ @wB.r0 (zJ @wB.r1 (zJ @wB.r2 (zJ @wB.r3 (zJ @wB.r4 (zJ @wB.r5 (zJ @wB.r6 (zJ @wB.r7 (zJ @wB.r8 (@wB.r9)))))))))):=zJ @wB.r0 (zJ @wB.r1 (zJ @wB.r2 (zJ @wB.r3 (zJ @wB.r4 (zJ @wB.r5 (zJ @wB.r6 (zJ @wB.r7 (zJ @wB.r8 (@wB.r9)))))))))
theorem wB.runs {x0:zu}{S S1:zS}{e:wC}{T:List zu}(h:zX zi O false wB.code ([x0,zh,zh,zh,zh,zh,zh,zh,zh,zh,zh,zh,zh,zh,zh,zh,zh,zh,zh,zh,zh,zh,zh,zh,zh,zh,zh,zh,zh,zh,zh,zh,zh,zh,zh,zh,zh,zh,zh,zh,zh,zh,zh,zh,zh,zh,zh,zh,zh,zh,zh,zh,zh,zh,zh,zh,zh,zh,zh,zh,zh,zh,zh]) zS.empty=some (e,T,S1)) (he:e=.normal∨e=.ret) (hca:[x0].all (jw 16)=true) (hcv:jw 16 (T.getD 2 zh)=true):zU zi O 32 [x0] S=some (T.getD 2 zh,S) :=
 kC rfl rfl Try.func32 (by decide) wB.body (by exact h) he (qI (a:=T.getD 2 zh) ((show jl zi T S1 Try.f32.results.toList=jl zi T S1 [(ResultVar.tmp 2)] from by kernel_rfl).trans (by simp only[jl])) (by kernel_rfl)) hca hcv
end
section
abbrev xJ.id :FuncId:=23
noncomputable def xJ.code :Code:=(.seq (.region 0 (reg Try.f23 0) false) (.seq (.seq (.region 1 (reg Try.f23 1) false) (.cond (.tmp 5) (.seq (.region 2 (reg Try.f23 2) false) Code.ret) Code.skip)) (.seq (.region 3 (reg Try.f23 3) false) Code.ret)))
theorem xJ.body :Try.f23.body=some xJ.code:=by kernel_rfl
variable (b c u m n o p q r s d f g i j k:zu) (S:zS)
theorem xJ.r0 :zW zi ⟨false,false,false⟩ (zU zi O) (reg Try.f23 0) (reg Try.f23 0).toList ([b,c,u,m,n,o,p,q,r,s,d,f,g,i,j,k]) S =
  (zT (qm (zQ b) S) (fun t l=>some ([b,t,.int .i64 0,m,n,o,p,q,r,s,d,f,g,i,j,k],l)) ()):=by kernel_rfl
theorem xJ.r1 :zW zi ⟨false,false,false⟩ (zU zi O) (reg Try.f23 1) (reg Try.f23 1).toList ([b,c,u,m,n,o,p,q,r,s,d,f,g,i,j,k]) S =
  (zT (zZ zi false 46 c S) (fun t l=>zT ((zU zi O) 45 [(zQ t)] l) (fun v x=>zT (qo zi UnOp.not v x) (fun w y=>some ([b,c,u,t,v,w,p,q,r,s,d,f,g,i,j,k],y)) ()) ()) ()):=by kernel_rfl
theorem xJ.r2 :zW zi ⟨false,false,false⟩ (zU zi O) (reg Try.f23 2) (reg Try.f23 2).toList ([b,c,u,m,n,o,p,q,r,s,d,f,g,i,j,k]) S =
  ( some ([b,c,.int .i64 0,m,n,o,p,q,r,s,d,f,g,i,j,k],S)):=by kernel_rfl
theorem xJ.r3 :zW zi ⟨false,false,false⟩ (zU zi O) (reg Try.f23 3) (reg Try.f23 3).toList ([b,c,u,m,n,o,p,q,r,s,d,f,g,i,j,k]) S =
  (zT (jf zi 46 c 0 S) (fun t l=>zT (zZ zi false 3 t l) (fun v x=>zT (jd zi BinOp.mul 3 v (.int .i64 65536) x) (fun w y=>zT (jf zi 46 c 1 y) (fun z H=>zT (zZ zi false 3 z H) (fun A I=>zT (jd zi BinOp.mul 3 A (.int .i64 256) I) (fun B J=>zT (jd zi BinOp.add 3 w B J) (fun C K=>zT (jf zi 46 c 2 K) (fun D L=>zT (zZ zi false 3 D L) (fun E M=>zT (jd zi BinOp.add 3 C E M) (fun F G=>some ([b,c,F,m,n,o,t,v,w,z,A,B,C,D,E,zQ F],G)) ()) ()) ()) ()) ()) ()) ()) ()) ()) ()):=by kernel_rfl
theorem xJ.rs :type_of% (zJ @xJ.r0 (zJ @xJ.r1 (zJ @xJ.r2 (@xJ.r3)))):=zJ @xJ.r0 (zJ @xJ.r1 (zJ @xJ.r2 (@xJ.r3)))
theorem xJ.runs {b:zu}{S l:zS}{e:wC}{T:List zu}(h:zX zi O false xJ.code ([b,zh,zh,zh,zh,zh,zh,zh,zh,zh,zh,zh,zh,zh,zh,zh]) zS.empty=some (e,T,l)) (he:e=.normal∨e=.ret) (hca:[b].all (jw 16)=true) (hcv:jw 16 (T.getD 2 zh)=true):zU zi O 23 [b] S=some (T.getD 2 zh,S) :=
 kC rfl rfl Try.func23 (by decide) xJ.body (by exact h) he (qI (a:=T.getD 2 zh) ((show jl zi T l Try.f23.results.toList=jl zi T l [(ResultVar.tmp 2)] from by kernel_rfl).trans (by simp only[jl])) (by kernel_rfl)) hca hcv
end
section
abbrev xG.id :FuncId:=17
noncomputable def xG.code :Code:=(.seq (.region 0 (reg Try.f17 0) false) (.seq (.seq (.region 1 (reg Try.f17 1) false) (.cond (.tmp 5) (.seq (.region 2 (reg Try.f17 2) false) Code.ret) Code.skip)) (.seq (.region 3 (reg Try.f17 3) false) Code.ret)))
theorem xG.body :Try.f17.body=some xG.code:=by kernel_rfl
variable (b c u m n o p q r s d f g i j k:zu) (S:zS)
theorem xG.r0 :zW zi ⟨false,false,false⟩ (zU zi O) (reg Try.f17 0) (reg Try.f17 0).toList ([b,c,u,m,n,o,p,q,r,s,d,f,g,i,j,k]) S =
  (zT (qm (zQ b) S) (fun t l=>some ([b,t,.int .i64 0,m,n,o,p,q,r,s,d,f,g,i,j,k],l)) ()):=by kernel_rfl
theorem xG.r1 :zW zi ⟨false,false,false⟩ (zU zi O) (reg Try.f17 1) (reg Try.f17 1).toList ([b,c,u,m,n,o,p,q,r,s,d,f,g,i,j,k]) S =
  (zT (zZ zi false 46 c S) (fun t l=>zT ((zU zi O) 32 [(zQ t)] l) (fun v x=>zT (qo zi UnOp.not v x) (fun w y=>some ([b,c,u,t,v,w,p,q,r,s,d,f,g,i,j,k],y)) ()) ()) ()):=by kernel_rfl
theorem xG.r2 :zW zi ⟨false,false,false⟩ (zU zi O) (reg Try.f17 2) (reg Try.f17 2).toList ([b,c,u,m,n,o,p,q,r,s,d,f,g,i,j,k]) S =
  ( some ([b,c,.int .i64 0,m,n,o,p,q,r,s,d,f,g,i,j,k],S)):=by kernel_rfl
theorem xG.r3 :zW zi ⟨false,false,false⟩ (zU zi O) (reg Try.f17 3) (reg Try.f17 3).toList ([b,c,u,m,n,o,p,q,r,s,d,f,g,i,j,k]) S =
  (zT (jf zi 46 c 0 S) (fun t l=>zT (zZ zi false 3 t l) (fun v x=>zT (jd zi BinOp.mul 3 v (.int .i64 256) x) (fun w y=>zT (jf zi 46 c 1 y) (fun z H=>zT (zZ zi false 3 z H) (fun A I=>zT (jd zi BinOp.add 3 w A I) (fun B J=>zT (jd zi BinOp.mul 3 B (.int .i64 256) J) (fun C K=>zT (jf zi 46 c 2 K) (fun D L=>zT (zZ zi false 3 D L) (fun E M=>zT (jd zi BinOp.add 3 C E M) (fun F G=>some ([b,c,F,m,n,o,t,v,w,z,A,B,C,D,E,zQ F],G)) ()) ()) ()) ()) ()) ()) ()) ()) ()) ()):=by kernel_rfl
theorem xG.rs :type_of% (zJ @xG.r0 (zJ @xG.r1 (zJ @xG.r2 (@xG.r3)))):=zJ @xG.r0 (zJ @xG.r1 (zJ @xG.r2 (@xG.r3)))
theorem xG.runs {b:zu}{S l:zS}{e:wC}{T:List zu}(h:zX zi O false xG.code ([b,zh,zh,zh,zh,zh,zh,zh,zh,zh,zh,zh,zh,zh,zh,zh]) zS.empty=some (e,T,l)) (he:e=.normal∨e=.ret) (hca:[b].all (jw 16)=true) (hcv:jw 16 (T.getD 2 zh)=true):zU zi O 17 [b] S=some (T.getD 2 zh,S) :=
 kC rfl rfl Try.func17 (by decide) xG.body (by exact h) he (qI (a:=T.getD 2 zh) ((show jl zi T l Try.f17.results.toList=jl zi T l [(ResultVar.tmp 2)] from by kernel_rfl).trans (by simp only[jl])) (by kernel_rfl)) hca hcv
end
section
abbrev kU.id :FuncId:=60
noncomputable def kU.code :Code:=(.seq (.region 0 (reg Try.f60 0) false) (.seq (.region 1 (reg Try.f60 1) false) Code.ret))
theorem kU.body :Try.f60.body=some kU.code:=by kernel_rfl
variable (b c d o p q z s t u i k l m n:zu) (S:zS)
theorem kU.r0 :zW zi ⟨false,false,false⟩ (zU zi O) (reg Try.f60 0) (reg Try.f60 0).toList ([b,c,d,o,p,q,z,s,t,u,i,k,l,m,n]) S =
  ( some ([b,c,d,o,p,q,Value.bool false,s,t,u,i,k,l,m,n],S)):=by kernel_rfl
theorem kU.r1 :zW zi ⟨false,false,false⟩ (zU zi O) (reg Try.f60 1) (reg Try.f60 1).toList ([b,c,d,o,p,q,z,s,t,u,i,k,l,m,n]) S =
  (zT (jd zi BinOp.geq 3 (zQ b) (zQ c) S) (fun f g=>zY (zQ f) true (ret b) g (fun w A=>zY (zQ f) true (ret d) A (fun x B=>zY (zQ f) true (jd zi BinOp.leq 3 (zQ w) (zQ x)) B (fun y C=>zT (jH (zQ f) y (Value.bool false) C) (fun r D=>some ([b,c,d,o,p,q,r,zQ b,zQ c,f,zQ f,zQ w,zQ x,y,zQ r],D)) ()) ()) ()) ()) ()):=by
 refine sP Try.f60 1 0 (v:=b) ?_;refine sP Try.f60 1 1 (v:=c) ?_;refine sD Try.f60 1 2 (fun f g=>?_)
 refine sP Try.f60 1 3 (v:=f) ?_;refine sG Try.f60 1 4 (j:=3) (fun w A=>?_)
 refine sG Try.f60 1 5 (j:=3) (fun x B=>?_)
 refine sG Try.f60 1 6 (j:=3) (fun y C=>?_)
 refine sD Try.f60 1 7 (fun r D=>?_)
 refine sP Try.f60 1 8 (v:=r) ?_
 kernel_rfl
theorem kU.rs :type_of% (zJ @kU.r0 (@kU.r1)):=zJ @kU.r0 (@kU.r1)
theorem kU.runs {b c d:zu}{S g:zS}{e:wC}{T:List zu}(h:zX zi O false kU.code ([b,c,d,zh,zh,zh,zh,zh,zh,zh,zh,zh,zh,zh,zh]) S=some (e,T,g)) (he:e=.normal∨e=.ret):zU zi O 60 [b,c,d] S=some (T.getD 6 zh,g) :=
 xX rfl rfl Try.func60 (by decide) kU.body (by exact h) he (qI (a:=T.getD 6 zh) ((show jl zi T g Try.f60.results.toList=jl zi T g [(ResultVar.tmp 6)] from by kernel_rfl).trans (by simp only[jl])) (by kernel_rfl))
end
section
abbrev xY.id :FuncId:=61
noncomputable def xY.code :Code:=(.seq (.region 0 (reg Try.f61 0) false) (.seq (.region 1 (reg Try.f61 1) false) Code.ret))
theorem xY.body :Try.f61.body=some xY.code:=by kernel_rfl
variable (b g w k l m n o p q f:zu) (S:zS)
theorem xY.r0 :zW zi ⟨false,false,false⟩ (zU zi O) (reg Try.f61 0) (reg Try.f61 0).toList ([b,g,w,k,l,m,n,o,p,q,f]) S =
  ( some ([b,g,Value.bool false,k,l,m,n,o,p,q,f],S)):=by kernel_rfl
theorem xY.r1 :zW zi ⟨false,false,false⟩ (zU zi O) (reg Try.f61 1) (reg Try.f61 1).toList ([b,g,w,k,l,m,n,o,p,q,f]) S =
  (zT ((zU zi O) 60 [(zQ (zQ b)),(.int .i64 65536),(.int .i64 268435455)] S) (fun c d=>zY (zQ c) true (ret b) d (fun r x=>zY (zQ c) true (jd zi BinOp.rem 3 (zQ r) (.int .i64 65536)) x (fun s y=>zY (zQ c) true (jd zi BinOp.quo 3 s (.int .i64 256)) y (fun t z=>zY (zQ c) true (jd zi BinOp.lss 3 t (.int .i64 7)) z (fun u A=>zT (jH (zQ c) u (Value.bool false) A) (fun i B=>some ([b,g,i,zQ b,c,zQ c,zQ r,s,t,u,zQ i],B)) ()) ()) ()) ()) ()) ()):=by
 refine sP Try.f61 1 0 (v:=b) ?_;refine sD Try.f61 1 1 (fun c d=>?_)
 refine sP Try.f61 1 2 (v:=c) ?_;refine sG Try.f61 1 3 (j:=2) (fun r x=>?_)
 refine sG Try.f61 1 4 (j:=2) (fun s y=>?_)
 refine sG Try.f61 1 5 (j:=2) (fun t z=>?_)
 refine sG Try.f61 1 6 (j:=2) (fun u A=>?_)
 refine sD Try.f61 1 7 (fun i B=>?_)
 refine sP Try.f61 1 8 (v:=i) ?_
 kernel_rfl
theorem xY.rs :type_of% (zJ @xY.r0 (@xY.r1)):=zJ @xY.r0 (@xY.r1)
theorem xY.runs {b:zu}{S d:zS}{e:wC}{T:List zu}(h:zX zi O false xY.code ([b,zh,zh,zh,zh,zh,zh,zh,zh,zh,zh]) S=some (e,T,d)) (he:e=.normal∨e=.ret):zU zi O 61 [b] S=some (T.getD 2 zh,d) :=
 xX rfl rfl Try.func61 (by decide) xY.body (by exact h) he (qI (a:=T.getD 2 zh) ((show jl zi T d Try.f61.results.toList=jl zi T d [(ResultVar.tmp 2)] from by kernel_rfl).trans (by simp only[jl])) (by kernel_rfl))
end
section
abbrev xP.id :FuncId:=74
noncomputable def xP.code :Code:=(.seq (.region 0 (reg Try.f74 0) false) (.seq (.seq (.region 1 (reg Try.f74 1) false) (.cond (.tmp 5) (.seq (.region 2 (reg Try.f74 2) false) Code.ret) Code.skip)) (.seq (.region 3 (reg Try.f74 3) false) Code.ret)))
theorem xP.body :Try.f74.body=some xP.code:=by kernel_rfl
variable (b c l f g i j k:zu) (S:zS)
theorem xP.r0 :zW zi ⟨false,false,false⟩ (zU zi O) (reg Try.f74 0) (reg Try.f74 0).toList ([b,c,l,f,g,i,j,k]) S =
  ( some ([b,c,.int .i64 0,f,g,i,j,k],S)):=by kernel_rfl
theorem xP.r1 :zW zi ⟨false,false,false⟩ (zU zi O) (reg Try.f74 1) (reg Try.f74 1).toList ([b,c,l,f,g,i,j,k]) S =
  (zT ((zU zi O) 61 [(zQ (zQ b))] S) (fun m d=>zT (qo zi UnOp.not m d) (fun n o=>some ([b,c,l,zQ b,m,n,j,k],o)) ()) ()):=by kernel_rfl
theorem xP.r2 :zW zi ⟨false,false,false⟩ (zU zi O) (reg Try.f74 2) (reg Try.f74 2).toList ([b,c,l,f,g,i,j,k]) S =
  ( some ([b,c,.int .i64 0,f,g,i,j,k],S)):=by kernel_rfl
theorem xP.r3 :zW zi ⟨false,false,false⟩ (zU zi O) (reg Try.f74 3) (reg Try.f74 3).toList ([b,c,l,f,g,i,j,k]) S =
  (zT (jd zi BinOp.quo 3 (zQ b) (.int .i64 65536) S) (fun m d=>some ([b,c,m,f,g,i,zQ b,zQ m],d)) ()):=by kernel_rfl
theorem xP.rs :type_of% (zJ @xP.r0 (zJ @xP.r1 (zJ @xP.r2 (@xP.r3)))):=zJ @xP.r0 (zJ @xP.r1 (zJ @xP.r2 (@xP.r3)))
theorem xP.runs {b:zu}{S d:zS}{e:wC}{T:List zu}(h:zX zi O false xP.code ([b,zh,zh,zh,zh,zh,zh,zh]) S=some (e,T,d)) (he:e=.normal∨e=.ret):zU zi O 74 [b] S=some (T.getD 2 zh,d) :=
 xX rfl rfl Try.func74 (by decide) xP.body (by exact h) he (qI (a:=T.getD 2 zh) ((show jl zi T d Try.f74.results.toList=jl zi T d [(ResultVar.tmp 2)] from by kernel_rfl).trans (by simp only[jl])) (by kernel_rfl))
end
section
abbrev qP.id :FuncId:=51
noncomputable def qP.code :Code:=(.seq (.region 0 (reg Try.f51 0) false) (.seq (.seq (.region 1 (reg Try.f51 1) false) (.cond (.tmp 10) (.seq (.region 2 (reg Try.f51 2) false) Code.ret) Code.skip)) (.seq (.region 3 (reg Try.f51 3) false) (.seq (.region 4 (reg Try.f51 4) false) Code.ret))))
theorem qP.body :Try.f51.body=some qP.code:=by kernel_rfl
variable (a E H I J K b c C G d f g i k l m n o p q r s t u w x y z A B:zu) (S:zS)
theorem qP.r0 :zW zi ⟨false,false,false⟩ (zU zi O) (reg Try.f51 0) (reg Try.f51 0).toList ([a,E,H,I,J,K,b,c,C,G,d,f,g,i,k,l,m,n,o,p,q,r,s,t,u,w,x,y,z,A,B]) S =
  ( some ([a,E,.int .i64 0,.int .i64 0,.int .i64 0,Value.bool false,b,c,C,G,d,f,g,i,k,l,m,n,o,p,q,r,s,t,u,w,x,y,z,A,B],S)):=by kernel_rfl
theorem qP.r1 :zW zi ⟨false,false,false⟩ (zU zi O) (reg Try.f51 1) (reg Try.f51 1).toList ([a,E,H,I,J,K,b,c,C,G,d,f,g,i,k,l,m,n,o,p,q,r,s,t,u,w,x,y,z,A,B]) S =
  (zT (jd zi BinOp.lss 3 (zQ a) (.int .i64 0) S) (fun R D=>some ([a,E,H,I,J,K,b,c,C,zQ a,R,f,g,i,k,l,m,n,o,p,q,r,s,t,u,w,x,y,z,A,B],D)) ()):=by kernel_rfl
theorem qP.r2 :zW zi ⟨false,false,false⟩ (zU zi O) (reg Try.f51 2) (reg Try.f51 2).toList ([a,E,H,I,J,K,b,c,C,G,d,f,g,i,k,l,m,n,o,p,q,r,s,t,u,w,x,y,z,A,B]) S =
  ( some ([a,E,.int .i64 0,.int .i64 0,.int .i64 0,Value.bool false,b,c,C,G,d,f,g,i,k,l,m,n,o,p,q,r,s,t,u,w,x,y,z,A,B],S)):=by kernel_rfl
theorem qP.r3 :zW zi ⟨false,false,false⟩ (zU zi O) (reg Try.f51 3) (reg Try.f51 3).toList ([a,E,H,I,J,K,b,c,C,G,d,f,g,i,k,l,m,n,o,p,q,r,s,t,u,w,x,y,z,A,B]) S =
  (zT (jd zi BinOp.quo 3 (zQ a) (.int .i64 65536) S) (fun R D=>zT (jd zi BinOp.quo 3 (zQ a) (.int .i64 256) D) (fun Y U=>zT (jd zi BinOp.rem 3 Y (.int .i64 256) U) (fun F V=>zT (jd zi BinOp.rem 3 (zQ a) (.int .i64 256) V) (fun N W=>some ([a,E,H,I,J,K,R,F,N,G,d,zQ a,zQ R,zQ a,Y,zQ F,zQ a,zQ N,o,p,q,r,s,t,u,w,x,y,z,A,B],W)) ()) ()) ()) ()):=by kernel_rfl
theorem qP.r4 :zW zi ⟨false,false,false⟩ (zU zi O) (reg Try.f51 4) (reg Try.f51 4).toList ([a,E,H,I,J,K,b,c,C,G,d,f,g,i,k,l,m,n,o,p,q,r,s,t,u,w,x,y,z,A,B]) S =
  (zT (jd zi BinOp.geq 3 (zQ (zQ b)) (.int .i64 1) S) (fun F D=>zY (zQ F) true (ret (zQ b)) D (fun N U=>zY (zQ F) true (jd zi BinOp.leq 3 (zQ N) (.int .i64 4095)) U (fun X V=>zT (jH (zQ F) X (Value.bool false) V) (fun L W=>zY (zQ L) true (ret (zQ c)) W (fun P Z=>zY (zQ L) true (jd zi BinOp.leq 3 (zQ P) (.int .i64 6)) Z (fun Q S6=>zT (jH (zQ L) Q (Value.bool false) S6) (fun M S7=>some ([a,E,b,c,C,M,zQ b,zQ c,zQ C,G,d,f,g,i,k,l,m,n,zQ b,zQ c,zQ C,zQ (zQ b),F,zQ F,zQ N,X,L,zQ L,zQ P,Q,zQ M],S7)) ()) ()) ()) ()) ()) ()) ()):=by
 refine sP Try.f51 4 0 (v:=b) ?_;refine sP Try.f51 4 1 (v:=c) ?_;refine sP Try.f51 4 2 (v:=C) ?_;refine sP Try.f51 4 3 (v:=(zQ b)) ?_;refine sD Try.f51 4 4 (fun F D=>?_)
 refine sP Try.f51 4 5 (v:=F) ?_;refine sG Try.f51 4 6 (j:=5) (fun N U=>?_)
 refine sG Try.f51 4 7 (j:=5) (fun X V=>?_)
 refine sD Try.f51 4 8 (fun L W=>?_)
 refine sP Try.f51 4 9 (v:=L) ?_;refine sG Try.f51 4 10 (j:=9) (fun P Z=>?_)
 refine sG Try.f51 4 11 (j:=9) (fun Q S6=>?_)
 refine sD Try.f51 4 12 (fun M S7=>?_)
 refine sP Try.f51 4 13 (v:=b) ?_;refine sP Try.f51 4 14 (v:=c) ?_;refine sP Try.f51 4 15 (v:=C) ?_;refine sP Try.f51 4 16 (v:=M) ?_
 kernel_rfl
theorem qP.rs :type_of% (zJ @qP.r0 (zJ @qP.r1 (zJ @qP.r2 (zJ @qP.r3 (@qP.r4))))):=zJ @qP.r0 (zJ @qP.r1 (zJ @qP.r2 (zJ @qP.r3 (@qP.r4))))
theorem qP.runs {a:zu}{S D:zS}{e:wC}{T:List zu}(h:zX zi O false qP.code ([a,zh,zh,zh,zh,zh,zh,zh,zh,zh,zh,zh,zh,zh,zh,zh,zh,zh,zh,zh,zh,zh,zh,zh,zh,zh,zh,zh,zh,zh,zh]) S=some (e,T,D)) (he:e=.normal∨e=.ret)  (h0:yc (T.getD 2 zh)=true) (h1:yc (T.getD 3 zh)=true) (h2:yc (T.getD 4 zh)=true) (h3:yc (T.getD 5 zh)=true):zU zi O 51 [a] S=some (Value.tuple #[T.getD 2 zh,T.getD 3 zh,T.getD 4 zh,T.getD 5 zh],D) :=
 xX rfl rfl Try.func51 (by decide) qP.body (by exact h) he ((Zc ((show jl zi T D Try.f51.results.toList=jl zi T D [(ResultVar.tmp 2),(ResultVar.tmp 3),(ResultVar.tmp 4),(ResultVar.tmp 5)] from by kernel_rfl).trans (by simp only[jl])) (by kernel_rfl) (by simp only[List.all_cons,List.all_nil,h0,h1,h2,h3,Bool.and_true])).trans rfl)
end
def Wi (n a b:Int):Bool:=decide (a≤n)&&decide (n≤b)
theorem XZ {n a b:Int}:Wi n a b=true↔a≤n∧n≤b:=by simp[Wi]
def Zq (n:Int):Bool:=Wi n 65536 268435455&&decide (n % 65536 / 256<7)
theorem YK {n:Int}:Zq n=true↔65536≤n∧n≤268435455∧n % 65536 / 256<7:=by simp[Zq,Wi,and_assoc]
def Ql (n:Int):Int:=if Zq n=true then n / 65536 else 0
theorem ni {n m:Int}(h:0≤n):n.tmod m=n % m:=Int.tmod_eq_emod_of_nonneg h
theorem VT {n m:Int}(h:0≤n):n.tdiv m=n / m:=Int.tdiv_eq_ediv_of_nonneg h
theorem Qx :(65536:Int)≠0:=by decide
theorem KC :(256:Int)≠0:=by decide
theorem kU.v (n a b:Int) (S:zS):zU zi O kU.id [.int .i64 n,.int .i64 a,.int .i64 b] S=some (.bool (Wi n a b),S):=by
 obtain⟨T,hTe⟩:∃T,T=(.int .i64 n::.int .i64 a::.int .i64 b::[zh,zh,zh,zh,zh,zh,zh,zh,zh,zh,zh,zh]):=⟨_,rfl⟩;have hr:=Eq.refl (zX zi O false kU.code T S);unfold Wi;by_cases h1:a≤n
 ·conv at hr=>
   rhs;rw[hTe];simp only[kU.code,kU.rs,jc,reduceIte,zk,zn,zo,zq,zL h1]
  rw[zL h1,Bool.true_and];rw[hTe]at hr;exact kU.runs hr (.inr rfl)
 ·conv at hr=>
   rhs;rw[hTe];simp only[kU.code,kU.rs,jc,reduceIte,zk,zn,zo,zq,zK h1]
  rw[zK h1,Bool.false_and];rw[hTe]at hr;exact kU.runs hr (.inr rfl)
theorem xY.v (n:Int) (S:zS):zU zi O xY.id [.int .i64 n] S=some (.bool (Zq n),S):=by
 obtain⟨T,hTe⟩:∃T,T=(.int .i64 n::[zh,zh,zh,zh,zh,zh,zh,zh,zh,zh]):=⟨_,rfl⟩;have hr:=Eq.refl (zX zi O false xY.code T S);unfold Zq;cases h1:Wi n 65536 268435455
 ·conv at hr=>
   rhs;rw[hTe];simp only[xY.code,xY.rs,jc,reduceIte,zk,zn,zo,zq,kU.v,h1]
  rw[hTe]at hr;exact xY.runs hr (.inr rfl)
 ·have hb:=XZ.mp h1;have q1:IntKind.i64.wrap ((n.tmod 65536).tdiv 256)=n % 65536 / 256:=by
   rw[ni (by omega),VT (by omega),wrap_i64 (by omega) (by omega)]
  conv at hr=>
   rhs;rw[hTe];simp only[xY.code,xY.rs,jc,reduceIte,zk,zn,zo,zq,kU.v,h1,Xe _ _ _ Qx,Wh _ _ _ KC,q1]
  rw[hTe]at hr;rw[Bool.true_and];exact xY.runs hr (.inr rfl)
theorem xP.v (n:Int) (S:zS):zU zi O xP.id [.int .i64 n] S=some (.int .i64 (Ql n),S):=by
 obtain⟨T,hTe⟩:∃T,T=(.int .i64 n::[zh,zh,zh,zh,zh,zh,zh]):=⟨_,rfl⟩;have hr:=Eq.refl (zX zi O false xP.code T S);unfold Ql;cases h1:Zq n
 ·conv at hr=>
   rhs;rw[hTe];simp only[xP.code,xP.rs,jc,reduceIte,zk,zn,zo,zq,xY.v,h1]
  rw[hTe]at hr;exact xP.runs hr (.inr rfl)
 ·have hb:=YK.mp h1;have q1:IntKind.i64.wrap (n.tdiv 65536)=n / 65536:=by
   rw[VT (by omega),wrap_i64 (by omega) (by omega)]
  conv at hr=>
   rhs;rw[hTe];simp only[xP.code,xP.rs,jc,reduceIte,zk,zn,zo,zq,xY.v,h1,Wh _ _ _ Qx,q1]
  rw[hTe]at hr;exact xP.runs hr (.inr rfl)
def Vz (n:Int):zu:=if n<0 then .tuple #[.int .i64 0,.int .i64 0,.int .i64 0,.bool false]else .tuple #[.int .i64 (n / 65536),.int .i64 (n / 256 % 256),.int .i64 (n % 256),.bool (Zq n)]
theorem qP.v (n:Int) (hn:n<9223372036854775808) (S:zS):zU zi O qP.id [.int .i64 n] S=some (Vz n,S):=by
 obtain⟨T,hTe⟩:∃T,T=(.int .i64 n::[zh,zh,zh,zh,zh,zh,zh,zh,zh,zh,zh,zh,zh,zh,zh,zh,zh,zh,zh,zh,zh,zh,zh,zh,zh,zh,zh,zh,zh,zh]):=⟨_,rfl⟩;have hr:=Eq.refl (zX zi O false qP.code T S);unfold Vz;by_cases h0:n<0
 ·conv at hr=>
   rhs;rw[hTe];simp only[qP.code,qP.rs,jc,reduceIte,zk,zn,zo,zq,zL h0]
  rw[hTe]at hr;rw[zN h0];exact qP.runs hr (.inr rfl) rfl rfl rfl rfl
 ·have q1:IntKind.i64.wrap (n.tdiv 65536)=n / 65536:=by
   rw[VT (by omega),wrap_i64 (by omega) (by omega)]
  have q2:(IntKind.i64.wrap (n.tdiv 256)).tmod 256=n / 256 % 256:=by
   rw[VT (by omega),wrap_i64 (by omega) (by omega),ni (by omega)]
  have q3:n.tmod 256=n % 256:=ni (by omega)
  rw[zM h0];by_cases h1:1≤n / 65536
  ·by_cases h2:n / 65536≤4095
   ·have e:Zq n=decide (n / 256 % 256≤6):=by
     rw[Bool.eq_iff_iff,YK];simp;omega
    rw[e];conv at hr=>
     rhs;rw[hTe];simp only[qP.code,qP.rs,jc,reduceIte,zk,zn,zo,zq,zK h0,Xe _ _ _ KC,Wh _ _ _ KC,Wh _ _ _ Qx,q1,q2,q3,zL h1,zL h2]
    rw[hTe]at hr;exact qP.runs hr (.inr rfl) rfl rfl rfl rfl
   ·have e:Zq n=false:=by
     cases h:Zq n with
     |false=>rfl
     |true=>have:=YK.mp h;omega
    rw[e];conv at hr=>
     rhs;rw[hTe];simp only[qP.code,qP.rs,jc,reduceIte,zk,zn,zo,zq,zK h0,Xe _ _ _ KC,Wh _ _ _ KC,Wh _ _ _ Qx,q1,q2,q3,zL h1,zK h2]
    rw[hTe]at hr;exact qP.runs hr (.inr rfl) rfl rfl rfl rfl
  ·have e:Zq n=false:=by
    cases h:Zq n with
    |false=>rfl
    |true=>have:=YK.mp h;omega
   rw[e];conv at hr=>
    rhs;rw[hTe];simp only[qP.code,qP.rs,jc,reduceIte,zk,zn,zo,zq,zK h0,Xe _ _ _ KC,Wh _ _ _ KC,Wh _ _ _ Qx,q1,q2,q3,zK h1]
   rw[hTe]at hr;exact qP.runs hr (.inr rfl) rfl rfl rfl rfl
section
abbrev jL.id :FuncId:=65
noncomputable def jL.jg :Code:=(.seq (.region 6 (reg Try.f65 6) false) (.seq (.cond (.tmp 35) Code.skip (.exit 0)) (.seq (.block 1 (.seq (.region 7 (reg Try.f65 7) false) (.seq (.seq (.region 8 (reg Try.f65 8) false) (.cond (.tmp 43) (.seq (.region 9 (reg Try.f65 9) false) Code.ret) Code.skip)) (.seq (.region 10 (reg Try.f65 10) false) (.region 11 (reg Try.f65 11) false))))) (.region 12 (reg Try.f65 12) false))))
noncomputable def jL.code :Code:=(.seq (.region 0 (reg Try.f65 0) false) (.seq (.region 1 (reg Try.f65 1) false) (.seq (.seq (.region 2 (reg Try.f65 2) false) (.cond (.tmp 30) (.seq (.region 3 (reg Try.f65 3) false) Code.ret) Code.skip)) (.seq (.region 4 (reg Try.f65 4) false) (.seq (.seq (.region 5 (reg Try.f65 5) false) (.block 0 (.loop jL.jg))) (.seq (.seq (.region 13 (reg Try.f65 13) false) (.cond (.tmp 57) (.seq (.region 14 (reg Try.f65 14) false) Code.ret) Code.skip)) (.seq (.region 15 (reg Try.f65 15) false) Code.ret)))))))
theorem jL.body :Try.f65.body=some jL.code:=by kernel_rfl
theorem jL.eta {T:List zu}(h:T.length=59):T=[T.getD 0 zh,T.getD 1 zh,T.getD 2 zh,T.getD 3 zh,T.getD 4 zh,T.getD 5 zh,T.getD 6 zh,T.getD 7 zh,T.getD 8 zh,T.getD 9 zh,T.getD 10 zh,T.getD 11 zh,T.getD 12 zh,T.getD 13 zh,T.getD 14 zh,T.getD 15 zh,T.getD 16 zh,T.getD 17 zh,T.getD 18 zh,T.getD 19 zh,T.getD 20 zh,T.getD 21 zh,T.getD 22 zh,T.getD 23 zh,T.getD 24 zh,T.getD 25 zh,T.getD 26 zh,T.getD 27 zh,T.getD 28 zh,T.getD 29 zh,T.getD 30 zh,T.getD 31 zh,T.getD 32 zh,T.getD 33 zh,T.getD 34 zh,T.getD 35 zh,T.getD 36 zh,T.getD 37 zh,T.getD 38 zh,T.getD 39 zh,T.getD 40 zh,T.getD 41 zh,T.getD 42 zh,T.getD 43 zh,T.getD 44 zh,T.getD 45 zh,T.getD 46 zh,T.getD 47 zh,T.getD 48 zh,T.getD 49 zh,T.getD 50 zh,T.getD 51 zh,T.getD 52 zh,T.getD 53 zh,T.getD 54 zh,T.getD 55 zh,T.getD 56 zh,T.getD 57 zh,T.getD 58 zh]:=(ZE T 59 h).trans (by kernel_rfl)
variable (x0 x1 x2 x3 x4 x5 x6 x7 x8 x9 a d f g i k l m n o p q r s t u w x y z A B C b c D E F G H I J K L M N P Q R U V W X Y Z a0 a1 a2 a3:zu) (S:zS)
theorem jL.r0 :zW zi ⟨false,false,false⟩ (zU zi O) (reg Try.f65 0) (reg Try.f65 0).toList ([x0,x1,x2,x3,x4,x5,x6,x7,x8,x9,a,d,f,g,i,k,l,m,n,o,p,q,r,s,t,u,w,x,y,z,A,B,C,b,c,D,E,F,G,H,I,J,K,L,M,N,P,Q,R,U,V,W,X,Y,Z,a0,a1,a2,a3]) S =
  ( some ([x0,x1,Value.slice none 0 0,.int .i64 0,x4,x5,x6,x7,x8,x9,a,d,f,g,i,k,l,m,n,o,p,q,r,s,t,u,w,x,y,z,A,B,C,b,c,D,E,F,G,H,I,J,K,L,M,N,P,Q,R,U,V,W,X,Y,Z,a0,a1,a2,a3],S)):=by kernel_rfl
theorem jL.r1 :zW zi ⟨false,false,false⟩ (zU zi O) (reg Try.f65 1) (reg Try.f65 1).toList ([x0,x1,x2,x3,x4,x5,x6,x7,x8,x9,a,d,f,g,i,k,l,m,n,o,p,q,r,s,t,u,w,x,y,z,A,B,C,b,c,D,E,F,G,H,I,J,K,L,M,N,P,Q,R,U,V,W,X,Y,Z,a0,a1,a2,a3]) S =
  (zT ((zU zi O) 55 [(zQ (zQ x0)),(.int .i64 1)] S) (fun v1 S1=>zT (jv v1 0 S1) (fun v3 S2=>zT (jv (jh 0 v1) 1 S2) (fun v4 S3=>zT (jv (jh 1 (jh 0 v1)) 2 S3) (fun v5 S4=>some ([x0,x1,x2,x3,v3,v4,v5,x7,x8,x9,a,jh 2 (jh 1 (jh 0 v1)),zQ x0,zQ v1,zQ v3,zQ v4,zQ v5,m,n,o,p,q,r,s,t,u,w,x,y,z,A,B,C,b,c,D,E,F,G,H,I,J,K,L,M,N,P,Q,R,U,V,W,X,Y,Z,a0,a1,a2,a3],S4)) ()) ()) ()) ()):=by kernel_rfl
theorem jL.r2 :zW zi ⟨false,false,false⟩ (zU zi O) (reg Try.f65 2) (reg Try.f65 2).toList ([x0,x1,x2,x3,x4,x5,x6,x7,x8,x9,a,d,f,g,i,k,l,m,n,o,p,q,r,s,t,u,w,x,y,z,A,B,C,b,c,D,E,F,G,H,I,J,K,L,M,N,P,Q,R,U,V,W,X,Y,Z,a0,a1,a2,a3]) S =
  (zT (jd zi BinOp.neq 64 (zQ x6) (.int .i64 0) S) (fun v1 S1=>zY (zQ v1) false (ret x4) S1 (fun v3 S2=>zY (zQ v1) false (jZ zi 24 (zQ v3) (.int .i64 0)) S2 (fun v4 S3=>zY (zQ v1) false (zZ zi false 3 v4) S3 (fun v5 S4=>zY (zQ v1) false (jd zi BinOp.lss 3 v5 (.int .i64 0)) S4 (fun v6 S5=>zT (jH (zQ v1) (Value.bool true) v6 S5) (fun v7 S6=>zY (zQ v7) false (ret x4) S6 (fun v9 S7=>zY (zQ v7) false (jZ zi 24 (zQ v9) (.int .i64 0)) S7 (fun a4 S8=>zY (zQ v7) false (zZ zi false 3 a4) S8 (fun a5 S9=>zY (zQ v7) false (jd zi BinOp.gtr 3 a5 (.int .i64 3)) S9 (fun a6 a7=>zT (jH (zQ v7) (Value.bool true) a6 a7) (fun a8 a9=>some ([x0,x1,x2,x3,x4,x5,x6,x7,x8,x9,a,d,f,g,i,k,l,zQ x6,v1,zQ v1,zQ v3,v4,v5,v6,v7,zQ v7,zQ v9,a4,a5,a6,a8,B,C,b,c,D,E,F,G,H,I,J,K,L,M,N,P,Q,R,U,V,W,X,Y,Z,a0,a1,a2,a3],a9)) ()) ()) ()) ()) ()) ()) ()) ()) ()) ()) ()):=by
 refine sP Try.f65 2 0 (v:=x6) ?_;refine sD Try.f65 2 1 (fun v1 S1=>?_)
 refine sP Try.f65 2 2 (v:=v1) ?_;refine sG Try.f65 2 3 (j:=2) (fun v3 S2=>?_)
 refine sG Try.f65 2 4 (j:=2) (fun v4 S3=>?_)
 refine sG Try.f65 2 5 (j:=2) (fun v5 S4=>?_)
 refine sG Try.f65 2 6 (j:=2) (fun v6 S5=>?_)
 refine sD Try.f65 2 7 (fun v7 S6=>?_)
 refine sP Try.f65 2 8 (v:=v7) ?_;refine sG Try.f65 2 9 (j:=8) (fun v9 S7=>?_)
 refine sG Try.f65 2 10 (j:=8) (fun a4 S8=>?_)
 refine sG Try.f65 2 11 (j:=8) (fun a5 S9=>?_)
 refine sG Try.f65 2 12 (j:=8) (fun a6 a7=>?_)
 refine sD Try.f65 2 13 (fun a8 a9=>?_)
 kernel_rfl
theorem jL.r3 :zW zi ⟨false,false,false⟩ (zU zi O) (reg Try.f65 3) (reg Try.f65 3).toList ([x0,x1,x2,x3,x4,x5,x6,x7,x8,x9,a,d,f,g,i,k,l,m,n,o,p,q,r,s,t,u,w,x,y,z,A,B,C,b,c,D,E,F,G,H,I,J,K,L,M,N,P,Q,R,U,V,W,X,Y,Z,a0,a1,a2,a3]) S =
  ( some ([x0,x1,Value.slice none 0 0,.int .i64 61,x4,x5,x6,x7,x8,x9,a,d,f,g,i,k,l,m,n,o,p,q,r,s,t,u,w,x,y,z,A,B,C,b,c,D,E,F,G,H,I,J,K,L,M,N,P,Q,R,U,V,W,X,Y,Z,a0,a1,a2,a3],S)):=by kernel_rfl
theorem jL.r4 :zW zi ⟨false,false,false⟩ (zU zi O) (reg Try.f65 4) (reg Try.f65 4).toList ([x0,x1,x2,x3,x4,x5,x6,x7,x8,x9,a,d,f,g,i,k,l,m,n,o,p,q,r,s,t,u,w,x,y,z,A,B,C,b,c,D,E,F,G,H,I,J,K,L,M,N,P,Q,R,U,V,W,X,Y,Z,a0,a1,a2,a3]) S =
  ( some ([x0,x1,x2,x3,x4,x5,x6,Value.slice none 0 0,x8,x9,a,d,f,g,i,k,l,m,n,o,p,q,r,s,t,u,w,x,y,z,A,B,C,b,c,D,E,F,G,H,I,J,K,L,M,N,P,Q,R,U,V,W,X,Y,Z,a0,a1,a2,a3],S)):=by kernel_rfl
theorem jL.r5 :zW zi ⟨false,false,false⟩ (zU zi O) (reg Try.f65 5) (reg Try.f65 5).toList ([x0,x1,x2,x3,x4,x5,x6,x7,x8,x9,a,d,f,g,i,k,l,m,n,o,p,q,r,s,t,u,w,x,y,z,A,B,C,b,c,D,E,F,G,H,I,J,K,L,M,N,P,Q,R,U,V,W,X,Y,Z,a0,a1,a2,a3]) S =
  (zT (jZ zi 24 (zQ x4) (.int .i64 0) S) (fun v1 S1=>zT (zZ zi false 3 v1 S1) (fun v2 S2=>some ([x0,x1,x2,x3,x4,x5,x6,x7,x8,x9,a,d,f,g,i,k,l,m,n,o,p,q,r,s,t,u,w,x,y,z,A,zQ x4,v1,v2,.int .i64 0,D,E,F,G,H,I,J,K,L,M,N,P,Q,R,U,V,W,X,Y,Z,a0,a1,a2,a3],S2)) ()) ()):=by kernel_rfl
theorem jL.r6 :zW zi ⟨false,false,false⟩ (zU zi O) (reg Try.f65 6) (reg Try.f65 6).toList ([x0,x1,x2,x3,x4,x5,x6,x7,x8,x9,a,d,f,g,i,k,l,m,n,o,p,q,r,s,t,u,w,x,y,z,A,B,C,b,c,D,E,F,G,H,I,J,K,L,M,N,P,Q,R,U,V,W,X,Y,Z,a0,a1,a2,a3]) S =
  (zT (jd zi BinOp.lss 3 c b S) (fun v0 S1=>some ([x0,x1,x2,x3,x4,x5,x6,x7,x8,x9,a,d,f,g,i,k,l,m,n,o,p,q,r,s,t,u,w,x,y,z,A,B,C,b,c,v0,E,F,G,H,I,J,K,L,M,N,P,Q,R,U,V,W,X,Y,Z,a0,a1,a2,a3],S1)) ()):=by kernel_rfl
theorem jL.r7 :zW zi ⟨false,false,false⟩ (zU zi O) (reg Try.f65 7) (reg Try.f65 7).toList ([x0,x1,x2,x3,x4,x5,x6,x7,x8,x9,a,d,f,g,i,k,l,m,n,o,p,q,r,s,t,u,w,x,y,z,A,B,C,b,c,D,E,F,G,H,I,J,K,L,M,N,P,Q,R,U,V,W,X,Y,Z,a0,a1,a2,a3]) S =
  (zT ((zU zi O) 64 [(zQ (zQ x5))] S) (fun v1 S1=>zT (jv v1 0 S1) (fun v3 S2=>zT (jv (jh 0 v1) 1 S2) (fun v4 S3=>zT (jv (jh 1 (jh 0 v1)) 2 S3) (fun v5 S4=>zT (wR zi 43 S4) (fun v6 S5=>zT (jI zi 43 v6 (zQ v3) S5) (fun v7 S6=>some ([x0,x1,x2,x3,x4,x5,x6,x7,v6,v4,v5,d,f,g,i,k,l,m,n,o,p,q,r,s,t,u,w,x,y,z,A,B,C,b,c,D,jh 2 (jh 1 (jh 0 v1)),zQ x5,zQ v1,v3,zQ v4,zQ v5,K,L,M,N,P,Q,R,U,V,W,X,Y,Z,a0,a1,a2,a3],S6)) ()) ()) ()) ()) ()) ()):=by kernel_rfl
theorem jL.r8 :zW zi ⟨false,false,false⟩ (zU zi O) (reg Try.f65 8) (reg Try.f65 8).toList ([x0,x1,x2,x3,x4,x5,x6,x7,x8,x9,a,d,f,g,i,k,l,m,n,o,p,q,r,s,t,u,w,x,y,z,A,B,C,b,c,D,E,F,G,H,I,J,K,L,M,N,P,Q,R,U,V,W,X,Y,Z,a0,a1,a2,a3]) S =
  (zT (qo zi UnOp.not (zQ a) S) (fun v1 S1=>some ([x0,x1,x2,x3,x4,x5,x6,x7,x8,x9,a,d,f,g,i,k,l,m,n,o,p,q,r,s,t,u,w,x,y,z,A,B,C,b,c,D,E,F,G,H,I,J,zQ a,v1,M,N,P,Q,R,U,V,W,X,Y,Z,a0,a1,a2,a3],S1)) ()):=by kernel_rfl
theorem jL.r9 :zW zi ⟨false,false,false⟩ (zU zi O) (reg Try.f65 9) (reg Try.f65 9).toList ([x0,x1,x2,x3,x4,x5,x6,x7,x8,x9,a,d,f,g,i,k,l,m,n,o,p,q,r,s,t,u,w,x,y,z,A,B,C,b,c,D,E,F,G,H,I,J,K,L,M,N,P,Q,R,U,V,W,X,Y,Z,a0,a1,a2,a3]) S =
  ( some ([x0,x1,Value.slice none 0 0,.int .i64 61,x4,x5,x6,x7,x8,x9,a,d,f,g,i,k,l,m,n,o,p,q,r,s,t,u,w,x,y,z,A,B,C,b,c,D,E,F,G,H,I,J,K,L,M,N,P,Q,R,U,V,W,X,Y,Z,a0,a1,a2,a3],S)):=by kernel_rfl
theorem jL.r10 :zW zi ⟨false,false,false⟩ (zU zi O) (reg Try.f65 10) (reg Try.f65 10).toList ([x0,x1,x2,x3,x4,x5,x6,x7,x8,x9,a,d,f,g,i,k,l,m,n,o,p,q,r,s,t,u,w,x,y,z,A,B,C,b,c,D,E,F,G,H,I,J,K,L,M,N,P,Q,R,U,V,W,X,Y,Z,a0,a1,a2,a3]) S =
  (zT (zZ zi false 43 x8 S) (fun v1 S1=>zT (yO zi 44 1 [(0,v1)] S1) (fun v2 S2=>zT (yF zi 44 44 x7 v2 S2) (fun v3 S3=>some ([x0,x1,x2,x3,x4,x5,x6,v3,x8,x9,a,d,f,g,i,k,l,m,n,o,p,q,r,s,t,u,w,x,y,z,A,B,C,b,c,D,E,F,G,H,I,J,K,L,zQ x7,v1,v2,zQ v3,R,U,V,W,X,Y,Z,a0,a1,a2,a3],S3)) ()) ()) ()):=by kernel_rfl
theorem jL.r11 :zW zi ⟨false,false,false⟩ (zU zi O) (reg Try.f65 11) (reg Try.f65 11).toList ([x0,x1,x2,x3,x4,x5,x6,x7,x8,x9,a,d,f,g,i,k,l,m,n,o,p,q,r,s,t,u,w,x,y,z,A,B,C,b,c,D,E,F,G,H,I,J,K,L,M,N,P,Q,R,U,V,W,X,Y,Z,a0,a1,a2,a3]) S =
  ( some ([x0,x1,x2,x3,x4,x9,x6,x7,x8,zQ x9,a,d,f,g,i,k,l,m,n,o,p,q,r,s,t,u,w,x,y,z,A,B,C,b,c,D,E,F,G,H,I,J,K,L,M,N,P,Q,zQ x9,U,V,W,X,Y,Z,a0,a1,a2,a3],S)):=by kernel_rfl
theorem jL.r12 :zW zi ⟨false,false,false⟩ (zU zi O) (reg Try.f65 12) (reg Try.f65 12).toList ([x0,x1,x2,x3,x4,x5,x6,x7,x8,x9,a,d,f,g,i,k,l,m,n,o,p,q,r,s,t,u,w,x,y,z,A,B,C,b,c,D,E,F,G,H,I,J,K,L,M,N,P,Q,R,U,V,W,X,Y,Z,a0,a1,a2,a3]) S =
  (zT (jd zi BinOp.add 3 c (.int .i64 1) S) (fun v0 S1=>some ([x0,x1,x2,x3,x4,x5,x6,x7,x8,x9,a,d,f,g,i,k,l,m,n,o,p,q,r,s,t,u,w,x,y,z,A,B,C,b,zQ v0,D,E,F,G,H,I,J,K,L,M,N,P,Q,R,v0,V,W,X,Y,Z,a0,a1,a2,a3],S1)) ()):=by kernel_rfl
theorem jL.r13 :zW zi ⟨false,false,false⟩ (zU zi O) (reg Try.f65 13) (reg Try.f65 13).toList ([x0,x1,x2,x3,x4,x5,x6,x7,x8,x9,a,d,f,g,i,k,l,m,n,o,p,q,r,s,t,u,w,x,y,z,A,B,C,b,c,D,E,F,G,H,I,J,K,L,M,N,P,Q,R,U,V,W,X,Y,Z,a0,a1,a2,a3]) S =
  (zT (yK zi 33 (zQ x5) S) (fun v1 S1=>zT (jd zi BinOp.gtr 3 v1 (.int .i64 0) S1) (fun v2 S2=>zY (zQ v2) false (ret x7) S2 (fun v4 S3=>zY (zQ v2) false ((zU zi O) 70 [(zQ (zQ v4))]) S3 (fun v5 S4=>zY (zQ v2) false (qo zi UnOp.not v5) S4 (fun v6 S5=>zT (jH (zQ v2) (Value.bool true) v6 S5) (fun v7 S6=>some ([x0,x1,x2,x3,x4,x5,x6,x7,x8,x9,a,d,f,g,i,k,l,m,n,o,p,q,r,s,t,u,w,x,y,z,A,B,C,b,c,D,E,F,G,H,I,J,K,L,M,N,P,Q,R,U,zQ x5,v1,v2,zQ v2,zQ v4,v5,v6,v7,a3],S6)) ()) ()) ()) ()) ()) ()):=by
 refine sP Try.f65 13 0 (v:=x5) ?_;refine sD Try.f65 13 1 (fun v1 S1=>?_)
 refine sD Try.f65 13 2 (fun v2 S2=>?_)
 refine sP Try.f65 13 3 (v:=v2) ?_;refine sG Try.f65 13 4 (j:=3) (fun v4 S3=>?_)
 refine sG Try.f65 13 5 (j:=3) (fun v5 S4=>?_)
 refine sG Try.f65 13 6 (j:=3) (fun v6 S5=>?_)
 refine sD Try.f65 13 7 (fun v7 S6=>?_)
 kernel_rfl
theorem jL.vP :zW zi ⟨false,false,false⟩ (zU zi O) (reg Try.f65 14) (reg Try.f65 14).toList ([x0,x1,x2,x3,x4,x5,x6,x7,x8,x9,a,d,f,g,i,k,l,m,n,o,p,q,r,s,t,u,w,x,y,z,A,B,C,b,c,D,E,F,G,H,I,J,K,L,M,N,P,Q,R,U,V,W,X,Y,Z,a0,a1,a2,a3]) S =
  ( some ([x0,x1,Value.slice none 0 0,.int .i64 61,x4,x5,x6,x7,x8,x9,a,d,f,g,i,k,l,m,n,o,p,q,r,s,t,u,w,x,y,z,A,B,C,b,c,D,E,F,G,H,I,J,K,L,M,N,P,Q,R,U,V,W,X,Y,Z,a0,a1,a2,a3],S)):=by kernel_rfl
theorem jL.Zi :zW zi ⟨false,false,false⟩ (zU zi O) (reg Try.f65 15) (reg Try.f65 15).toList ([x0,x1,x2,x3,x4,x5,x6,x7,x8,x9,a,d,f,g,i,k,l,m,n,o,p,q,r,s,t,u,w,x,y,z,A,B,C,b,c,D,E,F,G,H,I,J,K,L,M,N,P,Q,R,U,V,W,X,Y,Z,a0,a1,a2,a3]) S =
  ( some ([x0,x1,x7,.int .i64 0,x4,x5,x6,zQ x7,x8,x9,a,d,f,g,i,k,l,m,n,o,p,q,r,s,t,u,w,x,y,z,A,B,C,b,c,D,E,F,G,H,I,J,K,L,M,N,P,Q,R,U,V,W,X,Y,Z,a0,a1,a2,zQ x7],S)):=by kernel_rfl
theorem jL.rs :type_of% (zJ @jL.r0 (zJ @jL.r1 (zJ @jL.r2 (zJ @jL.r3 (zJ @jL.r4 (zJ @jL.r5 (zJ @jL.r6 (zJ @jL.r7 (zJ @jL.r8 (zJ @jL.r9 (zJ @jL.r10 (zJ @jL.r11 (zJ @jL.r12 (zJ @jL.r13 (zJ @jL.vP (@jL.Zi)))))))))))))))):=zJ @jL.r0 (zJ @jL.r1 (zJ @jL.r2 (zJ @jL.r3 (zJ @jL.r4 (zJ @jL.r5 (zJ @jL.r6 (zJ @jL.r7 (zJ @jL.r8 (zJ @jL.r9 (zJ @jL.r10 (zJ @jL.r11 (zJ @jL.r12 (zJ @jL.r13 (zJ @jL.vP (@jL.Zi)))))))))))))))
theorem jL.runs {x0:zu}{S S1:zS}{e:wC}{T:List zu}(h:zX zi O false jL.code ([x0,zh,zh,zh,zh,zh,zh,zh,zh,zh,zh,zh,zh,zh,zh,zh,zh,zh,zh,zh,zh,zh,zh,zh,zh,zh,zh,zh,zh,zh,zh,zh,zh,zh,zh,zh,zh,zh,zh,zh,zh,zh,zh,zh,zh,zh,zh,zh,zh,zh,zh,zh,zh,zh,zh,zh,zh,zh,zh]) zS.empty=some (e,T,S1)) (he:e=.normal∨e=.ret)  (h0:yc (T.getD 2 zh)=true) (h1:yc (T.getD 3 zh)=true) (hca:[x0].all (jw 16)=true) (hcv:jw 16 (Value.tuple #[T.getD 2 zh,T.getD 3 zh])=true):zU zi O 65 [x0] S=some (Value.tuple #[T.getD 2 zh,T.getD 3 zh],S) :=
 kC rfl rfl Try.func65 (by decide) jL.body (by exact h) he ((Zc ((show jl zi T S1 Try.f65.results.toList=jl zi T S1 [(ResultVar.tmp 2),(ResultVar.tmp 3)] from by kernel_rfl).trans (by simp only[jl])) (by kernel_rfl) (by simp only[List.all_cons,List.all_nil,h0,h1,Bool.and_true])).trans rfl) hca hcv
end
section
abbrev jF.id :FuncId:=49
noncomputable def jF.jg :Code:=(.seq (.seq (.region 8 (reg Try.f49 8) false) (.cond (.tmp 35) Code.skip (.exit 2))) (.seq (.block 3 (.region 10 (reg Try.f49 10) true)) (.region 9 (reg Try.f49 9) false)))
noncomputable def jF.qE :Code:=(.seq (.seq (.region 2 (reg Try.f49 2) false) (.cond (.tmp 13) Code.skip (.exit 0))) (.seq (.block 1 (.seq (.region 4 (reg Try.f49 4) false) (.seq (.seq (.region 5 (reg Try.f49 5) false) (.cond (.tmp 31) (.exit 1) Code.skip)) (.seq (.region 6 (reg Try.f49 6) false) (.seq (.seq (.region 7 (reg Try.f49 7) false) (.block 2 (.loop jF.jg))) (.seq (.region 11 (reg Try.f49 11) false) (.seq (.region 12 (reg Try.f49 12) false) (.cond (.tmp 67) (.seq (.region 13 (reg Try.f49 13) false) Code.ret) Code.skip)))))))) (.region 3 (reg Try.f49 3) false)))
noncomputable def jF.code :Code:=(.seq (.region 0 (reg Try.f49 0) false) (.seq (.seq (.region 1 (reg Try.f49 1) false) (.block 0 (.loop jF.qE))) (.seq (.region 14 (reg Try.f49 14) false) Code.ret)))
theorem jF.body :Try.f49.body=some jF.code:=by kernel_rfl
theorem jF.eta {T:List zu}(h:T.length=69):T=[T.getD 0 zh,T.getD 1 zh,T.getD 2 zh,T.getD 3 zh,T.getD 4 zh,T.getD 5 zh,T.getD 6 zh,T.getD 7 zh,T.getD 8 zh,T.getD 9 zh,T.getD 10 zh,T.getD 11 zh,T.getD 12 zh,T.getD 13 zh,T.getD 14 zh,T.getD 15 zh,T.getD 16 zh,T.getD 17 zh,T.getD 18 zh,T.getD 19 zh,T.getD 20 zh,T.getD 21 zh,T.getD 22 zh,T.getD 23 zh,T.getD 24 zh,T.getD 25 zh,T.getD 26 zh,T.getD 27 zh,T.getD 28 zh,T.getD 29 zh,T.getD 30 zh,T.getD 31 zh,T.getD 32 zh,T.getD 33 zh,T.getD 34 zh,T.getD 35 zh,T.getD 36 zh,T.getD 37 zh,T.getD 38 zh,T.getD 39 zh,T.getD 40 zh,T.getD 41 zh,T.getD 42 zh,T.getD 43 zh,T.getD 44 zh,T.getD 45 zh,T.getD 46 zh,T.getD 47 zh,T.getD 48 zh,T.getD 49 zh,T.getD 50 zh,T.getD 51 zh,T.getD 52 zh,T.getD 53 zh,T.getD 54 zh,T.getD 55 zh,T.getD 56 zh,T.getD 57 zh,T.getD 58 zh,T.getD 59 zh,T.getD 60 zh,T.getD 61 zh,T.getD 62 zh,T.getD 63 zh,T.getD 64 zh,T.getD 65 zh,T.getD 66 zh,T.getD 67 zh,T.getD 68 zh]:=(ZE T 69 h).trans (by kernel_rfl)
variable (x0 x1 x2 x3 x4 x5 x6 x7 x8 x9 b a c d f g i k l m n o p q r s t u w x y z A B C D E F G H I J K L M N P Q R U V W X Y Z a0 a1 a2 a3 a4 a5 a6 a7 a8 a9 b0 b1 b2 b3:zu) (S:zS)
theorem jF.r0 :zW zi ⟨false,false,false⟩ (zU zi O) (reg Try.f49 0) (reg Try.f49 0).toList ([x0,x1,x2,x3,x4,x5,x6,x7,x8,x9,b,a,c,d,f,g,i,k,l,m,n,o,p,q,r,s,t,u,w,x,y,z,A,B,C,D,E,F,G,H,I,J,K,L,M,N,P,Q,R,U,V,W,X,Y,Z,a0,a1,a2,a3,a4,a5,a6,a7,a8,a9,b0,b1,b2,b3]) S =
  ( some ([x0,x1,Value.slice none 0 0,.int .i64 0,x4,x5,x6,x7,x8,x9,b,a,c,d,f,g,i,k,l,m,n,o,p,q,r,s,t,u,w,x,y,z,A,B,C,D,E,F,G,H,I,J,K,L,M,N,P,Q,R,U,V,W,X,Y,Z,a0,a1,a2,a3,a4,a5,a6,a7,a8,a9,b0,b1,b2,b3],S)):=by kernel_rfl
theorem jF.r1 :zW zi ⟨false,false,false⟩ (zU zi O) (reg Try.f49 1) (reg Try.f49 1).toList ([x0,x1,x2,x3,x4,x5,x6,x7,x8,x9,b,a,c,d,f,g,i,k,l,m,n,o,p,q,r,s,t,u,w,x,y,z,A,B,C,D,E,F,G,H,I,J,K,L,M,N,P,Q,R,U,V,W,X,Y,Z,a0,a1,a2,a3,a4,a5,a6,a7,a8,a9,b0,b1,b2,b3]) S =
  ( some ([x0,x1,x2,x3,.int .i64 0,x5,x6,x7,x8,x9,b,a,c,d,f,g,i,k,l,m,n,o,p,q,r,s,t,u,w,x,y,z,A,B,C,D,E,F,G,H,I,J,K,L,M,N,P,Q,R,U,V,W,X,Y,Z,a0,a1,a2,a3,a4,a5,a6,a7,a8,a9,b0,b1,b2,b3],S)):=by kernel_rfl
theorem jF.r2 :zW zi ⟨false,false,false⟩ (zU zi O) (reg Try.f49 2) (reg Try.f49 2).toList ([x0,x1,x2,x3,x4,x5,x6,x7,x8,x9,b,a,c,d,f,g,i,k,l,m,n,o,p,q,r,s,t,u,w,x,y,z,A,B,C,D,E,F,G,H,I,J,K,L,M,N,P,Q,R,U,V,W,X,Y,Z,a0,a1,a2,a3,a4,a5,a6,a7,a8,a9,b0,b1,b2,b3]) S =
  (zT (jd zi BinOp.leq 3 (zQ x4) (.int .i64 3) S) (fun v1 S1=>some ([x0,x1,x2,x3,x4,x5,x6,x7,x8,x9,b,a,zQ x4,v1,f,g,i,k,l,m,n,o,p,q,r,s,t,u,w,x,y,z,A,B,C,D,E,F,G,H,I,J,K,L,M,N,P,Q,R,U,V,W,X,Y,Z,a0,a1,a2,a3,a4,a5,a6,a7,a8,a9,b0,b1,b2,b3],S1)) ()):=by kernel_rfl
theorem jF.r4 :zW zi ⟨false,false,false⟩ (zU zi O) (reg Try.f49 4) (reg Try.f49 4).toList ([x0,x1,x2,x3,x4,x5,x6,x7,x8,x9,b,a,c,d,f,g,i,k,l,m,n,o,p,q,r,s,t,u,w,x,y,z,A,B,C,D,E,F,G,H,I,J,K,L,M,N,P,Q,R,U,V,W,X,Y,Z,a0,a1,a2,a3,a4,a5,a6,a7,a8,a9,b0,b1,b2,b3]) S =
  (zT (jd zi BinOp.mul 3 (.int .i64 2) (zQ x4) S) (fun v2 S1=>zT (jd zi BinOp.add 3 (.int .i64 1) v2 S1) (fun v3 S2=>zT ((zU zi O) 29 [(zQ (zQ x0)),(zQ v3)] S2) (fun v4 S3=>zT (jv v4 0 S3) (fun v6 S4=>zT (jv (jh 0 v4) 1 S4) (fun v7 S5=>zT (jv (jh 1 (jh 0 v4)) 2 S5) (fun v8 S6=>some ([x0,x1,x2,x3,x4,v6,v7,v8,x8,x9,b,a,c,d,f,g,jh 2 (jh 1 (jh 0 v4)),zQ x0,zQ x4,v2,v3,zQ v4,zQ v6,zQ v7,zQ v8,s,t,u,w,x,y,z,A,B,C,D,E,F,G,H,I,J,K,L,M,N,P,Q,R,U,V,W,X,Y,Z,a0,a1,a2,a3,a4,a5,a6,a7,a8,a9,b0,b1,b2,b3],S6)) ()) ()) ()) ()) ()) ()):=by kernel_rfl
theorem jF.r5 :zW zi ⟨false,false,false⟩ (zU zi O) (reg Try.f49 5) (reg Try.f49 5).toList ([x0,x1,x2,x3,x4,x5,x6,x7,x8,x9,b,a,c,d,f,g,i,k,l,m,n,o,p,q,r,s,t,u,w,x,y,z,A,B,C,D,E,F,G,H,I,J,K,L,M,N,P,Q,R,U,V,W,X,Y,Z,a0,a1,a2,a3,a4,a5,a6,a7,a8,a9,b0,b1,b2,b3]) S =
  (zT (jd zi BinOp.neq 3 (zQ x7) (.int .i64 0) S) (fun v1 S1=>zY (zQ v1) false (ret x6) S1 (fun v3 S2=>zY (zQ v1) false (yK zi 33 (zQ v3)) S2 (fun v4 S3=>zY (zQ v1) false (jd zi BinOp.gtr 3 v4 (.int .i64 0)) S3 (fun v5 S4=>zT (jH (zQ v1) (Value.bool true) v5 S4) (fun v6 S5=>some ([x0,x1,x2,x3,x4,x5,x6,x7,x8,x9,b,a,c,d,f,g,i,k,l,m,n,o,p,q,r,zQ x7,v1,zQ v1,zQ v3,v4,v5,v6,A,B,C,D,E,F,G,H,I,J,K,L,M,N,P,Q,R,U,V,W,X,Y,Z,a0,a1,a2,a3,a4,a5,a6,a7,a8,a9,b0,b1,b2,b3],S5)) ()) ()) ()) ()) ()):=by
 refine sP Try.f49 5 0 (v:=x7) ?_;refine sD Try.f49 5 1 (fun v1 S1=>?_)
 refine sP Try.f49 5 2 (v:=v1) ?_;refine sG Try.f49 5 3 (j:=2) (fun v3 S2=>?_)
 refine sG Try.f49 5 4 (j:=2) (fun v4 S3=>?_)
 refine sG Try.f49 5 5 (j:=2) (fun v5 S4=>?_)
 refine sD Try.f49 5 6 (fun v6 S5=>?_)
 kernel_rfl
theorem jF.r6 :zW zi ⟨false,false,false⟩ (zU zi O) (reg Try.f49 6) (reg Try.f49 6).toList ([x0,x1,x2,x3,x4,x5,x6,x7,x8,x9,b,a,c,d,f,g,i,k,l,m,n,o,p,q,r,s,t,u,w,x,y,z,A,B,C,D,E,F,G,H,I,J,K,L,M,N,P,Q,R,U,V,W,X,Y,Z,a0,a1,a2,a3,a4,a5,a6,a7,a8,a9,b0,b1,b2,b3]) S =
  (zT (yO zi 44 0 [] S) (fun v0 S1=>some ([x0,x1,x2,x3,x4,x5,x6,x7,v0,x9,b,a,c,d,f,g,i,k,l,m,n,o,p,q,r,s,t,u,w,x,y,z,zQ v0,B,C,D,E,F,G,H,I,J,K,L,M,N,P,Q,R,U,V,W,X,Y,Z,a0,a1,a2,a3,a4,a5,a6,a7,a8,a9,b0,b1,b2,b3],S1)) ()):=by kernel_rfl
theorem jF.r7 :zW zi ⟨false,false,false⟩ (zU zi O) (reg Try.f49 7) (reg Try.f49 7).toList ([x0,x1,x2,x3,x4,x5,x6,x7,x8,x9,b,a,c,d,f,g,i,k,l,m,n,o,p,q,r,s,t,u,w,x,y,z,A,B,C,D,E,F,G,H,I,J,K,L,M,N,P,Q,R,U,V,W,X,Y,Z,a0,a1,a2,a3,a4,a5,a6,a7,a8,a9,b0,b1,b2,b3]) S =
  ( some ([x0,x1,x2,x3,x4,x5,x6,x7,x8,.int .i64 0,b,a,c,d,f,g,i,k,l,m,n,o,p,q,r,s,t,u,w,x,y,z,A,B,C,D,E,F,G,H,I,J,K,L,M,N,P,Q,R,U,V,W,X,Y,Z,a0,a1,a2,a3,a4,a5,a6,a7,a8,a9,b0,b1,b2,b3],S)):=by kernel_rfl
theorem jF.r8 :zW zi ⟨false,false,false⟩ (zU zi O) (reg Try.f49 8) (reg Try.f49 8).toList ([x0,x1,x2,x3,x4,x5,x6,x7,x8,x9,b,a,c,d,f,g,i,k,l,m,n,o,p,q,r,s,t,u,w,x,y,z,A,B,C,D,E,F,G,H,I,J,K,L,M,N,P,Q,R,U,V,W,X,Y,Z,a0,a1,a2,a3,a4,a5,a6,a7,a8,a9,b0,b1,b2,b3]) S =
  (zT (jd zi BinOp.lss 3 (zQ x9) (zQ x4) S) (fun v2 S1=>some ([x0,x1,x2,x3,x4,x5,x6,x7,x8,x9,b,a,c,d,f,g,i,k,l,m,n,o,p,q,r,s,t,u,w,x,y,z,A,zQ x9,zQ x4,v2,E,F,G,H,I,J,K,L,M,N,P,Q,R,U,V,W,X,Y,Z,a0,a1,a2,a3,a4,a5,a6,a7,a8,a9,b0,b1,b2,b3],S1)) ()):=by kernel_rfl
theorem jF.d10 :vg zi (reg Try.f49 10)=true:=by kernel_rfl
theorem jF.Nk :fixed zi (reg Try.f49 10)=false:=by kernel_rfl
theorem jF.k10 :checked zi (reg Try.f49 10)=[0]:=by kernel_rfl
theorem jF.g10 :again zi (reg Try.f49 10)=[]:=by kernel_rfl
theorem jF.r10 :zX zi O false (.region 10 (reg Try.f49 10) true) ([x0,x1,x2,x3,x4,x5,x6,x7,x8,x9,b,a,c,d,f,g,i,k,l,m,n,o,p,q,r,s,t,u,w,x,y,z,A,B,C,D,E,F,G,H,I,J,K,L,M,N,P,Q,R,U,V,W,X,Y,Z,a0,a1,a2,a3,a4,a5,a6,a7,a8,a9,b0,b1,b2,b3]) S =
  yY (jK x8 ( zT (jd zi BinOp.mul 3 (.int .i64 2) (zQ x9) S) (fun v3 S1=>zT (jd zi BinOp.add 3 (.int .i64 1) v3 S1) (fun v4 S2=>zT (jZ zi 24 (zQ x5) v4 S2) (fun v5 S3=>zT (zZ zi false 3 v5 S3) (fun v6 S4=>zT (jd zi BinOp.mul 3 (.int .i64 2) (zQ x9) S4) (fun v9 S5=>zT (jd zi BinOp.add 3 (.int .i64 2) v9 S5) (fun b5 S6=>zT (jZ zi 24 (zQ x5) b5 S6) (fun b6 S7=>zT (zZ zi false 3 b6 S7) (fun b7 S8=>zT (wS zi 43 [(0,(zQ v6)),(1,(zQ b7))] S8) (fun b8 S9=>zT (yO zi 44 1 [(0,b8)] S9) (fun b9 c0=>zT (yF zi 44 44 x8 b9 c0) (fun b4 c1=>some ([x0,x1,x2,x3,x4,x5,x6,x7,b4,x9,b,a,c,d,f,g,i,k,l,m,n,o,p,q,r,s,t,u,w,x,y,z,A,B,C,D,E,F,zQ x8,zQ x5,zQ x9,v3,v4,v5,v6,zQ x5,zQ x9,v9,b5,b6,b7,b8,b9,zQ b4,Z,a0,a1,a2,a3,a4,a5,a6,a7,a8,a9,b0,b1,b2,b3],c1)) ()) ()) ()) ()) ()) ()) ()) ()) ()) ()) ()) ()):=by
 rw[Jh jF.d10 jF.Nk jF.k10 jF.g10];refine congrArg yY ?_;refine UO Try.f49 10 0 (v:=x8) ?_;refine tP Try.f49 10 1 (v:=x5) ?_;refine tP Try.f49 10 2 (v:=x9) ?_;refine tD Try.f49 10 3 (fun v3 S1=>?_)
 refine tD Try.f49 10 4 (fun v4 S2=>?_)
 refine tD Try.f49 10 5 (fun v5 S3=>?_)
 refine tD Try.f49 10 6 (fun v6 S4=>?_)
 refine tP Try.f49 10 7 (v:=x5) ?_;refine tP Try.f49 10 8 (v:=x9) ?_;refine tD Try.f49 10 9 (fun v9 S5=>?_)
 refine tD Try.f49 10 10 (fun b5 S6=>?_)
 refine tD Try.f49 10 11 (fun b6 S7=>?_)
 refine tD Try.f49 10 12 (fun b7 S8=>?_)
 refine tD Try.f49 10 13 (fun b8 S9=>?_)
 refine tD Try.f49 10 14 (fun b9 c0=>?_)
 refine tD Try.f49 10 15 (fun b4 c1=>?_)
 refine tP Try.f49 10 16 (v:=b4) ?_
 kernel_rfl
theorem jF.r9 :zW zi ⟨false,false,false⟩ (zU zi O) (reg Try.f49 9) (reg Try.f49 9).toList ([x0,x1,x2,x3,x4,x5,x6,x7,x8,x9,b,a,c,d,f,g,i,k,l,m,n,o,p,q,r,s,t,u,w,x,y,z,A,B,C,D,E,F,G,H,I,J,K,L,M,N,P,Q,R,U,V,W,X,Y,Z,a0,a1,a2,a3,a4,a5,a6,a7,a8,a9,b0,b1,b2,b3]) S =
  (zT (jd zi BinOp.add 3 (zQ x9) (.int .i64 1) S) (fun v1 S1=>some ([x0,x1,x2,x3,x4,x5,x6,x7,x8,v1,b,a,c,d,f,g,i,k,l,m,n,o,p,q,r,s,t,u,w,x,y,z,A,B,C,D,zQ x9,zQ v1,G,H,I,J,K,L,M,N,P,Q,R,U,V,W,X,Y,Z,a0,a1,a2,a3,a4,a5,a6,a7,a8,a9,b0,b1,b2,b3],S1)) ()):=by kernel_rfl
theorem jF.r11 :zW zi ⟨false,false,false⟩ (zU zi O) (reg Try.f49 11) (reg Try.f49 11).toList ([x0,x1,x2,x3,x4,x5,x6,x7,x8,x9,b,a,c,d,f,g,i,k,l,m,n,o,p,q,r,s,t,u,w,x,y,z,A,B,C,D,E,F,G,H,I,J,K,L,M,N,P,Q,R,U,V,W,X,Y,Z,a0,a1,a2,a3,a4,a5,a6,a7,a8,a9,b0,b1,b2,b3]) S =
  (zT ((zU zi O) 50 [(zQ (zQ x8))] S) (fun v1 S1=>zT (jv v1 0 S1) (fun v3 S2=>zT (jv (jh 0 v1) 1 S2) (fun v4 S3=>some ([x0,x1,x2,x3,x4,x5,x6,x7,x8,x9,v3,v4,c,d,f,g,i,k,l,m,n,o,p,q,r,s,t,u,w,x,y,z,A,B,C,D,E,F,G,H,I,J,K,L,M,N,P,Q,R,U,V,W,X,Y,jh 1 (jh 0 v1),zQ x8,zQ v1,zQ v3,zQ v4,a4,a5,a6,a7,a8,a9,b0,b1,b2,b3],S3)) ()) ()) ()):=by kernel_rfl
theorem jF.r12 :zW zi ⟨false,false,false⟩ (zU zi O) (reg Try.f49 12) (reg Try.f49 12).toList ([x0,x1,x2,x3,x4,x5,x6,x7,x8,x9,b,a,c,d,f,g,i,k,l,m,n,o,p,q,r,s,t,u,w,x,y,z,A,B,C,D,E,F,G,H,I,J,K,L,M,N,P,Q,R,U,V,W,X,Y,Z,a0,a1,a2,a3,a4,a5,a6,a7,a8,a9,b0,b1,b2,b3]) S =
  (zT (jd zi BinOp.eql 3 (zQ a) (.int .i64 0) S) (fun v1 S1=>zY (zQ v1) true (ret b) S1 (fun v3 S2=>zY (zQ v1) true (qB zi false false 33 9 (zQ v3)) S2 (fun v4 S3=>zY (zQ v1) true (ret x0) S3 (fun v5 S4=>zY (zQ v1) true (qB zi false false 33 9 (zQ v5)) S4 (fun v6 S5=>zY (zQ v1) true (jd zi BinOp.eql 9 v4 v6) S5 (fun v7 S6=>zT (jH (zQ v1) v7 (Value.bool false) S6) (fun v8 S7=>some ([x0,x1,x2,x3,x4,x5,x6,x7,x8,x9,b,a,c,d,f,g,i,k,l,m,n,o,p,q,r,s,t,u,w,x,y,z,A,B,C,D,E,F,G,H,I,J,K,L,M,N,P,Q,R,U,V,W,X,Y,Z,a0,a1,a2,a3,zQ a,v1,zQ v1,zQ v3,v4,zQ v5,v6,v7,v8,b3],S7)) ()) ()) ()) ()) ()) ()) ()):=by
 refine sP Try.f49 12 0 (v:=a) ?_;refine sD Try.f49 12 1 (fun v1 S1=>?_)
 refine sP Try.f49 12 2 (v:=v1) ?_;refine sG Try.f49 12 3 (j:=2) (fun v3 S2=>?_)
 refine sG Try.f49 12 4 (j:=2) (fun v4 S3=>?_)
 refine sG Try.f49 12 5 (j:=2) (fun v5 S4=>?_)
 refine sG Try.f49 12 6 (j:=2) (fun v6 S5=>?_)
 refine sG Try.f49 12 7 (j:=2) (fun v7 S6=>?_)
 refine sD Try.f49 12 8 (fun v8 S7=>?_)
 kernel_rfl
theorem jF.r13 :zW zi ⟨false,false,false⟩ (zU zi O) (reg Try.f49 13) (reg Try.f49 13).toList ([x0,x1,x2,x3,x4,x5,x6,x7,x8,x9,b,a,c,d,f,g,i,k,l,m,n,o,p,q,r,s,t,u,w,x,y,z,A,B,C,D,E,F,G,H,I,J,K,L,M,N,P,Q,R,U,V,W,X,Y,Z,a0,a1,a2,a3,a4,a5,a6,a7,a8,a9,b0,b1,b2,b3]) S =
  ( some ([x0,x1,x8,.int .i64 0,x4,x5,x6,x7,zQ x8,x9,b,a,c,d,f,g,i,k,l,m,n,o,p,q,r,s,t,u,w,x,y,z,A,B,C,D,E,F,G,H,I,J,K,L,M,N,P,Q,R,U,V,W,X,Y,Z,a0,a1,a2,a3,a4,a5,a6,a7,a8,a9,b0,b1,b2,zQ x8],S)):=by kernel_rfl
theorem jF.r3 :zW zi ⟨false,false,false⟩ (zU zi O) (reg Try.f49 3) (reg Try.f49 3).toList ([x0,x1,x2,x3,x4,x5,x6,x7,x8,x9,b,a,c,d,f,g,i,k,l,m,n,o,p,q,r,s,t,u,w,x,y,z,A,B,C,D,E,F,G,H,I,J,K,L,M,N,P,Q,R,U,V,W,X,Y,Z,a0,a1,a2,a3,a4,a5,a6,a7,a8,a9,b0,b1,b2,b3]) S =
  (zT (jd zi BinOp.add 3 (zQ x4) (.int .i64 1) S) (fun v1 S1=>some ([x0,x1,x2,x3,v1,x5,x6,x7,x8,x9,b,a,c,d,zQ x4,zQ v1,i,k,l,m,n,o,p,q,r,s,t,u,w,x,y,z,A,B,C,D,E,F,G,H,I,J,K,L,M,N,P,Q,R,U,V,W,X,Y,Z,a0,a1,a2,a3,a4,a5,a6,a7,a8,a9,b0,b1,b2,b3],S1)) ()):=by kernel_rfl
theorem jF.vP :zW zi ⟨false,false,false⟩ (zU zi O) (reg Try.f49 14) (reg Try.f49 14).toList ([x0,x1,x2,x3,x4,x5,x6,x7,x8,x9,b,a,c,d,f,g,i,k,l,m,n,o,p,q,r,s,t,u,w,x,y,z,A,B,C,D,E,F,G,H,I,J,K,L,M,N,P,Q,R,U,V,W,X,Y,Z,a0,a1,a2,a3,a4,a5,a6,a7,a8,a9,b0,b1,b2,b3]) S =
  ( some ([x0,x1,Value.slice none 0 0,.int .i64 61,x4,x5,x6,x7,x8,x9,b,a,c,d,f,g,i,k,l,m,n,o,p,q,r,s,t,u,w,x,y,z,A,B,C,D,E,F,G,H,I,J,K,L,M,N,P,Q,R,U,V,W,X,Y,Z,a0,a1,a2,a3,a4,a5,a6,a7,a8,a9,b0,b1,b2,b3],S)):=by kernel_rfl
theorem jF.rs :type_of% (zJ @jF.r0 (zJ @jF.r1 (zJ @jF.r2 (zJ @jF.r4 (zJ @jF.r5 (zJ @jF.r6 (zJ @jF.r7 (zJ @jF.r8 (zJ @jF.r10 (zJ @jF.r9 (zJ @jF.r11 (zJ @jF.r12 (zJ @jF.r13 (zJ @jF.r3 (@jF.vP))))))))))))))):=zJ @jF.r0 (zJ @jF.r1 (zJ @jF.r2 (zJ @jF.r4 (zJ @jF.r5 (zJ @jF.r6 (zJ @jF.r7 (zJ @jF.r8 (zJ @jF.r10 (zJ @jF.r9 (zJ @jF.r11 (zJ @jF.r12 (zJ @jF.r13 (zJ @jF.r3 (@jF.vP))))))))))))))
theorem jF.runs {x0:zu}{S S1:zS}{e:wC}{T:List zu}(h:zX zi O false jF.code ([x0,zh,zh,zh,zh,zh,zh,zh,zh,zh,zh,zh,zh,zh,zh,zh,zh,zh,zh,zh,zh,zh,zh,zh,zh,zh,zh,zh,zh,zh,zh,zh,zh,zh,zh,zh,zh,zh,zh,zh,zh,zh,zh,zh,zh,zh,zh,zh,zh,zh,zh,zh,zh,zh,zh,zh,zh,zh,zh,zh,zh,zh,zh,zh,zh,zh,zh,zh,zh]) S=some (e,T,S1)) (he:e=.normal∨e=.ret)  (h0:yc (T.getD 2 zh)=true) (h1:yc (T.getD 3 zh)=true):zU zi O 49 [x0] S=some (Value.tuple #[T.getD 2 zh,T.getD 3 zh],S1) :=
 xX rfl rfl Try.func49 (by decide) jF.body (by exact h) he ((Zc ((show jl zi T S1 Try.f49.results.toList=jl zi T S1 [(ResultVar.tmp 2),(ResultVar.tmp 3)] from by kernel_rfl).trans (by simp only[jl])) (by kernel_rfl) (by simp only[List.all_cons,List.all_nil,h0,h1,Bool.and_true])).trans rfl)
end
section
abbrev wI.id :FuncId:=33
noncomputable def wI.jg :Code:=(.seq (.region 4 (reg Try.f33 4) false) (.seq (.cond (.tmp 14) Code.skip (.exit 0)) (.seq (.block 1 (.seq (.region 5 (reg Try.f33 5) false) (.seq (.region 6 (reg Try.f33 6) true) (.cond (.tmp 24) (.seq (.region 7 (reg Try.f33 7) false) Code.ret) Code.skip)))) (.region 8 (reg Try.f33 8) false))))
noncomputable def wI.code :Code:=(.seq (.region 0 (reg Try.f33 0) false) (.seq (.seq (.region 1 (reg Try.f33 1) false) (.cond (.tmp 10) (.seq (.region 2 (reg Try.f33 2) false) Code.ret) Code.skip)) (.seq (.seq (.region 3 (reg Try.f33 3) false) (.block 0 (.loop wI.jg))) (.seq (.region 9 (reg Try.f33 9) false) Code.ret))))
theorem wI.body :Try.f33.body=some wI.code:=by kernel_rfl
theorem wI.eta {T:List zu}(h:T.length=26):T=[T.getD 0 zh,T.getD 1 zh,T.getD 2 zh,T.getD 3 zh,T.getD 4 zh,T.getD 5 zh,T.getD 6 zh,T.getD 7 zh,T.getD 8 zh,T.getD 9 zh,T.getD 10 zh,T.getD 11 zh,T.getD 12 zh,T.getD 13 zh,T.getD 14 zh,T.getD 15 zh,T.getD 16 zh,T.getD 17 zh,T.getD 18 zh,T.getD 19 zh,T.getD 20 zh,T.getD 21 zh,T.getD 22 zh,T.getD 23 zh,T.getD 24 zh,T.getD 25 zh]:=(ZE T 26 h).trans (by kernel_rfl)
variable (d u x y D w z A B C f g c b i j k l m n o p q r s t:zu) (S:zS)
theorem wI.r0 :zW zi ⟨false,false,false⟩ (zU zi O) (reg Try.f33 0) (reg Try.f33 0).toList ([d,u,x,y,D,w,z,A,B,C,f,g,c,b,i,j,k,l,m,n,o,p,q,r,s,t]) S =
  ( some ([d,u,x,y,Value.bool false,w,z,A,B,C,f,g,c,b,i,j,k,l,m,n,o,p,q,r,s,t],S)):=by kernel_rfl
theorem wI.r1 :zW zi ⟨false,false,false⟩ (zU zi O) (reg Try.f33 1) (reg Try.f33 1).toList ([d,u,x,y,D,w,z,A,B,C,f,g,c,b,i,j,k,l,m,n,o,p,q,r,s,t]) S =
  (zT (yK zi 44 (zQ d) S) (fun G E=>zT (yK zi 44 (zQ u) E) (fun F H=>zT (jd zi BinOp.neq 3 G F H) (fun R I=>some ([d,u,x,y,D,w,zQ d,G,zQ u,F,R,g,c,b,i,j,k,l,m,n,o,p,q,r,s,t],I)) ()) ()) ()):=by kernel_rfl
theorem wI.r2 :zW zi ⟨false,false,false⟩ (zU zi O) (reg Try.f33 2) (reg Try.f33 2).toList ([d,u,x,y,D,w,z,A,B,C,f,g,c,b,i,j,k,l,m,n,o,p,q,r,s,t]) S =
  ( some ([d,u,x,y,Value.bool false,w,z,A,B,C,f,g,c,b,i,j,k,l,m,n,o,p,q,r,s,t],S)):=by kernel_rfl
theorem wI.r3 :zW zi ⟨false,false,false⟩ (zU zi O) (reg Try.f33 3) (reg Try.f33 3).toList ([d,u,x,y,D,w,z,A,B,C,f,g,c,b,i,j,k,l,m,n,o,p,q,r,s,t]) S =
  (zT (yK zi 44 (zQ d) S) (fun G E=>some ([d,u,x,y,D,w,z,A,B,C,f,zQ d,G,.int .i64 0,i,j,k,l,m,n,o,p,q,r,s,t],E)) ()):=by kernel_rfl
theorem wI.r4 :zW zi ⟨false,false,false⟩ (zU zi O) (reg Try.f33 4) (reg Try.f33 4).toList ([d,u,x,y,D,w,z,A,B,C,f,g,c,b,i,j,k,l,m,n,o,p,q,r,s,t]) S =
  (zT (jd zi BinOp.lss 3 b c S) (fun J E=>some ([d,u,x,y,D,w,z,A,B,C,f,g,c,b,J,j,k,l,m,n,o,p,q,r,s,t],E)) ()):=by kernel_rfl
theorem wI.r5 :zW zi ⟨false,false,false⟩ (zU zi O) (reg Try.f33 5) (reg Try.f33 5).toList ([d,u,x,y,D,w,z,A,B,C,f,g,c,b,i,j,k,l,m,n,o,p,q,r,s,t]) S =
  ( some ([d,u,x,y,D,b,z,A,B,C,f,g,c,zQ b,i,zQ b,k,l,m,n,o,p,q,r,s,t],S)):=by kernel_rfl
theorem wI.d6 :vg zi (reg Try.f33 6)=true:=by kernel_rfl
theorem wI.KF :fixed zi (reg Try.f33 6)=false:=by kernel_rfl
theorem wI.k6 :checked zi (reg Try.f33 6)=[]:=by kernel_rfl
theorem wI.g6 :again zi (reg Try.f33 6)=[]:=by kernel_rfl
theorem wI.r6 :zX zi O false (.region 6 (reg Try.f33 6) true) ([d,u,x,y,D,w,z,A,B,C,f,g,c,b,i,j,k,l,m,n,o,p,q,r,s,t]) S =
  yY (zT (jZ zi 44 (zQ d) (zQ w) S) (fun K E=>zT (zZ zi false 43 K E) (fun F H=>zT (jZ zi 44 (zQ u) (zQ w) H) (fun L I=>zT (zZ zi false 43 L I) (fun M N=>zT (jd zi BinOp.neq 43 F M N) (fun P Q=>some ([d,u,x,y,D,w,z,A,B,C,f,g,c,b,i,j,zQ d,zQ w,K,F,zQ u,zQ w,L,M,P,t],Q)) ()) ()) ()) ()) ()):=by
 rw[Jh wI.d6 wI.KF wI.k6 wI.g6];refine congrArg yY ?_;refine tP Try.f33 6 0 (v:=d) ?_;refine tP Try.f33 6 1 (v:=w) ?_;refine tD Try.f33 6 2 (fun K E=>?_)
 refine tD Try.f33 6 3 (fun F H=>?_)
 refine tP Try.f33 6 4 (v:=u) ?_;refine tP Try.f33 6 5 (v:=w) ?_;refine tD Try.f33 6 6 (fun L I=>?_)
 refine tD Try.f33 6 7 (fun M N=>?_)
 refine tD Try.f33 6 8 (fun P Q=>?_)
 kernel_rfl
theorem wI.r7 :zW zi ⟨false,false,false⟩ (zU zi O) (reg Try.f33 7) (reg Try.f33 7).toList ([d,u,x,y,D,w,z,A,B,C,f,g,c,b,i,j,k,l,m,n,o,p,q,r,s,t]) S =
  ( some ([d,u,x,y,Value.bool false,w,z,A,B,C,f,g,c,b,i,j,k,l,m,n,o,p,q,r,s,t],S)):=by kernel_rfl
theorem wI.r8 :zW zi ⟨false,false,false⟩ (zU zi O) (reg Try.f33 8) (reg Try.f33 8).toList ([d,u,x,y,D,w,z,A,B,C,f,g,c,b,i,j,k,l,m,n,o,p,q,r,s,t]) S =
  (zT (jd zi BinOp.add 3 b (.int .i64 1) S) (fun J E=>some ([d,u,x,y,D,w,z,A,B,C,f,g,c,zQ J,i,j,k,l,m,n,o,p,q,r,s,J],E)) ()):=by kernel_rfl
theorem wI.r9 :zW zi ⟨false,false,false⟩ (zU zi O) (reg Try.f33 9) (reg Try.f33 9).toList ([d,u,x,y,D,w,z,A,B,C,f,g,c,b,i,j,k,l,m,n,o,p,q,r,s,t]) S =
  ( some ([d,u,x,y,Value.bool true,w,z,A,B,C,f,g,c,b,i,j,k,l,m,n,o,p,q,r,s,t],S)):=by kernel_rfl
theorem wI.rs :type_of% (zJ @wI.r0 (zJ @wI.r1 (zJ @wI.r2 (zJ @wI.r3 (zJ @wI.r4 (zJ @wI.r5 (zJ @wI.r6 (zJ @wI.r7 (zJ @wI.r8 (@wI.r9)))))))))):=zJ @wI.r0 (zJ @wI.r1 (zJ @wI.r2 (zJ @wI.r3 (zJ @wI.r4 (zJ @wI.r5 (zJ @wI.r6 (zJ @wI.r7 (zJ @wI.r8 (@wI.r9)))))))))
theorem wI.runs {d u:zu}{S E:zS}{e:wC}{T:List zu}(h:zX zi O false wI.code ([d,u,zh,zh,zh,zh,zh,zh,zh,zh,zh,zh,zh,zh,zh,zh,zh,zh,zh,zh,zh,zh,zh,zh,zh,zh]) S=some (e,T,E)) (he:e=.normal∨e=.ret):zU zi O 33 [d,u] S=some (T.getD 4 zh,E) :=
 xX rfl rfl Try.func33 (by decide) wI.body (by exact h) he (qI (a:=T.getD 4 zh) ((show jl zi T E Try.f33.results.toList=jl zi T E [(ResultVar.tmp 4)] from by kernel_rfl).trans (by simp only[jl])) (by kernel_rfl))
end
section
abbrev slices_Equal.id :FuncId:=75
noncomputable def slices_Equal.jg :Code:=(.seq (.region 4 (reg Try.f75 4) false) (.seq (.cond (.tmp 14) Code.skip (.exit 0)) (.seq (.block 1 (.seq (.region 5 (reg Try.f75 5) false) (.seq (.region 6 (reg Try.f75 6) true) (.cond (.tmp 24) (.seq (.region 7 (reg Try.f75 7) false) Code.ret) Code.skip)))) (.region 8 (reg Try.f75 8) false))))
noncomputable def slices_Equal.code :Code:=(.seq (.region 0 (reg Try.f75 0) false) (.seq (.seq (.region 1 (reg Try.f75 1) false) (.cond (.tmp 10) (.seq (.region 2 (reg Try.f75 2) false) Code.ret) Code.skip)) (.seq (.seq (.region 3 (reg Try.f75 3) false) (.block 0 (.loop slices_Equal.jg))) (.seq (.region 9 (reg Try.f75 9) false) Code.ret))))
theorem slices_Equal.body :Try.f75.body=some slices_Equal.code:=by kernel_rfl
theorem slices_Equal.eta {T:List zu}(h:T.length=26):T=[T.getD 0 zh,T.getD 1 zh,T.getD 2 zh,T.getD 3 zh,T.getD 4 zh,T.getD 5 zh,T.getD 6 zh,T.getD 7 zh,T.getD 8 zh,T.getD 9 zh,T.getD 10 zh,T.getD 11 zh,T.getD 12 zh,T.getD 13 zh,T.getD 14 zh,T.getD 15 zh,T.getD 16 zh,T.getD 17 zh,T.getD 18 zh,T.getD 19 zh,T.getD 20 zh,T.getD 21 zh,T.getD 22 zh,T.getD 23 zh,T.getD 24 zh,T.getD 25 zh]:=(ZE T 26 h).trans (by kernel_rfl)
variable (d u x y D w z A B C f g c b i j k l m n o p q r s t:zu) (S:zS)
theorem slices_Equal.r0 :zW zi ⟨false,false,false⟩ (zU zi O) (reg Try.f75 0) (reg Try.f75 0).toList ([d,u,x,y,D,w,z,A,B,C,f,g,c,b,i,j,k,l,m,n,o,p,q,r,s,t]) S =
  ( some ([d,u,x,y,Value.bool false,w,z,A,B,C,f,g,c,b,i,j,k,l,m,n,o,p,q,r,s,t],S)):=by kernel_rfl
theorem slices_Equal.r1 :zW zi ⟨false,false,false⟩ (zU zi O) (reg Try.f75 1) (reg Try.f75 1).toList ([d,u,x,y,D,w,z,A,B,C,f,g,c,b,i,j,k,l,m,n,o,p,q,r,s,t]) S =
  (zT (yK zi 44 (zQ d) S) (fun G E=>zT (yK zi 44 (zQ u) E) (fun F H=>zT (jd zi BinOp.neq 3 G F H) (fun R I=>some ([d,u,x,y,D,w,zQ d,G,zQ u,F,R,g,c,b,i,j,k,l,m,n,o,p,q,r,s,t],I)) ()) ()) ()):=by kernel_rfl
theorem slices_Equal.r2 :zW zi ⟨false,false,false⟩ (zU zi O) (reg Try.f75 2) (reg Try.f75 2).toList ([d,u,x,y,D,w,z,A,B,C,f,g,c,b,i,j,k,l,m,n,o,p,q,r,s,t]) S =
  ( some ([d,u,x,y,Value.bool false,w,z,A,B,C,f,g,c,b,i,j,k,l,m,n,o,p,q,r,s,t],S)):=by kernel_rfl
theorem slices_Equal.r3 :zW zi ⟨false,false,false⟩ (zU zi O) (reg Try.f75 3) (reg Try.f75 3).toList ([d,u,x,y,D,w,z,A,B,C,f,g,c,b,i,j,k,l,m,n,o,p,q,r,s,t]) S =
  (zT (yK zi 44 (zQ d) S) (fun G E=>some ([d,u,x,y,D,w,z,A,B,C,f,zQ d,G,.int .i64 0,i,j,k,l,m,n,o,p,q,r,s,t],E)) ()):=by kernel_rfl
theorem slices_Equal.r4 :zW zi ⟨false,false,false⟩ (zU zi O) (reg Try.f75 4) (reg Try.f75 4).toList ([d,u,x,y,D,w,z,A,B,C,f,g,c,b,i,j,k,l,m,n,o,p,q,r,s,t]) S =
  (zT (jd zi BinOp.lss 3 b c S) (fun J E=>some ([d,u,x,y,D,w,z,A,B,C,f,g,c,b,J,j,k,l,m,n,o,p,q,r,s,t],E)) ()):=by kernel_rfl
theorem slices_Equal.r5 :zW zi ⟨false,false,false⟩ (zU zi O) (reg Try.f75 5) (reg Try.f75 5).toList ([d,u,x,y,D,w,z,A,B,C,f,g,c,b,i,j,k,l,m,n,o,p,q,r,s,t]) S =
  ( some ([d,u,x,y,D,b,z,A,B,C,f,g,c,zQ b,i,zQ b,k,l,m,n,o,p,q,r,s,t],S)):=by kernel_rfl
theorem slices_Equal.d6 :vg zi (reg Try.f75 6)=true:=by kernel_rfl
theorem slices_Equal.KF :fixed zi (reg Try.f75 6)=false:=by kernel_rfl
theorem slices_Equal.k6 :checked zi (reg Try.f75 6)=[]:=by kernel_rfl
theorem slices_Equal.g6 :again zi (reg Try.f75 6)=[]:=by kernel_rfl
theorem slices_Equal.r6 :zX zi O false (.region 6 (reg Try.f75 6) true) ([d,u,x,y,D,w,z,A,B,C,f,g,c,b,i,j,k,l,m,n,o,p,q,r,s,t]) S =
  yY (zT (jZ zi 44 (zQ d) (zQ w) S) (fun K E=>zT (zZ zi false 43 K E) (fun F H=>zT (jZ zi 44 (zQ u) (zQ w) H) (fun L I=>zT (zZ zi false 43 L I) (fun M N=>zT (jd zi BinOp.neq 43 F M N) (fun P Q=>some ([d,u,x,y,D,w,z,A,B,C,f,g,c,b,i,j,zQ d,zQ w,K,F,zQ u,zQ w,L,M,P,t],Q)) ()) ()) ()) ()) ()):=by
 rw[Jh slices_Equal.d6 slices_Equal.KF slices_Equal.k6 slices_Equal.g6];refine congrArg yY ?_;refine tP Try.f75 6 0 (v:=d) ?_;refine tP Try.f75 6 1 (v:=w) ?_;refine tD Try.f75 6 2 (fun K E=>?_)
 refine tD Try.f75 6 3 (fun F H=>?_)
 refine tP Try.f75 6 4 (v:=u) ?_;refine tP Try.f75 6 5 (v:=w) ?_;refine tD Try.f75 6 6 (fun L I=>?_)
 refine tD Try.f75 6 7 (fun M N=>?_)
 refine tD Try.f75 6 8 (fun P Q=>?_)
 kernel_rfl
theorem slices_Equal.r7 :zW zi ⟨false,false,false⟩ (zU zi O) (reg Try.f75 7) (reg Try.f75 7).toList ([d,u,x,y,D,w,z,A,B,C,f,g,c,b,i,j,k,l,m,n,o,p,q,r,s,t]) S =
  ( some ([d,u,x,y,Value.bool false,w,z,A,B,C,f,g,c,b,i,j,k,l,m,n,o,p,q,r,s,t],S)):=by kernel_rfl
theorem slices_Equal.r8 :zW zi ⟨false,false,false⟩ (zU zi O) (reg Try.f75 8) (reg Try.f75 8).toList ([d,u,x,y,D,w,z,A,B,C,f,g,c,b,i,j,k,l,m,n,o,p,q,r,s,t]) S =
  (zT (jd zi BinOp.add 3 b (.int .i64 1) S) (fun J E=>some ([d,u,x,y,D,w,z,A,B,C,f,g,c,zQ J,i,j,k,l,m,n,o,p,q,r,s,J],E)) ()):=by kernel_rfl
theorem slices_Equal.r9 :zW zi ⟨false,false,false⟩ (zU zi O) (reg Try.f75 9) (reg Try.f75 9).toList ([d,u,x,y,D,w,z,A,B,C,f,g,c,b,i,j,k,l,m,n,o,p,q,r,s,t]) S =
  ( some ([d,u,x,y,Value.bool true,w,z,A,B,C,f,g,c,b,i,j,k,l,m,n,o,p,q,r,s,t],S)):=by kernel_rfl
theorem slices_Equal.rs :type_of% (zJ @slices_Equal.r0 (zJ @slices_Equal.r1 (zJ @slices_Equal.r2 (zJ @slices_Equal.r3 (zJ @slices_Equal.r4 (zJ @slices_Equal.r5 (zJ @slices_Equal.r6 (zJ @slices_Equal.r7 (zJ @slices_Equal.r8 (@slices_Equal.r9)))))))))):=zJ @slices_Equal.r0 (zJ @slices_Equal.r1 (zJ @slices_Equal.r2 (zJ @slices_Equal.r3 (zJ @slices_Equal.r4 (zJ @slices_Equal.r5 (zJ @slices_Equal.r6 (zJ @slices_Equal.r7 (zJ @slices_Equal.r8 (@slices_Equal.r9)))))))))
theorem slices_Equal.runs {d u:zu}{S E:zS}{e:wC}{T:List zu}(h:zX zi O false slices_Equal.code ([d,u,zh,zh,zh,zh,zh,zh,zh,zh,zh,zh,zh,zh,zh,zh,zh,zh,zh,zh,zh,zh,zh,zh,zh,zh]) S=some (e,T,E)) (he:e=.normal∨e=.ret):zU zi O 75 [d,u] S=some (T.getD 4 zh,E) :=
 xX rfl rfl Try.func75 (by decide) slices_Equal.body (by exact h) he (qI (a:=T.getD 4 zh) ((show jl zi T E Try.f75.results.toList=jl zi T E [(ResultVar.tmp 4)] from by kernel_rfl).trans (by simp only[jl])) (by kernel_rfl))
end
section
abbrev wZ.id :FuncId:=70
noncomputable def wZ.jg :Code:=(.seq (.region 3 (reg Try.f70 3) false) (.seq (.cond (.tmp 10) Code.skip (.exit 0)) (.seq (.block 1 (.seq (.region 4 (reg Try.f70 4) false) (.seq (.seq (.region 5 (reg Try.f70 5) false) (.cond (.tmp 16) (.seq (.region 6 (reg Try.f70 6) false) Code.ret) Code.skip)) (.region 7 (reg Try.f70 7) false)))) (.region 8 (reg Try.f70 8) false))))
noncomputable def wZ.code :Code:=(.seq (.region 0 (reg Try.f70 0) false) (.seq (.region 1 (reg Try.f70 1) false) (.seq (.seq (.region 2 (reg Try.f70 2) false) (.block 0 (.loop wZ.jg))) (.seq (.region 9 (reg Try.f70 9) false) Code.ret))))
theorem wZ.body :Try.f70.body=some wZ.code:=by kernel_rfl
theorem wZ.eta {T:List zu}(h:T.length=24):T=[T.getD 0 zh,T.getD 1 zh,T.getD 2 zh,T.getD 3 zh,T.getD 4 zh,T.getD 5 zh,T.getD 6 zh,T.getD 7 zh,T.getD 8 zh,T.getD 9 zh,T.getD 10 zh,T.getD 11 zh,T.getD 12 zh,T.getD 13 zh,T.getD 14 zh,T.getD 15 zh,T.getD 16 zh,T.getD 17 zh,T.getD 18 zh,T.getD 19 zh,T.getD 20 zh,T.getD 21 zh,T.getD 22 zh,T.getD 23 zh]:=(ZE T 24 h).trans (by kernel_rfl)
variable (r v B s w t z x y u b c d f g i j k l m n o p q:zu) (S:zS)
theorem wZ.r0 :zW zi ⟨false,false,false⟩ (zU zi O) (reg Try.f70 0) (reg Try.f70 0).toList ([r,v,B,s,w,t,z,x,y,u,b,c,d,f,g,i,j,k,l,m,n,o,p,q]) S =
  ( some ([r,v,Value.bool false,s,w,t,z,x,y,u,b,c,d,f,g,i,j,k,l,m,n,o,p,q],S)):=by kernel_rfl
theorem wZ.r1 :zW zi ⟨false,false,false⟩ (zU zi O) (reg Try.f70 1) (reg Try.f70 1).toList ([r,v,B,s,w,t,z,x,y,u,b,c,d,f,g,i,j,k,l,m,n,o,p,q]) S =
  (zT (Ya zi 126 none S) (fun E A=>some ([r,v,B,E,w,t,zQ E,x,y,u,b,c,d,f,g,i,j,k,l,m,n,o,p,q],A)) ()):=by kernel_rfl
theorem wZ.r2 :zW zi ⟨false,false,false⟩ (zU zi O) (reg Try.f70 2) (reg Try.f70 2).toList ([r,v,B,s,w,t,z,x,y,u,b,c,d,f,g,i,j,k,l,m,n,o,p,q]) S =
  (zT (yK zi 44 (zQ r) S) (fun C A=>some ([r,v,B,s,w,t,z,zQ r,C,.int .i64 0,b,c,d,f,g,i,j,k,l,m,n,o,p,q],A)) ()):=by kernel_rfl
theorem wZ.r3 :zW zi ⟨false,false,false⟩ (zU zi O) (reg Try.f70 3) (reg Try.f70 3).toList ([r,v,B,s,w,t,z,x,y,u,b,c,d,f,g,i,j,k,l,m,n,o,p,q]) S =
  (zT (jd zi BinOp.lss 3 u y S) (fun E A=>some ([r,v,B,s,w,t,z,x,y,u,E,c,d,f,g,i,j,k,l,m,n,o,p,q],A)) ()):=by kernel_rfl
theorem wZ.r4 :zW zi ⟨false,false,false⟩ (zU zi O) (reg Try.f70 4) (reg Try.f70 4).toList ([r,v,B,s,w,t,z,x,y,u,b,c,d,f,g,i,j,k,l,m,n,o,p,q]) S =
  (zT (jZ zi 44 x u S) (fun E A=>zT (zZ zi false 43 E A) (fun C F=>zT (wR zi 43 F) (fun D G=>zT (jI zi 43 D (zQ C) G) (fun H I=>some ([r,v,B,s,w,D,z,x,y,u,b,E,C,f,g,i,j,k,l,m,n,o,p,q],I)) ()) ()) ()) ()):=by kernel_rfl
theorem wZ.r5 :zW zi ⟨false,false,false⟩ (zU zi O) (reg Try.f70 5) (reg Try.f70 5).toList ([r,v,B,s,w,t,z,x,y,u,b,c,d,f,g,i,j,k,l,m,n,o,p,q]) S =
  (zT (jf zi 43 t 0 S) (fun C A=>zT (zZ zi false 3 C A) (fun D F=>zT (JH zi false 126 (zQ s) D false F) (fun H G=>some ([r,v,B,s,w,t,z,x,y,u,b,c,d,zQ s,C,D,H,k,l,m,n,o,p,q],G)) ()) ()) ()):=by kernel_rfl
theorem wZ.r6 :zW zi ⟨false,false,false⟩ (zU zi O) (reg Try.f70 6) (reg Try.f70 6).toList ([r,v,B,s,w,t,z,x,y,u,b,c,d,f,g,i,j,k,l,m,n,o,p,q]) S =
  ( some ([r,v,Value.bool false,s,w,t,z,x,y,u,b,c,d,f,g,i,j,k,l,m,n,o,p,q],S)):=by kernel_rfl
theorem wZ.r7 :zW zi ⟨false,false,false⟩ (zU zi O) (reg Try.f70 7) (reg Try.f70 7).toList ([r,v,B,s,w,t,z,x,y,u,b,c,d,f,g,i,j,k,l,m,n,o,p,q]) S =
  (zT (jf zi 43 t 0 S) (fun C A=>zT (zZ zi false 3 C A) (fun D F=>zT (ZQ zi 126 (zQ s) D (Value.bool true) F) (fun H G=>some ([r,v,B,s,w,t,z,x,y,u,b,c,d,f,g,i,j,zQ s,C,D,n,o,p,q],G)) ()) ()) ()):=by kernel_rfl
theorem wZ.r8 :zW zi ⟨false,false,false⟩ (zU zi O) (reg Try.f70 8) (reg Try.f70 8).toList ([r,v,B,s,w,t,z,x,y,u,b,c,d,f,g,i,j,k,l,m,n,o,p,q]) S =
  (zT (jd zi BinOp.add 3 u (.int .i64 1) S) (fun E A=>some ([r,v,B,s,w,t,z,x,y,zQ E,b,c,d,f,g,i,j,k,l,m,E,o,p,q],A)) ()):=by kernel_rfl
theorem wZ.r9 :zW zi ⟨false,false,false⟩ (zU zi O) (reg Try.f70 9) (reg Try.f70 9).toList ([r,v,B,s,w,t,z,x,y,u,b,c,d,f,g,i,j,k,l,m,n,o,p,q]) S =
  (zT (yK zi 44 (zQ r) S) (fun C A=>zT (jd zi BinOp.leq 3 C (.int .i64 3) A) (fun D F=>some ([r,v,D,s,w,t,z,x,y,u,b,c,d,f,g,i,j,k,l,m,n,zQ r,C,zQ D],F)) ()) ()):=by kernel_rfl
theorem wZ.rs :type_of% (zJ @wZ.r0 (zJ @wZ.r1 (zJ @wZ.r2 (zJ @wZ.r3 (zJ @wZ.r4 (zJ @wZ.r5 (zJ @wZ.r6 (zJ @wZ.r7 (zJ @wZ.r8 (@wZ.r9)))))))))):=zJ @wZ.r0 (zJ @wZ.r1 (zJ @wZ.r2 (zJ @wZ.r3 (zJ @wZ.r4 (zJ @wZ.r5 (zJ @wZ.r6 (zJ @wZ.r7 (zJ @wZ.r8 (@wZ.r9)))))))))
theorem wZ.runs {r:zu}{S A:zS}{e:wC}{T:List zu}(h:zX zi O false wZ.code ([r,zh,zh,zh,zh,zh,zh,zh,zh,zh,zh,zh,zh,zh,zh,zh,zh,zh,zh,zh,zh,zh,zh,zh]) zS.empty=some (e,T,A)) (he:e=.normal∨e=.ret) (hca:[r].all (jw 16)=true) (hcv:jw 16 (T.getD 2 zh)=true):zU zi O 70 [r] S=some (T.getD 2 zh,S) :=
 kC rfl rfl Try.func70 (by decide) wZ.body (by exact h) he (qI (a:=T.getD 2 zh) ((show jl zi T A Try.f70.results.toList=jl zi T A [(ResultVar.tmp 2)] from by kernel_rfl).trans (by simp only[jl])) (by kernel_rfl)) hca hcv
end
section
abbrev wE.id :FuncId:=62
noncomputable def wE.jg :Code:=(.seq (.region 5 (reg Try.f62 5) false) (.seq (.cond (.tmp 23) Code.skip (.exit 0)) (.seq (.block 1 (.seq (.region 6 (reg Try.f62 6) false) (.seq (.region 7 (reg Try.f62 7) false) (.seq (.seq (.region 8 (reg Try.f62 8) false) (.cond (.tmp 32) (.seq (.region 9 (reg Try.f62 9) false) Code.ret) Code.skip)) (.region 10 (reg Try.f62 10) false))))) (.region 11 (reg Try.f62 11) false))))
noncomputable def wE.code :Code:=(.seq (.region 0 (reg Try.f62 0) false) (.seq (.seq (.region 1 (reg Try.f62 1) false) (.cond (.tmp 12) (.seq (.region 2 (reg Try.f62 2) false) Code.ret) Code.skip)) (.seq (.region 3 (reg Try.f62 3) false) (.seq (.seq (.region 4 (reg Try.f62 4) false) (.block 0 (.loop wE.jg))) (.seq (.region 12 (reg Try.f62 12) false) Code.ret)))))
theorem wE.body :Try.f62.body=some wE.code:=by kernel_rfl
theorem wE.eta {T:List zu}(h:T.length=39):T=[T.getD 0 zh,T.getD 1 zh,T.getD 2 zh,T.getD 3 zh,T.getD 4 zh,T.getD 5 zh,T.getD 6 zh,T.getD 7 zh,T.getD 8 zh,T.getD 9 zh,T.getD 10 zh,T.getD 11 zh,T.getD 12 zh,T.getD 13 zh,T.getD 14 zh,T.getD 15 zh,T.getD 16 zh,T.getD 17 zh,T.getD 18 zh,T.getD 19 zh,T.getD 20 zh,T.getD 21 zh,T.getD 22 zh,T.getD 23 zh,T.getD 24 zh,T.getD 25 zh,T.getD 26 zh,T.getD 27 zh,T.getD 28 zh,T.getD 29 zh,T.getD 30 zh,T.getD 31 zh,T.getD 32 zh,T.getD 33 zh,T.getD 34 zh,T.getD 35 zh,T.getD 36 zh,T.getD 37 zh,T.getD 38 zh]:=(ZE T 39 h).trans (by kernel_rfl)
variable (F J N P H M K L I G d f g i j k l m n o b c a p q r s t u v w x y z A B C D E:zu) (S:zS)
theorem wE.r0 :zW zi ⟨false,false,false⟩ (zU zi O) (reg Try.f62 0) (reg Try.f62 0).toList ([F,J,N,P,H,M,K,L,I,G,d,f,g,i,j,k,l,m,n,o,b,c,a,p,q,r,s,t,u,v,w,x,y,z,A,B,C,D,E]) S =
  ( some ([F,J,Value.slice none 0 0,.int .i64 0,H,M,K,L,I,G,d,f,g,i,j,k,l,m,n,o,b,c,a,p,q,r,s,t,u,v,w,x,y,z,A,B,C,D,E],S)):=by kernel_rfl
theorem wE.r1 :zW zi ⟨false,false,false⟩ (zU zi O) (reg Try.f62 1) (reg Try.f62 1).toList ([F,J,N,P,H,M,K,L,I,G,d,f,g,i,j,k,l,m,n,o,b,c,a,p,q,r,s,t,u,v,w,x,y,z,A,B,C,D,E]) S =
  (zT ((zU zi O) 70 [(zQ (zQ F))] S) (fun R Q=>zT (qo zi UnOp.not R Q) (fun U X=>some ([F,J,N,P,H,M,K,L,I,G,zQ F,R,U,i,j,k,l,m,n,o,b,c,a,p,q,r,s,t,u,v,w,x,y,z,A,B,C,D,E],X)) ()) ()):=by kernel_rfl
theorem wE.r2 :zW zi ⟨false,false,false⟩ (zU zi O) (reg Try.f62 2) (reg Try.f62 2).toList ([F,J,N,P,H,M,K,L,I,G,d,f,g,i,j,k,l,m,n,o,b,c,a,p,q,r,s,t,u,v,w,x,y,z,A,B,C,D,E]) S =
  ( some ([F,J,Value.slice none 0 0,.int .i64 61,H,M,K,L,I,G,d,f,g,i,j,k,l,m,n,o,b,c,a,p,q,r,s,t,u,v,w,x,y,z,A,B,C,D,E],S)):=by kernel_rfl
theorem wE.r3 :zW zi ⟨false,false,false⟩ (zU zi O) (reg Try.f62 3) (reg Try.f62 3).toList ([F,J,N,P,H,M,K,L,I,G,d,f,g,i,j,k,l,m,n,o,b,c,a,p,q,r,s,t,u,v,w,x,y,z,A,B,C,D,E]) S =
  (zT (yK zi 44 (zQ F) S) (fun R Q=>zT (yO zi 24 1 [(0,R)] Q) (fun U X=>zT ((zU zi O) 63 [(zQ U)] X) (fun W Y=>zT (jv W 0 Y) (fun v5 Z=>zT (jv (jh 0 W) 1 Z) (fun v6 S5=>some ([F,J,N,P,v5,v6,K,L,I,G,d,f,g,jh 1 (jh 0 W),zQ F,R,U,zQ W,zQ v5,zQ v6,b,c,a,p,q,r,s,t,u,v,w,x,y,z,A,B,C,D,E],S5)) ()) ()) ()) ()) ()):=by kernel_rfl
theorem wE.r4 :zW zi ⟨false,false,false⟩ (zU zi O) (reg Try.f62 4) (reg Try.f62 4).toList ([F,J,N,P,H,M,K,L,I,G,d,f,g,i,j,k,l,m,n,o,b,c,a,p,q,r,s,t,u,v,w,x,y,z,A,B,C,D,E]) S =
  (zT (yK zi 44 (zQ F) S) (fun R Q=>some ([F,J,N,P,H,M,K,L,I,G,d,f,g,i,j,k,l,m,n,o,zQ F,R,.int .i64 0,p,q,r,s,t,u,v,w,x,y,z,A,B,C,D,E],Q)) ()):=by kernel_rfl
theorem wE.r5 :zW zi ⟨false,false,false⟩ (zU zi O) (reg Try.f62 5) (reg Try.f62 5).toList ([F,J,N,P,H,M,K,L,I,G,d,f,g,i,j,k,l,m,n,o,b,c,a,p,q,r,s,t,u,v,w,x,y,z,A,B,C,D,E]) S =
  (zT (jd zi BinOp.lss 3 a c S) (fun V Q=>some ([F,J,N,P,H,M,K,L,I,G,d,f,g,i,j,k,l,m,n,o,b,c,a,V,q,r,s,t,u,v,w,x,y,z,A,B,C,D,E],Q)) ()):=by kernel_rfl
theorem wE.r6 :zW zi ⟨false,false,false⟩ (zU zi O) (reg Try.f62 6) (reg Try.f62 6).toList ([F,J,N,P,H,M,K,L,I,G,d,f,g,i,j,k,l,m,n,o,b,c,a,p,q,r,s,t,u,v,w,x,y,z,A,B,C,D,E]) S =
  (zT (jZ zi 44 b a S) (fun V Q=>zT (zZ zi false 43 V Q) (fun R X=>zT (wR zi 43 X) (fun U Y=>zT (jI zi 43 U (zQ R) Y) (fun W Z=>some ([F,J,N,P,H,M,K,U,I,G,d,f,g,i,j,k,l,m,n,o,b,c,a,p,V,R,s,t,u,v,w,x,y,z,A,B,C,D,E],Z)) ()) ()) ()) ()):=by kernel_rfl
theorem wE.r7 :zW zi ⟨false,false,false⟩ (zU zi O) (reg Try.f62 7) (reg Try.f62 7).toList ([F,J,N,P,H,M,K,L,I,G,d,f,g,i,j,k,l,m,n,o,b,c,a,p,q,r,s,t,u,v,w,x,y,z,A,B,C,D,E]) S =
  (zT (zZ zi false 43 L S) (fun V Q=>zT ((zU zi O) 71 [(zQ V)] Q) (fun R X=>zT (jv R 0 X) (fun W Y=>zT (jv (jh 0 R) 1 Y) (fun v4 Z=>some ([F,J,N,P,H,M,K,L,W,v4,d,f,g,i,j,k,l,m,n,o,b,c,a,p,q,r,jh 1 (jh 0 R),V,zQ R,zQ W,zQ v4,x,y,z,A,B,C,D,E],Z)) ()) ()) ()) ()):=by kernel_rfl
theorem wE.r8 :zW zi ⟨false,false,false⟩ (zU zi O) (reg Try.f62 8) (reg Try.f62 8).toList ([F,J,N,P,H,M,K,L,I,G,d,f,g,i,j,k,l,m,n,o,b,c,a,p,q,r,s,t,u,v,w,x,y,z,A,B,C,D,E]) S =
  (zT (jd zi BinOp.neq 64 (zQ G) (.int .i64 0) S) (fun R Q=>some ([F,J,N,P,H,M,K,L,I,G,d,f,g,i,j,k,l,m,n,o,b,c,a,p,q,r,s,t,u,v,w,zQ G,R,z,A,B,C,D,E],Q)) ()):=by kernel_rfl
theorem wE.r9 :zW zi ⟨false,false,false⟩ (zU zi O) (reg Try.f62 9) (reg Try.f62 9).toList ([F,J,N,P,H,M,K,L,I,G,d,f,g,i,j,k,l,m,n,o,b,c,a,p,q,r,s,t,u,v,w,x,y,z,A,B,C,D,E]) S =
  ( some ([F,J,Value.slice none 0 0,G,H,M,K,L,I,zQ G,d,f,g,i,j,k,l,m,n,o,b,c,a,p,q,r,s,t,u,v,w,x,y,zQ G,A,B,C,D,E],S)):=by kernel_rfl
theorem wE.r10 :zW zi ⟨false,false,false⟩ (zU zi O) (reg Try.f62 10) (reg Try.f62 10).toList ([F,J,N,P,H,M,K,L,I,G,d,f,g,i,j,k,l,m,n,o,b,c,a,p,q,r,s,t,u,v,w,x,y,z,A,B,C,D,E]) S =
  (zT (yF zi 33 33 H (zQ I) S) (fun U Q=>some ([F,J,N,P,U,M,K,L,I,G,d,f,g,i,j,k,l,m,n,o,b,c,a,p,q,r,s,t,u,v,w,x,y,z,zQ H,zQ I,zQ U,D,E],Q)) ()):=by kernel_rfl
theorem wE.r11 :zW zi ⟨false,false,false⟩ (zU zi O) (reg Try.f62 11) (reg Try.f62 11).toList ([F,J,N,P,H,M,K,L,I,G,d,f,g,i,j,k,l,m,n,o,b,c,a,p,q,r,s,t,u,v,w,x,y,z,A,B,C,D,E]) S =
  (zT (jd zi BinOp.add 3 a (.int .i64 1) S) (fun V Q=>some ([F,J,N,P,H,M,K,L,I,G,d,f,g,i,j,k,l,m,n,o,b,c,zQ V,p,q,r,s,t,u,v,w,x,y,z,A,B,C,V,E],Q)) ()):=by kernel_rfl
theorem wE.r12 :zW zi ⟨false,false,false⟩ (zU zi O) (reg Try.f62 12) (reg Try.f62 12).toList ([F,J,N,P,H,M,K,L,I,G,d,f,g,i,j,k,l,m,n,o,b,c,a,p,q,r,s,t,u,v,w,x,y,z,A,B,C,D,E]) S =
  ( some ([F,J,H,.int .i64 0,zQ H,M,K,L,I,G,d,f,g,i,j,k,l,m,n,o,b,c,a,p,q,r,s,t,u,v,w,x,y,z,A,B,C,D,zQ H],S)):=by kernel_rfl
theorem wE.rs :type_of% (zJ @wE.r0 (zJ @wE.r1 (zJ @wE.r2 (zJ @wE.r3 (zJ @wE.r4 (zJ @wE.r5 (zJ @wE.r6 (zJ @wE.r7 (zJ @wE.r8 (zJ @wE.r9 (zJ @wE.r10 (zJ @wE.r11 (@wE.r12))))))))))))):=zJ @wE.r0 (zJ @wE.r1 (zJ @wE.r2 (zJ @wE.r3 (zJ @wE.r4 (zJ @wE.r5 (zJ @wE.r6 (zJ @wE.r7 (zJ @wE.r8 (zJ @wE.r9 (zJ @wE.r10 (zJ @wE.r11 (@wE.r12))))))))))))
theorem wE.runs {F:zu}{S Q:zS}{e:wC}{T:List zu}(h:zX zi O false wE.code ([F,zh,zh,zh,zh,zh,zh,zh,zh,zh,zh,zh,zh,zh,zh,zh,zh,zh,zh,zh,zh,zh,zh,zh,zh,zh,zh,zh,zh,zh,zh,zh,zh,zh,zh,zh,zh,zh,zh]) zS.empty=some (e,T,Q)) (he:e=.normal∨e=.ret)  (h0:yc (T.getD 2 zh)=true) (h1:yc (T.getD 3 zh)=true) (hca:[F].all (jw 16)=true) (hcv:jw 16 (Value.tuple #[T.getD 2 zh,T.getD 3 zh])=true):zU zi O 62 [F] S=some (Value.tuple #[T.getD 2 zh,T.getD 3 zh],S) :=
 kC rfl rfl Try.func62 (by decide) wE.body (by exact h) he ((Zc ((show jl zi T Q Try.f62.results.toList=jl zi T Q [(ResultVar.tmp 2),(ResultVar.tmp 3)] from by kernel_rfl).trans (by simp only[jl])) (by kernel_rfl) (by simp only[List.all_cons,List.all_nil,h0,h1,Bool.and_true])).trans rfl) hca hcv
end
section
abbrev jD.id :FuncId:=50
noncomputable def jD.jg :Code:=(.seq (.region 10 (reg Try.f50 10) false) (.seq (.cond (.tmp 30) Code.skip (.exit 2)) (.seq (.block 3 (.seq (.region 11 (reg Try.f50 11) false) (.seq (.region 12 (reg Try.f50 12) false) (.cond (.tmp 37) (.seq (.region 13 (reg Try.f50 13) false) Code.ret) Code.skip)))) (.region 14 (reg Try.f50 14) false))))
noncomputable def jD.qE :Code:=(.seq (.region 5 (reg Try.f50 5) false) (.seq (.cond (.tmp 18) Code.skip (.exit 0)) (.seq (.block 1 (.seq (.region 6 (reg Try.f50 6) false) (.seq (.seq (.region 7 (reg Try.f50 7) false) (.cond (.tmp 24) (.seq (.region 8 (reg Try.f50 8) false) Code.ret) Code.skip)) (.seq (.seq (.region 9 (reg Try.f50 9) false) (.block 2 (.loop jD.jg))) (.region 15 (reg Try.f50 15) false))))) (.region 16 (reg Try.f50 16) false))))
noncomputable def jD.code :Code:=(.seq (.region 0 (reg Try.f50 0) false) (.seq (.seq (.region 1 (reg Try.f50 1) false) (.cond (.tmp 11) (.seq (.region 2 (reg Try.f50 2) false) Code.ret) Code.skip)) (.seq (.region 3 (reg Try.f50 3) false) (.seq (.seq (.region 4 (reg Try.f50 4) false) (.block 0 (.loop jD.qE))) (.seq (.region 17 (reg Try.f50 17) false) Code.ret)))))
theorem jD.body :Try.f50.body=some jD.code:=by kernel_rfl
theorem jD.eta {T:List zu}(h:T.length=51):T=[T.getD 0 zh,T.getD 1 zh,T.getD 2 zh,T.getD 3 zh,T.getD 4 zh,T.getD 5 zh,T.getD 6 zh,T.getD 7 zh,T.getD 8 zh,T.getD 9 zh,T.getD 10 zh,T.getD 11 zh,T.getD 12 zh,T.getD 13 zh,T.getD 14 zh,T.getD 15 zh,T.getD 16 zh,T.getD 17 zh,T.getD 18 zh,T.getD 19 zh,T.getD 20 zh,T.getD 21 zh,T.getD 22 zh,T.getD 23 zh,T.getD 24 zh,T.getD 25 zh,T.getD 26 zh,T.getD 27 zh,T.getD 28 zh,T.getD 29 zh,T.getD 30 zh,T.getD 31 zh,T.getD 32 zh,T.getD 33 zh,T.getD 34 zh,T.getD 35 zh,T.getD 36 zh,T.getD 37 zh,T.getD 38 zh,T.getD 39 zh,T.getD 40 zh,T.getD 41 zh,T.getD 42 zh,T.getD 43 zh,T.getD 44 zh,T.getD 45 zh,T.getD 46 zh,T.getD 47 zh,T.getD 48 zh,T.getD 49 zh,T.getD 50 zh]:=(ZE T 51 h).trans (by kernel_rfl)
variable (U Y x2 x3 W X V Z x8 x9 i j k l m c d a n o p q r s t u v f g b w x y z A B C D E F G H I J K L M N P Q R:zu) (S:zS)
theorem jD.r0 :zW zi ⟨false,false,false⟩ (zU zi O) (reg Try.f50 0) (reg Try.f50 0).toList ([U,Y,x2,x3,W,X,V,Z,x8,x9,i,j,k,l,m,c,d,a,n,o,p,q,r,s,t,u,v,f,g,b,w,x,y,z,A,B,C,D,E,F,G,H,I,J,K,L,M,N,P,Q,R]) S =
  ( some ([U,Y,Value.slice none 0 0,.int .i64 0,W,X,V,Z,x8,x9,i,j,k,l,m,c,d,a,n,o,p,q,r,s,t,u,v,f,g,b,w,x,y,z,A,B,C,D,E,F,G,H,I,J,K,L,M,N,P,Q,R],S)):=by kernel_rfl
theorem jD.r1 :zW zi ⟨false,false,false⟩ (zU zi O) (reg Try.f50 1) (reg Try.f50 1).toList ([U,Y,x2,x3,W,X,V,Z,x8,x9,i,j,k,l,m,c,d,a,n,o,p,q,r,s,t,u,v,f,g,b,w,x,y,z,A,B,C,D,E,F,G,H,I,J,K,L,M,N,P,Q,R]) S =
  (zT (yK zi 44 (zQ U) S) (fun v1 S1=>zT (jd zi BinOp.gtr 3 v1 (.int .i64 3) S1) (fun v2 S2=>some ([U,Y,x2,x3,W,X,V,Z,x8,zQ U,v1,v2,k,l,m,c,d,a,n,o,p,q,r,s,t,u,v,f,g,b,w,x,y,z,A,B,C,D,E,F,G,H,I,J,K,L,M,N,P,Q,R],S2)) ()) ()):=by kernel_rfl
theorem jD.r2 :zW zi ⟨false,false,false⟩ (zU zi O) (reg Try.f50 2) (reg Try.f50 2).toList ([U,Y,x2,x3,W,X,V,Z,x8,x9,i,j,k,l,m,c,d,a,n,o,p,q,r,s,t,u,v,f,g,b,w,x,y,z,A,B,C,D,E,F,G,H,I,J,K,L,M,N,P,Q,R]) S =
  ( some ([U,Y,Value.slice none 0 0,.int .i64 61,W,X,V,Z,x8,x9,i,j,k,l,m,c,d,a,n,o,p,q,r,s,t,u,v,f,g,b,w,x,y,z,A,B,C,D,E,F,G,H,I,J,K,L,M,N,P,Q,R],S)):=by kernel_rfl
theorem jD.r3 :zW zi ⟨false,false,false⟩ (zU zi O) (reg Try.f50 3) (reg Try.f50 3).toList ([U,Y,x2,x3,W,X,V,Z,x8,x9,i,j,k,l,m,c,d,a,n,o,p,q,r,s,t,u,v,f,g,b,w,x,y,z,A,B,C,D,E,F,G,H,I,J,K,L,M,N,P,Q,R]) S =
  (zT (yK zi 44 (zQ U) S) (fun v1 S1=>zT (yO zi 24 1 [(0,v1)] S1) (fun v2 S2=>some ([U,Y,x2,x3,v2,X,V,Z,x8,x9,i,j,zQ U,v1,zQ v2,c,d,a,n,o,p,q,r,s,t,u,v,f,g,b,w,x,y,z,A,B,C,D,E,F,G,H,I,J,K,L,M,N,P,Q,R],S2)) ()) ()):=by kernel_rfl
theorem jD.r4 :zW zi ⟨false,false,false⟩ (zU zi O) (reg Try.f50 4) (reg Try.f50 4).toList ([U,Y,x2,x3,W,X,V,Z,x8,x9,i,j,k,l,m,c,d,a,n,o,p,q,r,s,t,u,v,f,g,b,w,x,y,z,A,B,C,D,E,F,G,H,I,J,K,L,M,N,P,Q,R]) S =
  (zT (yK zi 44 (zQ U) S) (fun v1 S1=>some ([U,Y,x2,x3,W,X,V,Z,x8,x9,i,j,k,l,m,zQ U,v1,.int .i64 0,n,o,p,q,r,s,t,u,v,f,g,b,w,x,y,z,A,B,C,D,E,F,G,H,I,J,K,L,M,N,P,Q,R],S1)) ()):=by kernel_rfl
theorem jD.r5 :zW zi ⟨false,false,false⟩ (zU zi O) (reg Try.f50 5) (reg Try.f50 5).toList ([U,Y,x2,x3,W,X,V,Z,x8,x9,i,j,k,l,m,c,d,a,n,o,p,q,r,s,t,u,v,f,g,b,w,x,y,z,A,B,C,D,E,F,G,H,I,J,K,L,M,N,P,Q,R]) S =
  (zT (jd zi BinOp.lss 3 a d S) (fun v0 S1=>some ([U,Y,x2,x3,W,X,V,Z,x8,x9,i,j,k,l,m,c,d,a,v0,o,p,q,r,s,t,u,v,f,g,b,w,x,y,z,A,B,C,D,E,F,G,H,I,J,K,L,M,N,P,Q,R],S1)) ()):=by kernel_rfl
theorem jD.r6 :zW zi ⟨false,false,false⟩ (zU zi O) (reg Try.f50 6) (reg Try.f50 6).toList ([U,Y,x2,x3,W,X,V,Z,x8,x9,i,j,k,l,m,c,d,a,n,o,p,q,r,s,t,u,v,f,g,b,w,x,y,z,A,B,C,D,E,F,G,H,I,J,K,L,M,N,P,Q,R]) S =
  (zT (jZ zi 44 c (zQ a) S) (fun v1 S1=>zT (zZ zi false 43 v1 S1) (fun v2 S2=>zT (wR zi 43 S2) (fun v3 S3=>zT (jI zi 43 v3 (zQ v2) S3) (fun v5 S4=>some ([U,Y,x2,x3,W,a,v3,Z,x8,x9,i,j,k,l,m,c,d,zQ a,n,zQ a,v1,v2,r,s,t,u,v,f,g,b,w,x,y,z,A,B,C,D,E,F,G,H,I,J,K,L,M,N,P,Q,R],S4)) ()) ()) ()) ()):=by kernel_rfl
theorem jD.r7 :zW zi ⟨false,false,false⟩ (zU zi O) (reg Try.f50 7) (reg Try.f50 7).toList ([U,Y,x2,x3,W,X,V,Z,x8,x9,i,j,k,l,m,c,d,a,n,o,p,q,r,s,t,u,v,f,g,b,w,x,y,z,A,B,C,D,E,F,G,H,I,J,K,L,M,N,P,Q,R]) S =
  (zT (zZ zi false 43 V S) (fun v0 S1=>zT ((zU zi O) 48 [(zQ v0)] S1) (fun v1 S2=>zT (qo zi UnOp.not v1 S2) (fun v2 S3=>some ([U,Y,x2,x3,W,X,V,Z,x8,x9,i,j,k,l,m,c,d,a,n,o,p,q,v0,v1,v2,u,v,f,g,b,w,x,y,z,A,B,C,D,E,F,G,H,I,J,K,L,M,N,P,Q,R],S3)) ()) ()) ()):=by kernel_rfl
theorem jD.r8 :zW zi ⟨false,false,false⟩ (zU zi O) (reg Try.f50 8) (reg Try.f50 8).toList ([U,Y,x2,x3,W,X,V,Z,x8,x9,i,j,k,l,m,c,d,a,n,o,p,q,r,s,t,u,v,f,g,b,w,x,y,z,A,B,C,D,E,F,G,H,I,J,K,L,M,N,P,Q,R]) S =
  ( some ([U,Y,Value.slice none 0 0,.int .i64 61,W,X,V,Z,x8,x9,i,j,k,l,m,c,d,a,n,o,p,q,r,s,t,u,v,f,g,b,w,x,y,z,A,B,C,D,E,F,G,H,I,J,K,L,M,N,P,Q,R],S)):=by kernel_rfl
theorem jD.r9 :zW zi ⟨false,false,false⟩ (zU zi O) (reg Try.f50 9) (reg Try.f50 9).toList ([U,Y,x2,x3,W,X,V,Z,x8,x9,i,j,k,l,m,c,d,a,n,o,p,q,r,s,t,u,v,f,g,b,w,x,y,z,A,B,C,D,E,F,G,H,I,J,K,L,M,N,P,Q,R]) S =
  (zT (WZ zi false 44 (zQ U) none (some (zQ X)) S) (fun v2 S1=>zT (yK zi 44 v2 S1) (fun v3 S2=>some ([U,Y,x2,x3,W,X,V,Z,x8,x9,i,j,k,l,m,c,d,a,n,o,p,q,r,s,t,zQ U,zQ X,v2,v3,.int .i64 0,w,x,y,z,A,B,C,D,E,F,G,H,I,J,K,L,M,N,P,Q,R],S2)) ()) ()):=by kernel_rfl
theorem jD.r10 :zW zi ⟨false,false,false⟩ (zU zi O) (reg Try.f50 10) (reg Try.f50 10).toList ([U,Y,x2,x3,W,X,V,Z,x8,x9,i,j,k,l,m,c,d,a,n,o,p,q,r,s,t,u,v,f,g,b,w,x,y,z,A,B,C,D,E,F,G,H,I,J,K,L,M,N,P,Q,R]) S =
  (zT (jd zi BinOp.lss 3 b g S) (fun v0 S1=>some ([U,Y,x2,x3,W,X,V,Z,x8,x9,i,j,k,l,m,c,d,a,n,o,p,q,r,s,t,u,v,f,g,b,v0,x,y,z,A,B,C,D,E,F,G,H,I,J,K,L,M,N,P,Q,R],S1)) ()):=by kernel_rfl
theorem jD.r11 :zW zi ⟨false,false,false⟩ (zU zi O) (reg Try.f50 11) (reg Try.f50 11).toList ([U,Y,x2,x3,W,X,V,Z,x8,x9,i,j,k,l,m,c,d,a,n,o,p,q,r,s,t,u,v,f,g,b,w,x,y,z,A,B,C,D,E,F,G,H,I,J,K,L,M,N,P,Q,R]) S =
  (zT (jZ zi 44 f b S) (fun v0 S1=>zT (zZ zi false 43 v0 S1) (fun v1 S2=>zT (wR zi 43 S2) (fun v2 S3=>zT (jI zi 43 v2 (zQ v1) S3) (fun v3 S4=>some ([U,Y,x2,x3,W,X,V,Z,v2,x9,i,j,k,l,m,c,d,a,n,o,p,q,r,s,t,u,v,f,g,b,w,v0,v1,z,A,B,C,D,E,F,G,H,I,J,K,L,M,N,P,Q,R],S4)) ()) ()) ()) ()):=by kernel_rfl
theorem jD.r12 :zW zi ⟨false,false,false⟩ (zU zi O) (reg Try.f50 12) (reg Try.f50 12).toList ([U,Y,x2,x3,W,X,V,Z,x8,x9,i,j,k,l,m,c,d,a,n,o,p,q,r,s,t,u,v,f,g,b,w,x,y,z,A,B,C,D,E,F,G,H,I,J,K,L,M,N,P,Q,R]) S =
  (zT (jf zi 43 x8 0 S) (fun v0 S1=>zT (zZ zi false 3 v0 S1) (fun v1 S2=>zT (jf zi 43 V 0 S2) (fun v2 S3=>zT (zZ zi false 3 v2 S3) (fun v3 S4=>zT (jd zi BinOp.eql 3 v1 v3 S4) (fun v4 S5=>some ([U,Y,x2,x3,W,X,V,Z,x8,x9,i,j,k,l,m,c,d,a,n,o,p,q,r,s,t,u,v,f,g,b,w,x,y,v0,v1,v2,v3,v4,E,F,G,H,I,J,K,L,M,N,P,Q,R],S5)) ()) ()) ()) ()) ()):=by kernel_rfl
theorem jD.r13 :zW zi ⟨false,false,false⟩ (zU zi O) (reg Try.f50 13) (reg Try.f50 13).toList ([U,Y,x2,x3,W,X,V,Z,x8,x9,i,j,k,l,m,c,d,a,n,o,p,q,r,s,t,u,v,f,g,b,w,x,y,z,A,B,C,D,E,F,G,H,I,J,K,L,M,N,P,Q,R]) S =
  ( some ([U,Y,Value.slice none 0 0,.int .i64 61,W,X,V,Z,x8,x9,i,j,k,l,m,c,d,a,n,o,p,q,r,s,t,u,v,f,g,b,w,x,y,z,A,B,C,D,E,F,G,H,I,J,K,L,M,N,P,Q,R],S)):=by kernel_rfl
theorem jD.vP :zW zi ⟨false,false,false⟩ (zU zi O) (reg Try.f50 14) (reg Try.f50 14).toList ([U,Y,x2,x3,W,X,V,Z,x8,x9,i,j,k,l,m,c,d,a,n,o,p,q,r,s,t,u,v,f,g,b,w,x,y,z,A,B,C,D,E,F,G,H,I,J,K,L,M,N,P,Q,R]) S =
  (zT (jd zi BinOp.add 3 b (.int .i64 1) S) (fun v0 S1=>some ([U,Y,x2,x3,W,X,V,Z,x8,x9,i,j,k,l,m,c,d,a,n,o,p,q,r,s,t,u,v,f,g,zQ v0,w,x,y,z,A,B,C,D,v0,F,G,H,I,J,K,L,M,N,P,Q,R],S1)) ()):=by kernel_rfl
theorem jD.Zi :zW zi ⟨false,false,false⟩ (zU zi O) (reg Try.f50 15) (reg Try.f50 15).toList ([U,Y,x2,x3,W,X,V,Z,x8,x9,i,j,k,l,m,c,d,a,n,o,p,q,r,s,t,u,v,f,g,b,w,x,y,z,A,B,C,D,E,F,G,H,I,J,K,L,M,N,P,Q,R]) S =
  (zT (jf zi 43 V 0 S) (fun v1 S1=>zT (zZ zi false 3 v1 S1) (fun v2 S2=>zT (jf zi 43 V 1 S2) (fun v3 S3=>zT (zZ zi false 3 v3 S3) (fun v4 S4=>zT (yO zi 24 2 [(0,v2),(1,v4)] S4) (fun v5 S5=>zT (yF zi 24 24 W v5 S5) (fun v6 S6=>some ([U,Y,x2,x3,v6,X,V,Z,x8,x9,i,j,k,l,m,c,d,a,n,o,p,q,r,s,t,u,v,f,g,b,w,x,y,z,A,B,C,D,E,zQ W,v1,v2,v3,v4,v5,zQ v6,M,N,P,Q,R],S6)) ()) ()) ()) ()) ()) ()):=by kernel_rfl
theorem jD.r16 :zW zi ⟨false,false,false⟩ (zU zi O) (reg Try.f50 16) (reg Try.f50 16).toList ([U,Y,x2,x3,W,X,V,Z,x8,x9,i,j,k,l,m,c,d,a,n,o,p,q,r,s,t,u,v,f,g,b,w,x,y,z,A,B,C,D,E,F,G,H,I,J,K,L,M,N,P,Q,R]) S =
  (zT (jd zi BinOp.add 3 a (.int .i64 1) S) (fun v0 S1=>some ([U,Y,x2,x3,W,X,V,Z,x8,x9,i,j,k,l,m,c,d,zQ v0,n,o,p,q,r,s,t,u,v,f,g,b,w,x,y,z,A,B,C,D,E,F,G,H,I,J,K,L,v0,N,P,Q,R],S1)) ()):=by kernel_rfl
theorem jD.JX :zW zi ⟨false,false,false⟩ (zU zi O) (reg Try.f50 17) (reg Try.f50 17).toList ([U,Y,x2,x3,W,X,V,Z,x8,x9,i,j,k,l,m,c,d,a,n,o,p,q,r,s,t,u,v,f,g,b,w,x,y,z,A,B,C,D,E,F,G,H,I,J,K,L,M,N,P,Q,R]) S =
  (zT ((zU zi O) 35 [(zQ (zQ W))] S) (fun v1 S1=>zT (jv v1 0 S1) (fun v2 S2=>zT (jv (jh 0 v1) 1 S2) (fun v3 S3=>some ([U,Y,v2,v3,W,X,V,Z,x8,x9,i,j,k,l,m,c,d,a,n,o,p,q,r,s,t,u,v,f,g,b,w,x,y,z,A,B,C,D,E,F,G,H,I,J,K,L,M,zQ W,jh 1 (jh 0 v1),zQ v2,zQ v3],S3)) ()) ()) ()):=by kernel_rfl
theorem jD.rs :type_of% (zJ @jD.r0 (zJ @jD.r1 (zJ @jD.r2 (zJ @jD.r3 (zJ @jD.r4 (zJ @jD.r5 (zJ @jD.r6 (zJ @jD.r7 (zJ @jD.r8 (zJ @jD.r9 (zJ @jD.r10 (zJ @jD.r11 (zJ @jD.r12 (zJ @jD.r13 (zJ @jD.vP (zJ @jD.Zi (zJ @jD.r16 (@jD.JX)))))))))))))))))):=zJ @jD.r0 (zJ @jD.r1 (zJ @jD.r2 (zJ @jD.r3 (zJ @jD.r4 (zJ @jD.r5 (zJ @jD.r6 (zJ @jD.r7 (zJ @jD.r8 (zJ @jD.r9 (zJ @jD.r10 (zJ @jD.r11 (zJ @jD.r12 (zJ @jD.r13 (zJ @jD.vP (zJ @jD.Zi (zJ @jD.r16 (@jD.JX)))))))))))))))))
theorem jD.runs {U:zu}{S S1:zS}{e:wC}{T:List zu}(h:zX zi O false jD.code ([U,zh,zh,zh,zh,zh,zh,zh,zh,zh,zh,zh,zh,zh,zh,zh,zh,zh,zh,zh,zh,zh,zh,zh,zh,zh,zh,zh,zh,zh,zh,zh,zh,zh,zh,zh,zh,zh,zh,zh,zh,zh,zh,zh,zh,zh,zh,zh,zh,zh,zh]) zS.empty=some (e,T,S1)) (he:e=.normal∨e=.ret)  (h0:yc (T.getD 2 zh)=true) (h1:yc (T.getD 3 zh)=true) (hca:[U].all (jw 16)=true) (hcv:jw 16 (Value.tuple #[T.getD 2 zh,T.getD 3 zh])=true):zU zi O 50 [U] S=some (Value.tuple #[T.getD 2 zh,T.getD 3 zh],S) :=
 kC rfl rfl Try.func50 (by decide) jD.body (by exact h) he ((Zc ((show jl zi T S1 Try.f50.results.toList=jl zi T S1 [(ResultVar.tmp 2),(ResultVar.tmp 3)] from by kernel_rfl).trans (by simp only[jl])) (by kernel_rfl) (by simp only[List.all_cons,List.all_nil,h0,h1,Bool.and_true])).trans rfl) hca hcv
end
section
abbrev xu.id :FuncId:=71
noncomputable def xu.code :Code:=(.seq (.region 0 (reg Try.f71 0) false) (.seq (.seq (.region 1 (reg Try.f71 1) false) (.cond (.tmp 8) (.seq (.region 2 (reg Try.f71 2) false) Code.ret) Code.skip)) (.seq (.region 3 (reg Try.f71 3) false) (.seq (.region 4 (reg Try.f71 4) false) Code.ret))))
theorem xu.body :Try.f71.body=some xu.code:=by kernel_rfl
variable (a m u v n o p q r s b c d f g i j k l:zu) (S:zS)
theorem xu.r0 :zW zi ⟨false,false,false⟩ (zU zi O) (reg Try.f71 0) (reg Try.f71 0).toList ([a,m,u,v,n,o,p,q,r,s,b,c,d,f,g,i,j,k,l]) S =
  (zT (qm (zQ a) S) (fun w t=>some ([a,w,Value.slice none 0 0,.int .i64 0,n,o,p,q,r,s,b,c,d,f,g,i,j,k,l],t)) ()):=by kernel_rfl
theorem xu.r1 :zW zi ⟨false,false,false⟩ (zU zi O) (reg Try.f71 1) (reg Try.f71 1).toList ([a,m,u,v,n,o,p,q,r,s,b,c,d,f,g,i,j,k,l]) S =
  (zT (zZ zi false 43 m S) (fun w t=>zT ((zU zi O) 68 [(zQ w)] t) (fun x A=>zT (qo zi UnOp.not x A) (fun y B=>some ([a,m,u,v,n,o,w,x,y,s,b,c,d,f,g,i,j,k,l],B)) ()) ()) ()):=by kernel_rfl
theorem xu.r2 :zW zi ⟨false,false,false⟩ (zU zi O) (reg Try.f71 2) (reg Try.f71 2).toList ([a,m,u,v,n,o,p,q,r,s,b,c,d,f,g,i,j,k,l]) S =
  ( some ([a,m,Value.slice none 0 0,.int .i64 61,n,o,p,q,r,s,b,c,d,f,g,i,j,k,l],S)):=by kernel_rfl
theorem xu.r3 :zW zi ⟨false,false,false⟩ (zU zi O) (reg Try.f71 3) (reg Try.f71 3).toList ([a,m,u,v,n,o,p,q,r,s,b,c,d,f,g,i,j,k,l]) S =
  (zT (jf zi 43 m 0 S) (fun w t=>zT (zZ zi false 3 w t) (fun x A=>zT (jf zi 43 m 1 A) (fun y B=>zT (zZ zi false 3 y B) (fun C G=>zT (yO zi 24 2 [(0,x),(1,C)] G) (fun D H=>zT ((zU zi O) 63 [(zQ D)] H) (fun z I=>zT (jv z 0 I) (fun E J=>zT (jv (jh 0 z) 1 J) (fun F K=>some ([a,m,u,v,E,F,p,q,r,jh 1 (jh 0 z),w,x,y,C,D,zQ z,zQ E,zQ F,l],K)) ()) ()) ()) ()) ()) ()) ()) ()):=by kernel_rfl
theorem xu.r4 :zW zi ⟨false,false,false⟩ (zU zi O) (reg Try.f71 4) (reg Try.f71 4).toList ([a,m,u,v,n,o,p,q,r,s,b,c,d,f,g,i,j,k,l]) S =
  ( some ([a,m,n,.int .i64 0,zQ n,o,p,q,r,s,b,c,d,f,g,i,j,k,zQ n],S)):=by kernel_rfl
theorem xu.rs :type_of% (zJ @xu.r0 (zJ @xu.r1 (zJ @xu.r2 (zJ @xu.r3 (@xu.r4))))):=zJ @xu.r0 (zJ @xu.r1 (zJ @xu.r2 (zJ @xu.r3 (@xu.r4))))
theorem xu.runs {a:zu}{S t:zS}{e:wC}{T:List zu}(h:zX zi O false xu.code ([a,zh,zh,zh,zh,zh,zh,zh,zh,zh,zh,zh,zh,zh,zh,zh,zh,zh,zh]) zS.empty=some (e,T,t)) (he:e=.normal∨e=.ret)  (h0:yc (T.getD 2 zh)=true) (h1:yc (T.getD 3 zh)=true) (hca:[a].all (jw 16)=true) (hcv:jw 16 (Value.tuple #[T.getD 2 zh,T.getD 3 zh])=true):zU zi O 71 [a] S=some (Value.tuple #[T.getD 2 zh,T.getD 3 zh],S) :=
 kC rfl rfl Try.func71 (by decide) xu.body (by exact h) he ((Zc ((show jl zi T t Try.f71.results.toList=jl zi T t [(ResultVar.tmp 2),(ResultVar.tmp 3)] from by kernel_rfl).trans (by simp only[jl])) (by kernel_rfl) (by simp only[List.all_cons,List.all_nil,h0,h1,Bool.and_true])).trans rfl) hca hcv
end
section
abbrev xU.id :FuncId:=36
noncomputable def xU.code :Code:=(.seq (.region 0 (reg Try.f36 0) false) (.seq (.seq (.region 1 (reg Try.f36 1) false) (.cond (.tmp 6) (.seq (.region 2 (reg Try.f36 2) false) Code.ret) Code.skip)) (.seq (.region 3 (reg Try.f36 3) false) Code.ret)))
theorem xU.body :Try.f36.body=some xU.code:=by kernel_rfl
variable (a i r s k l m n o p b c d f g:zu) (S:zS)
theorem xU.r0 :zW zi ⟨false,false,false⟩ (zU zi O) (reg Try.f36 0) (reg Try.f36 0).toList ([a,i,r,s,k,l,m,n,o,p,b,c,d,f,g]) S =
  (zT (qm (zQ a) S) (fun q j=>some ([a,q,Value.slice none 0 0,.int .i64 0,k,l,m,n,o,p,b,c,d,f,g],j)) ()):=by kernel_rfl
theorem xU.r1 :zW zi ⟨false,false,false⟩ (zU zi O) (reg Try.f36 1) (reg Try.f36 1).toList ([a,i,r,s,k,l,m,n,o,p,b,c,d,f,g]) S =
  (zT (zZ zi false 43 i S) (fun q j=>zT ((zU zi O) 48 [(zQ q)] j) (fun t v=>zT (qo zi UnOp.not t v) (fun u w=>some ([a,i,r,s,q,t,u,n,o,p,b,c,d,f,g],w)) ()) ()) ()):=by kernel_rfl
theorem xU.r2 :zW zi ⟨false,false,false⟩ (zU zi O) (reg Try.f36 2) (reg Try.f36 2).toList ([a,i,r,s,k,l,m,n,o,p,b,c,d,f,g]) S =
  ( some ([a,i,Value.slice none 0 0,.int .i64 61,k,l,m,n,o,p,b,c,d,f,g],S)):=by kernel_rfl
theorem xU.r3 :zW zi ⟨false,false,false⟩ (zU zi O) (reg Try.f36 3) (reg Try.f36 3).toList ([a,i,r,s,k,l,m,n,o,p,b,c,d,f,g]) S =
  (zT (jf zi 43 i 0 S) (fun q j=>zT (zZ zi false 3 q j) (fun t v=>zT (jf zi 43 i 1 v) (fun u w=>zT (zZ zi false 3 u w) (fun y C=>zT (yO zi 24 2 [(0,t),(1,y)] C) (fun z D=>zT ((zU zi O) 35 [(zQ z)] D) (fun x E=>zT (jv x 0 E) (fun A F=>zT (jv (jh 0 x) 1 F) (fun B G=>some ([a,i,A,B,k,l,m,q,t,u,y,z,jh 1 (jh 0 x),zQ A,zQ B],G)) ()) ()) ()) ()) ()) ()) ()) ()):=by kernel_rfl
theorem xU.rs :type_of% (zJ @xU.r0 (zJ @xU.r1 (zJ @xU.r2 (@xU.r3)))):=zJ @xU.r0 (zJ @xU.r1 (zJ @xU.r2 (@xU.r3)))
theorem xU.runs {a:zu}{S j:zS}{e:wC}{T:List zu}(h:zX zi O false xU.code ([a,zh,zh,zh,zh,zh,zh,zh,zh,zh,zh,zh,zh,zh,zh]) zS.empty=some (e,T,j)) (he:e=.normal∨e=.ret)  (h0:yc (T.getD 2 zh)=true) (h1:yc (T.getD 3 zh)=true) (hca:[a].all (jw 16)=true) (hcv:jw 16 (Value.tuple #[T.getD 2 zh,T.getD 3 zh])=true):zU zi O 36 [a] S=some (Value.tuple #[T.getD 2 zh,T.getD 3 zh],S) :=
 kC rfl rfl Try.func36 (by decide) xU.body (by exact h) he ((Zc ((show jl zi T j Try.f36.results.toList=jl zi T j [(ResultVar.tmp 2),(ResultVar.tmp 3)] from by kernel_rfl).trans (by simp only[jl])) (by kernel_rfl) (by simp only[List.all_cons,List.all_nil,h0,h1,Bool.and_true])).trans rfl) hca hcv
end
section
abbrev yZ.id :FuncId:=64
noncomputable def yZ.code :Code:=(.seq (.region 0 (reg Try.f64 0) false) (.seq (.region 1 (reg Try.f64 1) false) (.seq (.seq (.region 2 (reg Try.f64 2) false) (.cond (.tmp 16) (.seq (.region 3 (reg Try.f64 3) false) Code.ret) Code.skip)) (.seq (.region 4 (reg Try.f64 4) true) (.seq (.region 5 (reg Try.f64 5) true) Code.ret)))))
theorem yZ.body :Try.f64.body=some yZ.code:=by kernel_rfl
variable (c E C H I b z D A F d f g i j k l m n o p q r s t u w x y:zu) (S:zS)
theorem yZ.r0 :zW zi ⟨false,false,false⟩ (zU zi O) (reg Try.f64 0) (reg Try.f64 0).toList ([c,E,C,H,I,b,z,D,A,F,d,f,g,i,j,k,l,m,n,o,p,q,r,s,t,u,w,x,y]) S =
  (zT (wR zi 43 S) (fun J a=>some ([c,E,J,Value.slice none 0 0,Value.bool false,b,z,D,A,F,d,f,g,i,j,k,l,m,n,o,p,q,r,s,t,u,w,x,y],a)) ()):=by kernel_rfl
theorem yZ.r1 :zW zi ⟨false,false,false⟩ (zU zi O) (reg Try.f64 1) (reg Try.f64 1).toList ([c,E,C,H,I,b,z,D,A,F,d,f,g,i,j,k,l,m,n,o,p,q,r,s,t,u,w,x,y]) S =
  (zT ((zU zi O) 55 [(zQ (zQ c)),(.int .i64 2)] S) (fun B a=>zT (jv B 0 a) (fun N K=>zT (jv (jh 0 B) 1 K) (fun G L=>zT (jv (jh 1 (jh 0 B)) 2 L) (fun P Q=>some ([c,E,C,H,I,N,G,P,A,jh 2 (jh 1 (jh 0 B)),zQ c,zQ B,zQ N,zQ G,zQ P,k,l,m,n,o,p,q,r,s,t,u,w,x,y],Q)) ()) ()) ()) ()):=by kernel_rfl
theorem yZ.r2 :zW zi ⟨false,false,false⟩ (zU zi O) (reg Try.f64 2) (reg Try.f64 2).toList ([c,E,C,H,I,b,z,D,A,F,d,f,g,i,j,k,l,m,n,o,p,q,r,s,t,u,w,x,y]) S =
  (zT (jd zi BinOp.neq 64 (zQ D) (.int .i64 0) S) (fun B a=>some ([c,E,C,H,I,b,z,D,A,F,d,f,g,i,j,zQ D,B,m,n,o,p,q,r,s,t,u,w,x,y],a)) ()):=by kernel_rfl
theorem yZ.r3 :zW zi ⟨false,false,false⟩ (zU zi O) (reg Try.f64 3) (reg Try.f64 3).toList ([c,E,C,H,I,b,z,D,A,F,d,f,g,i,j,k,l,m,n,o,p,q,r,s,t,u,w,x,y]) S =
  (zT (wS zi 43 [] S) (fun J a=>zT (jI zi 43 C (zQ J) a) (fun B K=>some ([c,E,C,Value.slice none 0 0,Value.bool false,b,z,D,A,F,d,f,g,i,j,k,l,J,n,o,p,q,r,s,t,u,w,x,y],K)) ()) ()):=by kernel_rfl
theorem yZ.d4 :vg zi (reg Try.f64 4)=true:=by kernel_rfl
theorem yZ.KE :fixed zi (reg Try.f64 4)=false:=by kernel_rfl
theorem yZ.k4 :checked zi (reg Try.f64 4)=[0,1,2,3,4,5,6]:=by kernel_rfl
theorem yZ.g4 :again zi (reg Try.f64 4)=[(2,7),(5,7)]:=by kernel_rfl
theorem yZ.r4 :zX zi O false (.region 4 (reg Try.f64 4) true) ([c,E,C,H,I,b,z,D,A,F,d,f,g,i,j,k,l,m,n,o,p,q,r,s,t,u,w,x,y]) S =
  yY (jK b ( zT (jZ zi 24 (zQ b) (.int .i64 0) S) (fun B a=>jK B ( zT (zZ zi false 3 B a) (fun M K=>jK M ( jK b ( zT (jZ zi 24 (zQ b) (.int .i64 1) K) (fun G L=>jK G ( zT (zZ zi false 3 G L) (fun P Q=>jK P ( zT (wS zi 43 [(0,(zQ M)),(1,(zQ P))] Q) (fun R W=>jK R ( zT (wR zi 43 W) (fun V U=>zT (jI zi 43 V (zQ R) U) (fun Y X=>Jy (y8 B a U&&(y8 G L U&&(true))) (some ([c,E,C,H,I,b,z,D,V,F,d,f,g,i,j,k,l,m,zQ b,B,M,zQ b,G,P,R,u,w,x,y],X)) ()) ()) ()) ()) ()) ()) ()) ()) ()) ()) ()) ()) ()) ()) ()):=by
 rw[Jh yZ.d4 yZ.KE yZ.k4 yZ.g4];refine congrArg yY ?_;refine Zb Try.f64 4 0 (v:=b) (pe:=zh) ?_;refine yH Try.f64 4 1 (pe:=zh) (fun B a=>?_)
 refine yH Try.f64 4 2 (pe:=B) (fun M K=>?_)
 refine Zb Try.f64 4 3 (v:=b) (pe:=zh) ?_;refine yH Try.f64 4 4 (pe:=zh) (fun G L=>?_)
 refine yH Try.f64 4 5 (pe:=G) (fun P Q=>?_)
 refine yH Try.f64 4 6 (pe:=zh) (fun R W=>?_)
 refine uD Try.f64 4 7 (pe:=zh) (fun V U=>?_)
 refine uD Try.f64 4 8 (pe:=zh) (fun Y X=>?_)
 kernel_rfl
theorem yZ.d5 :vg zi (reg Try.f64 5)=true:=by kernel_rfl
theorem yZ.Vf :fixed zi (reg Try.f64 5)=false:=by kernel_rfl
theorem yZ.k5 :checked zi (reg Try.f64 5)=[0,1,1]:=by kernel_rfl
theorem yZ.g5 :again zi (reg Try.f64 5)=[(0,3)]:=by kernel_rfl
theorem yZ.r5 :zX zi O false (.region 5 (reg Try.f64 5) true) ([c,E,C,H,I,b,z,D,A,F,d,f,g,i,j,k,l,m,n,o,p,q,r,s,t,u,w,x,y]) S =
  yY (zT (zZ zi false 43 A S) (fun J a=>jK J ( jK z ( zT (zZ zi false 43 A a) (fun M K=>zT ((zU zi O) 68 [(zQ M)] K) (fun N L=>zT (jI zi 43 C (zQ J) L) (fun G Q=>Jy (y8 A S L&&(true)) (some ([c,E,C,z,N,b,zQ z,D,A,F,d,f,g,i,j,k,l,m,n,o,p,q,r,s,t,J,zQ z,M,zQ N],Q)) ()) ()) ()) ()) ()) ()) ()):=by
 rw[Jh yZ.d5 yZ.Vf yZ.k5 yZ.g5];refine congrArg yY ?_;refine yH Try.f64 5 0 (pe:=A) (fun J a=>?_)
 refine Zb Try.f64 5 1 (v:=z) (pe:=zh) ?_;refine uD Try.f64 5 2 (pe:=A) (fun M K=>?_)
 refine uD Try.f64 5 3 (pe:=zh) (fun N L=>?_)
 refine uD Try.f64 5 4 (pe:=zh) (fun G Q=>?_)
 refine uP Try.f64 5 5 (v:=z) (pe:=zh) ?_;refine uP Try.f64 5 6 (v:=N) (pe:=zh) ?_
 kernel_rfl
theorem yZ.rs :type_of% (zJ @yZ.r0 (zJ @yZ.r1 (zJ @yZ.r2 (zJ @yZ.r3 (zJ @yZ.r4 (@yZ.r5)))))):=zJ @yZ.r0 (zJ @yZ.r1 (zJ @yZ.r2 (zJ @yZ.r3 (zJ @yZ.r4 (@yZ.r5)))))
theorem yZ.runs {c:zu}{S a:zS}{e:wC}{T:List zu}(h:zX zi O false yZ.code ([c,zh,zh,zh,zh,zh,zh,zh,zh,zh,zh,zh,zh,zh,zh,zh,zh,zh,zh,zh,zh,zh,zh,zh,zh,zh,zh,zh,zh]) zS.empty=some (e,T,a)) (he:e=.normal∨e=.ret) {w0:zu}(c0:zZ zi false 43 (T.getD 2 zh) a=some (w0,a)) (h0:yc (w0)=true) (h1:yc (T.getD 3 zh)=true) (h2:yc (T.getD 4 zh)=true) (hca:[c].all (jw 16)=true) (hcv:jw 16 (Value.tuple #[w0,T.getD 3 zh,T.getD 4 zh])=true):zU zi O 64 [c] S=some (Value.tuple #[w0,T.getD 3 zh,T.getD 4 zh],S) :=
 kC rfl rfl Try.func64 (by decide) yZ.body (by exact h) he ((Zc ((show jl zi T a Try.f64.results.toList=jl zi T a [(ResultVar.cell 2 43),(ResultVar.tmp 3),(ResultVar.tmp 4)] from by kernel_rfl).trans (by simp only[jl,c0])) (by kernel_rfl) (by simp only[List.all_cons,List.all_nil,h0,h1,h2,Bool.and_true])).trans rfl) hca hcv
end
section
abbrev qV.id :FuncId:=56
noncomputable def qV.code :Code:=(.seq (.region 0 (reg Try.f56 0) false) (.seq (.region 1 (reg Try.f56 1) false) (.seq (.seq (.region 2 (reg Try.f56 2) false) (.cond (.tmp 19) (.seq (.region 3 (reg Try.f56 3) false) Code.ret) Code.skip)) (.seq (.region 4 (reg Try.f56 4) false) Code.ret))))
theorem qV.body :Try.f56.body=some qV.code:=by kernel_rfl
variable (a u t C w x s y z A d f g i k l m n o p q r:zu) (S:zS)
theorem qV.r0 :zW zi ⟨false,false,false⟩ (zU zi O) (reg Try.f56 0) (reg Try.f56 0).toList ([a,u,t,C,w,x,s,y,z,A,d,f,g,i,k,l,m,n,o,p,q,r]) S =
  (zT (wR zi 43 S) (fun D b=>some ([a,u,D,.int .i64 0,w,x,s,y,z,A,d,f,g,i,k,l,m,n,o,p,q,r],b)) ()):=by kernel_rfl
theorem qV.r1 :zW zi ⟨false,false,false⟩ (zU zi O) (reg Try.f56 1) (reg Try.f56 1).toList ([a,u,t,C,w,x,s,y,z,A,d,f,g,i,k,l,m,n,o,p,q,r]) S =
  (zT ((zU zi O) 64 [(zQ (zQ a))] S) (fun c b=>zT (jv c 0 b) (fun E B=>zT (jv (jh 0 c) 1 B) (fun F I=>zT (jv (jh 1 (jh 0 c)) 2 I) (fun G J=>zT (wR zi 43 J) (fun H K=>zT (jI zi 43 H (zQ E) K) (fun M L=>some ([a,u,t,C,H,F,G,jh 2 (jh 1 (jh 0 c)),zQ a,zQ c,E,zQ F,zQ G,i,k,l,m,n,o,p,q,r],L)) ()) ()) ()) ()) ()) ()):=by kernel_rfl
theorem qV.r2 :zW zi ⟨false,false,false⟩ (zU zi O) (reg Try.f56 2) (reg Try.f56 2).toList ([a,u,t,C,w,x,s,y,z,A,d,f,g,i,k,l,m,n,o,p,q,r]) S =
  (zT (qo zi UnOp.not (zQ s) S) (fun c b=>zY (zQ c) false (ret x) b (fun E B=>zY (zQ c) false (yK zi 33 (zQ E)) B (fun F I=>zY (zQ c) false (jd zi BinOp.gtr 3 F (.int .i64 0)) I (fun G J=>zT (jH (zQ c) (Value.bool true) G J) (fun H K=>some ([a,u,t,C,w,x,s,y,z,A,d,f,g,zQ s,c,zQ c,zQ E,F,G,H,q,r],K)) ()) ()) ()) ()) ()):=by
 refine sP Try.f56 2 0 (v:=s) ?_;refine sD Try.f56 2 1 (fun c b=>?_)
 refine sP Try.f56 2 2 (v:=c) ?_;refine sG Try.f56 2 3 (j:=2) (fun E B=>?_)
 refine sG Try.f56 2 4 (j:=2) (fun F I=>?_)
 refine sG Try.f56 2 5 (j:=2) (fun G J=>?_)
 refine sD Try.f56 2 6 (fun H K=>?_)
 kernel_rfl
theorem qV.r3 :zW zi ⟨false,false,false⟩ (zU zi O) (reg Try.f56 3) (reg Try.f56 3).toList ([a,u,t,C,w,x,s,y,z,A,d,f,g,i,k,l,m,n,o,p,q,r]) S =
  (zT (wS zi 43 [] S) (fun D b=>zT (jI zi 43 t (zQ D) b) (fun c B=>some ([a,u,t,.int .i64 61,w,x,s,y,z,A,d,f,g,i,k,l,m,n,o,p,D,r],B)) ()) ()):=by kernel_rfl
theorem qV.r4 :zW zi ⟨false,false,false⟩ (zU zi O) (reg Try.f56 4) (reg Try.f56 4).toList ([a,u,t,C,w,x,s,y,z,A,d,f,g,i,k,l,m,n,o,p,q,r]) S =
  (zT (zZ zi false 43 w S) (fun D b=>zT (jI zi 43 t (zQ D) b) (fun c B=>some ([a,u,t,.int .i64 0,w,x,s,y,z,A,d,f,g,i,k,l,m,n,o,p,q,D],B)) ()) ()):=by kernel_rfl
theorem qV.rs :type_of% (zJ @qV.r0 (zJ @qV.r1 (zJ @qV.r2 (zJ @qV.r3 (@qV.r4))))):=zJ @qV.r0 (zJ @qV.r1 (zJ @qV.r2 (zJ @qV.r3 (@qV.r4))))
theorem qV.runs {a:zu}{S b:zS}{e:wC}{T:List zu}(h:zX zi O false qV.code ([a,zh,zh,zh,zh,zh,zh,zh,zh,zh,zh,zh,zh,zh,zh,zh,zh,zh,zh,zh,zh,zh]) zS.empty=some (e,T,b)) (he:e=.normal∨e=.ret) {w0:zu}(c0:zZ zi false 43 (T.getD 2 zh) b=some (w0,b)) (h0:yc (w0)=true) (h1:yc (T.getD 3 zh)=true) (hca:[a].all (jw 16)=true) (hcv:jw 16 (Value.tuple #[w0,T.getD 3 zh])=true):zU zi O 56 [a] S=some (Value.tuple #[w0,T.getD 3 zh],S) :=
 kC rfl rfl Try.func56 (by decide) qV.body (by exact h) he ((Zc ((show jl zi T b Try.f56.results.toList=jl zi T b [(ResultVar.cell 2 43),(ResultVar.tmp 3)] from by kernel_rfl).trans (by simp only[jl,c0])) (by kernel_rfl) (by simp only[List.all_cons,List.all_nil,h0,h1,Bool.and_true])).trans rfl) hca hcv
end
section
abbrev yS.id :FuncId:=30
noncomputable def yS.code :Code:=(.seq (.region 0 (reg Try.f30 0) false) (.seq (.region 1 (reg Try.f30 1) false) (.seq (.seq (.region 2 (reg Try.f30 2) true) (.cond (.tmp 30) (.seq (.region 3 (reg Try.f30 3) false) Code.ret) Code.skip)) (.seq (.region 4 (reg Try.f30 4) true) Code.ret))))
theorem yS.body :Try.f30.body=some yS.code:=by kernel_rfl
variable (f P N Z c Q M V W X g i k l m n o p q r s t u w x y z A B C D E F G H I J K L:zu) (S:zS)
theorem yS.r0 :zW zi ⟨false,false,false⟩ (zU zi O) (reg Try.f30 0) (reg Try.f30 0).toList ([f,P,N,Z,c,Q,M,V,W,X,g,i,k,l,m,n,o,p,q,r,s,t,u,w,x,y,z,A,B,C,D,E,F,G,H,I,J,K,L]) S =
  (zT (wR zi 43 S) (fun v0 d=>some ([f,P,v0,.int .i64 0,c,Q,M,V,W,X,g,i,k,l,m,n,o,p,q,r,s,t,u,w,x,y,z,A,B,C,D,E,F,G,H,I,J,K,L],d)) ()):=by kernel_rfl
theorem yS.r1 :zW zi ⟨false,false,false⟩ (zU zi O) (reg Try.f30 1) (reg Try.f30 1).toList ([f,P,N,Z,c,Q,M,V,W,X,g,i,k,l,m,n,o,p,q,r,s,t,u,w,x,y,z,A,B,C,D,E,F,G,H,I,J,K,L]) S =
  (zT ((zU zi O) 29 [(zQ (zQ f)),(.int .i64 2)] S) (fun a d=>zT (jv a 0 d) (fun v3 Y=>zT (jv (jh 0 a) 1 Y) (fun R S3=>zT (jv (jh 1 (jh 0 a)) 2 S3) (fun U S4=>some ([f,P,N,Z,v3,R,U,jh 2 (jh 1 (jh 0 a)),zQ f,zQ a,zQ v3,zQ R,zQ U,l,m,n,o,p,q,r,s,t,u,w,x,y,z,A,B,C,D,E,F,G,H,I,J,K,L],S4)) ()) ()) ()) ()):=by kernel_rfl
theorem yS.d2 :vg zi (reg Try.f30 2)=true:=by kernel_rfl
theorem yS.Nr :fixed zi (reg Try.f30 2)=false:=by kernel_rfl
theorem yS.k2 :checked zi (reg Try.f30 2)=[]:=by kernel_rfl
theorem yS.g2 :again zi (reg Try.f30 2)=[]:=by kernel_rfl
theorem yS.r2 :zX zi O false (.region 2 (reg Try.f30 2) true) ([f,P,N,Z,c,Q,M,V,W,X,g,i,k,l,m,n,o,p,q,r,s,t,u,w,x,y,z,A,B,C,D,E,F,G,H,I,J,K,L]) S =
  yY (zT (jd zi BinOp.neq 3 (zQ M) (.int .i64 0) S) (fun a d=>zY (zQ a) false (ret Q) d (fun v3 Y=>zY (zQ a) false (yK zi 33 (zQ v3)) Y (fun R S3=>zY (zQ a) false (jd zi BinOp.gtr 3 R (.int .i64 0)) S3 (fun U S4=>zT (jH (zQ a) (Value.bool true) U S4) (fun b S5=>zY (zQ b) false (ret c) S5 (fun v8 S6=>zY (zQ b) false (jZ zi 24 (zQ v8) (.int .i64 0)) S6 (fun v9 S7=>zY (zQ b) false (zZ zi false 3 v9) S7 (fun a0 S8=>zY (zQ b) false (ret c) S8 (fun a1 S9=>zY (zQ b) false (jZ zi 24 (zQ a1) (.int .i64 1)) S9 (fun a2 a7=>zY (zQ b) false (zZ zi false 3 a2) a7 (fun a3 a8=>zY (zQ b) false (wS zi 43 [(0,(zQ a0)),(1,(zQ a3))]) a8 (fun a4 a9=>zY (zQ b) false ((zU zi O) 48 [(zQ a4)]) a9 (fun a5 b0=>zY (zQ b) false (qo zi UnOp.not a5) b0 (fun a6 b1=>zT (jH (zQ b) (Value.bool true) a6 b1) (fun b2 b3=>some ([f,P,N,Z,c,Q,M,V,W,X,g,i,k,zQ M,a,zQ a,zQ v3,R,U,b,zQ b,zQ v8,v9,a0,zQ a1,a2,a3,a4,a5,a6,b2,E,F,G,H,I,J,K,L],b3)) ()) ()) ()) ()) ()) ()) ()) ()) ()) ()) ()) ()) ()) ()) ()):=by
 rw[Jh yS.d2 yS.Nr yS.k2 yS.g2];refine congrArg yY ?_;refine tP Try.f30 2 0 (v:=M) ?_;refine tD Try.f30 2 1 (fun a d=>?_)
 refine tP Try.f30 2 2 (v:=a) ?_;refine tG Try.f30 2 3 (j:=2) (fun v3 Y=>?_)
 refine tG Try.f30 2 4 (j:=2) (fun R S3=>?_)
 refine tG Try.f30 2 5 (j:=2) (fun U S4=>?_)
 refine tD Try.f30 2 6 (fun b S5=>?_)
 refine tP Try.f30 2 7 (v:=b) ?_;refine tG Try.f30 2 8 (j:=7) (fun v8 S6=>?_)
 refine tG Try.f30 2 9 (j:=7) (fun v9 S7=>?_)
 refine tG Try.f30 2 10 (j:=7) (fun a0 S8=>?_)
 refine tG Try.f30 2 11 (j:=7) (fun a1 S9=>?_)
 refine tG Try.f30 2 12 (j:=7) (fun a2 a7=>?_)
 refine tG Try.f30 2 13 (j:=7) (fun a3 a8=>?_)
 refine tG Try.f30 2 14 (j:=7) (fun a4 a9=>?_)
 refine tG Try.f30 2 15 (j:=7) (fun a5 b0=>?_)
 refine tG Try.f30 2 16 (j:=7) (fun a6 b1=>?_)
 refine tD Try.f30 2 17 (fun b2 b3=>?_)
 kernel_rfl
theorem yS.r3 :zW zi ⟨false,false,false⟩ (zU zi O) (reg Try.f30 3) (reg Try.f30 3).toList ([f,P,N,Z,c,Q,M,V,W,X,g,i,k,l,m,n,o,p,q,r,s,t,u,w,x,y,z,A,B,C,D,E,F,G,H,I,J,K,L]) S =
  (zT (wS zi 43 [] S) (fun v0 d=>zT (jI zi 43 N (zQ v0) d) (fun a Y=>some ([f,P,N,.int .i64 61,c,Q,M,V,W,X,g,i,k,l,m,n,o,p,q,r,s,t,u,w,x,y,z,A,B,C,D,v0,F,G,H,I,J,K,L],Y)) ()) ()):=by kernel_rfl
theorem yS.d4 :vg zi (reg Try.f30 4)=true:=by kernel_rfl
theorem yS.KE :fixed zi (reg Try.f30 4)=false:=by kernel_rfl
theorem yS.k4 :checked zi (reg Try.f30 4)=[]:=by kernel_rfl
theorem yS.g4 :again zi (reg Try.f30 4)=[]:=by kernel_rfl
theorem yS.r4 :zX zi O false (.region 4 (reg Try.f30 4) true) ([f,P,N,Z,c,Q,M,V,W,X,g,i,k,l,m,n,o,p,q,r,s,t,u,w,x,y,z,A,B,C,D,E,F,G,H,I,J,K,L]) S =
  yY (zT (jZ zi 24 (zQ c) (.int .i64 0) S) (fun a d=>zT (zZ zi false 3 a d) (fun v2 Y=>zT (jZ zi 24 (zQ c) (.int .i64 1) Y) (fun R S3=>zT (zZ zi false 3 R S3) (fun U S4=>zT (wS zi 43 [(0,(zQ v2)),(1,(zQ U))] S4) (fun b S5=>zT (jI zi 43 N (zQ b) S5) (fun v7 S6=>some ([f,P,N,.int .i64 0,c,Q,M,V,W,X,g,i,k,l,m,n,o,p,q,r,s,t,u,w,x,y,z,A,B,C,D,E,zQ c,a,v2,zQ c,R,U,b],S6)) ()) ()) ()) ()) ()) ()):=by
 rw[Jh yS.d4 yS.KE yS.k4 yS.g4];refine congrArg yY ?_;refine tP Try.f30 4 0 (v:=c) ?_;refine tD Try.f30 4 1 (fun a d=>?_)
 refine tD Try.f30 4 2 (fun v2 Y=>?_)
 refine tP Try.f30 4 3 (v:=c) ?_;refine tD Try.f30 4 4 (fun R S3=>?_)
 refine tD Try.f30 4 5 (fun U S4=>?_)
 refine tD Try.f30 4 6 (fun b S5=>?_)
 refine tD Try.f30 4 7 (fun v7 S6=>?_)
 refine tP Try.f30 4 8 (v:=(.int .i64 0)) ?_
 kernel_rfl
theorem yS.rs :type_of% (zJ @yS.r0 (zJ @yS.r1 (zJ @yS.r2 (zJ @yS.r3 (@yS.r4))))):=zJ @yS.r0 (zJ @yS.r1 (zJ @yS.r2 (zJ @yS.r3 (@yS.r4))))
theorem yS.runs {f:zu}{S d:zS}{e:wC}{T:List zu}(h:zX zi O false yS.code ([f,zh,zh,zh,zh,zh,zh,zh,zh,zh,zh,zh,zh,zh,zh,zh,zh,zh,zh,zh,zh,zh,zh,zh,zh,zh,zh,zh,zh,zh,zh,zh,zh,zh,zh,zh,zh,zh,zh]) zS.empty=some (e,T,d)) (he:e=.normal∨e=.ret) {w0:zu}(c0:zZ zi false 43 (T.getD 2 zh) d=some (w0,d)) (h0:yc (w0)=true) (h1:yc (T.getD 3 zh)=true) (hca:[f].all (jw 16)=true) (hcv:jw 16 (Value.tuple #[w0,T.getD 3 zh])=true):zU zi O 30 [f] S=some (Value.tuple #[w0,T.getD 3 zh],S) :=
 kC rfl rfl Try.func30 (by decide) yS.body (by exact h) he ((Zc ((show jl zi T d Try.f30.results.toList=jl zi T d [(ResultVar.cell 2 43),(ResultVar.tmp 3)] from by kernel_rfl).trans (by simp only[jl,c0])) (by kernel_rfl) (by simp only[List.all_cons,List.all_nil,h0,h1,Bool.and_true])).trans rfl) hca hcv
end
section
abbrev Zt.id :FuncId:=68
noncomputable def Zt.code :Code:=(.seq (.region 0 (reg Try.f68 0) false) (.seq (.region 1 (reg Try.f68 1) false) Code.ret))
theorem Zt.body :Try.f68.body=some Zt.code:=by kernel_rfl
variable (c i Y J K L M N P Q l m n o p q r s t u w:zu) (S:zS)
theorem Zt.r0 :zW zi ⟨false,false,false⟩ (zU zi O) (reg Try.f68 0) (reg Try.f68 0).toList ([c,i,Y,J,K,L,M,N,P,Q,l,m,n,o,p,q,r,s,t,u,w]) S =
  (zT (qm (zQ c) S) (fun x d=>some ([c,x,Value.bool false,J,K,L,M,N,P,Q,l,m,n,o,p,q,r,s,t,u,w],d)) ()):=by kernel_rfl
theorem Zt.r1 :zW zi ⟨false,false,false⟩ (zU zi O) (reg Try.f68 1) (reg Try.f68 1).toList ([c,i,Y,J,K,L,M,N,P,Q,l,m,n,o,p,q,r,s,t,u,w]) S =
  (zT (jf zi 43 i 0 S) (fun x d=>zT (zZ zi false 3 x d) (fun R Z=>zT (jd zi BinOp.geq 3 R (.int .i64 1) Z) (fun f S3=>zY (zQ f) true (jf zi 43 i 0) S3 (fun U S4=>zY (zQ f) true (zZ zi false 3 U) S4 (fun V S5=>zY (zQ f) true (jd zi BinOp.leq 3 V (.int .i64 1000000)) S5 (fun W S6=>zT (jH (zQ f) W (Value.bool false) S6) (fun g S7=>zY (zQ g) true (jf zi 43 i 1) S7 (fun X S8=>zY (zQ g) true (zZ zi false 3 X) S8 (fun y S9=>zY (zQ g) true (jd zi BinOp.geq 3 y (.int .i64 0)) S9 (fun z D=>zT (jH (zQ g) z (Value.bool false) D) (fun b E=>zY (zQ b) true (jf zi 43 i 1) E (fun A F=>zY (zQ b) true (zZ zi false 3 A) F (fun B G=>zY (zQ b) true (jd zi BinOp.leq 3 B (.int .i64 1000)) G (fun C H=>zT (jH (zQ b) C (Value.bool false) H) (fun k I=>some ([c,i,k,x,R,f,zQ f,U,V,W,g,zQ g,X,y,z,b,zQ b,A,B,C,zQ k],I)) ()) ()) ()) ()) ()) ()) ()) ()) ()) ()) ()) ()) ()) ()) ()):=by
 refine sD Try.f68 1 0 (fun x d=>?_)
 refine sD Try.f68 1 1 (fun R Z=>?_)
 refine sD Try.f68 1 2 (fun f S3=>?_)
 refine sP Try.f68 1 3 (v:=f) ?_;refine sG Try.f68 1 4 (j:=3) (fun U S4=>?_)
 refine sG Try.f68 1 5 (j:=3) (fun V S5=>?_)
 refine sG Try.f68 1 6 (j:=3) (fun W S6=>?_)
 refine sD Try.f68 1 7 (fun g S7=>?_)
 refine sP Try.f68 1 8 (v:=g) ?_;refine sG Try.f68 1 9 (j:=8) (fun X S8=>?_)
 refine sG Try.f68 1 10 (j:=8) (fun y S9=>?_)
 refine sG Try.f68 1 11 (j:=8) (fun z D=>?_)
 refine sD Try.f68 1 12 (fun b E=>?_)
 refine sP Try.f68 1 13 (v:=b) ?_;refine sG Try.f68 1 14 (j:=13) (fun A F=>?_)
 refine sG Try.f68 1 15 (j:=13) (fun B G=>?_)
 refine sG Try.f68 1 16 (j:=13) (fun C H=>?_)
 refine sD Try.f68 1 17 (fun k I=>?_)
 refine sP Try.f68 1 18 (v:=k) ?_
 kernel_rfl
theorem Zt.rs :type_of% (zJ @Zt.r0 (@Zt.r1)):=zJ @Zt.r0 (@Zt.r1)
theorem Zt.runs {c:zu}{S d:zS}{e:wC}{T:List zu}(h:zX zi O false Zt.code ([c,zh,zh,zh,zh,zh,zh,zh,zh,zh,zh,zh,zh,zh,zh,zh,zh,zh,zh,zh,zh]) zS.empty=some (e,T,d)) (he:e=.normal∨e=.ret) (hca:[c].all (jw 16)=true) (hcv:jw 16 (T.getD 2 zh)=true):zU zi O 68 [c] S=some (T.getD 2 zh,S) :=
 kC rfl rfl Try.func68 (by decide) Zt.body (by exact h) he (qI (a:=T.getD 2 zh) ((show jl zi T d Try.f68.results.toList=jl zi T d [(ResultVar.tmp 2)] from by kernel_rfl).trans (by simp only[jl])) (by kernel_rfl)) hca hcv
end
section
abbrev xE.id :FuncId:=48
noncomputable def xE.code :Code:=(.seq (.region 0 (reg Try.f48 0) false) (.seq (.region 1 (reg Try.f48 1) false) Code.ret))
theorem xE.body :Try.f48.body=some xE.code:=by kernel_rfl
variable (c i Y J K L M N P Q l m n o p q r s t u w:zu) (S:zS)
theorem xE.r0 :zW zi ⟨false,false,false⟩ (zU zi O) (reg Try.f48 0) (reg Try.f48 0).toList ([c,i,Y,J,K,L,M,N,P,Q,l,m,n,o,p,q,r,s,t,u,w]) S =
  (zT (qm (zQ c) S) (fun x d=>some ([c,x,Value.bool false,J,K,L,M,N,P,Q,l,m,n,o,p,q,r,s,t,u,w],d)) ()):=by kernel_rfl
theorem xE.r1 :zW zi ⟨false,false,false⟩ (zU zi O) (reg Try.f48 1) (reg Try.f48 1).toList ([c,i,Y,J,K,L,M,N,P,Q,l,m,n,o,p,q,r,s,t,u,w]) S =
  (zT (jf zi 43 i 0 S) (fun x d=>zT (zZ zi false 3 x d) (fun R Z=>zT (jd zi BinOp.gtr 3 R (.int .i64 0) Z) (fun f S3=>zY (zQ f) true (jf zi 43 i 0) S3 (fun U S4=>zY (zQ f) true (zZ zi false 3 U) S4 (fun V S5=>zY (zQ f) true (jd zi BinOp.leq 3 V (.int .i64 1000000)) S5 (fun W S6=>zT (jH (zQ f) W (Value.bool false) S6) (fun g S7=>zY (zQ g) true (jf zi 43 i 1) S7 (fun X S8=>zY (zQ g) true (zZ zi false 3 X) S8 (fun y S9=>zY (zQ g) true (jd zi BinOp.geq 3 y (.int .i64 0)) S9 (fun z D=>zT (jH (zQ g) z (Value.bool false) D) (fun b E=>zY (zQ b) true (jf zi 43 i 1) E (fun A F=>zY (zQ b) true (zZ zi false 3 A) F (fun B G=>zY (zQ b) true (jd zi BinOp.leq 3 B (.int .i64 1000)) G (fun C H=>zT (jH (zQ b) C (Value.bool false) H) (fun k I=>some ([c,i,k,x,R,f,zQ f,U,V,W,g,zQ g,X,y,z,b,zQ b,A,B,C,zQ k],I)) ()) ()) ()) ()) ()) ()) ()) ()) ()) ()) ()) ()) ()) ()) ()):=by
 refine sD Try.f48 1 0 (fun x d=>?_)
 refine sD Try.f48 1 1 (fun R Z=>?_)
 refine sD Try.f48 1 2 (fun f S3=>?_)
 refine sP Try.f48 1 3 (v:=f) ?_;refine sG Try.f48 1 4 (j:=3) (fun U S4=>?_)
 refine sG Try.f48 1 5 (j:=3) (fun V S5=>?_)
 refine sG Try.f48 1 6 (j:=3) (fun W S6=>?_)
 refine sD Try.f48 1 7 (fun g S7=>?_)
 refine sP Try.f48 1 8 (v:=g) ?_;refine sG Try.f48 1 9 (j:=8) (fun X S8=>?_)
 refine sG Try.f48 1 10 (j:=8) (fun y S9=>?_)
 refine sG Try.f48 1 11 (j:=8) (fun z D=>?_)
 refine sD Try.f48 1 12 (fun b E=>?_)
 refine sP Try.f48 1 13 (v:=b) ?_;refine sG Try.f48 1 14 (j:=13) (fun A F=>?_)
 refine sG Try.f48 1 15 (j:=13) (fun B G=>?_)
 refine sG Try.f48 1 16 (j:=13) (fun C H=>?_)
 refine sD Try.f48 1 17 (fun k I=>?_)
 refine sP Try.f48 1 18 (v:=k) ?_
 kernel_rfl
theorem xE.rs :type_of% (zJ @xE.r0 (@xE.r1)):=zJ @xE.r0 (@xE.r1)
theorem xE.runs {c:zu}{S d:zS}{e:wC}{T:List zu}(h:zX zi O false xE.code ([c,zh,zh,zh,zh,zh,zh,zh,zh,zh,zh,zh,zh,zh,zh,zh,zh,zh,zh,zh,zh]) zS.empty=some (e,T,d)) (he:e=.normal∨e=.ret) (hca:[c].all (jw 16)=true) (hcv:jw 16 (T.getD 2 zh)=true):zU zi O 48 [c] S=some (T.getD 2 zh,S) :=
 kC rfl rfl Try.func48 (by decide) xE.body (by exact h) he (qI (a:=T.getD 2 zh) ((show jl zi T d Try.f48.results.toList=jl zi T d [(ResultVar.tmp 2)] from by kernel_rfl).trans (by simp only[jl])) (by kernel_rfl)) hca hcv
end
theorem dJ {t:TypeId}{a b:List UInt8} {S:zS}:qW zi .eql t (.string ⟨a.toArray⟩) (.string ⟨b.toArray⟩) S=some (.bool (decide (a=b)),S):=by rw[Hg]
structure jG where
 id:Int
 fee:Int
 deriving DecidableEq
def fT (t:jG):List zu:=[.int .i64 t.id,.int .i64 t.fee]
abbrev tv (t:jG):zu:=.agg [Value.int .i64 t.id,.int .i64 t.fee].toArray
structure jG.Ok (t:jG):Prop where
 id:-9223372036854775808≤t.id∧t.id<9223372036854775808
 fee:-9223372036854775808≤t.fee∧t.fee<9223372036854775808
def qG (t:jG):Bool:=decide (1≤t.id)&&decide (t.id≤1000000)&&decide (0≤t.fee)&&decide (t.fee≤1000)
theorem YR {t:jG}:qG t=true↔1≤t.id∧t.id≤1000000∧0≤t.fee∧t.fee≤1000:=by
 simp[qG,and_assoc]
abbrev mem1 (t:jG):zS:=zS.empty.push (.cells [Value.int .i64 t.id,.int .i64 t.fee] (.own []) 0)
theorem box1 (t:jG):qm (tv t) zS.empty=some (.pointer (some ⟨0,0,none⟩),mem1 t):=rfl
theorem YH (t:jG):(mem1 t).get 0=some (.cells [Value.int .i64 t.id,.int .i64 t.fee] (.own []) 0):=rfl
theorem Zt.v (t:jG) (S:zS):zU zi O Zt.id [tv t] S=some (.bool (qG t),S):=by
 obtain⟨T,hTe⟩:∃T,T=(tv t::[zh,zh,zh,zh,zh,zh,zh,zh,zh,zh,zh,zh,zh,zh,zh,zh,zh,zh,zh,zh]):=⟨_,rfl⟩;have hr:=Eq.refl (zX zi O false Zt.code T zS.empty);have l0:=Zp (t:=3) (o:=0+0) (YH t) Zo rfl;have l1:=Zp (t:=3) (o:=0+1) (YH t) Zo rfl;by_cases h1:1≤t.id<;>by_cases h2:t.id≤1000000<;>by_cases h3:0≤t.fee<;>by_cases h4:t.fee≤1000;all_goals
  conv at hr=>
   rhs;rw[hTe];simp only[Zt.code,Zt.rs,jc,reduceIte,zk,zn,zo,zq,box1,Y5,Vb,l0,l1,h1,h2,h3,h4]
  rw[hTe]at hr;simp only[qG,h1,h2,h3,h4,decide_true,decide_false,Bool.and_true,Bool.and_false,Bool.false_and];exact Zt.runs hr (.inr rfl) rfl rfl
theorem xE.v (t:jG) (S:zS):zU zi O xE.id [tv t] S=some (.bool (qG t),S):=by
 obtain⟨T,hTe⟩:∃T,T=(tv t::[zh,zh,zh,zh,zh,zh,zh,zh,zh,zh,zh,zh,zh,zh,zh,zh,zh,zh,zh,zh]):=⟨_,rfl⟩;have hr:=Eq.refl (zX zi O false xE.code T zS.empty);have l0:=Zp (t:=3) (o:=0+0) (YH t) Zo rfl;have l1:=Zp (t:=3) (o:=0+1) (YH t) Zo rfl;have h0:decide (1≤t.id)=decide (0<t.id):=decide_eq_decide.mpr (by omega)
 unfold qG;rw[h0];by_cases h1:0<t.id<;>by_cases h2:t.id≤1000000<;>by_cases h3:0≤t.fee<;>by_cases h4:t.fee≤1000;all_goals
  conv at hr=>
   rhs;rw[hTe];simp only[xE.code,xE.rs,jc,reduceIte,zk,zn,zo,zq,box1,Y5,Vb,l0,l1,h1,h2,h3,h4]
  rw[hTe]at hr;simp only[h1,h2,h3,h4,decide_true,decide_false,Bool.and_true,Bool.and_false,Bool.false_and];exact xE.runs hr (.inr rfl) rfl rfl
def Yp (t:jG):List UInt8:=encs [t.id,t.fee]
def KT (t:jG):zu:=if qG t then .tuple #[jk 2 (Yp t),.int .i64 0]else .tuple #[.slice none 0 0,.int .i64 61]
theorem ny {t:jG}(h:qG t=true):(Yp t).length≤20:=by
 obtain⟨h1,h2,h3,h4⟩:=YR.mp h;have:=Qz (l:=[t.id,t.fee]) (by intro n hn;simp at hn;rcases hn with rfl |rfl<;>omega)
 exact this
theorem iU (x y:Int):sv 2 1 2 [.int .i64 x,.int .i64 y]=iz 2 [x,y]:=rfl
theorem xu.v (t:jG) (S:zS):zU zi O xu.id [tv t] S=some (KT t,S):=by
 obtain⟨T,hTe⟩:∃T,T=(tv t::[zh,zh,zh,zh,zh,zh,zh,zh,zh,zh,zh,zh,zh,zh,zh,zh,zh,zh]):=⟨_,rfl⟩;have hr:=Eq.refl (zX zi O false xu.code T zS.empty);have l0:=Zp (t:=3) (o:=0+0) (YH t) Zo rfl;have l1:=Zp (t:=3) (o:=0+1) (YH t) Zo rfl;have lt:=iZ (YH t);unfold KT;by_cases h:qG t=true
 ·have hh:=YR.mp h;have c1:=fun S=>wJ.v (l:=[t.id,t.fee]) je.read (by decide) (by simp;omega) S
  conv at hr=>
   rhs;rw[hTe];simp only[xu.code,xu.rs,jc,reduceIte,zk,zn,zo,zq,box1,lt,Yc,Zt.v,h,Y5,Vb,l0,l1,fP,iU,c1,KO (l:=[t.id,t.fee]) (by simp) (by simp;omega) (by simp)]
  rw[hTe]at hr;rw[zN h];exact xu.runs hr (.inr rfl) (by simp only[List.getD_cons_succ,List.getD_cons_zero,qQ,kH,kJ,kG,kF]) rfl rfl (Zx (all2 (vU (k:=2) (Nat.le_refl 2)) rfl))
 ·rw[Bool.not_eq_true]at h;conv at hr=>
   rhs;rw[hTe];simp only[xu.code,xu.rs,jc,reduceIte,zk,zn,zo,zq,box1,lt,Yc,Zt.v,h]
  rw[hTe]at hr;rw[zM (by rw[h];decide)]
  exact xu.runs hr (.inr rfl) rfl rfl rfl rfl
theorem xU.v (t:jG) (S:zS):zU zi O xU.id [tv t] S=some (KT t,S):=by
 obtain⟨T,hTe⟩:∃T,T=(tv t::[zh,zh,zh,zh,zh,zh,zh,zh,zh,zh,zh,zh,zh,zh]):=⟨_,rfl⟩;have hr:=Eq.refl (zX zi O false xU.code T zS.empty);have l0:=Zp (t:=3) (o:=0+0) (YH t) Zo rfl;have l1:=Zp (t:=3) (o:=0+1) (YH t) Zo rfl;have lt:=iZ (YH t);unfold KT;by_cases h:qG t=true
 ·have hh:=YR.mp h;have c1:=fun S=>wF.v (l:=[t.id,t.fee]) je.read (by decide) (by simp;omega) S
  conv at hr=>
   rhs;rw[hTe];simp only[xU.code,xU.rs,jc,reduceIte,zk,zn,zo,zq,box1,lt,Yc,xE.v,h,Y5,Vb,l0,l1,fP,iU,c1,KO (l:=[t.id,t.fee]) (by simp) (by simp;omega) (by simp)]
  rw[hTe]at hr;rw[zN h];exact xU.runs hr (.inr rfl) (by simp only[List.getD_cons_succ,List.getD_cons_zero,qQ,kH,kJ,kG,kF]) rfl rfl (Zx (all2 (vU (k:=2) (Nat.le_refl 2)) rfl))
 ·rw[Bool.not_eq_true]at h;conv at hr=>
   rhs;rw[hTe];simp only[xU.code,xU.rs,jc,reduceIte,zk,zn,zo,zq,box1,lt,Yc,xE.v,h]
  rw[hTe]at hr;rw[zM (by rw[h];decide)]
  exact xU.runs hr (.inr rfl) rfl rfl rfl rfl
theorem Z4 (S:zS):wR zi 43 S=some (.pointer (some ⟨S.next,0,none⟩),S.push (.cells (fT ⟨0,0⟩) (.own []) 0)):=by kernel_rfl
theorem YS (S:zS) (t:jG):∃S2,jI zi 43 (.pointer (some ⟨S.next,0,none⟩)) (tv t) (S.push (.cells (fT ⟨0,0⟩) (.own []) 0))=some (zh,S2)∧S2.get S.next=some (.cells (fT t) (.own []) 0)∧Ext S S2∧S.next<S2.next :=
 bI S (by rw[Zf,zD];rfl) Qh rfl rfl
theorem QT {S S0:zS}{q:Nat}{u:jG}(t:jG) (hg:S.get q=some (.cells (fT u) (.own []) 0)) (hE:Ext S0 S) (hq:S0.next≤q):∃S2,jI zi 43 (.pointer (some ⟨q,0,none⟩)) (tv t) S=some (zh,S2)∧S2.get q=some (.cells (fT t) (.own []) 0)∧Ext S0 S2∧S2.next=S.next∧∀k,k≠q→S2.get k=S.get k :=
 Vq hg Qh rfl rfl (by simp[fT]) hE hq
theorem PY {R:Type}{a b:Int}(r:Option R) (p:yw r):jK (.agg [Value.int .i64 a,.int .i64 b].toArray) r p=r:=qy rfl r p
theorem Jr {S:zS}{q:Nat}{t:jG}(h:S.get q=some (.cells (fT t) (.own []) 0)):zZ zi false 43 (.pointer (some ⟨q,0,none⟩)) S=some (tv t,S):=iZ h
theorem KJ {S:zS}{q:Nat}{t:jG}(h:S.get q=some (.cells (fT t) (.own []) 0)):zZ zi false 3 (.pointer (some ⟨q,0+0,none⟩)) S=some (.int .i64 t.id,S):=Zp (t:=3) (o:=0+0) h Zo rfl
theorem OO {S:zS}{q:Nat}{t:jG}(h:S.get q=some (.cells (fT t) (.own []) 0)):zZ zi false 3 (.pointer (some ⟨q,0+1,none⟩)) S=some (.int .i64 t.fee,S):=Zp (t:=3) (o:=0+1) h Zo rfl
theorem BM (k:Nat) (hk:k≤2) (a b:Int) (h:k≠0) (S:zS):jZ zi 24 (iz k [a,b]) (.int .i64 0) S=some (EP [.int .i64 a],S):=QG ⟨hk,fun h0=>absurd h0 h⟩ (by decide) (by simp)
theorem BN (k:Nat) (hk:k≤2) (a b:Int) (h:k≠0) (S:zS):jZ zi 24 (iz k [a,b]) (.int .i64 1) S=some (EP [.int .i64 b],S):=QG ⟨hk,fun h0=>absurd h0 h⟩ (by decide) (by simp)
def bQ (l:List UInt8):zu:=match qh 2 l with
 |some ([a,b],r)=>.tuple #[tv ⟨a,b⟩,jk 2 r,.bool (qG ⟨a,b⟩)]
 | _=>.tuple #[tv ⟨0,0⟩,.slice none 0 0,.bool false]
theorem VE (l:List UInt8):qh 2 l=none∨∃a b r,qh 2 l=some ([a,b],r)∧r.length≤l.length:=by
 cases h:qh 2 l with
 |none=>exact .inl rfl
 |some ar=>
  obtain⟨a,r⟩:=ar;obtain⟨h1,h2⟩:=bW h
  match a,h1 with
  | [x,y],_=>exact .inr ⟨x,y,r,rfl,h2⟩
theorem yZ.v {k:Nat}{l:List UInt8} (hk:je k l) (k2:k≠2) (hl:l.length≤140737488355328) (S:zS):zU zi O yZ.id [jk k l] S=some (bQ l,S):=by
 obtain⟨T,hTe⟩:∃T,T=(jk k l::[zh,zh,zh,zh,zh,zh,zh,zh,zh,zh,zh,zh,zh,zh,zh,zh,zh,zh,zh,zh,zh,zh,zh,zh,zh,zh,zh,zh]):=⟨_,rfl⟩;have hr:=Eq.refl (zX zi O false yZ.code T zS.empty);have c1:=fun S=>jT.v (many:=2) hk k2 hl S
 have a1:=Z4 zS.empty;have g1:(zS.empty.push (.cells (fT ⟨0,0⟩) (.own []) 0)).get 0=some (.cells (fT ⟨0,0⟩) (.own []) 0):=by kernel_rfl
 have n1:(zS.empty.push (.cells (fT ⟨0,0⟩) (.own []) 0)).next=1:=by kernel_rfl
 rw[show zS.empty.next=0 from rfl]at a1
 have r1:JY 0 (if k=0 then 0 else 2) 2 l=_:=QU (m:=2) (by decide) (by decide)
 rw[r1]at c1;unfold bQ;generalize hS1:zS.empty.push (.cells (fT ⟨0,0⟩) (.own []) 0)=S1 at a1 g1 n1;rcases VE l with h |⟨a,b,r,h,hlr⟩
 ·rw[h]at c1 ⊢;obtain⟨S2,p1,p2,p3,p4⟩:=QT ⟨0,0⟩ g1 (Ext.refl zS.empty |>.trans (hS1▸Ext.push _ _)) (Nat.zero_le _)
  conv at hr=>
   rhs;rw[hTe];simp only[yZ.code,yZ.rs,jc,reduceIte,zk,zn,zo,zq,zM k2,a1,c1,yR,p1]
  rw[hTe]at hr;exact yZ.runs hr (.inr rfl) (Jr p2) rfl rfl rfl (all1 (vU (k:=k) hk.le)) rfl
 ·rw[h]at c1 ⊢;have e0:=BM 1 (by decide) a b (by decide)
  have e1:=BN 1 (by decide) a b (by decide)
  have c2:∀S,zU zi O 68 [.agg [Value.int .i64 a,.int .i64 b].toArray] S=some (.bool (qG ⟨a,b⟩),S):=fun S=>Zt.v ⟨a,b⟩ S
  obtain⟨S2,p1,p2,p3,p4⟩:=YS S1 ⟨a,b⟩;have g2:S2.get 0=some (.cells (fT ⟨0,0⟩) (.own []) 0):=by rw[p3.get 0 (by omega),g1]
  obtain⟨S3,q1,q2,q3,q4,q5⟩:=QT ⟨a,b⟩ g2 (Ext.trans (hS1▸Ext.push _ _:Ext zS.empty S1) p3) (Nat.zero_le _);conv at hr=>
   rhs;rw[hTe];simp only[yZ.code,yZ.rs,jc,reduceIte,zk,zn,zo,zq,zM k2,a1,c1,e0,e1,kS,ah (vJ) (vJ),Z4,p1,Jr p2,q1,c2,ZG p2,PY]
  rw[hTe]at hr;exact yZ.runs hr (.inr rfl) (Jr q2) rfl (by simp only[List.getD_cons_succ,List.getD_cons_zero,qQ,kH,kJ,kG,kF]) rfl (all1 (vU (k:=k) hk.le)) (Zx (Ia rfl (vU (k:=2) (Nat.le_refl 2)) rfl))
noncomputable def Yq (l:List UInt8):Option jG:=rd (fun t=>qG t=true) Yp l
theorem Fh {a b:jG}{r s:List UInt8} (ha:qG a=true) (hb:qG b=true) (h:Yp a++r=Yp b++s):a=b∧r=s:=by
 obtain⟨a1,a2,a3,a4⟩:=YR.mp ha;obtain⟨b1,b2,b3,b4⟩:=YR.mp hb;obtain⟨h1,h2⟩:=Xp (a:=[a.id,a.fee]) (c:=[b.id,b.fee]) rfl (by simp[Zk];omega) (by simp[Zk];omega) h
 refine⟨?_,h2⟩;cases a;cases b;simp at h1;rw[h1.1,h1.2]
theorem KU (l:List UInt8) (t:jG):Yq l=some t↔qG t=true∧l=Yp t :=
 mD (fun x y hx hy h=>(Fh (r:=[]) (s:=[]) hx hy (by simpa using h)).1) l t
theorem Fp {l:List UInt8} (h:∀t,¬(qG t=true∧l=Yp t)):Yq l=none:=by
 cases hr:Yq l with
 |none=>rfl
 |some t=>exact absurd ((KU l t).mp hr) (h t)
noncomputable def XH (l:List UInt8):zu:=match Yq l with
 |some t=>.tuple #[tv t,.int .i64 0]
 |none=>.tuple #[tv ⟨0,0⟩,.int .i64 61]
theorem Fq {l r:List UInt8} {a b:Int}(h:qh 2 l=some ([a,b],r)):Yq l=if qG ⟨a,b⟩=true∧r=[]then some ⟨a,b⟩else none:=by
 obtain⟨_,h2,h3⟩:=(ZF _ _ _ _).mp h;split
 ·rename_i hc;exact(KU _ _).mpr ⟨hc.1,by rw[h2,hc.2,List.append_nil];rfl⟩
 ·rename_i hc;refine Fp fun t ht=>hc ?_
  obtain⟨b1,b2,b3,b4⟩:=YR.mp ht.1;have h4:encs [t.id,t.fee]++[]=encs [a,b]++r:=by rw[List.append_nil,←h2];exact ht.2.symm
  obtain⟨h5,h6⟩:=Xp (a:=[t.id,t.fee]) (c:=[a,b]) rfl (by simp[Zk];omega) h3 h4
  simp at h5;rw[←h5.1,←h5.2];exact⟨ht.1,h6.symm⟩
theorem Fv {l:List UInt8} (h:qh 2 l=none):Yq l=none:=by
 refine Fp fun t ht=>?_
 obtain⟨b1,b2,b3,b4⟩:=YR.mp ht.1;have:=(ZF 2 l [t.id,t.fee] []).mpr ⟨rfl,by rw[List.append_nil];exact ht.2,by simp[Zk];omega⟩
 rw[h]at this;cases this
theorem qV.v {k:Nat}{l:List UInt8} (hk:je k l) (k2:k≠2) (hl:l.length≤140737488355328) (S:zS):zU zi O qV.id [jk k l] S=some (XH l,S):=by
 obtain⟨T,hTe⟩:∃T,T=(jk k l::[zh,zh,zh,zh,zh,zh,zh,zh,zh,zh,zh,zh,zh,zh,zh,zh,zh,zh,zh,zh,zh]):=⟨_,rfl⟩;have hr:=Eq.refl (zX zi O false qV.code T zS.empty);have c1:=fun S=>yZ.v hk k2 hl S
 have a1:=Z4 zS.empty;have g1:(zS.empty.push (.cells (fT ⟨0,0⟩) (.own []) 0)).get 0=some (.cells (fT ⟨0,0⟩) (.own []) 0):=by kernel_rfl
 have n1:(zS.empty.push (.cells (fT ⟨0,0⟩) (.own []) 0)).next=1:=by kernel_rfl
 rw[show zS.empty.next=0 from rfl]at a1
 have hE1:Ext zS.empty (zS.empty.push (.cells (fT ⟨0,0⟩) (.own []) 0)):=Ext.push _ _;generalize zS.empty.push (.cells (fT ⟨0,0⟩) (.own []) 0)=S1 at a1 g1 n1 hE1;unfold bQ at c1;unfold XH;rcases VE l with h |⟨a,b,r,h,hlr⟩
 ·rw[h]at c1;rw[Fv h];obtain⟨S2,p1,p2,p3,p4⟩:=YS S1 ⟨0,0⟩;have g2:S2.get 0=some (.cells (fT ⟨0,0⟩) (.own []) 0):=by rw[p3.get 0 (by omega),g1]
  obtain⟨S3,q1,q2,q3,q4,q5⟩:=QT ⟨0,0⟩ g2 (Ext.trans hE1 p3) (Nat.zero_le _);conv at hr=>
   rhs;rw[hTe];simp only[qV.code,qV.rs,jc,reduceIte,zk,zn,zo,zq,zM k2,a1,c1,Z4,p1,yR,q1]
  rw[hTe]at hr;exact qV.runs hr (.inr rfl) (Jr q2) rfl rfl (all1 (vU (k:=k) hk.le)) rfl
 ·rw[h]at c1;rw[Fq h];by_cases hok:qG ⟨a,b⟩=true
  ·obtain⟨S2,p1,p2,p3,p4⟩:=YS S1 ⟨a,b⟩;have g2:S2.get 0=some (.cells (fT ⟨0,0⟩) (.own []) 0):=by rw[p3.get 0 (by omega),g1]
   by_cases h0:r=[]
   ·subst h0;obtain⟨S3,q1,q2,q3,q4,q5⟩:=QT ⟨a,b⟩ g2 (Ext.trans hE1 p3) (Nat.zero_le _);conv at hr=>
     rhs;rw[hTe];simp only[qV.code,qV.rs,jc,reduceIte,zk,zn,zo,zq,zM k2,a1,c1,Z4,p1,hok,Jm je.read,goInt,List.length_nil,Int.ofNat_zero,Int.natCast_zero,Int.lt_irrefl,Jr p2,q1]
    rw[zN ⟨hok,rfl⟩];rw[hTe]at hr;exact qV.runs hr (.inr rfl) (Jr q2) rfl rfl (all1 (vU (k:=k) hk.le)) rfl
   ·have hp:(0:Int)<(r.length:Int):=by have:=List.length_pos_iff.mpr h0;omega
    obtain⟨S3,q1,q2,q3,q4,q5⟩:=QT ⟨0,0⟩ g2 (Ext.trans hE1 p3) (Nat.zero_le _);conv at hr=>
     rhs;rw[hTe];simp only[qV.code,qV.rs,jc,reduceIte,zk,zn,zo,zq,zM k2,a1,c1,Z4,p1,hok,Jm je.read,goInt,zL hp,yR,q1]
    rw[zM (fun h=>h0 h.2)]
    rw[hTe]at hr;exact qV.runs hr (.inr rfl) (Jr q2) rfl rfl (all1 (vU (k:=k) hk.le)) rfl
  ·rw[zM (fun h=>hok h.1)]
   rw[Bool.not_eq_true]at hok;obtain⟨S2,p1,p2,p3,p4⟩:=YS S1 ⟨a,b⟩;have g2:S2.get 0=some (.cells (fT ⟨0,0⟩) (.own []) 0):=by rw[p3.get 0 (by omega),g1]
   obtain⟨S3,q1,q2,q3,q4,q5⟩:=QT ⟨0,0⟩ g2 (Ext.trans hE1 p3) (Nat.zero_le _);conv at hr=>
    rhs;rw[hTe];simp only[qV.code,qV.rs,jc,reduceIte,zk,zn,zo,zq,zM k2,a1,c1,Z4,p1,hok,yR,q1]
   rw[hTe]at hr;exact qV.runs hr (.inr rfl) (Jr q2) rfl rfl (all1 (vU (k:=k) hk.le)) rfl
theorem yS.v {k:Nat}{l:List UInt8} (hk:je k l) (k2:k≠2) (hl:l.length≤140737488355328) (S:zS):zU zi O yS.id [jk k l] S=some (XH l,S):=by
 obtain⟨T,hTe⟩:∃T,T=(jk k l::[zh,zh,zh,zh,zh,zh,zh,zh,zh,zh,zh,zh,zh,zh,zh,zh,zh,zh,zh,zh,zh,zh,zh,zh,zh,zh,zh,zh,zh,zh,zh,zh,zh,zh,zh,zh,zh,zh]):=⟨_,rfl⟩;have hr:=Eq.refl (zX zi O false yS.code T zS.empty);have c1:=fun S=>jS.v (many:=2) hk k2 hl S
 have r1:JY 2 2 2 l=_:=QU (m:=2) (by decide) (by decide)
 rw[r1]at c1;have a1:=Z4 zS.empty;have g1:(zS.empty.push (.cells (fT ⟨0,0⟩) (.own []) 0)).get 0=some (.cells (fT ⟨0,0⟩) (.own []) 0):=by kernel_rfl
 rw[show zS.empty.next=0 from rfl]at a1
 have hE1:Ext zS.empty (zS.empty.push (.cells (fT ⟨0,0⟩) (.own []) 0)):=Ext.push _ _;generalize zS.empty.push (.cells (fT ⟨0,0⟩) (.own []) 0)=S1 at a1 g1 hE1;obtain⟨S3,q1,q2,q3,q4,q5⟩:=QT ⟨0,0⟩ g1 hE1 (Nat.zero_le _);unfold XH;rcases VE l with h |⟨a,b,r,h,hlr⟩
 ·rw[h]at c1;rw[Fv h];conv at hr=>
   rhs;rw[hTe];simp only[yS.code,yS.rs,jc,reduceIte,zk,zn,zo,zq,zM k2,a1,c1,yR,q1]
  rw[hTe]at hr;exact yS.runs hr (.inr rfl) (Jr q2) rfl rfl (all1 (vU (k:=k) hk.le)) rfl
 ·rw[h]at c1;rw[Fq h];have e0:=BM 1 (by decide) a b (by decide)
  have e1:=BN 1 (by decide) a b (by decide)
  have c2:∀S,zU zi O 48 [.agg [Value.int .i64 a,.int .i64 b].toArray] S=some (.bool (qG ⟨a,b⟩),S):=fun S=>xE.v ⟨a,b⟩ S
  by_cases h0:r=[]
  ·subst h0;by_cases hok:qG ⟨a,b⟩=true
   ·obtain⟨S4,p1,p2,p3,p4⟩:=QT ⟨a,b⟩ g1 hE1 (Nat.zero_le _);conv at hr=>
     rhs;rw[hTe];simp only[yS.code,yS.rs,jc,reduceIte,zk,zn,zo,zq,zM k2,a1,c1,Jm je.read,goInt,List.length_nil,Int.ofNat_zero,Int.natCast_zero,Int.lt_irrefl,e0,e1,kS,ah (vJ) (vJ),c2,hok,p1]
    rw[zN ⟨hok,rfl⟩];rw[hTe]at hr;exact yS.runs hr (.inr rfl) (Jr p2) rfl rfl (all1 (vU (k:=k) hk.le)) rfl
   ·rw[zM (fun h=>hok h.1)]
    rw[Bool.not_eq_true]at hok;conv at hr=>
     rhs;rw[hTe];simp only[yS.code,yS.rs,jc,reduceIte,zk,zn,zo,zq,zM k2,a1,c1,Jm je.read,goInt,List.length_nil,Int.ofNat_zero,Int.natCast_zero,Int.lt_irrefl,e0,e1,kS,ah (vJ) (vJ),c2,hok,yR,q1]
    rw[hTe]at hr;exact yS.runs hr (.inr rfl) (Jr q2) rfl rfl (all1 (vU (k:=k) hk.le)) rfl
  ·have hp:(0:Int)<(r.length:Int):=by have:=List.length_pos_iff.mpr h0;omega
   rw[zM (fun h=>h0 h.2)]
   conv at hr=>
    rhs;rw[hTe];simp only[yS.code,yS.rs,jc,reduceIte,zk,zn,zo,zq,zM k2,a1,c1,Jm je.read,goInt,zL hp,yR,q1]
   rw[hTe]at hr;exact yS.runs hr (.inr rfl) (Jr q2) rfl rfl (all1 (vU (k:=k) hk.le)) rfl
end Go.Proofs.Ytfjogganfjkckaa
