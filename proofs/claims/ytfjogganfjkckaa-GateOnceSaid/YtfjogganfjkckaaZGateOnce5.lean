/-
The law GateOnce returns true for every input, and leaves it as it was; no condition. Part 5 of 7 of the texts (put together by a program: own names are short, what isn't needed is left out).
-/
import Derived.Test.YtfjogganfjkckaaZGateOnce4
import Derived.Test.YtfjogganfjkckaaChecked
import Derived.KernelRfl
set_option linter.unusedVariables false
set_option linter.unusedSimpArgs false
set_option maxRecDepth 100000
open Go renaming undef → zh
open Go.Proofs.Try renaming prog → zi
open Nat renaming reduceEqDiff → zk
open Int renaming reduceEq → zn
open Int renaming reduceLT → zo
open Int renaming reduceLE → zq
namespace Go.Proofs.Ytfjogganfjkckaa
open Go.Abs
theorem zH.goes (x0 x1 x2 x3 x4 x5 x6 x7 x8 x9 x10 x11 x12 x13 x14 x15 x16 x17 x18 x19 x20 x21 x22 x23 x24 x25 x26 x27 x28 x29 x30 x31 x32 x33 x34 x35 x36 x37 x38 x39 x40 x41 x42 x43 x44 x45 x46 x47 x48 x49 x50 x51 x52 x53 x54 x55 x56 x57:Value) (i:Int) {S:zy} {k:Nat} {l:List UInt8} (hv:Okl k l) (hk:k≠2) (h0:x0=by_ k l) (h7:x7=.int .i64 i):∃ y10 y11 y12 y13 y14 y15 y16,jD zi ⟨false,false,false⟩ (zZ zi O) (reg Try.f28 4) (reg Try.f28 4).toList (x0::x1::x2::x3::x4::x5::x6::x7::x8::x9::x10::x11::x12::x13::x14::x15::x16::x17::x18::x19::x20::x21::x22::x23::x24::x25::x26::x27::x28::x29::x30::x31::x32::x33::x34::x35::x36::x37::x38::x39::x40::x41::x42::x43::x44::x45::x46::x47::x48::x49::x50::x51::x52::x53::x54::x55::x56::x57::[]) S =
  some ((x0::x1::x2::x3::x4::x5::x6::x7::x8::x9::y10::y11::y12::y13::y14::y15::y16::.bool (decide (i < l.length∧i < 10))::x18::x19::x20::x21::x22::x23::x24::x25::x26::x27::x28::x29::x30::x31::x32::x33::x34::x35::x36::x37::x38::x39::x40::x41::x42::x43::x44::x45::x46::x47::x48::x49::x50::x51::x52::x53::x54::x55::x56::x57::[]),S):=by
 subst h7 h0
 rw [zH.r4]
 simp only [zSs,reduceIte,zk,zn,zo,zq,if_neg hk,ZP hv,goInt]
 rcases Bool.eq_false_or_eq_true (decide (i < (l.length:Int))) with d1 | d1 <;> rcases Bool.eq_false_or_eq_true (decide (i < 10)) with d2 | d2 <;>
  simp only [d1,d2,zSs,reduceIte,zk,zn,zo,zq] <;> simp only [decide_eq_true_eq,decide_eq_false_iff_not] at d1 d2 <;>
  simp only [d1,d2,and_true,and_false,true_and,false_and,decide_true,decide_false] <;> exact ⟨_,_,_,_,_,_,_,rfl⟩
theorem zH.nine {T:List Value} {S:zy} {i c:Int} (hT:T.length=58) (h7:T.getD 7 zh=.int .i64 i) (h8:T.getD 8 zh=.int .u64 c):∃ T',jD zi ⟨false,false,false⟩ (zZ zi O) (reg Try.f28 7) (reg Try.f28 7).toList T S=some (T',S) ∧
  T'.length=58∧T'.getD 31 zh=.bool (decide (i=9∧1 < c))∧∀ j,j < 10→T'.getD j zh=T.getD j zh:=by
 obtain ⟨x0,x1,x2,x3,x4,x5,x6,x7,x8,x9,x10,x11,x12,x13,x14,x15,x16,x17,x18,x19,x20,x21,x22,x23,x24,x25,x26,x27,x28,x29,x30,x31,x32,x33,x34,x35,x36,x37,x38,x39,x40,x41,x42,x43,x44,x45,x46,x47,x48,x49,x50,x51,x52,x53,x54,x55,x56,x57,rfl⟩:=zH.list hT
 simp only [List.getD_cons_succ,List.getD_cons_zero] at h7 h8
 subst h7 h8
 rw [zH.r7]
 simp only [zSs,reduceIte,zk,zn,zo,zq]
 rcases Bool.eq_false_or_eq_true (decide (i=9)) with d1 | d1 <;> rcases Bool.eq_false_or_eq_true (decide (1 < c)) with d2 | d2 <;>
  simp only [d1,d2,zSs,reduceIte,zk,zn,zo,zq] <;> simp only [decide_eq_true_eq,decide_eq_false_iff_not] at d1 d2 <;>
  simp only [d1,d2,and_true,and_false,true_and,false_and,decide_true,decide_false] <;> exact ⟨_,rfl,rfl,rfl,fun j hj=>by (match j,hj with | 0,_=>rfl | 1,_=>rfl | 2,_=>rfl | 3,_=>rfl | 4,_=>rfl | 5,_=>rfl | 6,_=>rfl | 7,_=>rfl | 8,_=>rfl | 9,_=>rfl)⟩
theorem ad5 (k:Nat):∀ n,128 ^ k≤n→n < 128 ^ (k+1)→(enc n).length=k+1:=by
 induction k with
 | zero=>intro n _ h;rw [Zj (by omega)];rfl
 | succ k ih =>
  intro n h1 h2
  have hn:¬ n < 128:=by
   have:128 ^ 1≤128 ^ (k+1):=Nat.pow_le_pow_right (by omega) (by omega)
   omega
  rw [Yt hn,List.length_cons,ih (n / 128) (by rw [Nat.le_div_iff_mul_le (by omega)];exact h1) (by rw [Nat.div_lt_iff_lt_mul (by omega)];exact h2)]
theorem afL (n:Nat):0 < (enc n).length:=by
 by_cases h:n < 128
 ·
  rw [Zj h];simp
 ·
  rw [Yt h];simp
section
variable {k:Nat} {l:List UInt8} {S:zy}
theorem zH.out (hv:Okl k l) (hk:k≠2) {i:Nat} {T:List Value} {r:St} (hL:qE (zJ zi O false zH.jT) T S=r) (hT:T.length=58)
  (h0:T.getD 0 zh=by_ k l) (h7:T.getD 7 zh=.int .i64 i) (hi:l.length≤i∨10≤i):∃ T',r=some (.exit 0,T',S)∧T'.length=58:=by
 obtain ⟨x0,x1,x2,x3,x4,x5,x6,x7,x8,x9,x10,x11,x12,x13,x14,x15,x16,x17,x18,x19,x20,x21,x22,x23,x24,x25,x26,x27,x28,x29,x30,x31,x32,x33,x34,x35,x36,x37,x38,x39,x40,x41,x42,x43,x44,x45,x46,x47,x48,x49,x50,x51,x52,x53,x54,x55,x56,x57,hTe⟩:=zH.list hT
 rw [hTe] at h0 h7
 simp only [List.getD_cons_succ,List.getD_cons_zero] at h0 h7
 have hr:zJ zi O false zH.jT T S=zJ zi O false zH.jT T S:=rfl
 obtain ⟨y10,y11,y12,y13,y14,y15,y16,e1⟩:=zH.goes x0 x1 x2 x3 x4 x5 x6 x7 x8 x9 x10 x11 x12 x13 x14 x15 x16 x17 x18 x19 x20 x21 x22 x23 x24 x25 x26 x27 x28 x29 x30 x31 x32 x33 x34 x35 x36 x37 x38 x39 x40 x41 x42 x43 x44 x45 x46 x47 x48 x49 x50 x51 x52 x53 x54 x55 x56 x57 (i:Int) (S:=S) hv hk h0 h7
 have hd:decide ((i:Int) < (l.length:Int)∧(i:Int) < 10)=false:=by simp;omega
 rw [hd] at e1
 conv at hr =>
  rhs
  rw [hTe]
  simp only [zH.jT,zSs,reduceIte,zk,zn,zo,zq,e1]
 exact ⟨_,hL.symm.trans (wu hr (by simp)),rfl⟩
theorem zH.round (hv:Okl k l) (hk:k≠2) (hlen:l.length≤140737488355328):∀ (suf pre:List UInt8) (acc:Nat) {T:List Value} {r:St},qE (zJ zi O false zH.jT) T S=r→T.length=58 →
  T.getD 0 zh=by_ k l→T.getD 7 zh=.int .i64 pre.length→T.getD 5 zh=.int .u64 acc→T.getD 6 zh=.int .u64 (128 ^ pre.length:Nat)→l=pre++suf→acc < 128 ^ pre.length→pre.length≤9 →
  ∃ e T',r=some (e,T',S)∧match scan pre.length acc suf with
   | none=>(e=.exit 0∧T'.length=58)∨(e=.ret∧T'.getD 2 zh=.int .u64 0∧T'.getD 3 zh=.slice none 0 0∧T'.getD 4 zh=.int .i64 11)
   | some (m,rest)=>e=.ret∧T'.getD 2 zh=.int .u64 m∧T'.getD 3 zh=by_ 2 rest∧T'.getD 4 zh=.int .i64 0:=by
 intro suf
 induction suf with
 | nil =>
  intro pre acc T r hL hT h0 h7 h5 h6 hl hacc hpre
  obtain ⟨T',h1,h2⟩:=zH.out hv hk hL hT h0 h7 (by rw [hl];simp)
  exact ⟨_,T',h1,.inl ⟨rfl,h2⟩⟩
 | cons x suf ih =>
  intro pre acc T r hL hT h0 h7 h5 h6 hl hacc hpre
  obtain ⟨x0,x1,x2,x3,x4,x5,x6,x7,x8,x9,x10,x11,x12,x13,x14,x15,x16,x17,x18,x19,x20,x21,x22,x23,x24,x25,x26,x27,x28,x29,x30,x31,x32,x33,x34,x35,x36,x37,x38,x39,x40,x41,x42,x43,x44,x45,x46,x47,x48,x49,x50,x51,x52,x53,x54,x55,x56,x57,hTe⟩:=zH.list hT
  rw [hTe] at h0 h7 h5 h6
  simp only [List.getD_cons_succ,List.getD_cons_zero] at h0 h7 h5 h6
  have hr:zJ zi O false zH.jT T S=zJ zi O false zH.jT T S:=rfl
  have hlt:(pre.length:Int) < (l.length:Int):=by rw [hl];simp;omega
  have k0:k≠0:=fun h=>by have:=hv.nil h;rw [this] at hl;simp at hl
  have e1:∀ S,jy zi 33 (by_ k l) (.int .i64 pre.length) S=some (EP [.int .u8 x.toNat],S):=fun S=>by
   rw [aif hv (by omega) hlt];rw [Xt hl]
  have hx256:=x.toNat_lt
  obtain ⟨y10,y11,y12,y13,y14,y15,y16,e3⟩:=zH.goes x0 x1 x2 x3 x4 x5 x6 x7 x8 x9 x10 x11 x12 x13 x14 x15 x16 x17 x18 x19 x20 x21 x22 x23 x24 x25 x26 x27 x28 x29 x30 x31 x32 x33 x34 x35 x36 x37 x38 x39 x40 x41 x42 x43 x44 x45 x46 x47 x48 x49 x50 x51 x52 x53 x54 x55 x56 x57 (pre.length:Int) (S:=S) hv hk h0 h7
  have hd:decide ((pre.length:Int) < (l.length:Int)∧(pre.length:Int) < 10)=true:=by rw [decide_eq_true_eq];omega
  rw [hd,h7,h5,h6,h0] at e3
  have hlow:(x.toNat:Int).tmod 128=((x.toNat % 128:Nat):Int):=afE _
  conv at hr =>
   rhs
   rw [hTe]
   simp only [zH.jT,zSs,reduceIte,zk,zn,zo,zq,h7,h5,h6,h0,e3,zH.r6,if_neg hk,e1,Ky,WS _ _ _ (show (128:Int)≠0 by omega),hlow,Zn,ZR (show x.toNat % 128 < 2 ^ 64 by omega)]
  generalize hT2:(_::_:List Value)=T2 at hr
  have t0:T2.length=58:=by rw [← hT2];rfl
  have t1:T2.getD 0 zh=by_ k l:=by rw [← hT2];rfl
  have t2:T2.getD 5 zh=.int .u64 acc:=by rw [← hT2];rfl
  have t3:T2.getD 6 zh=.int .u64 (128 ^ pre.length:Nat):=by rw [← hT2];rfl
  have t4:T2.getD 7 zh=.int .i64 pre.length:=by rw [← hT2];rfl
  have t5:T2.getD 8 zh=.int .u64 (x.toNat % 128:Nat):=by rw [← hT2];rfl
  obtain ⟨T3,e4,f0,f1,f2⟩:=zH.nine (S:=S) t0 t4 t5
  rw [← f2 _ (by omega)] at t1 t2 t3 t4 t5
  conv at hr =>
   rhs
   simp only [e4,zSs,reduceIte,zk,zn,zo,zq,f1]
  clear hT2 e4 f1 f2 e3 hTe h7 h5 h6 h0
  obtain ⟨z0,z1,z2,z3,z4,z5,z6,z7,z8,z9,z10,z11,z12,z13,z14,z15,z16,z17,z18,z19,z20,z21,z22,z23,z24,z25,z26,z27,z28,z29,z30,z31,z32,z33,z34,z35,z36,z37,z38,z39,z40,z41,z42,z43,z44,z45,z46,z47,z48,z49,z50,z51,z52,z53,z54,z55,z56,z57,hTe⟩:=zH.list f0
  rw [hTe] at t1 t2 t3 t4 t5
  simp only [List.getD_cons_succ,List.getD_cons_zero] at t1 t2 t3 t4 t5
  subst t1
  by_cases hs1:pre.length=9∧1 < x.toNat % 128
  ·
   have hd1:decide ((pre.length:Int)=9∧1 < ((x.toNat % 128:Nat):Int))=true:=by rw [decide_eq_true_eq];omega
   conv at hr =>
    rhs
    rw [hTe]
    simp only [hd1,zSs,reduceIte,zk,zn,zo,zq,zH.r8]
   refine ⟨_,_,hL.symm.trans (wu hr (by simp)),?_⟩
   rw [scan,if_pos (.inl ⟨hs1.1,by omega⟩)]
   exact .inr ⟨rfl,rfl,rfl,rfl⟩
  ·
   have hd1:decide ((pre.length:Int)=9∧1 < ((x.toNat % 128:Nat):Int))=false:=by rw [decide_eq_false_iff_not];omega
   have hpw:128 ^ pre.length≤128 ^ 9:=Nat.pow_le_pow_right (by omega) hpre
   have hc64:x.toNat % 128 * 128 ^ pre.length < 2 ^ 64:=by
    by_cases h9:pre.length=9
    ·
     rw [h9];have:x.toNat % 128≤1:=by omega
     exact Nat.lt_of_le_of_lt (Nat.mul_le_mul_right _ this) (by decide)
    ·
     have h8:128 ^ pre.length≤128 ^ 8:=Nat.pow_le_pow_right (by omega) (by omega)
     exact Nat.lt_of_le_of_lt (Nat.mul_le_mul (by omega:x.toNat % 128≤127) h8) (by decide)
   have ha64:acc+x.toNat % 128 * 128 ^ pre.length < 2 ^ 64:=by
    by_cases h9:pre.length=9
    ·
     rw [h9] at hacc ⊢
     have:x.toNat % 128≤1:=by omega
     have h1:x.toNat % 128 * 128 ^ 9≤1 * 128 ^ 9:=Nat.mul_le_mul_right _ this
     have h2:(128:Nat) ^ 9+1 * 128 ^ 9=2 ^ 64:=by decide
     omega
    ·
     have h8:128 ^ (pre.length+1)≤128 ^ 9:=Nat.pow_le_pow_right (by omega) (by omega)
     have h3:acc+x.toNat % 128 * 128 ^ pre.length < 128 ^ (pre.length+1):=by
      rw [Nat.pow_succ]
      have:x.toNat % 128 * 128 ^ pre.length≤127 * 128 ^ pre.length:=Nat.mul_le_mul_right _ (by omega)
      omega
     exact Nat.lt_of_lt_of_le h3 (Nat.le_trans h8 (by decide))
   have w1:IntKind.u64.wrap (((x.toNat % 128:Nat):Int) * ((128 ^ pre.length:Nat):Int))=((x.toNat % 128 * 128 ^ pre.length:Nat):Int):=by
    rw [← Int.natCast_mul,ZR hc64]
   have w2:IntKind.u64.wrap ((acc:Int)+((x.toNat % 128 * 128 ^ pre.length:Nat):Int))=((acc+x.toNat % 128 * 128 ^ pre.length:Nat):Int):=by
    rw [← Int.natCast_add,ZR ha64]
   conv at hr =>
    rhs
    rw [hTe]
    simp only [hd1,zSs,reduceIte,zk,zn,zo,zq,zH.r9,zH.r10,zH.r11,t2,t3,t4,t5,w1,w2,if_neg hk,e1,Ky]
   have hi1:IntKind.i64.wrap ((pre.length:Int)+1)=(pre.length:Int)+1:=wrap_i64 (by omega) (by omega)
   by_cases hxs:x.toNat < 128
   ·
    have hxm:x.toNat % 128=x.toNat:=by omega
    rw [hxm] at hr ha64
    have hd2:decide ((x.toNat:Int) < 128)=true:=by rw [decide_eq_true_eq];omega
    conv at hr =>
     rhs
     simp only [hd2,zSs,reduceIte,zk,zn,zo,zq,zH.r12,jv.v _ ha64,zH.r13,ZP (Okl.read),goInt,hi1]
    by_cases hz:0 < pre.length∧x.toNat=0
    ·
     have hlen2:(enc (acc+x.toNat * 128 ^ pre.length)).length≤pre.length:=by
      obtain ⟨q,hq⟩:∃ q,pre.length=q+1:=⟨pre.length - 1,by omega⟩
      rw [hz.2,Nat.zero_mul,Nat.add_zero,hq]
      exact agr q acc (by rw [← hq];exact hacc)
     have hd3:decide ((((enc (acc+x.toNat * 128 ^ pre.length)).length:Nat):Int)=(pre.length:Int)+1)=false:=by rw [decide_eq_false_iff_not];omega
     conv at hr =>
      rhs
      simp only [hd3,zSs,reduceIte,zk,zn,zo,zq,zH.r14]
     refine ⟨_,_,hL.symm.trans (wu hr (by simp)),?_⟩
     rw [scan,if_pos (.inr hz)]
     exact .inr ⟨rfl,rfl,rfl,rfl⟩
    ·
     have hlen2:(enc (acc+x.toNat * 128 ^ pre.length)).length=pre.length+1:=by
      by_cases hp0:pre.length=0
      ·
       rw [hp0] at hacc ⊢
       rw [Zj (by omega)];rfl
      ·
       refine ad5 _ _ ?_ ?_
       ·
        have:1 * 128 ^ pre.length≤x.toNat * 128 ^ pre.length:=Nat.mul_le_mul_right _ (by omega)
        omega
       ·
        rw [Nat.pow_succ]
        have:x.toNat * 128 ^ pre.length≤127 * 128 ^ pre.length:=Nat.mul_le_mul_right _ (by omega)
        omega
     have hd3:decide ((((enc (acc+x.toNat * 128 ^ pre.length)).length:Nat):Int)=(pre.length:Int)+1)=true:=by rw [decide_eq_true_eq];omega
     have e4:∀ S,Jj zi 33 (by_ k l) (some (.int .i64 ((pre.length:Int)+1))) none S=some (by_ k suf,S):=fun S=>by
      rw [adI hv (lo:=some (.int .i64 ((pre.length:Int)+1))) (hi:=none) (i:=(pre.length:Int)+1) (j:=l.length) rfl rfl (by omega) (by omega) (by omega),acY hl,if_neg hk]
     have ok2:Okl k suf:=⟨hv.le,fun h=>absurd h k0⟩
     have e5:∀ S,wR zi 33 33 (by_ 2 []) (by_ k suf) S=some (by_ 2 suf,S):=fun S=>by
      rw [xG Okl.own (by decide) ok2 (by have:=congrArg List.length hl;simp at this;simp;omega)];rfl
     conv at hr =>
      rhs
      simp only [hd3,zSs,reduceIte,zk,zn,zo,zq,zH.r15,Ze,agT,hi1,if_neg hk,e4,e5]
     refine ⟨_,_,hL.symm.trans (wu hr (by simp)),?_⟩
     rw [scan,if_neg (by rintro (h | h);exact absurd ⟨h.1,by omega⟩ hs1;exact hz h),if_pos hxs]
     exact ⟨rfl,rfl,rfl,rfl⟩
   ·
    have hd2:decide ((x.toNat:Int) < 128)=false:=by rw [decide_eq_false_iff_not];omega
    conv at hr =>
     rhs
     simp only [hd2,zSs,reduceIte,zk,zn,zo,zq,zH.r5,hi1]
    obtain ⟨T1,hr,q0,q1,q2,q3,q4⟩:∃ T1,zJ zi O false zH.jT T S=some (.normal,T1,S)∧T1.length=58∧T1.getD 0 zh=by_ k l∧T1.getD 7 zh=.int .i64 ((pre.length:Int)+1) ∧
     T1.getD 5 zh=.int .u64 ((acc+x.toNat % 128 * 128 ^ pre.length:Nat):Int)∧T1.getD 6 zh=.int .u64 (IntKind.u64.wrap (((128 ^ pre.length:Nat):Int) * 128)):=⟨_,hr,rfl,rfl,rfl,rfl,rfl⟩
    by_cases hp9:pre.length=9
    ·
     obtain ⟨T',h1,h2⟩:=zH.out hv hk ((wZ hr).symm.trans hL) q0 q1 (i:=pre.length+1) q2 (.inr (by omega))
     refine ⟨_,T',h1,?_⟩
     rw [scan,if_pos (.inl ⟨hp9,by omega⟩)]
     exact .inl ⟨rfl,h2⟩
    ·
     have hpl:IntKind.u64.wrap (((128 ^ pre.length:Nat):Int) * 128)=((128 ^ (pre.length+1):Nat):Int):=by
      have h8:128 ^ (pre.length+1)≤128 ^ 9:=Nat.pow_le_pow_right (by omega) (by omega)
      rw [show ((128 ^ pre.length:Nat):Int) * 128=((128 ^ (pre.length+1):Nat):Int) by rw [Nat.pow_succ,Int.natCast_mul];rfl]
      exact ZR (Nat.lt_of_le_of_lt h8 (by decide))
     rw [hpl] at q4
     have hadd:acc+x.toNat % 128 * 128 ^ pre.length < 128 ^ (pre.length+1):=by
      rw [Nat.pow_succ]
      have:x.toNat % 128 * 128 ^ pre.length≤127 * 128 ^ pre.length:=Nat.mul_le_mul_right _ (by omega)
      omega
     have hpl2:(pre++[x]).length=pre.length+1:=by simp
     obtain ⟨e,T',g1,g3⟩:=ih (pre++[x]) (acc+x.toNat % 128 * 128 ^ pre.length) ((wZ hr).symm.trans hL) q0 q1 (by rw [hpl2];exact q2) q3 (by rw [hpl2];exact q4) (by simp [hl]) (by rw [hpl2];exact hadd) (by rw [hpl2];omega)
     refine ⟨e,T',g1,?_⟩
     rw [scan,if_neg (by omega),if_neg hxs]
     have hxm:x.toNat % 128=x.toNat - 128:=by omega
     rw [hxm,hpl2] at g3
     exact g3
theorem zH.v (hv:Okl k l) (hk:k≠2) (hlen:l.length≤140737488355328) (S:zy):zZ zi O zH.id [by_ k l] S=some (XL l,S):=by
 obtain ⟨T,hTe⟩:∃ T,T=(by_ k l::zh::zh::zh::zh::zh::zh::zh::zh::zh::zh::zh::zh::zh::zh::zh::zh::zh::zh::zh::zh::zh::zh::zh::zh::zh::zh::zh::zh::zh::zh::zh::zh::zh::zh::zh::zh::zh::zh::zh::zh::zh::zh::zh::zh::zh::zh::zh::zh::zh::zh::zh::zh::zh::zh::zh::zh::zh::[]):=⟨_,rfl⟩
 have hr:zJ zi O false zH.code T S=zJ zi O false zH.code T S:=rfl
 conv at hr =>
  rhs
  rw [hTe]
  simp only [zH.code,zSs,reduceIte,zk,zn,zo,zq,zH.r0,zH.r1,zH.r2,zH.r3]
 generalize hL:qE (zJ zi O false zH.jT) _ _=r at hr
 obtain ⟨e,T',rfl,g3⟩:=zH.round hv hk hlen l [] 0 hL rfl rfl rfl rfl rfl rfl (by simp) (by simp)
 simp only [List.length_nil] at g3
 unfold XL
 cases hsc:scan 0 0 l with
 | none =>
  rw [hsc] at g3
  rcases g3 with ⟨rfl,hT'⟩ | ⟨rfl,h2,h3,h4⟩
  ·
   obtain ⟨x0,x1,x2,x3,x4,x5,x6,x7,x8,x9,x10,x11,x12,x13,x14,x15,x16,x17,x18,x19,x20,x21,x22,x23,x24,x25,x26,x27,x28,x29,x30,x31,x32,x33,x34,x35,x36,x37,x38,x39,x40,x41,x42,x43,x44,x45,x46,x47,x48,x49,x50,x51,x52,x53,x54,x55,x56,x57,hTe'⟩:=zH.list hT'
   conv at hr =>
    rhs
    rw [hTe']
    simp only [zSs,reduceIte,zk,zn,zo,zq,zH.r16]
   rw [hTe] at hr
   exact zH.runs hr (.inr rfl) rfl rfl rfl
  ·
   conv at hr =>
    rhs
    simp only [zSs,reduceIte,zk,zn,zo,zq]
   rw [hTe] at hr
   have hrun:=zH.runs hr (.inr rfl) (by rw [h2];rfl) (by rw [h3];rfl) (by rw [h4];rfl)
   rw [h2,h3,h4] at hrun
   exact hrun
 | some mr =>
  obtain ⟨m,rest⟩:=mr
  rw [hsc] at g3
  obtain ⟨rfl,h2,h3,h4⟩:=g3
  conv at hr =>
   rhs
   simp only [zSs,reduceIte,zk,zn,zo,zq]
  rw [hTe] at hr
  have hrun:=zH.runs hr (.inr rfl) (by rw [h2];rfl) (by rw [h3];exact wJ) (by rw [h4];rfl)
  rw [h2,h3,h4] at hrun
  exact hrun
end
end Go.Proofs.Ytfjogganfjkckaa
namespace Go.Proofs.Ytfjogganfjkckaa
open Go.Abs
theorem Xd {n:Nat} (h:n < 256):(UInt8.ofNat n).toNat=n:=by rw [UInt8.toNat_ofNat'];omega
theorem aci:∀ (n i acc:Nat) (r:List UInt8),i≤9→(0 < i→0 < n)→n * 128 ^ i < 2 ^ 64→scan i acc (enc n++r)=some (acc+n * 128 ^ i,r):=by
 intro n
 induction n using Nat.strongRecOn with
 | _ n ih =>
  intro i acc r hi hn hlt
  have h9:i=9→n≤1:=by
   intro h;subst h
   have:(128:Nat) ^ 9=2 ^ 63:=by decide
   omega
  by_cases hs:n < 128
  ·
   rw [Zj hs,List.singleton_append,scan,Xd (by omega),if_neg (by rintro (⟨h1,h2⟩ | ⟨h1,h2⟩);exact absurd (h9 h1) (by omega);exact absurd (hn h1) (by omega)),if_pos hs]
  ·
   rw [Yt hs,List.cons_append,scan,Xd (by omega)]
   have hi9:i≠9:=fun h=>by have:=h9 h;omega
   rw [if_neg (by rintro (⟨h1,h2⟩ | ⟨h1,h2⟩);exact hi9 h1;omega),if_neg (by omega)]
   have hmul:n / 128 * 128 ^ (i+1)≤n * 128 ^ i:=by
    rw [Nat.pow_succ,← Nat.mul_assoc,Nat.mul_right_comm]
    exact Nat.mul_le_mul_right _ (by omega)
   rw [ih (n / 128) (by omega) (i+1) _ r (by omega) (fun _=>by omega) (Nat.lt_of_le_of_lt hmul hlt)]
   congr 2
   have:n=n % 128+n / 128 * 128:=by omega
   have e1:(n % 128+128 - 128) * 128 ^ i+n / 128 * 128 ^ (i+1)=n * 128 ^ i:=by
    rw [Nat.pow_succ]
    conv=>rhs;rw [this,Nat.add_mul]
    rw [Nat.add_sub_cancel,Nat.mul_comm (128 ^ i) 128,← Nat.mul_assoc]
   omega
theorem YI {n:Nat} (h:n < 2 ^ 64) (r:List UInt8):scan 0 0 (enc n++r)=some (n,r):=by
 rw [aci n 0 0 r (by omega) (by omega) (by simpa using h)];simp
theorem aaY:∀ (l:List UInt8) (i acc m:Nat) (r:List UInt8),scan i acc l=some (m,r)→∃ n,l=enc n++r∧m=acc+n * 128 ^ i∧(0 < i→0 < n):=by
 intro l
 induction l with
 | nil=>intro i acc m r h;cases h
 | cons x l ih =>
  intro i acc m r h
  rw [scan] at h
  have hx:=x.toNat_lt
  split at h
  ·
   cases h
  ·
   rename_i hs
   split at h
   ·
    rename_i hx2
    cases h
    refine ⟨x.toNat,?_,rfl,fun hi=>by omega⟩
    rw [Zj hx2];simp
   ·
    rename_i hx2
    obtain ⟨n,h1,h2,h3⟩:=ih _ _ _ _ h
    refine ⟨x.toNat - 128+n * 128,?_,?_,fun _=>?_⟩
    ·
     have hn:=h3 (by omega)
     rw [Yt (by omega),show (x.toNat - 128+n * 128) / 128=n by omega,show (x.toNat - 128+n * 128) % 128+128=x.toNat by omega,h1]
     simp
    ·
     rw [h2,Nat.pow_succ,Nat.add_mul]
     rw [Nat.mul_comm (128 ^ i) 128,← Nat.mul_assoc];omega
    ·
     have:=h3 (by omega);omega
theorem abq {l r:List UInt8} {m:Nat} (h:scan 0 0 l=some (m,r)):l=enc m++r∧m < 2 ^ 64:=by
 obtain ⟨n,h1,h2,_⟩:=aaY l 0 0 m r h
 have:m=n:=by simpa using h2
 subst this
 exact ⟨h1,(Xn l 0 0 (by decide) (by omega) m r h).1⟩
theorem ai8 {a b:Nat} (ha:a < 2 ^ 64) (hb:b < 2 ^ 64) {r s:List UInt8} (h:enc a++r=enc b++s):a=b∧r=s:=by
 have h1:=YI ha r
 rw [h,YI hb s] at h1
 simp only [Option.some.injEq,Prod.mk.injEq] at h1
 exact ⟨h1.1.symm,h1.2.symm⟩
end Go.Proofs.Ytfjogganfjkckaa
namespace Go.Abs
open Go.RowKit
theorem akt {b:Nat} {e:Ty} {α:Type} (f:α→List Value) (Q:α→Prop) (h:∀ x,e.Good x→∃ y,e.QJ x=f y∧Q y) (hf:∀ y,(f y).length=e.sz) (x:(Ty.slc b e).Val) (hg:(Ty.slc b e).Good x) :
  ∃ k l,Okl k l∧k≠2∧(Ty.slc b e).QJ x=[vs f e.sz k l]∧l.length * b≤140737488351232∧∀ y ∈ l,Q y:=by
 match x,hg with
 | none,_=>exact ⟨0,[],Okl.none,by decide,rfl,by simp,fun y hy=>by cases hy⟩
 | some xs,hg =>
  obtain ⟨h1,h2,h3⟩:=hg
  have key:∀ xs:List e.Val,(∀ n ∈ xs,e.Good n)→∃ l:List α,xs.flatMap e.QJ=l.flatMap f∧l.length=xs.length∧∀ y ∈ l,Q y:=by
   intro xs
   induction xs with
   | nil=>intro _;exact ⟨[],rfl,rfl,fun y hy=>by cases hy⟩
   | cons n xs ih =>
    intro hn
    obtain ⟨y,hy,hq⟩:=h n (hn n (by simp))
    obtain ⟨l,k1,k2,k3⟩:=ih (fun m hm=>hn m (by simp [hm]))
    refine ⟨y::l,by rw [List.flatMap_cons,List.flatMap_cons,hy,k1],by simp [k2],fun z hz=>?_⟩
    rcases List.mem_cons.1 hz with rfl | hz
    ·
     exact hq
    ·
     exact k3 z hz
  obtain ⟨l,k1,k2,k3⟩:=key xs h3
  refine ⟨1,l,Okl.read,by decide,?_,by rw [k2];exact h1,k3⟩
  show [SL 1 e.sz (List.length xs) (List.flatMap e.QJ xs)]=[_]
  unfold vs
  rw [sv1,k1,k2]
theorem aer {cs xs:List Value} (h:cs.length=xs.length):splice cs 0 xs=xs:=by
 unfold splice
 rw [List.take_zero,List.nil_append,Nat.zero_add,← h,List.drop_length,List.append_nil]
theorem akQ {k e n:Nat} {cs:List Value}:(sv k e n cs).oneCell'=true:=by unfold sv;split <;> rfl
theorem af9 {α:Type} {f:α→List Value} {e k:Nat} {l:List α}:(vs f e k l).oneCell'=true:=akQ
theorem acX {k:IntKind} {n:Int}:(Value.int k n).oneCell'=true:=rfl
theorem YT {P:Program} {t:TypeId} {z xs:List Value} {x:Value} (S:zy) (hx:x.cells.toList=xs) (hs:Jb P t=some z.length) (hl:xs.length=z.length) (h1:xs.all (·.oneCell')=true) :
  ∃ S2,wU P t (.pointer (some ⟨S.next,0,none⟩)) x (S.push (.cells z (.own []) 0))=some (zh,S2)∧S2.get S.next=some (.cells xs (.own []) 0)∧Ext S S2∧S.next < S2.next:=by
 have hg:(S.push (.cells z (.own []) 0)).get S.next=some (.cells z (.own []) 0):=by rw [zy.yR,if_pos rfl]
 refine ⟨_,Zk hg hs (by rw [← Array.length_toList,hx,hl]) (by rw [hx];exact h1) (by simp),?_,(Ext.push S _).set (Nat.le_refl _) _,by simp [zy.kills]⟩
 rw [zy.qC,if_pos rfl,hx,aer hl.symm]
theorem abv {P:Program} {t:TypeId} {q o n:Nat} {cs:List Value} {e:Nat} {x:Value} {S S0:zy} (hg:S.get q=some (.cells cs (.own []) e)) (hs:Jb P t=some n) (hn:x.cells.size=n) (h1:x.cells.toList.all (·.oneCell')=true) (hle:o+n≤cs.length) (hE:Ext S0 S) (hq:S0.next≤q) :
  ∃ S2,wU P t (.pointer (some ⟨q,o,none⟩)) x S=some (zh,S2)∧S2.get q=some (.cells (splice cs o x.cells.toList) (.own []) e)∧Ext S0 S2∧S2.next=S.next∧∀ k,k≠q→S2.get k=S.get k:=by
 exact ⟨_,Zk hg hs hn h1 hle,by rw [zy.qC,if_pos rfl],hE.set hq _,by simp [zy.kills],fun k hk=>by rw [zy.qC,if_neg hk];rfl⟩
theorem aiW (x:Value) (S:zy):∃ S2,J3 x S=some (.pointer (some ⟨S.next,0,none⟩),S2)∧S2.get S.next=some (.cells x.cells.toList (.own []) 0)∧Ext S S2∧S.next < S2.next :=
 ⟨_,rfl,by rw [zy.yR,if_pos rfl],Ext.push _ _,by simp⟩
end Go.Abs
namespace Go.Proofs.Ytfjogganfjkckaa
open Go.Abs
theorem bb0 (S:zy):jK zi 33 0 [] S=some (by_ 2 [],S):=by rw [Ze];rfl
structure Tb where
 k:Nat
 b:List UInt8
structure Tb.Ok (t:Tb):Prop where
 okl:Okl t.k t.b
 ne:t.k≠2
 le:t.b.length≤140737488351232
end Go.Proofs.Ytfjogganfjkckaa
namespace Go.Proofs.Ytfjogganfjkckaa
open Go.Abs
def encs (l:List Int):List UInt8:=l.flatMap fun n=>enc (n+1).toNat
def adO (k:Nat) (l:List Int):Value:=if 64 < l.length∨∃ n ∈ l,n < -1 then .tuple #[.slice none 0 0,.int .i64 11] else .tuple #[by_ (if l=[] then k else 2) (encs l),.int .i64 0]
theorem Vr {n:Int} (h:-1≤n) (h2:n < 9223372036854775808):IntKind.u64.wrap (IntKind.u64.wrap n+1)=((n+1).toNat:Int):=by
 simp [IntKind.wrap,IntKind.bits,IntKind.signed]
 omega
theorem ZE (a b:List Int):encs (a++b)=encs a++encs b:=by simp [encs]
theorem adf (n:Int):encs [n]=enc (n+1).toNat:=by simp [encs]
theorem Jl {l:List Int} (h:∀ n ∈ l,n < 9223372036854775808):(encs l).length≤l.length * 10:=by
 induction l with
 | nil=>simp [encs]
 | cons n l ih =>
  have h1:=ih fun m hm=>h m (by simp [hm])
  have h2:(enc (n+1).toNat).length≤10:=JB (by have:=h n (by simp);omega)
  simp only [encs,List.flatMap_cons,List.length_append,List.length_cons] at *
  omega
theorem jH.round {k:Nat} {l:List Int} (hv:Okl k l) (hk:k≠2) (h64:l.length≤64) (hb:∀ n ∈ l,n < 9223372036854775808) {S:zy}:∀ (suf pre:List Int) {T:List Value} {r:St},qE (zJ zi O false jH.jT) T S=r→T.length=26 →
  T.getD 10 zh=iz k l→T.getD 11 zh=.int .i64 l.length→T.getD 12 zh=.int .i64 pre.length→T.getD 4 zh=by_ (if pre=[] then 0 else 2) (encs pre)→l=pre++suf →
  ∃ e T',r=some (e,T',S)∧if (∃ n ∈ suf,n < -1) then e=.ret∧T'.getD 2 zh=.slice none 0 0∧T'.getD 3 zh=.int .i64 11 else e=.exit 0∧T'.length=26∧T'.getD 4 zh=by_ (if l=[] then 0 else 2) (encs l):=by
 intro suf
 induction suf with
 | nil =>
  intro pre T r hL hT ha hb hc h4 hl
  have hTe:=jH.eta hT
  rw [ha,hb,hc,h4] at hTe
  have hr:zJ zi O false jH.jT T S=zJ zi O false jH.jT T S:=rfl
  have hd:¬ (pre.length:Int) < (l.length:Int):=by rw [hl];simp
  conv at hr =>
   rhs
   rw [hTe]
   simp only [jH.jT,jH.code,jH.rs,zSs,reduceIte,zk,zn,zo,zq,hd]
  refine ⟨_,_,hL.symm.trans (wu hr (by simp)),?_⟩
  rw [if_neg (by simp)]
  simp only [List.append_nil] at hl
  subst hl
  exact ⟨rfl,rfl,rfl⟩
 | cons n suf ih =>
  intro pre T r hL hT ha hbb hc h4 hl
  have hTe:=jH.eta hT
  rw [ha,hbb,hc,h4] at hTe
  have hr:zJ zi O false jH.jT T S=zJ zi O false jH.jT T S:=rfl
  have hll:l.length=pre.length+(suf.length+1):=by rw [hl];simp
  have hlt:(pre.length:Int) < (l.length:Int):=by omega
  have e1:∀ S,jy zi 24 (iz k l) (.int .i64 pre.length) S=some (EP [.int .i64 n],S):=fun S=>by
   rw [acP hv (by omega) hlt];rw [KD hl]
  have hn:=hb n (by rw [hl];simp)
  by_cases h1:n < -1
  ·
   conv at hr =>
    rhs
    rw [hTe]
    simp only [jH.jT,jH.code,jH.rs,zSs,reduceIte,zk,zn,zo,zq,hlt,e1,qy,h1]
   refine ⟨_,_,hL.symm.trans (wu hr (by simp)),?_⟩
   rw [if_pos ⟨n,by simp,h1⟩]
   exact ⟨rfl,rfl,rfl⟩
  ·
   have w1:=Vr (n:=n) (by omega) (by omega)
   have hpb:(encs pre).length≤pre.length * 10:=Jl fun m hm=>hb m (by rw [hl];simp [hm])
   have hp10:(enc (n+1).toNat).length≤10:=JB (by omega)
   have hpp:=afL (n+1).toNat
   have g1:=fun S=>yx.v (n+1).toNat (by omega) S
   have e2:∀ S,wR zi 33 33 (by_ (if pre=[] then 0 else 2) (encs pre)) (by_ 2 (enc (n+1).toNat)) S=some (by_ 2 (encs (pre++[n])),S):=fun S=>by
    have ok:Okl (if pre=[] then 0 else 2) (encs pre):=⟨by split <;> omega,fun h=>by split at h <;> first | (rename_i hp;subst hp;rfl) | omega⟩
    rw [xG ok (by split <;> omega) Okl.own (by omega),if_neg (fun h=>by have:=h.2;omega),ZE,adf]
   have wi:IntKind.i64.wrap ((pre.length:Int)+1)=((pre++[n]).length:Int):=by rw [wrap_i64 (by omega) (by omega)];simp
   conv at hr =>
    rhs
    rw [hTe]
    simp only [jH.jT,jH.code,jH.rs,zSs,reduceIte,zk,zn,zo,zq,hlt,e1,qy,h1,JK,w1,g1,e2,wi]
   obtain ⟨e,T',g1,g2⟩:=ih (pre++[n]) ((wZ hr).symm.trans hL) rfl rfl rfl rfl (by rw [if_neg (show ¬ pre++[n]=[] by simp)];rfl) (by simp [hl])
   refine ⟨e,T',g1,?_⟩
   by_cases h2:∃ m ∈ suf,m < -1
   ·
    rw [if_pos h2] at g2
    obtain ⟨m,hm,hm2⟩:=h2
    rw [if_pos ⟨m,by simp [hm],hm2⟩]
    exact g2
   ·
    rw [if_neg h2] at g2
    rw [if_neg (by rintro ⟨m,hm,hm2⟩;rcases List.mem_cons.1 hm with rfl | hm;exact h1 hm2;exact h2 ⟨m,hm,hm2⟩)]
    exact g2
theorem jH.v {k:Nat} {l:List Int} (hv:Okl k l) (hk:k≠2) (hb:∀ n ∈ l,n < 9223372036854775808) (S:zy):zZ zi O jH.id [iz k l] S=some (adO 0 l,S):=by
 obtain ⟨T,hTe⟩:∃ T,T=(iz k l::zh::zh::zh::zh::zh::zh::zh::zh::zh::zh::zh::zh::zh::zh::zh::zh::zh::zh::zh::zh::zh::zh::zh::zh::zh::[]):=⟨_,rfl⟩
 have hr:zJ zi O false jH.code T S=zJ zi O false jH.code T S:=rfl
 unfold adO
 by_cases h1:64 < l.length
 ·
  have d1:(64:Int) < (l.length:Int):=by omega
  conv at hr =>
   rhs
   rw [hTe]
   simp only [jH.code,jH.rs,zSs,reduceIte,zk,zn,zo,zq,if_neg hk,X8 hv,goInt,d1]
  rw [hTe] at hr
  rw [if_pos (.inl h1)]
  exact jH.runs hr (.inr rfl) (by simp only [List.getD_cons_succ,List.getD_cons_zero,wJ,wC,jS,jY,wB]) (by simp only [List.getD_cons_succ,List.getD_cons_zero,wJ,wC,jS,jY,wB])
 ·
  have d1:¬ (64:Int) < (l.length:Int):=by omega
  conv at hr =>
   rhs
   rw [hTe]
   simp only [jH.code,jH.rs,zSs,reduceIte,zk,zn,zo,zq,if_neg hk,X8 hv,goInt,d1,Ze,agT]
  generalize hL:qE (zJ zi O false jH.jT) _ _=r at hr
  obtain ⟨e,T',rfl,g⟩:=jH.round hv hk (by omega) hb l [] hL rfl rfl rfl rfl rfl rfl
  by_cases h2:∃ n ∈ l,n < -1
  ·
   rw [if_pos h2] at g
   obtain ⟨rfl,g2,g3⟩:=g
   conv at hr =>
    rhs
    simp only [zSs,reduceIte,zk,zn,zo,zq]
   rw [hTe] at hr
   rw [if_pos (.inr h2)]
   have hrun:=jH.runs hr (.inr rfl) (by rw [g2];rfl) (by rw [g3];rfl)
   rw [g2,g3] at hrun
   exact hrun
  ·
   rw [if_neg h2] at g
   obtain ⟨rfl,g2,g3⟩:=g
   have hTe':=jH.eta g2
   rw [g3] at hTe'
   conv at hr =>
    rhs
    rw [hTe']
    simp only [jH.code,jH.rs,zSs,reduceIte,zk,zn,zo,zq]
   rw [hTe] at hr
   rw [if_neg (by rintro (h | h);exact h1 h;exact h2 h)]
   exact jH.runs hr (.inr rfl) (by simp only [List.getD_cons_succ,List.getD_cons_zero,wJ,wC,jS,jY,wB]) (by simp only [List.getD_cons_succ,List.getD_cons_zero,wJ,wC,jS,jY,wB])
theorem zK.round {k:Nat} {l:List Int} (hv:Okl k l) (hk:k≠2) (h64:l.length≤64) (hb:∀ n ∈ l,n < 9223372036854775808) {S:zy}:∀ (suf pre:List Int) {T:List Value} {r:St},qE (zJ zi O false zK.jT) T S=r→T.length=27 →
  T.getD 11 zh=iz k l→T.getD 12 zh=.int .i64 l.length→T.getD 13 zh=.int .i64 pre.length→T.getD 4 zh=by_ (if pre=[] then 2 else 2) (encs pre)→l=pre++suf →
  ∃ e T',r=some (e,T',S)∧if (∃ n ∈ suf,n < -1) then e=.ret∧T'.getD 2 zh=.slice none 0 0∧T'.getD 3 zh=.int .i64 11 else e=.exit 0∧T'.length=27∧T'.getD 4 zh=by_ (if l=[] then 2 else 2) (encs l):=by
 intro suf
 induction suf with
 | nil =>
  intro pre T r hL hT ha hb hc h4 hl
  have hTe:=zK.eta hT
  rw [ha,hb,hc,h4] at hTe
  have hr:zJ zi O false zK.jT T S=zJ zi O false zK.jT T S:=rfl
  have hd:¬ (pre.length:Int) < (l.length:Int):=by rw [hl];simp
  conv at hr =>
   rhs
   rw [hTe]
   simp only [zK.jT,zK.code,zK.rs,zSs,reduceIte,zk,zn,zo,zq,hd]
  refine ⟨_,_,hL.symm.trans (wu hr (by simp)),?_⟩
  rw [if_neg (by simp)]
  simp only [List.append_nil] at hl
  subst hl
  exact ⟨rfl,rfl,rfl⟩
 | cons n suf ih =>
  intro pre T r hL hT ha hbb hc h4 hl
  have hTe:=zK.eta hT
  rw [ha,hbb,hc,h4] at hTe
  have hr:zJ zi O false zK.jT T S=zJ zi O false zK.jT T S:=rfl
  have hll:l.length=pre.length+(suf.length+1):=by rw [hl];simp
  have hlt:(pre.length:Int) < (l.length:Int):=by omega
  have e1:∀ S,jy zi 24 (iz k l) (.int .i64 pre.length) S=some (EP [.int .i64 n],S):=fun S=>by
   rw [acP hv (by omega) hlt];rw [KD hl]
  have hn:=hb n (by rw [hl];simp)
  by_cases h1:n < -1
  ·
   conv at hr =>
    rhs
    rw [hTe]
    simp only [zK.jT,zK.code,zK.rs,zSs,reduceIte,zk,zn,zo,zq,hlt,e1,qy,h1]
   refine ⟨_,_,hL.symm.trans (wu hr (by simp)),?_⟩
   rw [if_pos ⟨n,by simp,h1⟩]
   exact ⟨rfl,rfl,rfl⟩
  ·
   have w1:=Vr (n:=n) (by omega) (by omega)
   have hpb:(encs pre).length≤pre.length * 10:=Jl fun m hm=>hb m (by rw [hl];simp [hm])
   have hp10:(enc (n+1).toNat).length≤10:=JB (by omega)
   have hpp:=afL (n+1).toNat
   have g1:=fun S=>jv.v (n+1).toNat (by omega) S
   have e2:∀ S,wR zi 33 33 (by_ (if pre=[] then 2 else 2) (encs pre)) (by_ 2 (enc (n+1).toNat)) S=some (by_ 2 (encs (pre++[n])),S):=fun S=>by
    have ok:Okl (if pre=[] then 2 else 2) (encs pre):=⟨by split <;> omega,fun h=>by split at h <;> first | (rename_i hp;subst hp;rfl) | omega⟩
    rw [xG ok (by split <;> omega) Okl.own (by omega),if_neg (fun h=>by have:=h.2;omega),ZE,adf]
   have wi:IntKind.i64.wrap ((pre.length:Int)+1)=((pre++[n]).length:Int):=by rw [wrap_i64 (by omega) (by omega)];simp
   conv at hr =>
    rhs
    rw [hTe]
    simp only [zK.jT,zK.code,zK.rs,zSs,reduceIte,zk,zn,zo,zq,hlt,e1,qy,h1,JK,w1,g1,e2,wi]
   obtain ⟨e,T',g1,g2⟩:=ih (pre++[n]) ((wZ hr).symm.trans hL) rfl rfl rfl rfl (by rw [if_neg (show ¬ pre++[n]=[] by simp)];rfl) (by simp [hl])
   refine ⟨e,T',g1,?_⟩
   by_cases h2:∃ m ∈ suf,m < -1
   ·
    rw [if_pos h2] at g2
    obtain ⟨m,hm,hm2⟩:=h2
    rw [if_pos ⟨m,by simp [hm],hm2⟩]
    exact g2
   ·
    rw [if_neg h2] at g2
    rw [if_neg (by rintro ⟨m,hm,hm2⟩;rcases List.mem_cons.1 hm with rfl | hm;exact h1 hm2;exact h2 ⟨m,hm,hm2⟩)]
    exact g2
theorem zK.v {k:Nat} {l:List Int} (hv:Okl k l) (hk:k≠2) (hb:∀ n ∈ l,n < 9223372036854775808) (S:zy):zZ zi O zK.id [iz k l] S=some (adO 2 l,S):=by
 obtain ⟨T,hTe⟩:∃ T,T=(iz k l::zh::zh::zh::zh::zh::zh::zh::zh::zh::zh::zh::zh::zh::zh::zh::zh::zh::zh::zh::zh::zh::zh::zh::zh::zh::zh::[]):=⟨_,rfl⟩
 have hr:zJ zi O false zK.code T S=zJ zi O false zK.code T S:=rfl
 unfold adO
 by_cases h1:64 < l.length
 ·
  have d1:(64:Int) < (l.length:Int):=by omega
  conv at hr =>
   rhs
   rw [hTe]
   simp only [zK.code,zK.rs,zSs,reduceIte,zk,zn,zo,zq,if_neg hk,X8 hv,goInt,d1]
  rw [hTe] at hr
  rw [if_pos (.inl h1)]
  exact zK.runs hr (.inr rfl) (by simp only [List.getD_cons_succ,List.getD_cons_zero,wJ,wC,jS,jY,wB]) (by simp only [List.getD_cons_succ,List.getD_cons_zero,wJ,wC,jS,jY,wB])
 ·
  have d1:¬ (64:Int) < (l.length:Int):=by omega
  conv at hr =>
   rhs
   rw [hTe]
   simp only [zK.code,zK.rs,zSs,reduceIte,zk,zn,zo,zq,if_neg hk,X8 hv,goInt,d1,Ze,agT]
  generalize hL:qE (zJ zi O false zK.jT) _ _=r at hr
  obtain ⟨e,T',rfl,g⟩:=zK.round hv hk (by omega) hb l [] hL rfl rfl rfl rfl rfl rfl
  by_cases h2:∃ n ∈ l,n < -1
  ·
   rw [if_pos h2] at g
   obtain ⟨rfl,g2,g3⟩:=g
   conv at hr =>
    rhs
    simp only [zSs,reduceIte,zk,zn,zo,zq]
   rw [hTe] at hr
   rw [if_pos (.inr h2)]
   have hrun:=zK.runs hr (.inr rfl) (by rw [g2];rfl) (by rw [g3];rfl)
   rw [g2,g3] at hrun
   exact hrun
  ·
   rw [if_neg h2] at g
   obtain ⟨rfl,g2,g3⟩:=g
   have hTe':=zK.eta g2
   rw [g3] at hTe'
   conv at hr =>
    rhs
    rw [hTe']
    simp only [zK.code,zK.rs,zSs,reduceIte,zk,zn,zo,zq]
   rw [hTe] at hr
   rw [if_neg (by rintro (h | h);exact h1 h;exact h2 h)]
   exact zK.runs hr (.inr rfl) (by simp only [List.getD_cons_succ,List.getD_cons_zero,wJ,wC,jS,jY,wB]) (by simp only [List.getD_cons_succ,List.getD_cons_zero,wJ,wC,jS,jY,wB])
end Go.Proofs.Ytfjogganfjkckaa
namespace Go.Proofs.Ytfjogganfjkckaa
open Go.Abs
def qp:Nat→List UInt8→Option (List Int×List UInt8)
 | 0,l=>some ([],l)
 | m+1,l=>match scan 0 0 l with
  | some (n,r)=>if n≤4611686018427387905 then (match qp m r with
   | some (a,b)=>some (((n:Int) - 1)::a,b)
   | none=>none) else none
  | none=>none
def Zi (k0 k1:Nat) (many:Int) (l:List UInt8):Value :=
 if many < 0∨64 < many then .tuple #[.slice none 0 0,.slice none 0 0,.int .i64 11]
 else match qp many.toNat l with
  | some (a,b)=>.tuple #[iz (if many=0 then k0 else 2) a,by_ (if many=0 then k1 else 2) b,.int .i64 0]
  | none=>.tuple #[.slice none 0 0,.slice none 0 0,.int .i64 11]
theorem zS.round {many:Int} (hmany:many≤64) {S:zy}:∀ (m:Nat) (i:Int) (rest:List UInt8) (kr:Nat) (out:List Int) (ko:Nat) {T:List Value} {r:St},qE (zJ zi O false zS.jT) T S=r→T.length=45 →
  T.getD 20 zh=.int .i64 many→T.getD 21 zh=.int .i64 i→T.getD 7 zh=by_ kr rest→T.getD 8 zh=iz ko out→0≤i→many=i+m→Okl kr rest→rest.length≤140737488355328→Okl ko out→ko≠1→(out.length:Int)=i →
  ∃ e T',r=some (e,T',S)∧match qp m rest with
   | none=>e=.ret∧T'.getD 4 zh=.slice none 0 0∧T'.getD 5 zh=.slice none 0 0∧T'.getD 6 zh=.int .i64 11
   | some (a,b)=>e=.exit 0∧T'.length=45∧T'.getD 8 zh=iz (if m=0 then ko else 2) (out++a)∧T'.getD 7 zh=by_ (if m=0 then kr else 2) b:=by
 intro m
 induction m with
 | zero =>
  intro i rest kr out ko T r hL hT h1 h2 h3 h4 h0 hm hkr hlen hko hk1 hol
  have hTe:=zS.eta hT
  rw [h1,h2,h3,h4] at hTe
  have hr:zJ zi O false zS.jT T S=zJ zi O false zS.jT T S:=rfl
  have hd:¬ i < many:=by omega
  conv at hr =>
   rhs
   rw [hTe]
   simp only [zS.jT,zS.code,zS.rs,zSs,reduceIte,zk,zn,zo,zq,hd]
  exact ⟨_,_,hL.symm.trans (wu hr (by simp)),rfl,rfl,by simp,rfl⟩
 | succ m ih =>
  intro i rest kr out ko T r hL hT h1 h2 h3 h4 h0 hm hkr hlen hko hk1 hol
  have hTe:=zS.eta hT
  rw [h1,h2,h3,h4] at hTe
  have hr:zJ zi O false zS.jT T S=zJ zi O false zS.jT T S:=rfl
  have hd:i < many:=by omega
  have g1:∀ S,zZ zi O jC.id [by_ (if kr=2 then 1 else kr) rest] S=some (XL rest,S):=jC.v hkr.dem (by split <;> omega) hlen
  unfold XL at g1
  rw [qp]
  cases hsc:scan 0 0 rest with
  | none =>
   rw [hsc] at g1
   have d11:¬ (11:Int)=0:=by omega
   conv at hr =>
    rhs
    rw [hTe]
    simp only [zS.jT,zS.code,zS.rs,zSs,reduceIte,zk,zn,zo,zq,adz,hd,g1,d11]
   exact ⟨_,_,hL.symm.trans (wu hr (by simp)),rfl,rfl,rfl,rfl⟩
  | some nr =>
   obtain ⟨n,r'⟩:=nr
   rw [hsc] at g1
   obtain ⟨hn,hrl⟩:=Xn rest 0 0 (by decide) (by omega) n r' hsc
   dsimp only
   by_cases h5:n≤4611686018427387905
   ·
    have d1:¬ (4611686018427387905:Int) < (n:Int):=by omega
    have w1:IntKind.i64.wrap (n:Int)=(n:Int):=wrap_i64 (by omega) (by omega)
    have w2:IntKind.i64.wrap ((n:Int) - 1)=(n:Int) - 1:=wrap_i64 (by omega) (by omega)
    have w3:IntKind.i64.wrap (i+1)=i+1:=wrap_i64 (by omega) (by omega)
    have e1:∀ x S,wR zi 24 24 (iz ko out) (iz 2 [x]) S=some (iz 2 (out++[x]),S):=fun x S=>afJ hko hk1 (by omega)
    conv at hr =>
     rhs
     rw [hTe]
     simp only [zS.jT,zS.code,zS.rs,zSs,reduceIte,zk,zn,zo,zq,adz,hd,g1,d1,YC,w1,w2,w3,WO,ahT,e1]
    obtain ⟨e,T',g2,g3⟩:=ih (i+1) r' 2 (out++[(n:Int) - 1]) 2 ((wZ hr).symm.trans hL) rfl rfl rfl rfl rfl (by omega) (by omega) Okl.own (by omega) Okl.own (by decide) (by simp;omega)
    refine ⟨e,T',g2,?_⟩
    rw [if_pos h5]
    cases hrn:qp m r' with
    | none=>rw [hrn] at g3;exact g3
    | some ab =>
     obtain ⟨a,b⟩:=ab
     rw [hrn] at g3
     obtain ⟨q1,q2,q3,q4⟩:=g3
     refine ⟨q1,q2,?_,?_⟩
     ·
      rw [q3];simp
     ·
      rw [q4];simp
   ·
    have d1:(4611686018427387905:Int) < (n:Int):=by omega
    conv at hr =>
     rhs
     rw [hTe]
     simp only [zS.jT,zS.code,zS.rs,zSs,reduceIte,zk,zn,zo,zq,adz,hd,g1,d1]
    refine ⟨_,_,hL.symm.trans (wu hr (by simp)),?_⟩
    rw [if_neg h5]
    exact ⟨rfl,rfl,rfl,rfl⟩
theorem zD.round {many:Int} (hmany:many≤64) {S:zy}:∀ (m:Nat) (i:Int) (rest:List UInt8) (kr:Nat) (out:List Int) (ko:Nat) {T:List Value} {r:St},qE (zJ zi O false zD.jT) T S=r→T.length=49 →
  T.getD 1 zh=.int .i64 many→T.getD 9 zh=.int .i64 i→T.getD 8 zh=by_ kr rest→T.getD 7 zh=iz ko out→0≤i→many=i+m→Okl kr rest→rest.length≤140737488355328→Okl ko out→ko≠1→(out.length:Int)=i →
  ∃ e T',r=some (e,T',S)∧match qp m rest with
   | none=>e=.ret∧T'.getD 4 zh=.slice none 0 0∧T'.getD 5 zh=.slice none 0 0∧T'.getD 6 zh=.int .i64 11
   | some (a,b)=>e=.exit 0∧T'.length=49∧T'.getD 7 zh=iz (if m=0 then ko else 2) (out++a)∧T'.getD 8 zh=by_ (if m=0 then kr else 2) b:=by
 intro m
 induction m with
 | zero =>
  intro i rest kr out ko T r hL hT h1 h2 h3 h4 h0 hm hkr hlen hko hk1 hol
  have hTe:=zD.eta hT
  rw [h1,h2,h3,h4] at hTe
  have hr:zJ zi O false zD.jT T S=zJ zi O false zD.jT T S:=rfl
  have hd:¬ i < many:=by omega
  conv at hr =>
   rhs
   rw [hTe]
   simp only [zD.jT,zD.code,zD.rs,zSs,reduceIte,zk,zn,zo,zq,hd]
  exact ⟨_,_,hL.symm.trans (wu hr (by simp)),rfl,rfl,by simp,rfl⟩
 | succ m ih =>
  intro i rest kr out ko T r hL hT h1 h2 h3 h4 h0 hm hkr hlen hko hk1 hol
  have hTe:=zD.eta hT
  rw [h1,h2,h3,h4] at hTe
  have hr:zJ zi O false zD.jT T S=zJ zi O false zD.jT T S:=rfl
  have hd:i < many:=by omega
  have g1:∀ S,zZ zi O zH.id [by_ (if kr=2 then 1 else kr) rest] S=some (XL rest,S):=zH.v hkr.dem (by split <;> omega) hlen
  unfold XL at g1
  rw [qp]
  cases hsc:scan 0 0 rest with
  | none =>
   rw [hsc] at g1
   have d11:¬ (11:Int)=0:=by omega
   conv at hr =>
    rhs
    rw [hTe]
    simp only [zD.jT,zD.code,zD.rs,zSs,reduceIte,zk,zn,zo,zq,adz,hd,g1,d11]
   exact ⟨_,_,hL.symm.trans (wu hr (by simp)),rfl,rfl,rfl,rfl⟩
  | some nr =>
   obtain ⟨n,r'⟩:=nr
   rw [hsc] at g1
   obtain ⟨hn,hrl⟩:=Xn rest 0 0 (by decide) (by omega) n r' hsc
   dsimp only
   by_cases h5:n≤4611686018427387905
   ·
    have d1:¬ (4611686018427387905:Int) < (n:Int):=by omega
    have w1:IntKind.i64.wrap (n:Int)=(n:Int):=wrap_i64 (by omega) (by omega)
    have w2:IntKind.i64.wrap ((n:Int) - 1)=(n:Int) - 1:=wrap_i64 (by omega) (by omega)
    have w3:IntKind.i64.wrap (i+1)=i+1:=wrap_i64 (by omega) (by omega)
    have e1:∀ x S,wR zi 24 24 (iz ko out) (iz 2 [x]) S=some (iz 2 (out++[x]),S):=fun x S=>afJ hko hk1 (by omega)
    conv at hr =>
     rhs
     rw [hTe]
     simp only [zD.jT,zD.code,zD.rs,zSs,reduceIte,zk,zn,zo,zq,adz,hd,g1,d1,YC,w1,w2,w3,WO,ahT,e1]
    obtain ⟨e,T',g2,g3⟩:=ih (i+1) r' 2 (out++[(n:Int) - 1]) 2 ((wZ hr).symm.trans hL) rfl rfl rfl rfl rfl (by omega) (by omega) Okl.own (by omega) Okl.own (by decide) (by simp;omega)
    refine ⟨e,T',g2,?_⟩
    rw [if_pos h5]
    cases hrn:qp m r' with
    | none=>rw [hrn] at g3;exact g3
    | some ab =>
     obtain ⟨a,b⟩:=ab
     rw [hrn] at g3
     obtain ⟨q1,q2,q3,q4⟩:=g3
     refine ⟨q1,q2,?_,?_⟩
     ·
      rw [q3];simp
     ·
      rw [q4];simp
   ·
    have d1:(4611686018427387905:Int) < (n:Int):=by omega
    conv at hr =>
     rhs
     rw [hTe]
     simp only [zD.jT,zD.code,zD.rs,zSs,reduceIte,zk,zn,zo,zq,adz,hd,g1,d1]
    refine ⟨_,_,hL.symm.trans (wu hr (by simp)),?_⟩
    rw [if_neg h5]
    exact ⟨rfl,rfl,rfl,rfl⟩
theorem zS.v {k:Nat} {l:List UInt8} {many:Int} (hv:Okl k l) (hk:k≠2) (hlen:l.length≤140737488355328) (S:zy):zZ zi O zS.id [by_ k l,.int .i64 many] S=some (Zi 0 (if k=0 then 0 else 2) many l,S):=by
 obtain ⟨T,hTe⟩:∃ T,T=(by_ k l::.int .i64 many::zh::zh::zh::zh::zh::zh::zh::zh::zh::zh::zh::zh::zh::zh::zh::zh::zh::zh::zh::zh::zh::zh::zh::zh::zh::zh::zh::zh::zh::zh::zh::zh::zh::zh::zh::zh::zh::zh::zh::zh::zh::zh::zh::[]):=⟨_,rfl⟩
 have hr:zJ zi O false zS.code T S=zJ zi O false zS.code T S:=rfl
 have c1:∀ S,zZ zi O 54 [by_ k l] S=some (by_ (if k=0 then 0 else 2) l,S):=slices_Clone.v hv hk hlen
 unfold Zi
 by_cases h1:many < 0
 ·
  conv at hr =>
   rhs
   rw [hTe]
   simp only [zS.code,zS.rs,zSs,reduceIte,zk,zn,zo,zq,h1]
  rw [hTe] at hr
  rw [if_pos (.inl h1)]
  exact zS.runs hr (.inr rfl) (by simp only [List.getD_cons_succ,List.getD_cons_zero,wJ,wC,jS,jY,wB]) (by simp only [List.getD_cons_succ,List.getD_cons_zero,wJ,wC,jS,jY,wB]) (by simp only [List.getD_cons_succ,List.getD_cons_zero,wJ,wC,jS,jY,wB])
 ·
  by_cases h2:64 < many
  ·
   conv at hr =>
    rhs
    rw [hTe]
    simp only [zS.code,zS.rs,zSs,reduceIte,zk,zn,zo,zq,h1,h2]
   rw [hTe] at hr
   rw [if_pos (.inr h2)]
   exact zS.runs hr (.inr rfl) (by simp only [List.getD_cons_succ,List.getD_cons_zero,wJ,wC,jS,jY,wB]) (by simp only [List.getD_cons_succ,List.getD_cons_zero,wJ,wC,jS,jY,wB]) (by simp only [List.getD_cons_succ,List.getD_cons_zero,wJ,wC,jS,jY,wB])
  ·
   rw [if_neg (by omega)]
   conv at hr =>
    rhs
    rw [hTe]
    simp only [zS.code,zS.rs,zSs,reduceIte,zk,zn,zo,zq,h1,h2,if_neg hk,c1]
   generalize hL:qE (zJ zi O false zS.jT) _ _=r at hr
   have okr:Okl (if k=0 then 0 else 2) l:=⟨by split <;> omega,fun h=>by split at h <;> first | (rename_i hp;exact hv.nil hp) | omega⟩
   obtain ⟨e,T',rfl,g⟩:=zS.round (many:=many) (by omega) many.toNat 0 l (if k=0 then 0 else 2) [] 0 hL rfl rfl rfl rfl rfl (by omega) (by omega) okr hlen Okl.none (by decide) rfl
   cases hrn:qp many.toNat l with
   | none =>
    rw [hrn] at g
    obtain ⟨rfl,g2,g3,g4⟩:=g
    conv at hr =>
     rhs
     simp only [zSs,reduceIte,zk,zn,zo,zq]
    rw [hTe] at hr
    have hrun:=zS.runs hr (.inr rfl) (by rw [g2];rfl) (by rw [g3];rfl) (by rw [g4];rfl)
    rw [g2,g3,g4] at hrun
    exact hrun
   | some ab =>
    obtain ⟨a,b⟩:=ab
    rw [hrn] at g
    obtain ⟨rfl,g2,g3,g4⟩:=g
    have hTe':=zS.eta g2
    rw [g3,g4] at hTe'
    have hz:(many.toNat=0) ↔ (many=0):=by omega
    simp only [hz,List.nil_append] at hTe'
    conv at hr =>
     rhs
     rw [hTe']
     simp only [zS.code,zS.rs,zSs,reduceIte,zk,zn,zo,zq]
    rw [hTe] at hr
    exact zS.runs hr (.inr rfl) (by simp only [List.getD_cons_succ,List.getD_cons_zero,wJ,wC,jS,jY,wB]) (by simp only [List.getD_cons_succ,List.getD_cons_zero,wJ,wC,jS,jY,wB]) (by simp only [List.getD_cons_succ,List.getD_cons_zero,wJ,wC,jS,jY,wB])
theorem zD.v {k:Nat} {l:List UInt8} {many:Int} (hv:Okl k l) (hk:k≠2) (hlen:l.length≤140737488355328) (S:zy):zZ zi O zD.id [by_ k l,.int .i64 many] S=some (Zi 2 2 many l,S):=by
 obtain ⟨T,hTe⟩:∃ T,T=(by_ k l::.int .i64 many::zh::zh::zh::zh::zh::zh::zh::zh::zh::zh::zh::zh::zh::zh::zh::zh::zh::zh::zh::zh::zh::zh::zh::zh::zh::zh::zh::zh::zh::zh::zh::zh::zh::zh::zh::zh::zh::zh::zh::zh::zh::zh::zh::zh::zh::zh::zh::[]):=⟨_,rfl⟩
 have hr:zJ zi O false zD.code T S=zJ zi O false zD.code T S:=rfl
 have c1:=fun S=>afw hv hlen (S:=S)
 unfold Zi
 by_cases h1:many < 0
 ·
  conv at hr =>
   rhs
   rw [hTe]
   simp only [zD.code,zD.rs,zSs,reduceIte,zk,zn,zo,zq,h1]
  rw [hTe] at hr
  rw [if_pos (.inl h1)]
  exact zD.runs hr (.inr rfl) (by simp only [List.getD_cons_succ,List.getD_cons_zero,wJ,wC,jS,jY,wB]) (by simp only [List.getD_cons_succ,List.getD_cons_zero,wJ,wC,jS,jY,wB]) (by simp only [List.getD_cons_succ,List.getD_cons_zero,wJ,wC,jS,jY,wB])
 ·
  by_cases h2:64 < many
  ·
   conv at hr =>
    rhs
    rw [hTe]
    simp only [zD.code,zD.rs,zSs,reduceIte,zk,zn,zo,zq,h1,h2]
   rw [hTe] at hr
   rw [if_pos (.inr h2)]
   exact zD.runs hr (.inr rfl) (by simp only [List.getD_cons_succ,List.getD_cons_zero,wJ,wC,jS,jY,wB]) (by simp only [List.getD_cons_succ,List.getD_cons_zero,wJ,wC,jS,jY,wB]) (by simp only [List.getD_cons_succ,List.getD_cons_zero,wJ,wC,jS,jY,wB])
  ·
   rw [if_neg (by omega)]
   conv at hr =>
    rhs
    rw [hTe]
    simp only [zD.code,zD.rs,zSs,reduceIte,zk,zn,zo,zq,h1,h2,if_neg hk,bz0,bb0,c1]
   generalize hL:qE (zJ zi O false zD.jT) _ _=r at hr
   obtain ⟨e,T',rfl,g⟩:=zD.round (many:=many) (by omega) many.toNat 0 l 2 [] 2 hL rfl rfl rfl rfl rfl (by omega) (by omega) Okl.own hlen Okl.own (by decide) rfl
   cases hrn:qp many.toNat l with
   | none =>
    rw [hrn] at g
    obtain ⟨rfl,g2,g3,g4⟩:=g
    conv at hr =>
     rhs
     simp only [zSs,reduceIte,zk,zn,zo,zq]
    rw [hTe] at hr
    have hrun:=zD.runs hr (.inr rfl) (by rw [g2];rfl) (by rw [g3];rfl) (by rw [g4];rfl)
    rw [g2,g3,g4] at hrun
    exact hrun
   | some ab =>
    obtain ⟨a,b⟩:=ab
    rw [hrn] at g
    obtain ⟨rfl,g2,g3,g4⟩:=g
    have hTe':=zD.eta g2
    rw [g3,g4] at hTe'
    simp only [ite_self,List.nil_append] at hTe'
    conv at hr =>
     rhs
     rw [hTe']
     simp only [zD.code,zD.rs,zSs,reduceIte,zk,zn,zo,zq]
    rw [hTe] at hr
    simp only [ite_self]
    exact zD.runs hr (.inr rfl) (by simp only [List.getD_cons_succ,List.getD_cons_zero,wJ,wC,jS,jY,wB]) (by simp only [List.getD_cons_succ,List.getD_cons_zero,wJ,wC,jS,jY,wB]) (by simp only [List.getD_cons_succ,List.getD_cons_zero,wJ,wC,jS,jY,wB])
end Go.Proofs.Ytfjogganfjkckaa
namespace Go.Proofs.Ytfjogganfjkckaa
open Go.Abs
def Few (n:Int):Prop:=-1≤n∧n≤4611686018427387904
theorem y7:∀ (m:Nat) (l:List UInt8) (a:List Int) (b:List UInt8),qp m l=some (a,b) ↔ a.length=m∧l=encs a++b∧∀ n ∈ a,Few n:=by
 intro m
 induction m with
 | zero =>
  intro l a b
  constructor
  ·
   intro h;cases h;exact ⟨rfl,rfl,fun n h=>by cases h⟩
  ·
   rintro ⟨h1,h2,_⟩
   have:a=[]:=List.length_eq_zero_iff.mp h1
   subst this
   rw [h2];rfl
 | succ m ih =>
  intro l a b
  rw [qp]
  constructor
  ·
   intro h
   cases hsc:scan 0 0 l with
   | none=>rw [hsc] at h;cases h
   | some nr =>
    obtain ⟨n,r⟩:=nr
    rw [hsc] at h
    dsimp only at h
    split at h
    ·
     rename_i hn
     cases hr:qp m r with
     | none=>rw [hr] at h;cases h
     | some ab =>
      obtain ⟨a',b'⟩:=ab
      rw [hr] at h
      obtain ⟨h1,h2,h3⟩:=(ih r a' b').mp hr
      cases h
      obtain ⟨f1,f2⟩:=abq hsc
      refine ⟨by simp [h1],?_,fun x hx=>?_⟩
      ·
       rw [f1,h2]
       have:((n:Int) - 1+1).toNat=n:=by omega
       simp [encs,this]
      ·
       rcases List.mem_cons.1 hx with rfl | hx
       ·
        unfold Few;omega
       ·
        exact h3 x hx
    ·
     cases h
  ·
   rintro ⟨h1,h2,h3⟩
   cases a with
   | nil=>simp at h1
   | cons x a =>
    have hx:Few x:=h3 x (by simp)
    unfold Few at hx
    have he:encs (x::a)++b=enc (x+1).toNat++(encs a++b):=by simp [encs]
    rw [h2,he,YI (by omega)]
    dsimp only
    rw [if_pos (by omega),(ih (encs a++b) a b).mpr ⟨by simpa using h1,rfl,fun n hn=>h3 n (by simp [hn])⟩]
    have:((x+1).toNat:Int) - 1=x:=by omega
    simp only [this]
theorem WT {m:Nat} {l:List UInt8} {a:List Int} {b:List UInt8} (h:qp m l=some (a,b)):a.length=m∧b.length≤l.length:=by
 obtain ⟨h1,h2,_⟩:=(y7 m l a b).mp h
 exact ⟨h1,by rw [h2];simp⟩
theorem WR {a c:List Int} {b d:List UInt8} (h:a.length=c.length) (ha:∀ n ∈ a,Few n) (hc:∀ n ∈ c,Few n) (he:encs a++b=encs c++d):a=c∧b=d:=by
 have h1:=(y7 a.length (encs a++b) a b).mpr ⟨rfl,rfl,ha⟩
 have h2:=(y7 a.length (encs a++b) c d).mpr ⟨h.symm,he,hc⟩
 rw [h1] at h2
 simpa using h2
theorem JW {k:Nat} {l:List Int} (h:l.length≤64) (h1:∀ n ∈ l,-1≤n) (h0:l≠[]):adO k l=.tuple #[by_ 2 (encs l),.int .i64 0]:=by
 unfold adO
 rw [if_neg (by rintro (h2 | ⟨n,h2,h3⟩);{ omega };{ have:=h1 n h2;omega }),if_neg h0]
theorem xU {k0 k1 m:Nat} {l:List UInt8} (h0:0 < m) (h:m≤64):Zi k0 k1 m l=match qp m l with
  | some (a,b)=>.tuple #[iz 2 a,by_ 2 b,.int .i64 0]
  | none=>.tuple #[.slice none 0 0,.slice none 0 0,.int .i64 11]:=by
 unfold Zi
 rw [if_neg (by omega),Int.toNat_natCast]
 have:(m:Int)≠0:=by omega
 simp only [if_neg this]
 all_goals (cases qp m l <;> rfl)
noncomputable def rd {α:Type} (ok:α→Prop) (e:α→List UInt8) (b:List UInt8):Option α:=open Classical in if h:∃ x,ok x∧b=e x then some h.choose else none
theorem agK {α:Type} {ok:α→Prop} {e:α→List UInt8} (inj:∀ x y,ok x→ok y→e x=e y→x=y) (b:List UInt8) (x:α):rd ok e b=some x ↔ ok x∧b=e x:=by
 unfold rd
 constructor
 ·
  intro h
  split at h
  ·
   rename_i he
   cases h
   exact he.choose_spec
  ·
   cases h
 ·
  intro h
  have he:∃ x,ok x∧b=e x:=⟨x,h⟩
  rw [dif_pos he]
  exact congrArg some (inj _ _ he.choose_spec.1 h.1 (he.choose_spec.2.symm.trans h.2))
end Go.Proofs.Ytfjogganfjkckaa
namespace Go.Proofs.Ytfjogganfjkckaa
open Go.Abs
def XG (n:Int):Int:=IntKind.u64.wrap (IntKind.u64.wrap (IntKind.u64.wrap n+1) * 11400714819323198485)
def Y7 (h:Int) (x:UInt8):Int:=IntKind.u64.wrap (ac7 .u64 h (x.toNat:Int) * 1099511628211)
def ala (h:Int):Int:=ac7 .u64 h (h.fdiv (2 ^ min (Int.toNat 29) (IntKind.bits .u64)))
def Ya (key:Int) (b:List UInt8):Int:=ala (b.foldl Y7 (ac7 .u64 key 14695981039346656037))
theorem aaV (x:UInt8):IntKind.u64.wrap (x.toNat:Int)=(x.toNat:Int):=ZR (by have:=x.toNat_lt;omega)
theorem Q5 (x:Int):IntKind.u64.wrap x=x % 18446744073709551616:=rfl
theorem adD (a b:Int):0≤ac7 .u64 a b∧ac7 .u64 a b < 18446744073709551616:=by
 unfold ac7
 have h:∀ x:Int,0≤IntKind.u64.wrap x∧IntKind.u64.wrap x < 18446744073709551616:=fun x=>by rw [Q5];omega
 first | exact h _ | (simp only [IntKind.ofBits,IntKind.signed];first | exact h _ | omega)
theorem ahZ (h:Int) (x:UInt8):0≤Y7 h x∧Y7 h x < 18446744073709551616:=by unfold Y7;rw [Q5];omega
theorem kY.v (n:Int) (S:zy):zZ zi O kY.id [.int .i64 n] S=some (.int .u64 (XG n),S):=by
 obtain ⟨T,hTe⟩:∃ T,T=(.int .i64 n::zh::zh::zh::zh::zh::zh::[]):=⟨_,rfl⟩
 have hr:zJ zi O false kY.code T S=zJ zi O false kY.code T S:=rfl
 conv at hr =>
  rhs
  rw [hTe]
  simp only [kY.code,kY.rs,zSs,reduceIte,zk,zn,zo,zq,Y2,JK]
 rw [hTe] at hr
 exact kY.runs hr (.inr rfl)
theorem aeC (S:zy):zZ zi O qg.id [.int .i64 0] S=some (.int .u64 (XG 0),S):=JQ (n:=70) (by kernel_rfl)
theorem aep (S:zy):zZ zi O qg.id [.int .i64 1] S=some (.int .u64 (XG 1),S):=JQ (n:=70) (by kernel_rfl)
theorem aeG (S:zy):zZ zi O qg.id [.int .i64 2] S=some (.int .u64 (XG 2),S):=JQ (n:=70) (by kernel_rfl)
theorem adM (S:zy):zZ zi O qg.id [.int .i64 3] S=some (.int .u64 (XG 3),S):=JQ (n:=70) (by kernel_rfl)
theorem ad6 (S:zy):zZ zi O qg.id [.int .i64 4] S=some (.int .u64 (XG 4),S):=JQ (n:=70) (by kernel_rfl)
theorem ad9 (S:zy):zZ zi O qg.id [.int .i64 5] S=some (.int .u64 (XG 5),S):=JQ (n:=70) (by kernel_rfl)
theorem adU (S:zy):zZ zi O qg.id [.int .i64 6] S=some (.int .u64 (XG 6),S):=JQ (n:=70) (by kernel_rfl)
theorem qg.v {n:Int} (h0:0≤n) (h6:n≤6) (S:zy):zZ zi O qg.id [.int .i64 n] S=some (.int .u64 (XG n),S):=by
 have:n=0∨n=1∨n=2∨n=3∨n=4∨n=5∨n=6:=by omega
 rcases this with rfl | rfl | rfl | rfl | rfl | rfl | rfl
 ·
  exact aeC S
 ·
  exact aep S
 ·
  exact aeG S
 ·
  exact adM S
 ·
  exact ad6 S
 ·
  exact ad9 S
 ·
  exact adU S
section
variable {l:List UInt8} {k:Nat}
theorem wP.round (hv:Okl k l) (hlen:l.length≤140737488355328) {S:zy}:∀ (suf pre:List UInt8) (h:Int) {T:List Value} {r:St},qE (zJ zi O false wP.jT) T S=r→T.length=35 →
  T.getD 5 zh=.int .u64 h→T.getD 18 zh=by_ k l→T.getD 19 zh=.int .i64 l.length→T.getD 20 zh=.int .i64 pre.length→l=pre++suf →
  ∃ T',r=some (.exit 2,T',S)∧T'.length=35∧T'.getD 5 zh=.int .u64 (suf.foldl Y7 h)∧T'.getD 12 zh=T.getD 12 zh∧T'.getD 13 zh=T.getD 13 zh∧T'.getD 14 zh=T.getD 14 zh:=by
 intro suf
 induction suf with
 | nil =>
  intro pre h T r hL hT h5 h18 h19 h20 hl
  have hTe:=wP.eta hT
  rw [h5,h18,h19,h20] at hTe
  have hr:zJ zi O false wP.jT T S=zJ zi O false wP.jT T S:=rfl
  have d1:¬ (pre.length:Int) < (l.length:Int):=by rw [hl];simp
  conv at hr =>
   rhs
   rw [hTe]
   simp only [wP.jT,wP.code,wP.rs,zSs,reduceIte,zk,zn,zo,zq,d1]
  exact ⟨_,hL.symm.trans (wu hr (by simp)),rfl,rfl,rfl,rfl,rfl⟩
 | cons x suf ih =>
  intro pre h T r hL hT h5 h18 h19 h20 hl
  have hTe:=wP.eta hT
  rw [h5,h18,h19,h20] at hTe
  have hr:zJ zi O false wP.jT T S=zJ zi O false wP.jT T S:=rfl
  have d1:(pre.length:Int) < (l.length:Int):=by rw [hl];simp;omega
  have e1:∀ S,jy zi 33 (by_ k l) (.int .i64 pre.length) S=some (EP [.int .u8 x.toNat],S):=fun S=>by
   rw [aif hv (by omega) d1];rw [Xt hl]
  have wi:IntKind.i64.wrap ((pre.length:Int)+1)=((pre++[x]).length:Int):=by rw [wrap_i64 (by omega) (by omega)];simp
  have em:IntKind.u64.wrap (ac7 .u64 h (x.toNat:Int) * 1099511628211)=Y7 h x:=rfl
  conv at hr =>
   rhs
   rw [hTe]
   simp only [wP.jT,wP.code,wP.rs,zSs,reduceIte,zk,zn,zo,zq,d1,e1,Ky,Zn,aaV,WU,Y2,em,wi]
  obtain ⟨T',q1,q2,q3,q4,q5,q6⟩:=ih (pre++[x]) (Y7 h x) ((wZ hr).symm.trans hL) rfl rfl rfl rfl rfl (by simp [hl])
  exact ⟨T',q1,q2,q3,q4,q5,q6⟩
theorem Q7 (S:zy):jK zi 29 1 [(0,by_ 1 l)] S=some (sv 2 1 1 [by_ 1 l],S):=by kernel_rfl
theorem aie (i:Int) (hi:i=0) (S:zy):jy zi 29 (sv 1 1 1 [by_ 1 l]) (.int .i64 i) S=some (EP [by_ 1 l],S):=by subst hi;exact YG acN ags ⟨by decide,fun h=>by cases h⟩ (by omega) (by omega)
theorem wP.v (hlen:l.length≤140737488355328) {key:Int} (S:zy):zZ zi O wP.id [.int .u64 key,sv 1 1 1 [by_ 1 l]] S=some (.int .u64 (Ya key l),S):=by
 obtain ⟨T,hTe⟩:∃ T,T=(.int .u64 key::sv 1 1 1 [by_ 1 l]::zh::zh::zh::zh::zh::zh::zh::zh::zh::zh::zh::zh::zh::zh::zh::zh::zh::zh::zh::zh::zh::zh::zh::zh::zh::zh::zh::zh::zh::zh::zh::zh::zh::[]):=⟨_,rfl⟩
 have hr:zJ zi O false wP.code T S=zJ zi O false wP.code T S:=rfl
 have ln:∀ S,Zu zi 29 (sv 1 1 1 [by_ 1 l]) S=some (.int .i64 1,S):=fun S=>by kernel_rfl
 have lb:∀ S,Zu zi 33 (by_ 1 l) S=some (.int .i64 l.length,S):=fun S=>ZP Okl.read
 conv at hr =>
  rhs
  rw [hTe]
  simp only [wP.code,wP.rs,zSs,reduceIte,zk,zn,zo,zq,WU,ln]
 generalize hL:qE (zJ zi O false wP.kZ) _ _=r at hr
 have key1:∃ T',r=some (.exit 0,T',S)∧T'.length=35∧T'.getD 5 zh=.int .u64 (l.foldl Y7 (ac7 .u64 key 14695981039346656037)):=by
  generalize hT0:(_::_:List Value)=T0 at hL
  have hT0':T0.length=35:=by rw [← hT0];rfl
  have g5:T0.getD 5 zh=.int .u64 (ac7 .u64 key 14695981039346656037):=by rw [← hT0];rfl
  have g12:T0.getD 12 zh=sv 1 1 1 [by_ 1 l]:=by rw [← hT0];rfl
  have g13:T0.getD 13 zh=.int .i64 1:=by rw [← hT0];rfl
  have g14:T0.getD 14 zh=.int .i64 0:=by rw [← hT0];rfl
  have hTe:=wP.eta hT0'
  rw [g5,g12,g13,g14] at hTe
  have hr:zJ zi O false wP.kZ T0 S=zJ zi O false wP.kZ T0 S:=rfl
  have z1:(0:Int) < 1:=by omega
  conv at hr =>
   rhs
   rw [hTe]
   simp only [wP.kZ,wP.code,wP.rs,zSs,reduceIte,zk,zn,zo,zq,z1,aie 0 rfl,KR aa6,lb]
  generalize hL1:qE (zJ zi O false wP.jT) _ _=r1 at hr
  obtain ⟨T1,rfl,q1,q2,q3,q4,q5⟩:=wP.round (Okl.read (l:=l)) hlen l [] _ hL1 rfl rfl rfl rfl rfl rfl
  have q3:T1.getD 12 zh=sv 1 1 1 [by_ 1 l]:=q3
  have q4:T1.getD 13 zh=.int .i64 1:=q4
  have q5:T1.getD 14 zh=.int .i64 0:=q5
  have hT1:=wP.eta q1
  rw [q2,q3,q4,q5] at hT1
  have w1:IntKind.i64.wrap (0+1)=1:=by decide
  conv at hr =>
   rhs
   rw [hT1]
   simp only [wP.code,wP.rs,zSs,reduceIte,zk,zn,zo,zq,w1]
  have hL2:=(wZ hr).symm.trans hL
  generalize hT2:(_::_:List Value)=T2 at hL2
  have hT2':T2.length=35:=by rw [← hT2];rfl
  have f5:T2.getD 5 zh=.int .u64 (l.foldl Y7 (ac7 .u64 key 14695981039346656037)):=by rw [← hT2];rfl
  have f13:T2.getD 13 zh=.int .i64 1:=by rw [← hT2];rfl
  have f14:T2.getD 14 zh=.int .i64 1:=by rw [← hT2];rfl
  have hTe2:=wP.eta hT2'
  rw [f5,f13,f14] at hTe2
  have hr2:zJ zi O false wP.kZ T2 S=zJ zi O false wP.kZ T2 S:=rfl
  have z2:¬ (1:Int) < 1:=by omega
  conv at hr2 =>
   rhs
   rw [hTe2]
   simp only [wP.kZ,wP.code,wP.rs,zSs,reduceIte,zk,zn,zo,zq,z2]
  exact ⟨_,hL2.symm.trans (wu hr2 (by simp)),rfl,rfl⟩
 obtain ⟨T',rfl,g1,g2⟩:=key1
 have hT':=wP.eta g1
 rw [g2] at hT'
 conv at hr =>
  rhs
  rw [hT']
  simp only [wP.code,wP.rs,zSs,reduceIte,zk,zn,zo,zq,WU,adn _ _ _ _ (show (0:Int)≤29 by omega)]
 rw [hTe] at hr
 exact wP.runs hr (.inr rfl)
theorem qB.v (hv:Okl k l) (k1:k=1) (hlen:l.length≤140737488355328) {key mark:Int} (S:zy):zZ zi O qB.id [.int .u64 key,.int .u64 mark,by_ k l] S=some (.bool (decide (Ya key l=mark)),S):=by
 subst k1
 obtain ⟨T,hTe⟩:∃ T,T=(.int .u64 key::.int .u64 mark::by_ 1 l::zh::zh::zh::zh::zh::zh::zh::zh::zh::zh::[]):=⟨_,rfl⟩
 have hr:zJ zi O false qB.code T S=zJ zi O false qB.code T S:=rfl
 have c1:=fun S=>wP.v hlen (key:=key) S
 have z:¬ (1:Nat)=2:=by decide
 conv at hr =>
  rhs
  rw [hTe]
  simp only [qB.code,qB.rs,zSs,reduceIte,zk,zn,zo,zq,if_neg z,Q7,c1]
 rw [hTe] at hr
 exact qB.runs hr (.inr rfl)
theorem mref (h:Int):IntKind.u64.wrap (IntKind.u64.wrap (IntKind.u64.wrap (h * 2 ^ (min (Int.toNat 40) (IntKind.bits .u64)))+IntKind.u64.wrap (h * 2 ^ (min (Int.toNat 8) (IntKind.bits .u64))))+IntKind.u64.wrap (h * 179))=IntKind.u64.wrap (h * 1099511628211):=by
 have e1:(2:Int) ^ (min (Int.toNat 40) (IntKind.bits .u64))=1099511627776:=by decide
 have e2:(2:Int) ^ (min (Int.toNat 8) (IntKind.bits .u64))=256:=by decide
 rw [e1,e2]
 simp only [Q5]
 omega
theorem ahw {h:Int} (h0:0≤h) (h1:h < 18446744073709551616):ac7 .u64 h (IntKind.u64.wrap (h.tdiv 536870912))=ala h:=by
 unfold ala
 congr 1
 have e1:(2:Int) ^ (min (Int.toNat 29) (IntKind.bits .u64))=536870912:=by decide
 rw [e1,Q5,Int.tdiv_eq_ediv_of_nonneg h0,Int.fdiv_eq_ediv_of_nonneg _ (by omega)]
 omega
theorem agh:∀ (l:List UInt8) (h:Int),0≤h→h < 18446744073709551616→0≤l.foldl Y7 h∧l.foldl Y7 h < 18446744073709551616
 | [],h,h0,h1=>⟨h0,h1⟩
 | x::l,h,h0,h1=>by
  have:=ahZ h x
  exact agh l _ this.1 this.2
theorem jf.round (hv:Okl k l) (hk:k≠2) (hlen:l.length≤140737488355328) {S:zy}:∀ (suf pre:List UInt8) (h:Int) {T:List Value} {r:St},qE (zJ zi O false jf.jT) T S=r→T.length=34 →
  T.getD 1 zh=by_ k l→T.getD 5 zh=.int .u64 h→T.getD 6 zh=.int .i64 pre.length→l=pre++suf →
  ∃ T',r=some (.exit 0,T',S)∧T'.length=34∧T'.getD 5 zh=.int .u64 (suf.foldl Y7 h):=by
 intro suf
 induction suf with
 | nil =>
  intro pre h T r hL hT h1 h5 h6 hl
  have hTe:=jf.eta hT
  rw [h1,h5,h6] at hTe
  have hr:zJ zi O false jf.jT T S=zJ zi O false jf.jT T S:=rfl
  have d1:¬ (pre.length:Int) < (l.length:Int):=by rw [hl];simp
  conv at hr =>
   rhs
   rw [hTe]
   simp only [jf.jT,jf.code,jf.rs,zSs,reduceIte,zk,zn,zo,zq,if_neg hk,ZP hv,goInt,d1]
  exact ⟨_,hL.symm.trans (wu hr (by simp)),rfl,rfl⟩
 | cons x suf ih =>
  intro pre h T r hL hT h1 h5 h6 hl
  have hTe:=jf.eta hT
  rw [h1,h5,h6] at hTe
  have hr:zJ zi O false jf.jT T S=zJ zi O false jf.jT T S:=rfl
  have d1:(pre.length:Int) < (l.length:Int):=by rw [hl];simp;omega
  have e1:∀ S,jy zi 33 (by_ k l) (.int .i64 pre.length) S=some (EP [.int .u8 x.toNat],S):=fun S=>by
   rw [aif hv (by omega) d1];rw [Xt hl]
  have wi:IntKind.i64.wrap ((pre.length:Int)+1)=((pre++[x]).length:Int):=by rw [wrap_i64 (by omega) (by omega)];simp
  have em:IntKind.u64.wrap (ac7 .u64 h (x.toNat:Int) * 1099511628211)=Y7 h x:=rfl
  conv at hr =>
   rhs
   rw [hTe]
   simp only [jf.jT,jf.code,jf.rs,zSs,reduceIte,zk,zn,zo,zq,if_neg hk,ZP hv,goInt,d1,e1,Ky,Zn,aaV,WU,Y2,aaB _ _ _ _ (show (0:Int)≤40 by omega),aaB _ _ _ _ (show (0:Int)≤8 by omega),mref,em,wi]
  obtain ⟨T',q1,q2,q3⟩:=ih (pre++[x]) (Y7 h x) ((wZ hr).symm.trans hL) rfl rfl rfl rfl (by simp [hl])
  exact ⟨T',q1,q2,q3⟩
theorem jf.v (hv:Okl k l) (hk:k≠2) (hlen:l.length≤140737488355328) {key:Int} (S:zy):zZ zi O jf.id [.int .u64 key,by_ k l] S=some (.int .u64 (Ya key l),S):=by
 obtain ⟨T,hTe⟩:∃ T,T=(.int .u64 key::by_ k l::zh::zh::zh::zh::zh::zh::zh::zh::zh::zh::zh::zh::zh::zh::zh::zh::zh::zh::zh::zh::zh::zh::zh::zh::zh::zh::zh::zh::zh::zh::zh::zh::[]):=⟨_,rfl⟩
 have hr:zJ zi O false jf.code T S=zJ zi O false jf.code T S:=rfl
 conv at hr =>
  rhs
  rw [hTe]
  simp only [jf.code,jf.rs,zSs,reduceIte,zk,zn,zo,zq,WU]
 generalize hL:qE (zJ zi O false jf.jT) _ _=r at hr
 obtain ⟨T',rfl,g1,g2⟩:=jf.round hv hk hlen l [] _ hL rfl rfl rfl rfl rfl
 have hT':=jf.eta g1
 rw [g2] at hT'
 have hx:=adD key 14695981039346656037
 have hi:=agh l _ hx.1 hx.2
 have em:=ahw hi.1 hi.2
 conv at hr =>
  rhs
  rw [hT']
  simp only [jf.code,jf.rs,zSs,reduceIte,zk,zn,zo,zq,vw _ _ _ (show (536870912:Int)≠0 by omega),WU,em]
 rw [hTe] at hr
 exact jf.runs hr (.inr rfl)
end
end Go.Proofs.Ytfjogganfjkckaa
namespace Go.Proofs.Ytfjogganfjkckaa
open Go.Abs
abbrev jQ.id:FuncId:=57
noncomputable def jQ.code:Code:=(.seq (.region 0 (reg Try.f57 0) false) (.seq (.region 1 (reg Try.f57 1) false) (.seq (.seq (.region 2 (reg Try.f57 2) false) (.cond (.tmp 16) (.seq (.region 3 (reg Try.f57 3) false) Code.ret) Code.skip)) (.seq (.region 4 (reg Try.f57 4) false) (.seq (.region 5 (reg Try.f57 5) true) (.seq (.seq (.region 6 (reg Try.f57 6) false) (.cond (.tmp 43) (.seq (.region 7 (reg Try.f57 7) false) Code.ret) Code.skip)) (.seq (.region 8 (reg Try.f57 8) false) Code.ret)))))))
theorem jQ.body:Try.f57.body=some jQ.code:=by kernel_rfl
variable (U x1 X x3 a Y V W Z x9 c d f g i k l m n o p q r s t u w x y z A B C D E F G H I J K L M N P Q:Value) (S:zy)
theorem jQ.r0 :jD zi ⟨false,false,false⟩ (zZ zi O) (reg Try.f57 0) (reg Try.f57 0).toList ([U,x1,X,x3,a,Y,V,W,Z,x9,c,d,f,g,i,k,l,m,n,o,p,q,r,s,t,u,w,x,y,z,A,B,C,D,E,F,G,H,I,J,K,L,M,N,P,Q]) S =
  (zN (yI zi 46 S) (fun v0 R=>some ([U,x1,v0,.int .i64 0,a,Y,V,W,Z,x9,c,d,f,g,i,k,l,m,n,o,p,q,r,s,t,u,w,x,y,z,A,B,C,D,E,F,G,H,I,J,K,L,M,N,P,Q],R)) ()):=by
 kernel_rfl
theorem jQ.r1 :jD zi ⟨false,false,false⟩ (zZ zi O) (reg Try.f57 1) (reg Try.f57 1).toList ([U,x1,X,x3,a,Y,V,W,Z,x9,c,d,f,g,i,k,l,m,n,o,p,q,r,s,t,u,w,x,y,z,A,B,C,D,E,F,G,H,I,J,K,L,M,N,P,Q]) S =
  (zN ((zZ zi O) 55 [(dem (dem U)),(.int .i64 4)] S) (fun b R=>zN (jc b 0 R) (fun v3 S2=>zN (jc (zV 0 b) 1 S2) (fun v4 S3=>zN (jc (zV 1 (zV 0 b)) 2 S3) (fun v5 S4=>some ([U,x1,X,x3,v3,v4,v5,W,Z,zV 2 (zV 1 (zV 0 b)),dem U,dem b,dem v3,dem v4,dem v5,k,l,m,n,o,p,q,r,s,t,u,w,x,y,z,A,B,C,D,E,F,G,H,I,J,K,L,M,N,P,Q],S4)) ()) ()) ()) ()):=by
 kernel_rfl
theorem jQ.r2 :jD zi ⟨false,false,false⟩ (zZ zi O) (reg Try.f57 2) (reg Try.f57 2).toList ([U,x1,X,x3,a,Y,V,W,Z,x9,c,d,f,g,i,k,l,m,n,o,p,q,r,s,t,u,w,x,y,z,A,B,C,D,E,F,G,H,I,J,K,L,M,N,P,Q]) S =
  (zN (wI zi BinOp.neq 64 (dem V) (.int .i64 0) S) (fun b R=>some ([U,x1,X,x3,a,Y,V,W,Z,x9,c,d,f,g,i,dem V,b,m,n,o,p,q,r,s,t,u,w,x,y,z,A,B,C,D,E,F,G,H,I,J,K,L,M,N,P,Q],R)) ()):=by
 kernel_rfl
theorem jQ.r3 :jD zi ⟨false,false,false⟩ (zZ zi O) (reg Try.f57 3) (reg Try.f57 3).toList ([U,x1,X,x3,a,Y,V,W,Z,x9,c,d,f,g,i,k,l,m,n,o,p,q,r,s,t,u,w,x,y,z,A,B,C,D,E,F,G,H,I,J,K,L,M,N,P,Q]) S =
  (zN (yA zi 46 [] S) (fun v0 R=>zN (wU zi 46 X (dem v0) R) (fun b S2=>some ([U,x1,X,.int .i64 71,a,Y,V,W,Z,x9,c,d,f,g,i,k,l,v0,n,o,p,q,r,s,t,u,w,x,y,z,A,B,C,D,E,F,G,H,I,J,K,L,M,N,P,Q],S2)) ()) ()):=by
 kernel_rfl
theorem jQ.r4 :jD zi ⟨false,false,false⟩ (zZ zi O) (reg Try.f57 4) (reg Try.f57 4).toList ([U,x1,X,x3,a,Y,V,W,Z,x9,c,d,f,g,i,k,l,m,n,o,p,q,r,s,t,u,w,x,y,z,A,B,C,D,E,F,G,H,I,J,K,L,M,N,P,Q]) S =
  (zN ((zZ zi O) 65 [(dem (dem Y))] S) (fun b R=>zN (jc b 0 R) (fun v3 S2=>zN (jc (zV 0 b) 1 S2) (fun v4 S3=>some ([U,x1,X,x3,a,Y,v4,v3,Z,x9,c,d,f,g,i,k,l,m,zV 1 (zV 0 b),dem Y,dem b,dem v3,dem v4,s,t,u,w,x,y,z,A,B,C,D,E,F,G,H,I,J,K,L,M,N,P,Q],S3)) ()) ()) ()):=by
 kernel_rfl
theorem jQ.d5:qW zi (reg Try.f57 5)=true:=by kernel_rfl
theorem jQ.ff5:fixed zi (reg Try.f57 5)=false:=by kernel_rfl
theorem jQ.k5:checked zi (reg Try.f57 5)=[0,1,2,3,4,5,6,7,8,9,10,11,12,13]:=by kernel_rfl
theorem jQ.g5:again zi (reg Try.f57 5)=[(2,14),(5,14),(8,14),(11,14)]:=by kernel_rfl
theorem jQ.r5 :zJ zi O false (.region 5 (reg Try.f57 5) true) ([U,x1,X,x3,a,Y,V,W,Z,x9,c,d,f,g,i,k,l,m,n,o,p,q,r,s,t,u,w,x,y,z,A,B,C,D,E,F,G,H,I,J,K,L,M,N,P,Q]) S =
  Ja (okK a ( zN (jy zi 24 (dem a) (.int .i64 0) S) (fun b R=>okK b ( zN (jh zi false 3 b R) (fun v2 S2=>okK v2 ( okK a ( zN (jy zi 24 (dem a) (.int .i64 1) S2) (fun v4 S3=>okK v4 ( zN (jh zi false 3 v4 S3) (fun v5 S4=>okK v5 ( okK a ( zN (jy zi 24 (dem a) (.int .i64 2) S4) (fun v7 S5=>okK v7 ( zN (jh zi false 3 v7 S5) (fun v8 S6=>okK v8 ( okK a ( zN (jy zi 24 (dem a) (.int .i64 3) S6) (fun a0 S7=>okK a0 ( zN (jh zi false 3 a0 S7) (fun a2 S8=>okK a2 ( okK W ( zN (yA zi 46 [(0,(dem v2)),(1,(dem v5)),(2,(dem v8)),(3,(dem a2)),(4,(dem (dem W)))] S8) (fun a3 S9=>okK a3 ( zN (yI zi 46 S9) (fun a4 a1=>zN (wU zi 46 a4 (dem a3) a1) (fun a6 a5=>ckK (qN b R a1 && (qN v4 S3 a1 && (qN v7 S5 a1 && (qN a0 S7 a1 && (true))))) (some ([U,x1,X,x3,a,Y,V,W,a4,x9,c,d,f,g,i,k,l,m,n,o,p,q,r,dem a,b,v2,dem a,v4,v5,dem a,v7,v8,dem a,a0,a2,dem W,a3,H,I,J,K,L,M,N,P,Q],a5)) ()) ()) ()) ()) ()) ()) ()) ()) ()) ()) ()) ()) ()) ()) ()) ()) ()) ()) ()) ()) ()) ()) ()) ()) ()) ()):=by
 rw [yF jQ.d5 jQ.ff5 jQ.k5 jQ.g5]
 refine congrArg Ja ?_
 refine uPC Try.f57 5 0 (v:=a) (pe:=zh) ?_
 refine uDC Try.f57 5 1 (pe:=zh) (fun b R=>?_)
 refine uDC Try.f57 5 2 (pe:=b) (fun v2 S2=>?_)
 refine uPC Try.f57 5 3 (v:=a) (pe:=zh) ?_
 refine uDC Try.f57 5 4 (pe:=zh) (fun v4 S3=>?_)
 refine uDC Try.f57 5 5 (pe:=v4) (fun v5 S4=>?_)
 refine uPC Try.f57 5 6 (v:=a) (pe:=zh) ?_
 refine uDC Try.f57 5 7 (pe:=zh) (fun v7 S5=>?_)
 refine uDC Try.f57 5 8 (pe:=v7) (fun v8 S6=>?_)
 refine uPC Try.f57 5 9 (v:=a) (pe:=zh) ?_
 refine uDC Try.f57 5 10 (pe:=zh) (fun a0 S7=>?_)
 refine uDC Try.f57 5 11 (pe:=a0) (fun a2 S8=>?_)
 refine uPC Try.f57 5 12 (v:=W) (pe:=zh) ?_
 refine uDC Try.f57 5 13 (pe:=zh) (fun a3 S9=>?_)
 refine uD Try.f57 5 14 (pe:=zh) (fun a4 a1=>?_)
 refine uD Try.f57 5 15 (pe:=zh) (fun a6 a5=>?_)
 kernel_rfl
theorem jQ.r6 :jD zi ⟨false,false,false⟩ (zZ zi O) (reg Try.f57 6) (reg Try.f57 6).toList ([U,x1,X,x3,a,Y,V,W,Z,x9,c,d,f,g,i,k,l,m,n,o,p,q,r,s,t,u,w,x,y,z,A,B,C,D,E,F,G,H,I,J,K,L,M,N,P,Q]) S =
  (zN (wI zi BinOp.neq 64 (dem V) (.int .i64 0) S) (fun b R=>gdK (dem b) false (jh zi false 46 Z) R (fun v3 S2=>gdK (dem b) false ((zZ zi O) 45 [(dem v3)]) S2 (fun v4 S3=>gdK (dem b) false (aUn zi UnOp.not v4) S3 (fun v5 S4=>zN (wX (dem b) (Value.bool true) v5 S4) (fun v6 S5=>some ([U,x1,X,x3,a,Y,V,W,Z,x9,c,d,f,g,i,k,l,m,n,o,p,q,r,s,t,u,w,x,y,z,A,B,C,D,E,F,G,dem V,b,dem b,v3,v4,v5,v6,P,Q],S5)) ()) ()) ()) ()) ()):=by
 refine sP Try.f57 6 0 (v:=V) ?_
 refine sD Try.f57 6 1 (fun b R=>?_)
 refine sP Try.f57 6 2 (v:=b) ?_
 refine sG Try.f57 6 3 (j:=2) (fun v3 S2=>?_)
 refine sG Try.f57 6 4 (j:=2) (fun v4 S3=>?_)
 refine sG Try.f57 6 5 (j:=2) (fun v5 S4=>?_)
 refine sD Try.f57 6 6 (fun v6 S5=>?_)
 kernel_rfl
theorem jQ.r7 :jD zi ⟨false,false,false⟩ (zZ zi O) (reg Try.f57 7) (reg Try.f57 7).toList ([U,x1,X,x3,a,Y,V,W,Z,x9,c,d,f,g,i,k,l,m,n,o,p,q,r,s,t,u,w,x,y,z,A,B,C,D,E,F,G,H,I,J,K,L,M,N,P,Q]) S =
  (zN (yA zi 46 [] S) (fun v0 R=>zN (wU zi 46 X (dem v0) R) (fun b S2=>some ([U,x1,X,.int .i64 71,a,Y,V,W,Z,x9,c,d,f,g,i,k,l,m,n,o,p,q,r,s,t,u,w,x,y,z,A,B,C,D,E,F,G,H,I,J,K,L,M,N,v0,Q],S2)) ()) ()):=by
 kernel_rfl
theorem jQ.r8 :jD zi ⟨false,false,false⟩ (zZ zi O) (reg Try.f57 8) (reg Try.f57 8).toList ([U,x1,X,x3,a,Y,V,W,Z,x9,c,d,f,g,i,k,l,m,n,o,p,q,r,s,t,u,w,x,y,z,A,B,C,D,E,F,G,H,I,J,K,L,M,N,P,Q]) S =
  (zN (jh zi false 46 Z S) (fun v0 R=>zN (wU zi 46 X (dem v0) R) (fun b S2=>some ([U,x1,X,.int .i64 0,a,Y,V,W,Z,x9,c,d,f,g,i,k,l,m,n,o,p,q,r,s,t,u,w,x,y,z,A,B,C,D,E,F,G,H,I,J,K,L,M,N,P,v0],S2)) ()) ()):=by
 kernel_rfl
theorem jQ.rs:type_of% (alG @jQ.r0 (alG @jQ.r1 (alG @jQ.r2 (alG @jQ.r3 (alG @jQ.r4 (alG @jQ.r5 (alG @jQ.r6 (alG @jQ.r7 (@jQ.r8))))))))):=alG @jQ.r0 (alG @jQ.r1 (alG @jQ.r2 (alG @jQ.r3 (alG @jQ.r4 (alG @jQ.r5 (alG @jQ.r6 (alG @jQ.r7 (@jQ.r8))))))))
theorem jQ.runs {U:Value} {S R:zy} {e:AEx} {T:List Value} (h:zJ zi O false jQ.code ([U,zh,zh,zh,zh,zh,zh,zh,zh,zh,zh,zh,zh,zh,zh,zh,zh,zh,zh,zh,zh,zh,zh,zh,zh,zh,zh,zh,zh,zh,zh,zh,zh,zh,zh,zh,zh,zh,zh,zh,zh,zh,zh,zh,zh,zh]) zy.empty=some (e,T,R)) (he:e=.normal∨e=.ret) {w0:Value} (c0:jh zi false 46 (T.getD 2 zh) R=some (w0,R)) (h0:wG (w0)=true) (h1:wG (T.getD 3 zh)=true) (hca:[U].all (jW 16)=true) (hcv:jW 16 (Value.tuple #[w0,T.getD 3 zh])=true):zZ zi O 57 [U] S=some (Value.tuple #[w0,T.getD 3 zh],S) :=
 yC rfl rfl Try.func57 (by decide) jQ.body (by exact h) he ((ql ((show zQ zi T R Try.f57.results.toList=zQ zi T R [(ResultVar.cell 2 46),(ResultVar.tmp 3)] from by kernel_rfl).trans (by simp only [zQ,c0])) (by kernel_rfl) (by simp only [List.all_cons,List.all_nil,h0,h1,Bool.and_true])).trans rfl) hca hcv
end Go.Proofs.Ytfjogganfjkckaa
namespace Go.Proofs.Ytfjogganfjkckaa
open Go.Abs
abbrev zU.id:FuncId:=31
noncomputable def zU.code:Code:=(.seq (.region 0 (reg Try.f31 0) false) (.seq (.region 1 (reg Try.f31 1) false) (.seq (.seq (.region 2 (reg Try.f31 2) false) (.cond (.tmp 17) (.seq (.region 3 (reg Try.f31 3) false) Code.ret) Code.skip)) (.seq (.region 4 (reg Try.f31 4) false) (.seq (.region 5 (reg Try.f31 5) true) (.seq (.seq (.region 6 (reg Try.f31 6) false) (.cond (.tmp 44) (.seq (.region 7 (reg Try.f31 7) false) Code.ret) Code.skip)) (.seq (.region 8 (reg Try.f31 8) false) Code.ret)))))))
theorem zU.body:Try.f31.body=some zU.code:=by kernel_rfl
variable (V x1 X x3 a Z x6 W Y x9 c d f g i k l m n o p q r s t u w x y z A B C D E F G H I J K L M N P Q R:Value) (S:zy)
theorem zU.r0 :jD zi ⟨false,false,false⟩ (zZ zi O) (reg Try.f31 0) (reg Try.f31 0).toList ([V,x1,X,x3,a,Z,x6,W,Y,x9,c,d,f,g,i,k,l,m,n,o,p,q,r,s,t,u,w,x,y,z,A,B,C,D,E,F,G,H,I,J,K,L,M,N,P,Q,R]) S =
  (zN (yI zi 46 S) (fun v0 U=>some ([V,x1,v0,.int .i64 0,a,Z,x6,W,Y,x9,c,d,f,g,i,k,l,m,n,o,p,q,r,s,t,u,w,x,y,z,A,B,C,D,E,F,G,H,I,J,K,L,M,N,P,Q,R],U)) ()):=by
 kernel_rfl
theorem zU.r1 :jD zi ⟨false,false,false⟩ (zZ zi O) (reg Try.f31 1) (reg Try.f31 1).toList ([V,x1,X,x3,a,Z,x6,W,Y,x9,c,d,f,g,i,k,l,m,n,o,p,q,r,s,t,u,w,x,y,z,A,B,C,D,E,F,G,H,I,J,K,L,M,N,P,Q,R]) S =
  (zN ((zZ zi O) 29 [(dem (dem V)),(.int .i64 4)] S) (fun b U=>zN (jc b 0 U) (fun v3 S2=>zN (jc (zV 0 b) 1 S2) (fun v4 S3=>zN (jc (zV 1 (zV 0 b)) 2 S3) (fun v5 S4=>some ([V,x1,X,x3,v3,v4,v5,W,Y,x9,zV 2 (zV 1 (zV 0 b)),dem V,dem b,dem v3,dem v4,dem v5,l,m,n,o,p,q,r,s,t,u,w,x,y,z,A,B,C,D,E,F,G,H,I,J,K,L,M,N,P,Q,R],S4)) ()) ()) ()) ()):=by
 kernel_rfl
theorem zU.r2 :jD zi ⟨false,false,false⟩ (zZ zi O) (reg Try.f31 2) (reg Try.f31 2).toList ([V,x1,X,x3,a,Z,x6,W,Y,x9,c,d,f,g,i,k,l,m,n,o,p,q,r,s,t,u,w,x,y,z,A,B,C,D,E,F,G,H,I,J,K,L,M,N,P,Q,R]) S =
  (zN (wI zi BinOp.neq 3 (dem x6) (.int .i64 0) S) (fun b U=>some ([V,x1,X,x3,a,Z,x6,W,Y,x9,c,d,f,g,i,k,dem x6,b,n,o,p,q,r,s,t,u,w,x,y,z,A,B,C,D,E,F,G,H,I,J,K,L,M,N,P,Q,R],U)) ()):=by
 kernel_rfl
theorem zU.r3 :jD zi ⟨false,false,false⟩ (zZ zi O) (reg Try.f31 3) (reg Try.f31 3).toList ([V,x1,X,x3,a,Z,x6,W,Y,x9,c,d,f,g,i,k,l,m,n,o,p,q,r,s,t,u,w,x,y,z,A,B,C,D,E,F,G,H,I,J,K,L,M,N,P,Q,R]) S =
  (zN (yA zi 46 [] S) (fun v0 U=>zN (wU zi 46 X (dem v0) U) (fun b S2=>some ([V,x1,X,.int .i64 71,a,Z,x6,W,Y,x9,c,d,f,g,i,k,l,m,v0,o,p,q,r,s,t,u,w,x,y,z,A,B,C,D,E,F,G,H,I,J,K,L,M,N,P,Q,R],S2)) ()) ()):=by
 kernel_rfl
theorem zU.r4 :jD zi ⟨false,false,false⟩ (zZ zi O) (reg Try.f31 4) (reg Try.f31 4).toList ([V,x1,X,x3,a,Z,x6,W,Y,x9,c,d,f,g,i,k,l,m,n,o,p,q,r,s,t,u,w,x,y,z,A,B,C,D,E,F,G,H,I,J,K,L,M,N,P,Q,R]) S =
  (zN ((zZ zi O) 49 [(dem (dem Z))] S) (fun b U=>zN (jc b 0 U) (fun v3 S2=>zN (jc (zV 0 b) 1 S2) (fun v4 S3=>some ([V,x1,X,x3,a,Z,x6,v3,v4,x9,c,d,f,g,i,k,l,m,n,zV 1 (zV 0 b),dem Z,dem b,dem v3,dem v4,t,u,w,x,y,z,A,B,C,D,E,F,G,H,I,J,K,L,M,N,P,Q,R],S3)) ()) ()) ()):=by
 kernel_rfl
theorem zU.d5:qW zi (reg Try.f31 5)=true:=by kernel_rfl
theorem zU.ff5:fixed zi (reg Try.f31 5)=false:=by kernel_rfl
theorem zU.k5:checked zi (reg Try.f31 5)=[0,1,2,3,4,5,6,7,8,9,10,11,12,13]:=by kernel_rfl
theorem zU.g5:again zi (reg Try.f31 5)=[(2,14),(5,14),(8,14),(11,14)]:=by kernel_rfl
theorem zU.r5 :zJ zi O false (.region 5 (reg Try.f31 5) true) ([V,x1,X,x3,a,Z,x6,W,Y,x9,c,d,f,g,i,k,l,m,n,o,p,q,r,s,t,u,w,x,y,z,A,B,C,D,E,F,G,H,I,J,K,L,M,N,P,Q,R]) S =
  Ja (okK a ( zN (jy zi 24 (dem a) (.int .i64 0) S) (fun b U=>okK b ( zN (jh zi false 3 b U) (fun v2 S2=>okK v2 ( okK a ( zN (jy zi 24 (dem a) (.int .i64 1) S2) (fun v4 S3=>okK v4 ( zN (jh zi false 3 v4 S3) (fun v5 S4=>okK v5 ( okK a ( zN (jy zi 24 (dem a) (.int .i64 2) S4) (fun v7 S5=>okK v7 ( zN (jh zi false 3 v7 S5) (fun v8 S6=>okK v8 ( okK a ( zN (jy zi 24 (dem a) (.int .i64 3) S6) (fun a0 S7=>okK a0 ( zN (jh zi false 3 a0 S7) (fun a2 S8=>okK a2 ( okK W ( zN (yA zi 46 [(0,(dem v2)),(1,(dem v5)),(2,(dem v8)),(3,(dem a2)),(4,(dem (dem W)))] S8) (fun a3 S9=>okK a3 ( zN (yI zi 46 S9) (fun a4 a1=>zN (wU zi 46 a4 (dem a3) a1) (fun a6 a5=>ckK (qN b U a1 && (qN v4 S3 a1 && (qN v7 S5 a1 && (qN a0 S7 a1 && (true))))) (some ([V,x1,X,x3,a,Z,x6,W,Y,a4,c,d,f,g,i,k,l,m,n,o,p,q,r,s,dem a,b,v2,dem a,v4,v5,dem a,v7,v8,dem a,a0,a2,dem W,a3,I,J,K,L,M,N,P,Q,R],a5)) ()) ()) ()) ()) ()) ()) ()) ()) ()) ()) ()) ()) ()) ()) ()) ()) ()) ()) ()) ()) ()) ()) ()) ()) ()) ()):=by
 rw [yF zU.d5 zU.ff5 zU.k5 zU.g5]
 refine congrArg Ja ?_
 refine uPC Try.f31 5 0 (v:=a) (pe:=zh) ?_
 refine uDC Try.f31 5 1 (pe:=zh) (fun b U=>?_)
 refine uDC Try.f31 5 2 (pe:=b) (fun v2 S2=>?_)
 refine uPC Try.f31 5 3 (v:=a) (pe:=zh) ?_
 refine uDC Try.f31 5 4 (pe:=zh) (fun v4 S3=>?_)
 refine uDC Try.f31 5 5 (pe:=v4) (fun v5 S4=>?_)
 refine uPC Try.f31 5 6 (v:=a) (pe:=zh) ?_
 refine uDC Try.f31 5 7 (pe:=zh) (fun v7 S5=>?_)
 refine uDC Try.f31 5 8 (pe:=v7) (fun v8 S6=>?_)
 refine uPC Try.f31 5 9 (v:=a) (pe:=zh) ?_
 refine uDC Try.f31 5 10 (pe:=zh) (fun a0 S7=>?_)
 refine uDC Try.f31 5 11 (pe:=a0) (fun a2 S8=>?_)
 refine uPC Try.f31 5 12 (v:=W) (pe:=zh) ?_
 refine uDC Try.f31 5 13 (pe:=zh) (fun a3 S9=>?_)
 refine uD Try.f31 5 14 (pe:=zh) (fun a4 a1=>?_)
 refine uD Try.f31 5 15 (pe:=zh) (fun a6 a5=>?_)
 kernel_rfl
theorem zU.r6 :jD zi ⟨false,false,false⟩ (zZ zi O) (reg Try.f31 6) (reg Try.f31 6).toList ([V,x1,X,x3,a,Z,x6,W,Y,x9,c,d,f,g,i,k,l,m,n,o,p,q,r,s,t,u,w,x,y,z,A,B,C,D,E,F,G,H,I,J,K,L,M,N,P,Q,R]) S =
  (zN (wI zi BinOp.neq 3 (dem Y) (.int .i64 0) S) (fun b U=>gdK (dem b) false (jh zi false 46 x9) U (fun v3 S2=>gdK (dem b) false ((zZ zi O) 32 [(dem v3)]) S2 (fun v4 S3=>gdK (dem b) false (aUn zi UnOp.not v4) S3 (fun v5 S4=>zN (wX (dem b) (Value.bool true) v5 S4) (fun v6 S5=>some ([V,x1,X,x3,a,Z,x6,W,Y,x9,c,d,f,g,i,k,l,m,n,o,p,q,r,s,t,u,w,x,y,z,A,B,C,D,E,F,G,H,dem Y,b,dem b,v3,v4,v5,v6,Q,R],S5)) ()) ()) ()) ()) ()):=by
 refine sP Try.f31 6 0 (v:=Y) ?_
 refine sD Try.f31 6 1 (fun b U=>?_)
 refine sP Try.f31 6 2 (v:=b) ?_
 refine sG Try.f31 6 3 (j:=2) (fun v3 S2=>?_)
 refine sG Try.f31 6 4 (j:=2) (fun v4 S3=>?_)
 refine sG Try.f31 6 5 (j:=2) (fun v5 S4=>?_)
 refine sD Try.f31 6 6 (fun v6 S5=>?_)
 kernel_rfl
theorem zU.r7 :jD zi ⟨false,false,false⟩ (zZ zi O) (reg Try.f31 7) (reg Try.f31 7).toList ([V,x1,X,x3,a,Z,x6,W,Y,x9,c,d,f,g,i,k,l,m,n,o,p,q,r,s,t,u,w,x,y,z,A,B,C,D,E,F,G,H,I,J,K,L,M,N,P,Q,R]) S =
  (zN (yA zi 46 [] S) (fun v0 U=>zN (wU zi 46 X (dem v0) U) (fun b S2=>some ([V,x1,X,.int .i64 71,a,Z,x6,W,Y,x9,c,d,f,g,i,k,l,m,n,o,p,q,r,s,t,u,w,x,y,z,A,B,C,D,E,F,G,H,I,J,K,L,M,N,P,v0,R],S2)) ()) ()):=by
 kernel_rfl
theorem zU.r8 :jD zi ⟨false,false,false⟩ (zZ zi O) (reg Try.f31 8) (reg Try.f31 8).toList ([V,x1,X,x3,a,Z,x6,W,Y,x9,c,d,f,g,i,k,l,m,n,o,p,q,r,s,t,u,w,x,y,z,A,B,C,D,E,F,G,H,I,J,K,L,M,N,P,Q,R]) S =
  (zN (jh zi false 46 x9 S) (fun v0 U=>zN (wU zi 46 X (dem v0) U) (fun b S2=>some ([V,x1,X,.int .i64 0,a,Z,x6,W,Y,x9,c,d,f,g,i,k,l,m,n,o,p,q,r,s,t,u,w,x,y,z,A,B,C,D,E,F,G,H,I,J,K,L,M,N,P,Q,v0],S2)) ()) ()):=by
 kernel_rfl
theorem zU.rs:type_of% (alG @zU.r0 (alG @zU.r1 (alG @zU.r2 (alG @zU.r3 (alG @zU.r4 (alG @zU.r5 (alG @zU.r6 (alG @zU.r7 (@zU.r8))))))))):=alG @zU.r0 (alG @zU.r1 (alG @zU.r2 (alG @zU.r3 (alG @zU.r4 (alG @zU.r5 (alG @zU.r6 (alG @zU.r7 (@zU.r8))))))))
theorem zU.runs {V:Value} {S U:zy} {e:AEx} {T:List Value} (h:zJ zi O false zU.code ([V,zh,zh,zh,zh,zh,zh,zh,zh,zh,zh,zh,zh,zh,zh,zh,zh,zh,zh,zh,zh,zh,zh,zh,zh,zh,zh,zh,zh,zh,zh,zh,zh,zh,zh,zh,zh,zh,zh,zh,zh,zh,zh,zh,zh,zh,zh]) zy.empty=some (e,T,U)) (he:e=.normal∨e=.ret) {w0:Value} (c0:jh zi false 46 (T.getD 2 zh) U=some (w0,U)) (h0:wG (w0)=true) (h1:wG (T.getD 3 zh)=true) (hca:[V].all (jW 16)=true) (hcv:jW 16 (Value.tuple #[w0,T.getD 3 zh])=true):zZ zi O 31 [V] S=some (Value.tuple #[w0,T.getD 3 zh],S) :=
 yC rfl rfl Try.func31 (by decide) zU.body (by exact h) he ((ql ((show zQ zi T U Try.f31.results.toList=zQ zi T U [(ResultVar.cell 2 46),(ResultVar.tmp 3)] from by kernel_rfl).trans (by simp only [zQ,c0])) (by kernel_rfl) (by simp only [List.all_cons,List.all_nil,h0,h1,Bool.and_true])).trans rfl) hca hcv
end Go.Proofs.Ytfjogganfjkckaa
namespace Go.Proofs.Ytfjogganfjkckaa
open Go.Abs
abbrev wY.id:FuncId:=73
noncomputable def wY.code:Code:=(.seq (.region 0 (reg Try.f73 0) false) (.seq (.region 1 (reg Try.f73 1) false) Code.ret))
theorem wY.body:Try.f73.body=some wY.code:=by kernel_rfl
variable (g i k l x4 x5 x6 x7 x8 x9 o p q r s t u w x y z A B C D E F G H I J K L M N P Q R:Value) (S:zy)
theorem wY.r0 :jD zi ⟨false,false,false⟩ (zZ zi O) (reg Try.f73 0) (reg Try.f73 0).toList ([g,i,k,l,x4,x5,x6,x7,x8,x9,o,p,q,r,s,t,u,w,x,y,z,A,B,C,D,E,F,G,H,I,J,K,L,M,N,P,Q,R]) S =
  (zN (J3 (dem g) S) (fun U m=>zN (J3 (dem i) m) (fun V S2=>some ([g,i,U,V,Value.bool false,x5,x6,x7,x8,x9,o,p,q,r,s,t,u,w,x,y,z,A,B,C,D,E,F,G,H,I,J,K,L,M,N,P,Q,R],S2)) ()) ()):=by
 kernel_rfl
theorem wY.r1 :jD zi ⟨false,false,false⟩ (zZ zi O) (reg Try.f73 1) (reg Try.f73 1).toList ([g,i,k,l,x4,x5,x6,x7,x8,x9,o,p,q,r,s,t,u,w,x,y,z,A,B,C,D,E,F,G,H,I,J,K,L,M,N,P,Q,R]) S =
  (zN (zF zi 46 k 0 S) (fun U m=>zN (jh zi false 3 U m) (fun V S2=>zN (zF zi 46 l 0 S2) (fun v2 S3=>zN (jh zi false 3 v2 S3) (fun v3 S4=>zN (wI zi BinOp.eql 3 V v3 S4) (fun f S5=>gdK (dem f) true (zF zi 46 k 1) S5 (fun v6 S6=>gdK (dem f) true (jh zi false 3 v6) S6 (fun v7 S7=>gdK (dem f) true (zF zi 46 l 1) S7 (fun v8 S8=>gdK (dem f) true (jh zi false 3 v8) S8 (fun v9 S9=>gdK (dem f) true (wI zi BinOp.eql 3 v7 v9) S9 (fun W b2=>zN (wX (dem f) W (Value.bool false) b2) (fun b b3=>gdK (dem b) true (zF zi 46 k 2) b3 (fun X b4=>gdK (dem b) true (jh zi false 3 X) b4 (fun Y b5=>gdK (dem b) true (zF zi 46 l 2) b5 (fun Z b6=>gdK (dem b) true (jh zi false 3 Z) b6 (fun a0 b7=>gdK (dem b) true (wI zi BinOp.eql 3 Y a0) b7 (fun a1 b8=>zN (wX (dem b) a1 (Value.bool false) b8) (fun c b9=>gdK (dem c) true (zF zi 46 k 3) b9 (fun a2 c0=>gdK (dem c) true (jh zi false 3 a2) c0 (fun a3 c1=>gdK (dem c) true (zF zi 46 l 3) c1 (fun a4 c2=>gdK (dem c) true (jh zi false 3 a4) c2 (fun a5 c3=>gdK (dem c) true (wI zi BinOp.eql 3 a3 a5) c3 (fun a6 c4=>zN (wX (dem c) a6 (Value.bool false) c4) (fun d c5=>gdK (dem d) true (zF zi 46 k 4) c5 (fun a7 c6=>gdK (dem d) true (jh zi false 44 a7) c6 (fun a8 c7=>gdK (dem d) true (zF zi 46 l 4) c7 (fun a9 c8=>gdK (dem d) true (jh zi false 44 a9) c8 (fun b0 c9=>gdK (dem d) true ((zZ zi O) 75 [(dem a8),(dem b0)]) c9 (fun b1 d0=>zN (wX (dem d) b1 (Value.bool false) d0) (fun n d1=>some ([g,i,k,l,n,U,V,v2,v3,f,dem f,v6,v7,v8,v9,W,b,dem b,X,Y,Z,a0,a1,c,dem c,a2,a3,a4,a5,a6,d,dem d,a7,a8,a9,b0,b1,dem n],d1)) ()) ()) ()) ()) ()) ()) ()) ()) ()) ()) ()) ()) ()) ()) ()) ()) ()) ()) ()) ()) ()) ()) ()) ()) ()) ()) ()) ()) ()):=by
 refine sD Try.f73 1 0 (fun U m=>?_)
 refine sD Try.f73 1 1 (fun V S2=>?_)
 refine sD Try.f73 1 2 (fun v2 S3=>?_)
 refine sD Try.f73 1 3 (fun v3 S4=>?_)
 refine sD Try.f73 1 4 (fun f S5=>?_)
 refine sP Try.f73 1 5 (v:=f) ?_
 refine sG Try.f73 1 6 (j:=5) (fun v6 S6=>?_)
 refine sG Try.f73 1 7 (j:=5) (fun v7 S7=>?_)
 refine sG Try.f73 1 8 (j:=5) (fun v8 S8=>?_)
 refine sG Try.f73 1 9 (j:=5) (fun v9 S9=>?_)
 refine sG Try.f73 1 10 (j:=5) (fun W b2=>?_)
 refine sD Try.f73 1 11 (fun b b3=>?_)
 refine sP Try.f73 1 12 (v:=b) ?_
 refine sG Try.f73 1 13 (j:=12) (fun X b4=>?_)
 refine sG Try.f73 1 14 (j:=12) (fun Y b5=>?_)
 refine sG Try.f73 1 15 (j:=12) (fun Z b6=>?_)
 refine sG Try.f73 1 16 (j:=12) (fun a0 b7=>?_)
 refine sG Try.f73 1 17 (j:=12) (fun a1 b8=>?_)
 refine sD Try.f73 1 18 (fun c b9=>?_)
 refine sP Try.f73 1 19 (v:=c) ?_
 refine sG Try.f73 1 20 (j:=19) (fun a2 c0=>?_)
 refine sG Try.f73 1 21 (j:=19) (fun a3 c1=>?_)
 refine sG Try.f73 1 22 (j:=19) (fun a4 c2=>?_)
 refine sG Try.f73 1 23 (j:=19) (fun a5 c3=>?_)
 refine sG Try.f73 1 24 (j:=19) (fun a6 c4=>?_)
 refine sD Try.f73 1 25 (fun d c5=>?_)
 refine sP Try.f73 1 26 (v:=d) ?_
 refine sG Try.f73 1 27 (j:=26) (fun a7 c6=>?_)
 refine sG Try.f73 1 28 (j:=26) (fun a8 c7=>?_)
 refine sG Try.f73 1 29 (j:=26) (fun a9 c8=>?_)
 refine sG Try.f73 1 30 (j:=26) (fun b0 c9=>?_)
 refine sG Try.f73 1 31 (j:=26) (fun b1 d0=>?_)
 refine sD Try.f73 1 32 (fun n d1=>?_)
 refine sP Try.f73 1 33 (v:=n) ?_
 kernel_rfl
theorem wY.rs:type_of% (alG @wY.r0 (@wY.r1)):=alG @wY.r0 (@wY.r1)
theorem wY.runs {g i:Value} {S m:zy} {e:AEx} {T:List Value} (h:zJ zi O false wY.code ([g,i,zh,zh,zh,zh,zh,zh,zh,zh,zh,zh,zh,zh,zh,zh,zh,zh,zh,zh,zh,zh,zh,zh,zh,zh,zh,zh,zh,zh,zh,zh,zh,zh,zh,zh,zh,zh]) zy.empty=some (e,T,m)) (he:e=.normal∨e=.ret) (hca:[g,i].all (jW 16)=true) (hcv:jW 16 (T.getD 4 zh)=true):zZ zi O 73 [g,i] S=some (T.getD 4 zh,S) :=
 yC rfl rfl Try.func73 (by decide) wY.body (by exact h) he (yH (a:=T.getD 4 zh) ((show zQ zi T m Try.f73.results.toList=zQ zi T m [(ResultVar.tmp 4)] from by kernel_rfl).trans (by simp only [zQ])) (by kernel_rfl)) hca hcv
end Go.Proofs.Ytfjogganfjkckaa
namespace Go.Proofs.Ytfjogganfjkckaa
open Go.Abs
abbrev jB.id:FuncId:=18
noncomputable def jB.code:Code:=(.seq (.region 0 (reg Try.f18 0) false) (.seq (.region 1 (reg Try.f18 1) false) Code.ret))
theorem jB.body:Try.f18.body=some jB.code:=by kernel_rfl
variable (g i k l x4 x5 x6 x7 x8 x9 o p q r s t u w x y z A B C D E F G H I J K L M N P Q R:Value) (S:zy)
theorem jB.r0 :jD zi ⟨false,false,false⟩ (zZ zi O) (reg Try.f18 0) (reg Try.f18 0).toList ([g,i,k,l,x4,x5,x6,x7,x8,x9,o,p,q,r,s,t,u,w,x,y,z,A,B,C,D,E,F,G,H,I,J,K,L,M,N,P,Q,R]) S =
  (zN (J3 (dem g) S) (fun U m=>zN (J3 (dem i) m) (fun V S2=>some ([g,i,U,V,Value.bool false,x5,x6,x7,x8,x9,o,p,q,r,s,t,u,w,x,y,z,A,B,C,D,E,F,G,H,I,J,K,L,M,N,P,Q,R],S2)) ()) ()):=by
 kernel_rfl
theorem jB.r1 :jD zi ⟨false,false,false⟩ (zZ zi O) (reg Try.f18 1) (reg Try.f18 1).toList ([g,i,k,l,x4,x5,x6,x7,x8,x9,o,p,q,r,s,t,u,w,x,y,z,A,B,C,D,E,F,G,H,I,J,K,L,M,N,P,Q,R]) S =
  (zN (zF zi 46 k 0 S) (fun U m=>zN (jh zi false 3 U m) (fun V S2=>zN (zF zi 46 l 0 S2) (fun v2 S3=>zN (jh zi false 3 v2 S3) (fun v3 S4=>zN (wI zi BinOp.eql 3 V v3 S4) (fun f S5=>gdK (dem f) true (zF zi 46 k 1) S5 (fun v6 S6=>gdK (dem f) true (jh zi false 3 v6) S6 (fun v7 S7=>gdK (dem f) true (zF zi 46 l 1) S7 (fun v8 S8=>gdK (dem f) true (jh zi false 3 v8) S8 (fun v9 S9=>gdK (dem f) true (wI zi BinOp.eql 3 v7 v9) S9 (fun W b2=>zN (wX (dem f) W (Value.bool false) b2) (fun b b3=>gdK (dem b) true (zF zi 46 k 2) b3 (fun X b4=>gdK (dem b) true (jh zi false 3 X) b4 (fun Y b5=>gdK (dem b) true (zF zi 46 l 2) b5 (fun Z b6=>gdK (dem b) true (jh zi false 3 Z) b6 (fun a0 b7=>gdK (dem b) true (wI zi BinOp.eql 3 Y a0) b7 (fun a1 b8=>zN (wX (dem b) a1 (Value.bool false) b8) (fun c b9=>gdK (dem c) true (zF zi 46 k 3) b9 (fun a2 c0=>gdK (dem c) true (jh zi false 3 a2) c0 (fun a3 c1=>gdK (dem c) true (zF zi 46 l 3) c1 (fun a4 c2=>gdK (dem c) true (jh zi false 3 a4) c2 (fun a5 c3=>gdK (dem c) true (wI zi BinOp.eql 3 a3 a5) c3 (fun a6 c4=>zN (wX (dem c) a6 (Value.bool false) c4) (fun d c5=>gdK (dem d) true (zF zi 46 k 4) c5 (fun a7 c6=>gdK (dem d) true (jh zi false 44 a7) c6 (fun a8 c7=>gdK (dem d) true (zF zi 46 l 4) c7 (fun a9 c8=>gdK (dem d) true (jh zi false 44 a9) c8 (fun b0 c9=>gdK (dem d) true ((zZ zi O) 33 [(dem a8),(dem b0)]) c9 (fun b1 d0=>zN (wX (dem d) b1 (Value.bool false) d0) (fun n d1=>some ([g,i,k,l,n,U,V,v2,v3,f,dem f,v6,v7,v8,v9,W,b,dem b,X,Y,Z,a0,a1,c,dem c,a2,a3,a4,a5,a6,d,dem d,a7,a8,a9,b0,b1,dem n],d1)) ()) ()) ()) ()) ()) ()) ()) ()) ()) ()) ()) ()) ()) ()) ()) ()) ()) ()) ()) ()) ()) ()) ()) ()) ()) ()) ()) ()) ()):=by
 refine sD Try.f18 1 0 (fun U m=>?_)
 refine sD Try.f18 1 1 (fun V S2=>?_)
 refine sD Try.f18 1 2 (fun v2 S3=>?_)
 refine sD Try.f18 1 3 (fun v3 S4=>?_)
 refine sD Try.f18 1 4 (fun f S5=>?_)
 refine sP Try.f18 1 5 (v:=f) ?_
 refine sG Try.f18 1 6 (j:=5) (fun v6 S6=>?_)
 refine sG Try.f18 1 7 (j:=5) (fun v7 S7=>?_)
 refine sG Try.f18 1 8 (j:=5) (fun v8 S8=>?_)
 refine sG Try.f18 1 9 (j:=5) (fun v9 S9=>?_)
 refine sG Try.f18 1 10 (j:=5) (fun W b2=>?_)
 refine sD Try.f18 1 11 (fun b b3=>?_)
 refine sP Try.f18 1 12 (v:=b) ?_
 refine sG Try.f18 1 13 (j:=12) (fun X b4=>?_)
 refine sG Try.f18 1 14 (j:=12) (fun Y b5=>?_)
 refine sG Try.f18 1 15 (j:=12) (fun Z b6=>?_)
 refine sG Try.f18 1 16 (j:=12) (fun a0 b7=>?_)
 refine sG Try.f18 1 17 (j:=12) (fun a1 b8=>?_)
 refine sD Try.f18 1 18 (fun c b9=>?_)
 refine sP Try.f18 1 19 (v:=c) ?_
 refine sG Try.f18 1 20 (j:=19) (fun a2 c0=>?_)
 refine sG Try.f18 1 21 (j:=19) (fun a3 c1=>?_)
 refine sG Try.f18 1 22 (j:=19) (fun a4 c2=>?_)
 refine sG Try.f18 1 23 (j:=19) (fun a5 c3=>?_)
 refine sG Try.f18 1 24 (j:=19) (fun a6 c4=>?_)
 refine sD Try.f18 1 25 (fun d c5=>?_)
 refine sP Try.f18 1 26 (v:=d) ?_
 refine sG Try.f18 1 27 (j:=26) (fun a7 c6=>?_)
 refine sG Try.f18 1 28 (j:=26) (fun a8 c7=>?_)
 refine sG Try.f18 1 29 (j:=26) (fun a9 c8=>?_)
 refine sG Try.f18 1 30 (j:=26) (fun b0 c9=>?_)
 refine sG Try.f18 1 31 (j:=26) (fun b1 d0=>?_)
 refine sD Try.f18 1 32 (fun n d1=>?_)
 refine sP Try.f18 1 33 (v:=n) ?_
 kernel_rfl
theorem jB.rs:type_of% (alG @jB.r0 (@jB.r1)):=alG @jB.r0 (@jB.r1)
theorem jB.runs {g i:Value} {S m:zy} {e:AEx} {T:List Value} (h:zJ zi O false jB.code ([g,i,zh,zh,zh,zh,zh,zh,zh,zh,zh,zh,zh,zh,zh,zh,zh,zh,zh,zh,zh,zh,zh,zh,zh,zh,zh,zh,zh,zh,zh,zh,zh,zh,zh,zh,zh,zh]) zy.empty=some (e,T,m)) (he:e=.normal∨e=.ret) (hca:[g,i].all (jW 16)=true) (hcv:jW 16 (T.getD 4 zh)=true):zZ zi O 18 [g,i] S=some (T.getD 4 zh,S) :=
 yC rfl rfl Try.func18 (by decide) jB.body (by exact h) he (yH (a:=T.getD 4 zh) ((show zQ zi T m Try.f18.results.toList=zQ zi T m [(ResultVar.tmp 4)] from by kernel_rfl).trans (by simp only [zQ])) (by kernel_rfl)) hca hcv
end Go.Proofs.Ytfjogganfjkckaa
namespace Go.Proofs.Ytfjogganfjkckaa
open Go.Abs
abbrev wM.id:FuncId:=46
noncomputable def wM.code:Code:=(.seq (.region 0 (reg Try.f46 0) false) (.seq (.seq (.region 1 (reg Try.f46 1) false) (.cond (.tmp 10) (.seq (.region 2 (reg Try.f46 2) false) Code.ret) Code.skip)) (.seq (.region 3 (reg Try.f46 3) false) (.seq (.region 4 (reg Try.f46 4) false) (.seq (.region 5 (reg Try.f46 5) false) Code.ret)))))
theorem wM.body:Try.f46.body=some wM.code:=by kernel_rfl
variable (a b K L B F C G H I c d f g i j k l m n o p q r s t u v w x y z A:Value) (S:zy)
theorem wM.r0 :jD zi ⟨false,false,false⟩ (zZ zi O) (reg Try.f46 0) (reg Try.f46 0).toList ([a,b,K,L,B,F,C,G,H,I,c,d,f,g,i,j,k,l,m,n,o,p,q,r,s,t,u,v,w,x,y,z,A]) S =
  (zN (J3 (dem a) S) (fun J D=>some ([a,J,Value.slice none 0 0,.int .i64 0,B,F,C,G,H,I,c,d,f,g,i,j,k,l,m,n,o,p,q,r,s,t,u,v,w,x,y,z,A],D)) ()):=by
 kernel_rfl
theorem wM.r1 :jD zi ⟨false,false,false⟩ (zZ zi O) (reg Try.f46 1) (reg Try.f46 1).toList ([a,b,K,L,B,F,C,G,H,I,c,d,f,g,i,j,k,l,m,n,o,p,q,r,s,t,u,v,w,x,y,z,A]) S =
  (zN (jh zi false 46 b S) (fun J D=>zN ((zZ zi O) 45 [(dem J)] D) (fun M N=>zN (aUn zi UnOp.not M N) (fun E P=>some ([a,b,K,L,B,F,C,G,J,M,E,d,f,g,i,j,k,l,m,n,o,p,q,r,s,t,u,v,w,x,y,z,A],P)) ()) ()) ()):=by
 kernel_rfl
theorem wM.r2 :jD zi ⟨false,false,false⟩ (zZ zi O) (reg Try.f46 2) (reg Try.f46 2).toList ([a,b,K,L,B,F,C,G,H,I,c,d,f,g,i,j,k,l,m,n,o,p,q,r,s,t,u,v,w,x,y,z,A]) S =
  ( some ([a,b,Value.slice none 0 0,.int .i64 71,B,F,C,G,H,I,c,d,f,g,i,j,k,l,m,n,o,p,q,r,s,t,u,v,w,x,y,z,A],S)):=by
 kernel_rfl
theorem wM.r3 :jD zi ⟨false,false,false⟩ (zZ zi O) (reg Try.f46 3) (reg Try.f46 3).toList ([a,b,K,L,B,F,C,G,H,I,c,d,f,g,i,j,k,l,m,n,o,p,q,r,s,t,u,v,w,x,y,z,A]) S =
  (zN (zF zi 46 b 0 S) (fun J D=>zN (jh zi false 3 J D) (fun M N=>zN (zF zi 46 b 1 N) (fun E P=>zN (jh zi false 3 E P) (fun Z X=>zN (zF zi 46 b 2 X) (fun Q Y=>zN (jh zi false 3 Q Y) (fun R S6=>zN (zF zi 46 b 3 S6) (fun v6 S7=>zN (jh zi false 3 v6 S7) (fun v7 S8=>zN (jK zi 24 4 [(0,M),(1,Z),(2,R),(3,v7)] S8) (fun v8 S9=>zN ((zZ zi O) 63 [(dem v8)] S9) (fun U a0=>zN (jc U 0 a0) (fun V a1=>zN (jc (zV 0 U) 1 a1) (fun W a2=>some ([a,b,K,L,V,W,C,G,H,I,c,zV 1 (zV 0 U),J,M,E,Z,Q,R,v6,v7,v8,dem U,dem V,dem W,s,t,u,v,w,x,y,z,A],a2)) ()) ()) ()) ()) ()) ()) ()) ()) ()) ()) ()) ()):=by
 kernel_rfl
theorem wM.r4 :jD zi ⟨false,false,false⟩ (zZ zi O) (reg Try.f46 4) (reg Try.f46 4).toList ([a,b,K,L,B,F,C,G,H,I,c,d,f,g,i,j,k,l,m,n,o,p,q,r,s,t,u,v,w,x,y,z,A]) S =
  (zN (zF zi 46 b 4 S) (fun J D=>zN (jh zi false 44 J D) (fun M N=>zN ((zZ zi O) 62 [(dem M)] N) (fun E P=>zN (jc E 0 P) (fun Q X=>zN (jc (zV 0 E) 1 X) (fun R Y=>some ([a,b,K,L,B,F,Q,R,H,I,c,d,f,g,i,j,k,l,m,n,o,p,q,r,zV 1 (zV 0 E),J,M,dem E,dem Q,dem R,y,z,A],Y)) ()) ()) ()) ()) ()):=by
 kernel_rfl
theorem wM.r5 :jD zi ⟨false,false,false⟩ (zZ zi O) (reg Try.f46 5) (reg Try.f46 5).toList ([a,b,K,L,B,F,C,G,H,I,c,d,f,g,i,j,k,l,m,n,o,p,q,r,s,t,u,v,w,x,y,z,A]) S =
  (zN (wR zi 33 33 B (dem C) S) (fun E D=>some ([a,b,E,.int .i64 0,dem B,F,C,G,H,I,c,d,f,g,i,j,k,l,m,n,o,p,q,r,s,t,u,v,w,x,dem B,dem C,dem E],D)) ()):=by
 kernel_rfl
theorem wM.rs:type_of% (alG @wM.r0 (alG @wM.r1 (alG @wM.r2 (alG @wM.r3 (alG @wM.r4 (@wM.r5)))))):=alG @wM.r0 (alG @wM.r1 (alG @wM.r2 (alG @wM.r3 (alG @wM.r4 (@wM.r5)))))
theorem wM.runs {a:Value} {S D:zy} {e:AEx} {T:List Value} (h:zJ zi O false wM.code ([a,zh,zh,zh,zh,zh,zh,zh,zh,zh,zh,zh,zh,zh,zh,zh,zh,zh,zh,zh,zh,zh,zh,zh,zh,zh,zh,zh,zh,zh,zh,zh,zh]) zy.empty=some (e,T,D)) (he:e=.normal∨e=.ret)  (h0:wG (T.getD 2 zh)=true) (h1:wG (T.getD 3 zh)=true) (hca:[a].all (jW 16)=true) (hcv:jW 16 (Value.tuple #[T.getD 2 zh,T.getD 3 zh])=true):zZ zi O 46 [a] S=some (Value.tuple #[T.getD 2 zh,T.getD 3 zh],S) :=
 yC rfl rfl Try.func46 (by decide) wM.body (by exact h) he ((ql ((show zQ zi T D Try.f46.results.toList=zQ zi T D [(ResultVar.tmp 2),(ResultVar.tmp 3)] from by kernel_rfl).trans (by simp only [zQ])) (by kernel_rfl) (by simp only [List.all_cons,List.all_nil,h0,h1,Bool.and_true])).trans rfl) hca hcv
end Go.Proofs.Ytfjogganfjkckaa
namespace Go.Proofs.Ytfjogganfjkckaa
open Go.Abs
abbrev jw.id:FuncId:=37
noncomputable def jw.code:Code:=(.seq (.region 0 (reg Try.f37 0) false) (.seq (.seq (.region 1 (reg Try.f37 1) false) (.cond (.tmp 10) (.seq (.region 2 (reg Try.f37 2) false) Code.ret) Code.skip)) (.seq (.region 3 (reg Try.f37 3) false) (.seq (.region 4 (reg Try.f37 4) false) (.seq (.region 5 (reg Try.f37 5) false) Code.ret)))))
theorem jw.body:Try.f37.body=some jw.code:=by kernel_rfl
variable (a b K L B F C G H I c d f g i j k l m n o p q r s t u v w x y z A:Value) (S:zy)
theorem jw.r0 :jD zi ⟨false,false,false⟩ (zZ zi O) (reg Try.f37 0) (reg Try.f37 0).toList ([a,b,K,L,B,F,C,G,H,I,c,d,f,g,i,j,k,l,m,n,o,p,q,r,s,t,u,v,w,x,y,z,A]) S =
  (zN (J3 (dem a) S) (fun J D=>some ([a,J,Value.slice none 0 0,.int .i64 0,B,F,C,G,H,I,c,d,f,g,i,j,k,l,m,n,o,p,q,r,s,t,u,v,w,x,y,z,A],D)) ()):=by
 kernel_rfl
theorem jw.r1 :jD zi ⟨false,false,false⟩ (zZ zi O) (reg Try.f37 1) (reg Try.f37 1).toList ([a,b,K,L,B,F,C,G,H,I,c,d,f,g,i,j,k,l,m,n,o,p,q,r,s,t,u,v,w,x,y,z,A]) S =
  (zN (jh zi false 46 b S) (fun J D=>zN ((zZ zi O) 32 [(dem J)] D) (fun M N=>zN (aUn zi UnOp.not M N) (fun E P=>some ([a,b,K,L,B,F,C,G,J,M,E,d,f,g,i,j,k,l,m,n,o,p,q,r,s,t,u,v,w,x,y,z,A],P)) ()) ()) ()):=by
 kernel_rfl
theorem jw.r2 :jD zi ⟨false,false,false⟩ (zZ zi O) (reg Try.f37 2) (reg Try.f37 2).toList ([a,b,K,L,B,F,C,G,H,I,c,d,f,g,i,j,k,l,m,n,o,p,q,r,s,t,u,v,w,x,y,z,A]) S =
  ( some ([a,b,Value.slice none 0 0,.int .i64 71,B,F,C,G,H,I,c,d,f,g,i,j,k,l,m,n,o,p,q,r,s,t,u,v,w,x,y,z,A],S)):=by
 kernel_rfl
theorem jw.r3 :jD zi ⟨false,false,false⟩ (zZ zi O) (reg Try.f37 3) (reg Try.f37 3).toList ([a,b,K,L,B,F,C,G,H,I,c,d,f,g,i,j,k,l,m,n,o,p,q,r,s,t,u,v,w,x,y,z,A]) S =
  (zN (zF zi 46 b 0 S) (fun J D=>zN (jh zi false 3 J D) (fun M N=>zN (zF zi 46 b 1 N) (fun E P=>zN (jh zi false 3 E P) (fun Z X=>zN (zF zi 46 b 2 X) (fun Q Y=>zN (jh zi false 3 Q Y) (fun R S6=>zN (zF zi 46 b 3 S6) (fun v6 S7=>zN (jh zi false 3 v6 S7) (fun v7 S8=>zN (jK zi 24 4 [(0,M),(1,Z),(2,R),(3,v7)] S8) (fun v8 S9=>zN ((zZ zi O) 35 [(dem v8)] S9) (fun U a0=>zN (jc U 0 a0) (fun V a1=>zN (jc (zV 0 U) 1 a1) (fun W a2=>some ([a,b,K,L,V,W,C,G,H,I,c,zV 1 (zV 0 U),J,M,E,Z,Q,R,v6,v7,v8,dem U,dem V,dem W,s,t,u,v,w,x,y,z,A],a2)) ()) ()) ()) ()) ()) ()) ()) ()) ()) ()) ()) ()):=by
 kernel_rfl
theorem jw.r4 :jD zi ⟨false,false,false⟩ (zZ zi O) (reg Try.f37 4) (reg Try.f37 4).toList ([a,b,K,L,B,F,C,G,H,I,c,d,f,g,i,j,k,l,m,n,o,p,q,r,s,t,u,v,w,x,y,z,A]) S =
  (zN (zF zi 46 b 4 S) (fun J D=>zN (jh zi false 44 J D) (fun M N=>zN ((zZ zi O) 50 [(dem M)] N) (fun E P=>zN (jc E 0 P) (fun Q X=>zN (jc (zV 0 E) 1 X) (fun R Y=>some ([a,b,K,L,B,F,Q,R,H,I,c,d,f,g,i,j,k,l,m,n,o,p,q,r,zV 1 (zV 0 E),J,M,dem E,dem Q,dem R,y,z,A],Y)) ()) ()) ()) ()) ()):=by
 kernel_rfl
theorem jw.r5 :jD zi ⟨false,false,false⟩ (zZ zi O) (reg Try.f37 5) (reg Try.f37 5).toList ([a,b,K,L,B,F,C,G,H,I,c,d,f,g,i,j,k,l,m,n,o,p,q,r,s,t,u,v,w,x,y,z,A]) S =
  (zN (wR zi 33 33 B (dem C) S) (fun E D=>some ([a,b,E,.int .i64 0,dem B,F,C,G,H,I,c,d,f,g,i,j,k,l,m,n,o,p,q,r,s,t,u,v,w,x,dem B,dem C,dem E],D)) ()):=by
 kernel_rfl
theorem jw.rs:type_of% (alG @jw.r0 (alG @jw.r1 (alG @jw.r2 (alG @jw.r3 (alG @jw.r4 (@jw.r5)))))):=alG @jw.r0 (alG @jw.r1 (alG @jw.r2 (alG @jw.r3 (alG @jw.r4 (@jw.r5)))))
theorem jw.runs {a:Value} {S D:zy} {e:AEx} {T:List Value} (h:zJ zi O false jw.code ([a,zh,zh,zh,zh,zh,zh,zh,zh,zh,zh,zh,zh,zh,zh,zh,zh,zh,zh,zh,zh,zh,zh,zh,zh,zh,zh,zh,zh,zh,zh,zh,zh]) zy.empty=some (e,T,D)) (he:e=.normal∨e=.ret)  (h0:wG (T.getD 2 zh)=true) (h1:wG (T.getD 3 zh)=true) (hca:[a].all (jW 16)=true) (hcv:jW 16 (Value.tuple #[T.getD 2 zh,T.getD 3 zh])=true):zZ zi O 37 [a] S=some (Value.tuple #[T.getD 2 zh,T.getD 3 zh],S) :=
 yC rfl rfl Try.func37 (by decide) jw.body (by exact h) he ((ql ((show zQ zi T D Try.f37.results.toList=zQ zi T D [(ResultVar.tmp 2),(ResultVar.tmp 3)] from by kernel_rfl).trans (by simp only [zQ])) (by kernel_rfl) (by simp only [List.all_cons,List.all_nil,h0,h1,Bool.and_true])).trans rfl) hca hcv
end Go.Proofs.Ytfjogganfjkckaa
namespace Go.Proofs.Ytfjogganfjkckaa
open Go.Abs
abbrev jF.id:FuncId:=45
noncomputable def jF.code:Code:=(.seq (.region 0 (reg Try.f45 0) false) (.seq (.seq (.region 1 (reg Try.f45 1) false) (.cond (.tmp 20) (.seq (.region 2 (reg Try.f45 2) false) Code.ret) Code.skip)) (.seq (.seq (.region 3 (reg Try.f45 3) false) (.cond (.tmp 37) (.seq (.region 4 (reg Try.f45 4) false) Code.ret) Code.skip)) (.seq (.region 5 (reg Try.f45 5) false) (.seq (.region 6 (reg Try.f45 6) false) Code.ret)))))
theorem jF.body:Try.f45.body=some jF.code:=by kernel_rfl
variable (U b x2 X V Y Z x7 x8 x9 c d f g i k l m n o p q r s t u w x y z A B C D E F G H I J K L M N P Q:Value) (S:zy)
theorem jF.r0 :jD zi ⟨false,false,false⟩ (zZ zi O) (reg Try.f45 0) (reg Try.f45 0).toList ([U,b,x2,X,V,Y,Z,x7,x8,x9,c,d,f,g,i,k,l,m,n,o,p,q,r,s,t,u,w,x,y,z,A,B,C,D,E,F,G,H,I,J,K,L,M,N,P,Q]) S =
  (zN (J3 (dem U) S) (fun v0 W=>some ([U,v0,Value.bool false,X,V,Y,Z,x7,x8,x9,c,d,f,g,i,k,l,m,n,o,p,q,r,s,t,u,w,x,y,z,A,B,C,D,E,F,G,H,I,J,K,L,M,N,P,Q],W)) ()):=by
 kernel_rfl
theorem jF.r1 :jD zi ⟨false,false,false⟩ (zZ zi O) (reg Try.f45 1) (reg Try.f45 1).toList ([U,b,x2,X,V,Y,Z,x7,x8,x9,c,d,f,g,i,k,l,m,n,o,p,q,r,s,t,u,w,x,y,z,A,B,C,D,E,F,G,H,I,J,K,L,M,N,P,Q]) S =
  (zN (zF zi 46 b 0 S) (fun v0 W=>zN (jh zi false 3 v0 W) (fun v1 S2=>zN ((zZ zi O) 60 [(dem v1),(.int .i64 1),(.int .i64 4095)] S2) (fun R S3=>zN (aUn zi UnOp.not R S3) (fun v3 S4=>gdK (dem v3) false (zF zi 46 b 1) S4 (fun v5 S5=>gdK (dem v3) false (jh zi false 3 v5) S5 (fun v6 S6=>gdK (dem v3) false ((zZ zi O) 60 [(dem v6),(.int .i64 0),(.int .i64 6)]) S6 (fun v7 S7=>gdK (dem v3) false (aUn zi UnOp.not v7) S7 (fun v8 S8=>zN (wX (dem v3) (Value.bool true) v8 S8) (fun v9 S9=>gdK (dem v9) false (zF zi 46 b 2) S9 (fun a0 a5=>gdK (dem v9) false (jh zi false 3 a0) a5 (fun a1 a6=>gdK (dem v9) false ((zZ zi O) 60 [(dem a1),(.int .i64 0),(.int .i64 255)]) a6 (fun a2 a7=>gdK (dem v9) false (aUn zi UnOp.not a2) a7 (fun a3 a8=>zN (wX (dem v9) (Value.bool true) a3 a8) (fun a4 a9=>some ([U,b,x2,X,V,v0,v1,R,v3,dem v3,v5,v6,v7,v8,v9,dem v9,a0,a1,a2,a3,a4,q,r,s,t,u,w,x,y,z,A,B,C,D,E,F,G,H,I,J,K,L,M,N,P,Q],a9)) ()) ()) ()) ()) ()) ()) ()) ()) ()) ()) ()) ()) ()) ()):=by
 refine sD Try.f45 1 0 (fun v0 W=>?_)
 refine sD Try.f45 1 1 (fun v1 S2=>?_)
 refine sD Try.f45 1 2 (fun R S3=>?_)
 refine sD Try.f45 1 3 (fun v3 S4=>?_)
 refine sP Try.f45 1 4 (v:=v3) ?_
 refine sG Try.f45 1 5 (j:=4) (fun v5 S5=>?_)
 refine sG Try.f45 1 6 (j:=4) (fun v6 S6=>?_)
 refine sG Try.f45 1 7 (j:=4) (fun v7 S7=>?_)
 refine sG Try.f45 1 8 (j:=4) (fun v8 S8=>?_)
 refine sD Try.f45 1 9 (fun v9 S9=>?_)
 refine sP Try.f45 1 10 (v:=v9) ?_
 refine sG Try.f45 1 11 (j:=10) (fun a0 a5=>?_)
 refine sG Try.f45 1 12 (j:=10) (fun a1 a6=>?_)
 refine sG Try.f45 1 13 (j:=10) (fun a2 a7=>?_)
 refine sG Try.f45 1 14 (j:=10) (fun a3 a8=>?_)
 refine sD Try.f45 1 15 (fun a4 a9=>?_)
 kernel_rfl
theorem jF.r2 :jD zi ⟨false,false,false⟩ (zZ zi O) (reg Try.f45 2) (reg Try.f45 2).toList ([U,b,x2,X,V,Y,Z,x7,x8,x9,c,d,f,g,i,k,l,m,n,o,p,q,r,s,t,u,w,x,y,z,A,B,C,D,E,F,G,H,I,J,K,L,M,N,P,Q]) S =
  ( some ([U,b,Value.bool false,X,V,Y,Z,x7,x8,x9,c,d,f,g,i,k,l,m,n,o,p,q,r,s,t,u,w,x,y,z,A,B,C,D,E,F,G,H,I,J,K,L,M,N,P,Q],S)):=by
 kernel_rfl
theorem jF.r3 :jD zi ⟨false,false,false⟩ (zZ zi O) (reg Try.f45 3) (reg Try.f45 3).toList ([U,b,x2,X,V,Y,Z,x7,x8,x9,c,d,f,g,i,k,l,m,n,o,p,q,r,s,t,u,w,x,y,z,A,B,C,D,E,F,G,H,I,J,K,L,M,N,P,Q]) S =
  (zN (zF zi 46 b 3 S) (fun v0 W=>zN (jh zi false 3 v0 W) (fun v1 S2=>zN (wI zi BinOp.neq 3 v1 (.int .i64 0) S2) (fun R S3=>gdK (dem R) true (zF zi 46 b 3) S3 (fun v4 S4=>gdK (dem R) true (jh zi false 3 v4) S4 (fun v5 S5=>gdK (dem R) true ((zZ zi O) 61 [(dem v5)]) S5 (fun v6 S6=>gdK (dem R) true (aUn zi UnOp.not v6) S6 (fun v7 S7=>gdK (dem R) true (ret v7) S7 (fun v8 S8=>gdK (dem v8) false (zF zi 46 b 3) S8 (fun v9 S9=>gdK (dem v8) false (jh zi false 3 v9) S9 (fun b0 a5=>gdK (dem v8) false (wI zi BinOp.quo 3 b0 (.int .i64 65536)) a5 (fun a0 a6=>gdK (dem v8) false (zF zi 46 b 0) a6 (fun a1 a7=>gdK (dem v8) false (jh zi false 3 a1) a7 (fun a2 a8=>gdK (dem v8) false (wI zi BinOp.geq 3 a0 a2) a8 (fun a3 a9=>gdK (dem R) true (wX (dem v8) (Value.bool true) a3) a9 (fun a4 b1=>zN (wX (dem R) a4 (Value.bool false) b1) (fun b2 b3=>some ([U,b,x2,X,V,Y,Z,x7,x8,x9,c,d,f,g,i,k,l,m,n,o,p,v0,v1,R,dem R,v4,v5,v6,v7,dem v8,v9,b0,a0,a1,a2,a3,a4,b2,I,J,K,L,M,N,P,Q],b3)) ()) ()) ()) ()) ()) ()) ()) ()) ()) ()) ()) ()) ()) ()) ()) ()):=by
 refine sD Try.f45 3 0 (fun v0 W=>?_)
 refine sD Try.f45 3 1 (fun v1 S2=>?_)
 refine sD Try.f45 3 2 (fun R S3=>?_)
 refine sP Try.f45 3 3 (v:=R) ?_
 refine sG Try.f45 3 4 (j:=3) (fun v4 S4=>?_)
 refine sG Try.f45 3 5 (j:=3) (fun v5 S5=>?_)
 refine sG Try.f45 3 6 (j:=3) (fun v6 S6=>?_)
 refine sG Try.f45 3 7 (j:=3) (fun v7 S7=>?_)
 refine sG Try.f45 3 8 (j:=3) (fun v8 S8=>?_)
 refine sG Try.f45 3 9 (j:=8) (fun v9 S9=>?_)
 refine sG Try.f45 3 10 (j:=8) (fun b0 a5=>?_)
 refine sG Try.f45 3 11 (j:=8) (fun a0 a6=>?_)
 refine sG Try.f45 3 12 (j:=8) (fun a1 a7=>?_)
 refine sG Try.f45 3 13 (j:=8) (fun a2 a8=>?_)
 refine sG Try.f45 3 14 (j:=8) (fun a3 a9=>?_)
 refine sG Try.f45 3 15 (j:=3) (fun a4 b1=>?_)
 refine sD Try.f45 3 16 (fun b2 b3=>?_)
 kernel_rfl
theorem jF.r4 :jD zi ⟨false,false,false⟩ (zZ zi O) (reg Try.f45 4) (reg Try.f45 4).toList ([U,b,x2,X,V,Y,Z,x7,x8,x9,c,d,f,g,i,k,l,m,n,o,p,q,r,s,t,u,w,x,y,z,A,B,C,D,E,F,G,H,I,J,K,L,M,N,P,Q]) S =
  ( some ([U,b,Value.bool false,X,V,Y,Z,x7,x8,x9,c,d,f,g,i,k,l,m,n,o,p,q,r,s,t,u,w,x,y,z,A,B,C,D,E,F,G,H,I,J,K,L,M,N,P,Q],S)):=by
 kernel_rfl
theorem jF.r5 :jD zi ⟨false,false,false⟩ (zZ zi O) (reg Try.f45 5) (reg Try.f45 5).toList ([U,b,x2,X,V,Y,Z,x7,x8,x9,c,d,f,g,i,k,l,m,n,o,p,q,r,s,t,u,w,x,y,z,A,B,C,D,E,F,G,H,I,J,K,L,M,N,P,Q]) S =
  (zN (zF zi 46 b 4 S) (fun v0 W=>zN (jh zi false 44 v0 W) (fun v1 S2=>zN ((zZ zi O) 62 [(dem v1)] S2) (fun R S3=>zN (jc R 0 S3) (fun v4 S4=>zN (jc (zV 0 R) 1 S4) (fun v5 S5=>some ([U,b,x2,v4,v5,Y,Z,x7,x8,x9,c,d,f,g,i,k,l,m,n,o,p,q,r,s,t,u,w,x,y,z,A,B,C,D,E,F,G,H,zV 1 (zV 0 R),v0,v1,dem R,dem v4,dem v5,P,Q],S5)) ()) ()) ()) ()) ()):=by
 kernel_rfl
theorem jF.r6 :jD zi ⟨false,false,false⟩ (zZ zi O) (reg Try.f45 6) (reg Try.f45 6).toList ([U,b,x2,X,V,Y,Z,x7,x8,x9,c,d,f,g,i,k,l,m,n,o,p,q,r,s,t,u,w,x,y,z,A,B,C,D,E,F,G,H,I,J,K,L,M,N,P,Q]) S =
  (zN (wI zi BinOp.eql 64 (dem V) (.int .i64 0) S) (fun v1 W=>some ([U,b,v1,X,V,Y,Z,x7,x8,x9,c,d,f,g,i,k,l,m,n,o,p,q,r,s,t,u,w,x,y,z,A,B,C,D,E,F,G,H,I,J,K,L,M,N,dem V,dem v1],W)) ()):=by
 kernel_rfl
theorem jF.rs:type_of% (alG @jF.r0 (alG @jF.r1 (alG @jF.r2 (alG @jF.r3 (alG @jF.r4 (alG @jF.r5 (@jF.r6))))))):=alG @jF.r0 (alG @jF.r1 (alG @jF.r2 (alG @jF.r3 (alG @jF.r4 (alG @jF.r5 (@jF.r6))))))
theorem jF.runs {U:Value} {S W:zy} {e:AEx} {T:List Value} (h:zJ zi O false jF.code ([U,zh,zh,zh,zh,zh,zh,zh,zh,zh,zh,zh,zh,zh,zh,zh,zh,zh,zh,zh,zh,zh,zh,zh,zh,zh,zh,zh,zh,zh,zh,zh,zh,zh,zh,zh,zh,zh,zh,zh,zh,zh,zh,zh,zh,zh]) zy.empty=some (e,T,W)) (he:e=.normal∨e=.ret) (hca:[U].all (jW 16)=true) (hcv:jW 16 (T.getD 2 zh)=true):zZ zi O 45 [U] S=some (T.getD 2 zh,S) :=
 yC rfl rfl Try.func45 (by decide) jF.body (by exact h) he (yH (a:=T.getD 2 zh) ((show zQ zi T W Try.f45.results.toList=zQ zi T W [(ResultVar.tmp 2)] from by kernel_rfl).trans (by simp only [zQ])) (by kernel_rfl)) hca hcv
end Go.Proofs.Ytfjogganfjkckaa
namespace Go.Proofs.Ytfjogganfjkckaa
open Go.Abs
abbrev zI.id:FuncId:=32
noncomputable def zI.code:Code:=(.seq (.region 0 (reg Try.f32 0) false) (.seq (.seq (.region 1 (reg Try.f32 1) false) (.cond (.tmp 36) (.seq (.region 2 (reg Try.f32 2) false) Code.ret) Code.skip)) (.seq (.region 3 (reg Try.f32 3) false) (.seq (.seq (.region 4 (reg Try.f32 4) false) (.cond (.tmp 44) (.seq (.region 5 (reg Try.f32 5) false) Code.ret) Code.skip)) (.seq (.seq (.region 6 (reg Try.f32 6) false) (.cond (.tmp 47) (.seq (.region 7 (reg Try.f32 7) false) Code.ret) Code.skip)) (.seq (.region 8 (reg Try.f32 8) false) (.seq (.region 9 (reg Try.f32 9) false) Code.ret)))))))
theorem zI.body:Try.f32.body=some zI.code:=by kernel_rfl
variable (x0 b x2 x3 x4 x5 x6 x7 x8 x9 c d f g i k l m n o p q r s t u w x y z A B C D E F G H I J K L M N P Q R U V W X Y Z a0 a1 a2 a3 a4 a5 a6 a7 a8 a9:Value) (S:zy)
theorem zI.r0 :jD zi ⟨false,false,false⟩ (zZ zi O) (reg Try.f32 0) (reg Try.f32 0).toList ([x0,b,x2,x3,x4,x5,x6,x7,x8,x9,c,d,f,g,i,k,l,m,n,o,p,q,r,s,t,u,w,x,y,z,A,B,C,D,E,F,G,H,I,J,K,L,M,N,P,Q,R,U,V,W,X,Y,Z,a0,a1,a2,a3,a4,a5,a6,a7,a8,a9]) S =
  (zN (J3 (dem x0) S) (fun v0 S1=>some ([x0,v0,Value.bool false,x3,x4,x5,x6,x7,x8,x9,c,d,f,g,i,k,l,m,n,o,p,q,r,s,t,u,w,x,y,z,A,B,C,D,E,F,G,H,I,J,K,L,M,N,P,Q,R,U,V,W,X,Y,Z,a0,a1,a2,a3,a4,a5,a6,a7,a8,a9],S1)) ()):=by
 kernel_rfl
theorem zI.r1 :jD zi ⟨false,false,false⟩ (zZ zi O) (reg Try.f32 1) (reg Try.f32 1).toList ([x0,b,x2,x3,x4,x5,x6,x7,x8,x9,c,d,f,g,i,k,l,m,n,o,p,q,r,s,t,u,w,x,y,z,A,B,C,D,E,F,G,H,I,J,K,L,M,N,P,Q,R,U,V,W,X,Y,Z,a0,a1,a2,a3,a4,a5,a6,a7,a8,a9]) S =
  (zN (zF zi 46 b 0 S) (fun v0 S1=>zN (jh zi false 3 v0 S1) (fun v1 S2=>zN (wI zi BinOp.lss 3 v1 (.int .i64 1) S2) (fun v2 S3=>gdK (dem v2) false (zF zi 46 b 0) S3 (fun v4 S4=>gdK (dem v2) false (jh zi false 3 v4) S4 (fun v5 S5=>gdK (dem v2) false (wI zi BinOp.gtr 3 v5 (.int .i64 4095)) S5 (fun v6 S6=>zN (wX (dem v2) (Value.bool true) v6 S6) (fun v7 S7=>gdK (dem v7) false (zF zi 46 b 1) S7 (fun v9 S8=>gdK (dem v7) false (jh zi false 3 v9) S8 (fun b3 S9=>gdK (dem v7) false (wI zi BinOp.lss 3 b3 (.int .i64 0)) S9 (fun b4 c4=>zN (wX (dem v7) (Value.bool true) b4 c4) (fun b0 c5=>gdK (dem b0) false (zF zi 46 b 1) c5 (fun b5 c6=>gdK (dem b0) false (jh zi false 3 b5) c6 (fun b6 c7=>gdK (dem b0) false (wI zi BinOp.gtr 3 b6 (.int .i64 6)) c7 (fun b7 c8=>zN (wX (dem b0) (Value.bool true) b7 c8) (fun b1 c9=>gdK (dem b1) false (zF zi 46 b 2) c9 (fun b8 d0=>gdK (dem b1) false (jh zi false 3 b8) d0 (fun b9 d1=>gdK (dem b1) false (wI zi BinOp.lss 3 b9 (.int .i64 0)) d1 (fun c0 d2=>zN (wX (dem b1) (Value.bool true) c0 d2) (fun b2 d3=>gdK (dem b2) false (zF zi 46 b 2) d3 (fun c1 d4=>gdK (dem b2) false (jh zi false 3 c1) d4 (fun c2 d5=>gdK (dem b2) false (wI zi BinOp.gtr 3 c2 (.int .i64 255)) d5 (fun c3 d6=>zN (wX (dem b2) (Value.bool true) c3 d6) (fun d7 d8=>some ([x0,b,x2,x3,x4,x5,x6,x7,x8,v0,v1,v2,dem v2,v4,v5,v6,v7,dem v7,v9,b3,b4,b0,dem b0,b5,b6,b7,b1,dem b1,b8,b9,c0,b2,dem b2,c1,c2,c3,d7,H,I,J,K,L,M,N,P,Q,R,U,V,W,X,Y,Z,a0,a1,a2,a3,a4,a5,a6,a7,a8,a9],d8)) ()) ()) ()) ()) ()) ()) ()) ()) ()) ()) ()) ()) ()) ()) ()) ()) ()) ()) ()) ()) ()) ()) ()):=by
 refine sD Try.f32 1 0 (fun v0 S1=>?_)
 refine sD Try.f32 1 1 (fun v1 S2=>?_)
 refine sD Try.f32 1 2 (fun v2 S3=>?_)
 refine sP Try.f32 1 3 (v:=v2) ?_
 refine sG Try.f32 1 4 (j:=3) (fun v4 S4=>?_)
 refine sG Try.f32 1 5 (j:=3) (fun v5 S5=>?_)
 refine sG Try.f32 1 6 (j:=3) (fun v6 S6=>?_)
 refine sD Try.f32 1 7 (fun v7 S7=>?_)
 refine sP Try.f32 1 8 (v:=v7) ?_
 refine sG Try.f32 1 9 (j:=8) (fun v9 S8=>?_)
 refine sG Try.f32 1 10 (j:=8) (fun b3 S9=>?_)
 refine sG Try.f32 1 11 (j:=8) (fun b4 c4=>?_)
 refine sD Try.f32 1 12 (fun b0 c5=>?_)
 refine sP Try.f32 1 13 (v:=b0) ?_
 refine sG Try.f32 1 14 (j:=13) (fun b5 c6=>?_)
 refine sG Try.f32 1 15 (j:=13) (fun b6 c7=>?_)
 refine sG Try.f32 1 16 (j:=13) (fun b7 c8=>?_)
 refine sD Try.f32 1 17 (fun b1 c9=>?_)
 refine sP Try.f32 1 18 (v:=b1) ?_
 refine sG Try.f32 1 19 (j:=18) (fun b8 d0=>?_)
 refine sG Try.f32 1 20 (j:=18) (fun b9 d1=>?_)
 refine sG Try.f32 1 21 (j:=18) (fun c0 d2=>?_)
 refine sD Try.f32 1 22 (fun b2 d3=>?_)
 refine sP Try.f32 1 23 (v:=b2) ?_
 refine sG Try.f32 1 24 (j:=23) (fun c1 d4=>?_)
 refine sG Try.f32 1 25 (j:=23) (fun c2 d5=>?_)
 refine sG Try.f32 1 26 (j:=23) (fun c3 d6=>?_)
 refine sD Try.f32 1 27 (fun d7 d8=>?_)
 kernel_rfl
theorem zI.r2 :jD zi ⟨false,false,false⟩ (zZ zi O) (reg Try.f32 2) (reg Try.f32 2).toList ([x0,b,x2,x3,x4,x5,x6,x7,x8,x9,c,d,f,g,i,k,l,m,n,o,p,q,r,s,t,u,w,x,y,z,A,B,C,D,E,F,G,H,I,J,K,L,M,N,P,Q,R,U,V,W,X,Y,Z,a0,a1,a2,a3,a4,a5,a6,a7,a8,a9]) S =
  ( some ([x0,b,Value.bool false,x3,x4,x5,x6,x7,x8,x9,c,d,f,g,i,k,l,m,n,o,p,q,r,s,t,u,w,x,y,z,A,B,C,D,E,F,G,H,I,J,K,L,M,N,P,Q,R,U,V,W,X,Y,Z,a0,a1,a2,a3,a4,a5,a6,a7,a8,a9],S)):=by
 kernel_rfl
theorem zI.r3 :jD zi ⟨false,false,false⟩ (zZ zi O) (reg Try.f32 3) (reg Try.f32 3).toList ([x0,b,x2,x3,x4,x5,x6,x7,x8,x9,c,d,f,g,i,k,l,m,n,o,p,q,r,s,t,u,w,x,y,z,A,B,C,D,E,F,G,H,I,J,K,L,M,N,P,Q,R,U,V,W,X,Y,Z,a0,a1,a2,a3,a4,a5,a6,a7,a8,a9]) S =
  (zN (zF zi 46 b 4 S) (fun v0 S1=>zN (jh zi false 44 v0 S1) (fun v1 S2=>zN ((zZ zi O) 50 [(dem v1)] S2) (fun v2 S3=>zN (jc v2 0 S3) (fun v4 S4=>zN (jc (zV 0 v2) 1 S4) (fun v5 S5=>some ([x0,b,x2,v4,v5,x5,x6,x7,x8,x9,c,d,f,g,i,k,l,m,n,o,p,q,r,s,t,u,w,x,y,z,A,B,C,D,E,F,G,zV 1 (zV 0 v2),v0,v1,dem v2,dem v4,dem v5,N,P,Q,R,U,V,W,X,Y,Z,a0,a1,a2,a3,a4,a5,a6,a7,a8,a9],S5)) ()) ()) ()) ()) ()):=by
 kernel_rfl
theorem zI.r4 :jD zi ⟨false,false,false⟩ (zZ zi O) (reg Try.f32 4) (reg Try.f32 4).toList ([x0,b,x2,x3,x4,x5,x6,x7,x8,x9,c,d,f,g,i,k,l,m,n,o,p,q,r,s,t,u,w,x,y,z,A,B,C,D,E,F,G,H,I,J,K,L,M,N,P,Q,R,U,V,W,X,Y,Z,a0,a1,a2,a3,a4,a5,a6,a7,a8,a9]) S =
  (zN (wI zi BinOp.neq 3 (dem x4) (.int .i64 0) S) (fun v1 S1=>some ([x0,b,x2,x3,x4,x5,x6,x7,x8,x9,c,d,f,g,i,k,l,m,n,o,p,q,r,s,t,u,w,x,y,z,A,B,C,D,E,F,G,H,I,J,K,L,M,dem x4,v1,Q,R,U,V,W,X,Y,Z,a0,a1,a2,a3,a4,a5,a6,a7,a8,a9],S1)) ()):=by
 kernel_rfl
theorem zI.r5 :jD zi ⟨false,false,false⟩ (zZ zi O) (reg Try.f32 5) (reg Try.f32 5).toList ([x0,b,x2,x3,x4,x5,x6,x7,x8,x9,c,d,f,g,i,k,l,m,n,o,p,q,r,s,t,u,w,x,y,z,A,B,C,D,E,F,G,H,I,J,K,L,M,N,P,Q,R,U,V,W,X,Y,Z,a0,a1,a2,a3,a4,a5,a6,a7,a8,a9]) S =
  ( some ([x0,b,Value.bool false,x3,x4,x5,x6,x7,x8,x9,c,d,f,g,i,k,l,m,n,o,p,q,r,s,t,u,w,x,y,z,A,B,C,D,E,F,G,H,I,J,K,L,M,N,P,Q,R,U,V,W,X,Y,Z,a0,a1,a2,a3,a4,a5,a6,a7,a8,a9],S)):=by
 kernel_rfl
theorem zI.r6 :jD zi ⟨false,false,false⟩ (zZ zi O) (reg Try.f32 6) (reg Try.f32 6).toList ([x0,b,x2,x3,x4,x5,x6,x7,x8,x9,c,d,f,g,i,k,l,m,n,o,p,q,r,s,t,u,w,x,y,z,A,B,C,D,E,F,G,H,I,J,K,L,M,N,P,Q,R,U,V,W,X,Y,Z,a0,a1,a2,a3,a4,a5,a6,a7,a8,a9]) S =
  (zN (zF zi 46 b 3 S) (fun v0 S1=>zN (jh zi false 3 v0 S1) (fun v1 S2=>zN (wI zi BinOp.eql 3 v1 (.int .i64 0) S2) (fun v2 S3=>some ([x0,b,x2,x3,x4,x5,x6,x7,x8,x9,c,d,f,g,i,k,l,m,n,o,p,q,r,s,t,u,w,x,y,z,A,B,C,D,E,F,G,H,I,J,K,L,M,N,P,v0,v1,v2,V,W,X,Y,Z,a0,a1,a2,a3,a4,a5,a6,a7,a8,a9],S3)) ()) ()) ()):=by
 kernel_rfl
theorem zI.r7 :jD zi ⟨false,false,false⟩ (zZ zi O) (reg Try.f32 7) (reg Try.f32 7).toList ([x0,b,x2,x3,x4,x5,x6,x7,x8,x9,c,d,f,g,i,k,l,m,n,o,p,q,r,s,t,u,w,x,y,z,A,B,C,D,E,F,G,H,I,J,K,L,M,N,P,Q,R,U,V,W,X,Y,Z,a0,a1,a2,a3,a4,a5,a6,a7,a8,a9]) S =
  ( some ([x0,b,Value.bool true,x3,x4,x5,x6,x7,x8,x9,c,d,f,g,i,k,l,m,n,o,p,q,r,s,t,u,w,x,y,z,A,B,C,D,E,F,G,H,I,J,K,L,M,N,P,Q,R,U,V,W,X,Y,Z,a0,a1,a2,a3,a4,a5,a6,a7,a8,a9],S)):=by
 kernel_rfl
theorem zI.r8 :jD zi ⟨false,false,false⟩ (zZ zi O) (reg Try.f32 8) (reg Try.f32 8).toList ([x0,b,x2,x3,x4,x5,x6,x7,x8,x9,c,d,f,g,i,k,l,m,n,o,p,q,r,s,t,u,w,x,y,z,A,B,C,D,E,F,G,H,I,J,K,L,M,N,P,Q,R,U,V,W,X,Y,Z,a0,a1,a2,a3,a4,a5,a6,a7,a8,a9]) S =
  (zN (zF zi 46 b 3 S) (fun v0 S1=>zN (jh zi false 3 v0 S1) (fun v1 S2=>zN ((zZ zi O) 51 [(dem v1)] S2) (fun v2 S3=>zN (jc v2 0 S3) (fun v4 S4=>zN (jc (zV 0 v2) 1 S4) (fun v5 S5=>zN (jc (zV 1 (zV 0 v2)) 2 S5) (fun v6 S6=>zN (jc (zV 2 (zV 1 (zV 0 v2))) 3 S6) (fun v7 S7=>some ([x0,b,x2,x3,x4,v4,v5,v6,v7,x9,c,d,f,g,i,k,l,m,n,o,p,q,r,s,t,u,w,x,y,z,A,B,C,D,E,F,G,H,I,J,K,L,M,N,P,Q,R,U,zV 3 (zV 2 (zV 1 (zV 0 v2))),v0,v1,dem v2,dem v4,dem v5,dem v6,dem v7,a3,a4,a5,a6,a7,a8,a9],S7)) ()) ()) ()) ()) ()) ()) ()):=by
 kernel_rfl
theorem zI.r9 :jD zi ⟨false,false,false⟩ (zZ zi O) (reg Try.f32 9) (reg Try.f32 9).toList ([x0,b,x2,x3,x4,x5,x6,x7,x8,x9,c,d,f,g,i,k,l,m,n,o,p,q,r,s,t,u,w,x,y,z,A,B,C,D,E,F,G,H,I,J,K,L,M,N,P,Q,R,U,V,W,X,Y,Z,a0,a1,a2,a3,a4,a5,a6,a7,a8,a9]) S =
  (gdK (dem x8) true (ret x5) S (fun v2 S1=>gdK (dem x8) true (zF zi 46 b 0) S1 (fun v3 S2=>gdK (dem x8) true (jh zi false 3 v3) S2 (fun v4 S3=>gdK (dem x8) true (wI zi BinOp.lss 3 (dem v2) v4) S3 (fun v5 S4=>zN (wX (dem x8) v5 (Value.bool false) S4) (fun v6 S5=>some ([x0,b,v6,x3,x4,x5,x6,x7,dem x8,x9,c,d,f,g,i,k,l,m,n,o,p,q,r,s,t,u,w,x,y,z,A,B,C,D,E,F,G,H,I,J,K,L,M,N,P,Q,R,U,V,W,X,Y,Z,a0,a1,a2,x8,dem x8,dem v2,v3,v4,v5,dem v6],S5)) ()) ()) ()) ()) ()):=by
 refine sP Try.f32 9 0 (v:=x8) ?_
 refine sP Try.f32 9 1 (v:=x8) ?_
 refine sG Try.f32 9 2 (j:=1) (fun v2 S1=>?_)
 refine sG Try.f32 9 3 (j:=1) (fun v3 S2=>?_)
 refine sG Try.f32 9 4 (j:=1) (fun v4 S3=>?_)
 refine sG Try.f32 9 5 (j:=1) (fun v5 S4=>?_)
 refine sD Try.f32 9 6 (fun v6 S5=>?_)
 refine sP Try.f32 9 7 (v:=v6) ?_
 kernel_rfl
theorem zI.rs:type_of% (alG @zI.r0 (alG @zI.r1 (alG @zI.r2 (alG @zI.r3 (alG @zI.r4 (alG @zI.r5 (alG @zI.r6 (alG @zI.r7 (alG @zI.r8 (@zI.r9)))))))))):=alG @zI.r0 (alG @zI.r1 (alG @zI.r2 (alG @zI.r3 (alG @zI.r4 (alG @zI.r5 (alG @zI.r6 (alG @zI.r7 (alG @zI.r8 (@zI.r9)))))))))
theorem zI.runs {x0:Value} {S S1:zy} {e:AEx} {T:List Value} (h:zJ zi O false zI.code ([x0,zh,zh,zh,zh,zh,zh,zh,zh,zh,zh,zh,zh,zh,zh,zh,zh,zh,zh,zh,zh,zh,zh,zh,zh,zh,zh,zh,zh,zh,zh,zh,zh,zh,zh,zh,zh,zh,zh,zh,zh,zh,zh,zh,zh,zh,zh,zh,zh,zh,zh,zh,zh,zh,zh,zh,zh,zh,zh,zh,zh,zh,zh]) zy.empty=some (e,T,S1)) (he:e=.normal∨e=.ret) (hca:[x0].all (jW 16)=true) (hcv:jW 16 (T.getD 2 zh)=true):zZ zi O 32 [x0] S=some (T.getD 2 zh,S) :=
 yC rfl rfl Try.func32 (by decide) zI.body (by exact h) he (yH (a:=T.getD 2 zh) ((show zQ zi T S1 Try.f32.results.toList=zQ zi T S1 [(ResultVar.tmp 2)] from by kernel_rfl).trans (by simp only [zQ])) (by kernel_rfl)) hca hcv
end Go.Proofs.Ytfjogganfjkckaa
namespace Go.Proofs.Ytfjogganfjkckaa
open Go.Abs
abbrev yh.id:FuncId:=23
noncomputable def yh.code:Code:=(.seq (.region 0 (reg Try.f23 0) false) (.seq (.seq (.region 1 (reg Try.f23 1) false) (.cond (.tmp 5) (.seq (.region 2 (reg Try.f23 2) false) Code.ret) Code.skip)) (.seq (.region 3 (reg Try.f23 3) false) Code.ret)))
theorem yh.body:Try.f23.body=some yh.code:=by kernel_rfl
variable (b c u m n o p q r s d f g i j k:Value) (S:zy)
theorem yh.r0 :jD zi ⟨false,false,false⟩ (zZ zi O) (reg Try.f23 0) (reg Try.f23 0).toList ([b,c,u,m,n,o,p,q,r,s,d,f,g,i,j,k]) S =
  (zN (J3 (dem b) S) (fun t l=>some ([b,t,.int .i64 0,m,n,o,p,q,r,s,d,f,g,i,j,k],l)) ()):=by
 kernel_rfl
theorem yh.r1 :jD zi ⟨false,false,false⟩ (zZ zi O) (reg Try.f23 1) (reg Try.f23 1).toList ([b,c,u,m,n,o,p,q,r,s,d,f,g,i,j,k]) S =
  (zN (jh zi false 46 c S) (fun t l=>zN ((zZ zi O) 45 [(dem t)] l) (fun v x=>zN (aUn zi UnOp.not v x) (fun w y=>some ([b,c,u,t,v,w,p,q,r,s,d,f,g,i,j,k],y)) ()) ()) ()):=by
 kernel_rfl
theorem yh.r2 :jD zi ⟨false,false,false⟩ (zZ zi O) (reg Try.f23 2) (reg Try.f23 2).toList ([b,c,u,m,n,o,p,q,r,s,d,f,g,i,j,k]) S =
  ( some ([b,c,.int .i64 0,m,n,o,p,q,r,s,d,f,g,i,j,k],S)):=by
 kernel_rfl
theorem yh.r3 :jD zi ⟨false,false,false⟩ (zZ zi O) (reg Try.f23 3) (reg Try.f23 3).toList ([b,c,u,m,n,o,p,q,r,s,d,f,g,i,j,k]) S =
  (zN (zF zi 46 c 0 S) (fun t l=>zN (jh zi false 3 t l) (fun v x=>zN (wI zi BinOp.mul 3 v (.int .i64 65536) x) (fun w y=>zN (zF zi 46 c 1 y) (fun z H=>zN (jh zi false 3 z H) (fun A I=>zN (wI zi BinOp.mul 3 A (.int .i64 256) I) (fun B J=>zN (wI zi BinOp.add 3 w B J) (fun C K=>zN (zF zi 46 c 2 K) (fun D L=>zN (jh zi false 3 D L) (fun E M=>zN (wI zi BinOp.add 3 C E M) (fun F G=>some ([b,c,F,m,n,o,t,v,w,z,A,B,C,D,E,dem F],G)) ()) ()) ()) ()) ()) ()) ()) ()) ()) ()):=by
 kernel_rfl
theorem yh.rs:type_of% (alG @yh.r0 (alG @yh.r1 (alG @yh.r2 (@yh.r3)))):=alG @yh.r0 (alG @yh.r1 (alG @yh.r2 (@yh.r3)))
theorem yh.runs {b:Value} {S l:zy} {e:AEx} {T:List Value} (h:zJ zi O false yh.code ([b,zh,zh,zh,zh,zh,zh,zh,zh,zh,zh,zh,zh,zh,zh,zh]) zy.empty=some (e,T,l)) (he:e=.normal∨e=.ret) (hca:[b].all (jW 16)=true) (hcv:jW 16 (T.getD 2 zh)=true):zZ zi O 23 [b] S=some (T.getD 2 zh,S) :=
 yC rfl rfl Try.func23 (by decide) yh.body (by exact h) he (yH (a:=T.getD 2 zh) ((show zQ zi T l Try.f23.results.toList=zQ zi T l [(ResultVar.tmp 2)] from by kernel_rfl).trans (by simp only [zQ])) (by kernel_rfl)) hca hcv
end Go.Proofs.Ytfjogganfjkckaa
namespace Go.Proofs.Ytfjogganfjkckaa
open Go.Abs
abbrev jG.id:FuncId:=17
noncomputable def jG.code:Code:=(.seq (.region 0 (reg Try.f17 0) false) (.seq (.seq (.region 1 (reg Try.f17 1) false) (.cond (.tmp 5) (.seq (.region 2 (reg Try.f17 2) false) Code.ret) Code.skip)) (.seq (.region 3 (reg Try.f17 3) false) Code.ret)))
theorem jG.body:Try.f17.body=some jG.code:=by kernel_rfl
variable (b c u m n o p q r s d f g i j k:Value) (S:zy)
theorem jG.r0 :jD zi ⟨false,false,false⟩ (zZ zi O) (reg Try.f17 0) (reg Try.f17 0).toList ([b,c,u,m,n,o,p,q,r,s,d,f,g,i,j,k]) S =
  (zN (J3 (dem b) S) (fun t l=>some ([b,t,.int .i64 0,m,n,o,p,q,r,s,d,f,g,i,j,k],l)) ()):=by
 kernel_rfl
theorem jG.r1 :jD zi ⟨false,false,false⟩ (zZ zi O) (reg Try.f17 1) (reg Try.f17 1).toList ([b,c,u,m,n,o,p,q,r,s,d,f,g,i,j,k]) S =
  (zN (jh zi false 46 c S) (fun t l=>zN ((zZ zi O) 32 [(dem t)] l) (fun v x=>zN (aUn zi UnOp.not v x) (fun w y=>some ([b,c,u,t,v,w,p,q,r,s,d,f,g,i,j,k],y)) ()) ()) ()):=by
 kernel_rfl
theorem jG.r2 :jD zi ⟨false,false,false⟩ (zZ zi O) (reg Try.f17 2) (reg Try.f17 2).toList ([b,c,u,m,n,o,p,q,r,s,d,f,g,i,j,k]) S =
  ( some ([b,c,.int .i64 0,m,n,o,p,q,r,s,d,f,g,i,j,k],S)):=by
 kernel_rfl
theorem jG.r3 :jD zi ⟨false,false,false⟩ (zZ zi O) (reg Try.f17 3) (reg Try.f17 3).toList ([b,c,u,m,n,o,p,q,r,s,d,f,g,i,j,k]) S =
  (zN (zF zi 46 c 0 S) (fun t l=>zN (jh zi false 3 t l) (fun v x=>zN (wI zi BinOp.mul 3 v (.int .i64 256) x) (fun w y=>zN (zF zi 46 c 1 y) (fun z H=>zN (jh zi false 3 z H) (fun A I=>zN (wI zi BinOp.add 3 w A I) (fun B J=>zN (wI zi BinOp.mul 3 B (.int .i64 256) J) (fun C K=>zN (zF zi 46 c 2 K) (fun D L=>zN (jh zi false 3 D L) (fun E M=>zN (wI zi BinOp.add 3 C E M) (fun F G=>some ([b,c,F,m,n,o,t,v,w,z,A,B,C,D,E,dem F],G)) ()) ()) ()) ()) ()) ()) ()) ()) ()) ()):=by
 kernel_rfl
theorem jG.rs:type_of% (alG @jG.r0 (alG @jG.r1 (alG @jG.r2 (@jG.r3)))):=alG @jG.r0 (alG @jG.r1 (alG @jG.r2 (@jG.r3)))
theorem jG.runs {b:Value} {S l:zy} {e:AEx} {T:List Value} (h:zJ zi O false jG.code ([b,zh,zh,zh,zh,zh,zh,zh,zh,zh,zh,zh,zh,zh,zh,zh]) zy.empty=some (e,T,l)) (he:e=.normal∨e=.ret) (hca:[b].all (jW 16)=true) (hcv:jW 16 (T.getD 2 zh)=true):zZ zi O 17 [b] S=some (T.getD 2 zh,S) :=
 yC rfl rfl Try.func17 (by decide) jG.body (by exact h) he (yH (a:=T.getD 2 zh) ((show zQ zi T l Try.f17.results.toList=zQ zi T l [(ResultVar.tmp 2)] from by kernel_rfl).trans (by simp only [zQ])) (by kernel_rfl)) hca hcv
end Go.Proofs.Ytfjogganfjkckaa
namespace Go.Proofs.Ytfjogganfjkckaa
open Go.Abs
abbrev wz.id:FuncId:=60
noncomputable def wz.code:Code:=(.seq (.region 0 (reg Try.f60 0) false) (.seq (.region 1 (reg Try.f60 1) false) Code.ret))
theorem wz.body:Try.f60.body=some wz.code:=by kernel_rfl
variable (b c d o p q z s t u i k l m n:Value) (S:zy)
theorem wz.r0 :jD zi ⟨false,false,false⟩ (zZ zi O) (reg Try.f60 0) (reg Try.f60 0).toList ([b,c,d,o,p,q,z,s,t,u,i,k,l,m,n]) S =
  ( some ([b,c,d,o,p,q,Value.bool false,s,t,u,i,k,l,m,n],S)):=by
 kernel_rfl
theorem wz.r1 :jD zi ⟨false,false,false⟩ (zZ zi O) (reg Try.f60 1) (reg Try.f60 1).toList ([b,c,d,o,p,q,z,s,t,u,i,k,l,m,n]) S =
  (zN (wI zi BinOp.geq 3 (dem b) (dem c) S) (fun f g=>gdK (dem f) true (ret b) g (fun w A=>gdK (dem f) true (ret d) A (fun x B=>gdK (dem f) true (wI zi BinOp.leq 3 (dem w) (dem x)) B (fun y C=>zN (wX (dem f) y (Value.bool false) C) (fun r D=>some ([b,c,d,o,p,q,r,dem b,dem c,f,dem f,dem w,dem x,y,dem r],D)) ()) ()) ()) ()) ()):=by
 refine sP Try.f60 1 0 (v:=b) ?_
 refine sP Try.f60 1 1 (v:=c) ?_
 refine sD Try.f60 1 2 (fun f g=>?_)
 refine sP Try.f60 1 3 (v:=f) ?_
 refine sG Try.f60 1 4 (j:=3) (fun w A=>?_)
 refine sG Try.f60 1 5 (j:=3) (fun x B=>?_)
 refine sG Try.f60 1 6 (j:=3) (fun y C=>?_)
 refine sD Try.f60 1 7 (fun r D=>?_)
 refine sP Try.f60 1 8 (v:=r) ?_
 kernel_rfl
theorem wz.rs:type_of% (alG @wz.r0 (@wz.r1)):=alG @wz.r0 (@wz.r1)
theorem wz.runs {b c d:Value} {S g:zy} {e:AEx} {T:List Value} (h:zJ zi O false wz.code ([b,c,d,zh,zh,zh,zh,zh,zh,zh,zh,zh,zh,zh,zh]) S=some (e,T,g)) (he:e=.normal∨e=.ret):zZ zi O 60 [b,c,d] S=some (T.getD 6 zh,g) :=
 yL rfl rfl Try.func60 (by decide) wz.body (by exact h) he (yH (a:=T.getD 6 zh) ((show zQ zi T g Try.f60.results.toList=zQ zi T g [(ResultVar.tmp 6)] from by kernel_rfl).trans (by simp only [zQ])) (by kernel_rfl))
end Go.Proofs.Ytfjogganfjkckaa
namespace Go.Proofs.Ytfjogganfjkckaa
open Go.Abs
abbrev wW.id:FuncId:=61
noncomputable def wW.code:Code:=(.seq (.region 0 (reg Try.f61 0) false) (.seq (.region 1 (reg Try.f61 1) false) Code.ret))
theorem wW.body:Try.f61.body=some wW.code:=by kernel_rfl
variable (b g w k l m n o p q f:Value) (S:zy)
theorem wW.r0 :jD zi ⟨false,false,false⟩ (zZ zi O) (reg Try.f61 0) (reg Try.f61 0).toList ([b,g,w,k,l,m,n,o,p,q,f]) S =
  ( some ([b,g,Value.bool false,k,l,m,n,o,p,q,f],S)):=by
 kernel_rfl
theorem wW.r1 :jD zi ⟨false,false,false⟩ (zZ zi O) (reg Try.f61 1) (reg Try.f61 1).toList ([b,g,w,k,l,m,n,o,p,q,f]) S =
  (zN ((zZ zi O) 60 [(dem (dem b)),(.int .i64 65536),(.int .i64 268435455)] S) (fun c d=>gdK (dem c) true (ret b) d (fun r x=>gdK (dem c) true (wI zi BinOp.rem 3 (dem r) (.int .i64 65536)) x (fun s y=>gdK (dem c) true (wI zi BinOp.quo 3 s (.int .i64 256)) y (fun t z=>gdK (dem c) true (wI zi BinOp.lss 3 t (.int .i64 7)) z (fun u A=>zN (wX (dem c) u (Value.bool false) A) (fun i B=>some ([b,g,i,dem b,c,dem c,dem r,s,t,u,dem i],B)) ()) ()) ()) ()) ()) ()):=by
 refine sP Try.f61 1 0 (v:=b) ?_
 refine sD Try.f61 1 1 (fun c d=>?_)
 refine sP Try.f61 1 2 (v:=c) ?_
 refine sG Try.f61 1 3 (j:=2) (fun r x=>?_)
 refine sG Try.f61 1 4 (j:=2) (fun s y=>?_)
 refine sG Try.f61 1 5 (j:=2) (fun t z=>?_)
 refine sG Try.f61 1 6 (j:=2) (fun u A=>?_)
 refine sD Try.f61 1 7 (fun i B=>?_)
 refine sP Try.f61 1 8 (v:=i) ?_
 kernel_rfl
theorem wW.rs:type_of% (alG @wW.r0 (@wW.r1)):=alG @wW.r0 (@wW.r1)
theorem wW.runs {b:Value} {S d:zy} {e:AEx} {T:List Value} (h:zJ zi O false wW.code ([b,zh,zh,zh,zh,zh,zh,zh,zh,zh,zh]) S=some (e,T,d)) (he:e=.normal∨e=.ret):zZ zi O 61 [b] S=some (T.getD 2 zh,d) :=
 yL rfl rfl Try.func61 (by decide) wW.body (by exact h) he (yH (a:=T.getD 2 zh) ((show zQ zi T d Try.f61.results.toList=zQ zi T d [(ResultVar.tmp 2)] from by kernel_rfl).trans (by simp only [zQ])) (by kernel_rfl))
end Go.Proofs.Ytfjogganfjkckaa
namespace Go.Proofs.Ytfjogganfjkckaa
open Go.Abs
abbrev yu.id:FuncId:=74
noncomputable def yu.code:Code:=(.seq (.region 0 (reg Try.f74 0) false) (.seq (.seq (.region 1 (reg Try.f74 1) false) (.cond (.tmp 5) (.seq (.region 2 (reg Try.f74 2) false) Code.ret) Code.skip)) (.seq (.region 3 (reg Try.f74 3) false) Code.ret)))
theorem yu.body:Try.f74.body=some yu.code:=by kernel_rfl
variable (b c l f g i j k:Value) (S:zy)
theorem yu.r0 :jD zi ⟨false,false,false⟩ (zZ zi O) (reg Try.f74 0) (reg Try.f74 0).toList ([b,c,l,f,g,i,j,k]) S =
  ( some ([b,c,.int .i64 0,f,g,i,j,k],S)):=by
 kernel_rfl
theorem yu.r1 :jD zi ⟨false,false,false⟩ (zZ zi O) (reg Try.f74 1) (reg Try.f74 1).toList ([b,c,l,f,g,i,j,k]) S =
  (zN ((zZ zi O) 61 [(dem (dem b))] S) (fun m d=>zN (aUn zi UnOp.not m d) (fun n o=>some ([b,c,l,dem b,m,n,j,k],o)) ()) ()):=by
 kernel_rfl
theorem yu.r2 :jD zi ⟨false,false,false⟩ (zZ zi O) (reg Try.f74 2) (reg Try.f74 2).toList ([b,c,l,f,g,i,j,k]) S =
  ( some ([b,c,.int .i64 0,f,g,i,j,k],S)):=by
 kernel_rfl
theorem yu.r3 :jD zi ⟨false,false,false⟩ (zZ zi O) (reg Try.f74 3) (reg Try.f74 3).toList ([b,c,l,f,g,i,j,k]) S =
  (zN (wI zi BinOp.quo 3 (dem b) (.int .i64 65536) S) (fun m d=>some ([b,c,m,f,g,i,dem b,dem m],d)) ()):=by
 kernel_rfl
theorem yu.rs:type_of% (alG @yu.r0 (alG @yu.r1 (alG @yu.r2 (@yu.r3)))):=alG @yu.r0 (alG @yu.r1 (alG @yu.r2 (@yu.r3)))
theorem yu.runs {b:Value} {S d:zy} {e:AEx} {T:List Value} (h:zJ zi O false yu.code ([b,zh,zh,zh,zh,zh,zh,zh]) S=some (e,T,d)) (he:e=.normal∨e=.ret):zZ zi O 74 [b] S=some (T.getD 2 zh,d) :=
 yL rfl rfl Try.func74 (by decide) yu.body (by exact h) he (yH (a:=T.getD 2 zh) ((show zQ zi T d Try.f74.results.toList=zQ zi T d [(ResultVar.tmp 2)] from by kernel_rfl).trans (by simp only [zQ])) (by kernel_rfl))
end Go.Proofs.Ytfjogganfjkckaa
namespace Go.Proofs.Ytfjogganfjkckaa
open Go.Abs
abbrev jo.id:FuncId:=51
noncomputable def jo.code:Code:=(.seq (.region 0 (reg Try.f51 0) false) (.seq (.seq (.region 1 (reg Try.f51 1) false) (.cond (.tmp 10) (.seq (.region 2 (reg Try.f51 2) false) Code.ret) Code.skip)) (.seq (.region 3 (reg Try.f51 3) false) (.seq (.region 4 (reg Try.f51 4) false) Code.ret))))
theorem jo.body:Try.f51.body=some jo.code:=by kernel_rfl
variable (a E H I J K b c C G d f g i k l m n o p q r s t u w x y z A B:Value) (S:zy)
theorem jo.r0 :jD zi ⟨false,false,false⟩ (zZ zi O) (reg Try.f51 0) (reg Try.f51 0).toList ([a,E,H,I,J,K,b,c,C,G,d,f,g,i,k,l,m,n,o,p,q,r,s,t,u,w,x,y,z,A,B]) S =
  ( some ([a,E,.int .i64 0,.int .i64 0,.int .i64 0,Value.bool false,b,c,C,G,d,f,g,i,k,l,m,n,o,p,q,r,s,t,u,w,x,y,z,A,B],S)):=by
 kernel_rfl
theorem jo.r1 :jD zi ⟨false,false,false⟩ (zZ zi O) (reg Try.f51 1) (reg Try.f51 1).toList ([a,E,H,I,J,K,b,c,C,G,d,f,g,i,k,l,m,n,o,p,q,r,s,t,u,w,x,y,z,A,B]) S =
  (zN (wI zi BinOp.lss 3 (dem a) (.int .i64 0) S) (fun R D=>some ([a,E,H,I,J,K,b,c,C,dem a,R,f,g,i,k,l,m,n,o,p,q,r,s,t,u,w,x,y,z,A,B],D)) ()):=by
 kernel_rfl
theorem jo.r2 :jD zi ⟨false,false,false⟩ (zZ zi O) (reg Try.f51 2) (reg Try.f51 2).toList ([a,E,H,I,J,K,b,c,C,G,d,f,g,i,k,l,m,n,o,p,q,r,s,t,u,w,x,y,z,A,B]) S =
  ( some ([a,E,.int .i64 0,.int .i64 0,.int .i64 0,Value.bool false,b,c,C,G,d,f,g,i,k,l,m,n,o,p,q,r,s,t,u,w,x,y,z,A,B],S)):=by
 kernel_rfl
theorem jo.r3 :jD zi ⟨false,false,false⟩ (zZ zi O) (reg Try.f51 3) (reg Try.f51 3).toList ([a,E,H,I,J,K,b,c,C,G,d,f,g,i,k,l,m,n,o,p,q,r,s,t,u,w,x,y,z,A,B]) S =
  (zN (wI zi BinOp.quo 3 (dem a) (.int .i64 65536) S) (fun R D=>zN (wI zi BinOp.quo 3 (dem a) (.int .i64 256) D) (fun Y U=>zN (wI zi BinOp.rem 3 Y (.int .i64 256) U) (fun F V=>zN (wI zi BinOp.rem 3 (dem a) (.int .i64 256) V) (fun N W=>some ([a,E,H,I,J,K,R,F,N,G,d,dem a,dem R,dem a,Y,dem F,dem a,dem N,o,p,q,r,s,t,u,w,x,y,z,A,B],W)) ()) ()) ()) ()):=by
 kernel_rfl
theorem jo.r4 :jD zi ⟨false,false,false⟩ (zZ zi O) (reg Try.f51 4) (reg Try.f51 4).toList ([a,E,H,I,J,K,b,c,C,G,d,f,g,i,k,l,m,n,o,p,q,r,s,t,u,w,x,y,z,A,B]) S =
  (zN (wI zi BinOp.geq 3 (dem (dem b)) (.int .i64 1) S) (fun F D=>gdK (dem F) true (ret (dem b)) D (fun N U=>gdK (dem F) true (wI zi BinOp.leq 3 (dem N) (.int .i64 4095)) U (fun X V=>zN (wX (dem F) X (Value.bool false) V) (fun L W=>gdK (dem L) true (ret (dem c)) W (fun P Z=>gdK (dem L) true (wI zi BinOp.leq 3 (dem P) (.int .i64 6)) Z (fun Q S6=>zN (wX (dem L) Q (Value.bool false) S6) (fun M S7=>some ([a,E,b,c,C,M,dem b,dem c,dem C,G,d,f,g,i,k,l,m,n,dem b,dem c,dem C,dem (dem b),F,dem F,dem N,X,L,dem L,dem P,Q,dem M],S7)) ()) ()) ()) ()) ()) ()) ()):=by
 refine sP Try.f51 4 0 (v:=b) ?_
 refine sP Try.f51 4 1 (v:=c) ?_
 refine sP Try.f51 4 2 (v:=C) ?_
 refine sP Try.f51 4 3 (v:=(dem b)) ?_
 refine sD Try.f51 4 4 (fun F D=>?_)
 refine sP Try.f51 4 5 (v:=F) ?_
 refine sG Try.f51 4 6 (j:=5) (fun N U=>?_)
 refine sG Try.f51 4 7 (j:=5) (fun X V=>?_)
 refine sD Try.f51 4 8 (fun L W=>?_)
 refine sP Try.f51 4 9 (v:=L) ?_
 refine sG Try.f51 4 10 (j:=9) (fun P Z=>?_)
 refine sG Try.f51 4 11 (j:=9) (fun Q S6=>?_)
 refine sD Try.f51 4 12 (fun M S7=>?_)
 refine sP Try.f51 4 13 (v:=b) ?_
 refine sP Try.f51 4 14 (v:=c) ?_
 refine sP Try.f51 4 15 (v:=C) ?_
 refine sP Try.f51 4 16 (v:=M) ?_
 kernel_rfl
theorem jo.rs:type_of% (alG @jo.r0 (alG @jo.r1 (alG @jo.r2 (alG @jo.r3 (@jo.r4))))):=alG @jo.r0 (alG @jo.r1 (alG @jo.r2 (alG @jo.r3 (@jo.r4))))
theorem jo.runs {a:Value} {S D:zy} {e:AEx} {T:List Value} (h:zJ zi O false jo.code ([a,zh,zh,zh,zh,zh,zh,zh,zh,zh,zh,zh,zh,zh,zh,zh,zh,zh,zh,zh,zh,zh,zh,zh,zh,zh,zh,zh,zh,zh,zh]) S=some (e,T,D)) (he:e=.normal∨e=.ret)  (h0:wG (T.getD 2 zh)=true) (h1:wG (T.getD 3 zh)=true) (h2:wG (T.getD 4 zh)=true) (h3:wG (T.getD 5 zh)=true):zZ zi O 51 [a] S=some (Value.tuple #[T.getD 2 zh,T.getD 3 zh,T.getD 4 zh,T.getD 5 zh],D) :=
 yL rfl rfl Try.func51 (by decide) jo.body (by exact h) he ((ql ((show zQ zi T D Try.f51.results.toList=zQ zi T D [(ResultVar.tmp 2),(ResultVar.tmp 3),(ResultVar.tmp 4),(ResultVar.tmp 5)] from by kernel_rfl).trans (by simp only [zQ])) (by kernel_rfl) (by simp only [List.all_cons,List.all_nil,h0,h1,h2,h3,Bool.and_true])).trans rfl)
end Go.Proofs.Ytfjogganfjkckaa
namespace Go.Proofs.Ytfjogganfjkckaa
open Go.Abs
def btw (n a b:Int):Bool:=decide (a≤n) && decide (n≤b)
theorem KI {n a b:Int}:btw n a b=true ↔ a≤n∧n≤b:=by simp [btw]
def xQ (n:Int):Bool:=btw n 65536 268435455 && decide (n % 65536 / 256 < 7)
theorem vP {n:Int}:xQ n=true ↔ 65536≤n∧n≤268435455∧n % 65536 / 256 < 7:=by simp [xQ,btw,and_assoc]
def YS (n:Int):Int:=if xQ n=true then n / 65536 else 0
theorem aah {n m:Int} (h:0≤n):n.tmod m=n % m:=Int.tmod_eq_emod_of_nonneg h
theorem YL {n m:Int} (h:0≤n):n.tdiv m=n / m:=Int.tdiv_eq_ediv_of_nonneg h
theorem Qx:(65536:Int)≠0:=by decide
theorem ajv:(256:Int)≠0:=by decide
theorem wz.v (n a b:Int) (S:zy):zZ zi O wz.id [.int .i64 n,.int .i64 a,.int .i64 b] S=some (.bool (btw n a b),S):=by
 obtain ⟨T,hTe⟩:∃ T,T=(.int .i64 n::.int .i64 a::.int .i64 b::zh::zh::zh::zh::zh::zh::zh::zh::zh::zh::zh::zh::[]):=⟨_,rfl⟩
 have hr:zJ zi O false wz.code T S=zJ zi O false wz.code T S:=rfl
 unfold btw
 by_cases h1:a≤n
 ·
  conv at hr =>
   rhs
   rw [hTe]
   simp only [wz.code,wz.rs,zSs,reduceIte,zk,zn,zo,zq,decide_eq_true h1]
  rw [decide_eq_true h1,Bool.true_and]
  rw [hTe] at hr
  exact wz.runs hr (.inr rfl)
 ·
  conv at hr =>
   rhs
   rw [hTe]
   simp only [wz.code,wz.rs,zSs,reduceIte,zk,zn,zo,zq,decide_eq_false h1]
  rw [decide_eq_false h1,Bool.false_and]
  rw [hTe] at hr
  exact wz.runs hr (.inr rfl)
theorem wW.v (n:Int) (S:zy):zZ zi O wW.id [.int .i64 n] S=some (.bool (xQ n),S):=by
 obtain ⟨T,hTe⟩:∃ T,T=(.int .i64 n::zh::zh::zh::zh::zh::zh::zh::zh::zh::zh::[]):=⟨_,rfl⟩
 have hr:zJ zi O false wW.code T S=zJ zi O false wW.code T S:=rfl
 unfold xQ
 cases h1:btw n 65536 268435455
 ·
  conv at hr =>
   rhs
   rw [hTe]
   simp only [wW.code,wW.rs,zSs,reduceIte,zk,zn,zo,zq,wz.v,h1]
  rw [hTe] at hr
  exact wW.runs hr (.inr rfl)
 ·
  have hb:=KI.mp h1
  have q1:IntKind.i64.wrap ((n.tmod 65536).tdiv 256)=n % 65536 / 256:=by
   rw [aah (by omega),YL (by omega),wrap_i64 (by omega) (by omega)]
  conv at hr =>
   rhs
   rw [hTe]
   simp only [wW.code,wW.rs,zSs,reduceIte,zk,zn,zo,zq,wz.v,h1,WS _ _ _ Qx,vw _ _ _ ajv,q1]
  rw [hTe] at hr
  rw [Bool.true_and]
  exact wW.runs hr (.inr rfl)
theorem yu.v (n:Int) (S:zy):zZ zi O yu.id [.int .i64 n] S=some (.int .i64 (YS n),S):=by
 obtain ⟨T,hTe⟩:∃ T,T=(.int .i64 n::zh::zh::zh::zh::zh::zh::zh::[]):=⟨_,rfl⟩
 have hr:zJ zi O false yu.code T S=zJ zi O false yu.code T S:=rfl
 unfold YS
 cases h1:xQ n
 ·
  conv at hr =>
   rhs
   rw [hTe]
   simp only [yu.code,yu.rs,zSs,reduceIte,zk,zn,zo,zq,wW.v,h1]
  rw [hTe] at hr
  exact yu.runs hr (.inr rfl)
 ·
  have hb:=vP.mp h1
  have q1:IntKind.i64.wrap (n.tdiv 65536)=n / 65536:=by
   rw [YL (by omega),wrap_i64 (by omega) (by omega)]
  conv at hr =>
   rhs
   rw [hTe]
   simp only [yu.code,yu.rs,zSs,reduceIte,zk,zn,zo,zq,wW.v,h1,vw _ _ _ Qx,q1]
  rw [hTe] at hr
  exact yu.runs hr (.inr rfl)
def aa9 (n:Int):Value:=if n < 0 then .tuple #[.int .i64 0,.int .i64 0,.int .i64 0,.bool false] else .tuple #[.int .i64 (n / 65536),.int .i64 (n / 256 % 256),.int .i64 (n % 256),.bool (xQ n)]
theorem jo.v (n:Int) (hn:n < 9223372036854775808) (S:zy):zZ zi O jo.id [.int .i64 n] S=some (aa9 n,S):=by
 obtain ⟨T,hTe⟩:∃ T,T=(.int .i64 n::zh::zh::zh::zh::zh::zh::zh::zh::zh::zh::zh::zh::zh::zh::zh::zh::zh::zh::zh::zh::zh::zh::zh::zh::zh::zh::zh::zh::zh::zh::[]):=⟨_,rfl⟩
 have hr:zJ zi O false jo.code T S=zJ zi O false jo.code T S:=rfl
 unfold aa9
 by_cases h0:n < 0
 ·
  conv at hr =>
   rhs
   rw [hTe]
   simp only [jo.code,jo.rs,zSs,reduceIte,zk,zn,zo,zq,decide_eq_true h0]
  rw [hTe] at hr
  rw [if_pos h0]
  exact jo.runs hr (.inr rfl) rfl rfl rfl rfl
 ·
  have q1:IntKind.i64.wrap (n.tdiv 65536)=n / 65536:=by
   rw [YL (by omega),wrap_i64 (by omega) (by omega)]
  have q2:(IntKind.i64.wrap (n.tdiv 256)).tmod 256=n / 256 % 256:=by
   rw [YL (by omega),wrap_i64 (by omega) (by omega),aah (by omega)]
  have q3:n.tmod 256=n % 256:=aah (by omega)
  rw [if_neg h0]
  by_cases h1:1≤n / 65536
  ·
   by_cases h2:n / 65536≤4095
   ·
    have e:xQ n=decide (n / 256 % 256≤6):=by
     rw [Bool.eq_iff_iff,vP];simp;omega
    rw [e]
    conv at hr =>
     rhs
     rw [hTe]
     simp only [jo.code,jo.rs,zSs,reduceIte,zk,zn,zo,zq,decide_eq_false h0,WS _ _ _ ajv,vw _ _ _ ajv,vw _ _ _ Qx,q1,q2,q3,decide_eq_true h1,decide_eq_true h2]
    rw [hTe] at hr
    exact jo.runs hr (.inr rfl) rfl rfl rfl rfl
   ·
    have e:xQ n=false:=by
     cases h:xQ n with
     | false=>rfl
     | true=>have:=vP.mp h;omega
    rw [e]
    conv at hr =>
     rhs
     rw [hTe]
     simp only [jo.code,jo.rs,zSs,reduceIte,zk,zn,zo,zq,decide_eq_false h0,WS _ _ _ ajv,vw _ _ _ ajv,vw _ _ _ Qx,q1,q2,q3,decide_eq_true h1,decide_eq_false h2]
    rw [hTe] at hr
    exact jo.runs hr (.inr rfl) rfl rfl rfl rfl
  ·
   have e:xQ n=false:=by
    cases h:xQ n with
    | false=>rfl
    | true=>have:=vP.mp h;omega
   rw [e]
   conv at hr =>
    rhs
    rw [hTe]
    simp only [jo.code,jo.rs,zSs,reduceIte,zk,zn,zo,zq,decide_eq_false h0,WS _ _ _ ajv,vw _ _ _ ajv,vw _ _ _ Qx,q1,q2,q3,decide_eq_false h1]
   rw [hTe] at hr
   exact jo.runs hr (.inr rfl) rfl rfl rfl rfl
end Go.Proofs.Ytfjogganfjkckaa
namespace Go.Proofs.Ytfjogganfjkckaa
open Go.Abs
abbrev zW.id:FuncId:=65
noncomputable def zW.jT:Code:=(.seq (.region 6 (reg Try.f65 6) false) (.seq (.cond (.tmp 35) Code.skip (.exit 0)) (.seq (.block 1 (.seq (.region 7 (reg Try.f65 7) false) (.seq (.seq (.region 8 (reg Try.f65 8) false) (.cond (.tmp 43) (.seq (.region 9 (reg Try.f65 9) false) Code.ret) Code.skip)) (.seq (.region 10 (reg Try.f65 10) false) (.region 11 (reg Try.f65 11) false))))) (.region 12 (reg Try.f65 12) false))))
noncomputable def zW.code:Code:=(.seq (.region 0 (reg Try.f65 0) false) (.seq (.region 1 (reg Try.f65 1) false) (.seq (.seq (.region 2 (reg Try.f65 2) false) (.cond (.tmp 30) (.seq (.region 3 (reg Try.f65 3) false) Code.ret) Code.skip)) (.seq (.region 4 (reg Try.f65 4) false) (.seq (.seq (.region 5 (reg Try.f65 5) false) (.block 0 (.loop zW.jT))) (.seq (.seq (.region 13 (reg Try.f65 13) false) (.cond (.tmp 57) (.seq (.region 14 (reg Try.f65 14) false) Code.ret) Code.skip)) (.seq (.region 15 (reg Try.f65 15) false) Code.ret)))))))
theorem zW.body:Try.f65.body=some zW.code:=by kernel_rfl
theorem zW.eta {T:List Value} (h:T.length=59):T=[T.getD 0 zh,T.getD 1 zh,T.getD 2 zh,T.getD 3 zh,T.getD 4 zh,T.getD 5 zh,T.getD 6 zh,T.getD 7 zh,T.getD 8 zh,T.getD 9 zh,T.getD 10 zh,T.getD 11 zh,T.getD 12 zh,T.getD 13 zh,T.getD 14 zh,T.getD 15 zh,T.getD 16 zh,T.getD 17 zh,T.getD 18 zh,T.getD 19 zh,T.getD 20 zh,T.getD 21 zh,T.getD 22 zh,T.getD 23 zh,T.getD 24 zh,T.getD 25 zh,T.getD 26 zh,T.getD 27 zh,T.getD 28 zh,T.getD 29 zh,T.getD 30 zh,T.getD 31 zh,T.getD 32 zh,T.getD 33 zh,T.getD 34 zh,T.getD 35 zh,T.getD 36 zh,T.getD 37 zh,T.getD 38 zh,T.getD 39 zh,T.getD 40 zh,T.getD 41 zh,T.getD 42 zh,T.getD 43 zh,T.getD 44 zh,T.getD 45 zh,T.getD 46 zh,T.getD 47 zh,T.getD 48 zh,T.getD 49 zh,T.getD 50 zh,T.getD 51 zh,T.getD 52 zh,T.getD 53 zh,T.getD 54 zh,T.getD 55 zh,T.getD 56 zh,T.getD 57 zh,T.getD 58 zh]:=(qJ T 59 h).trans (by kernel_rfl)
variable (x0 x1 x2 x3 x4 x5 x6 x7 x8 x9 a d f g i k l m n o p q r s t u w x y z A B C b c D E F G H I J K L M N P Q R U V W X Y Z a0 a1 a2 a3:Value) (S:zy)
theorem zW.r0 :jD zi ⟨false,false,false⟩ (zZ zi O) (reg Try.f65 0) (reg Try.f65 0).toList ([x0,x1,x2,x3,x4,x5,x6,x7,x8,x9,a,d,f,g,i,k,l,m,n,o,p,q,r,s,t,u,w,x,y,z,A,B,C,b,c,D,E,F,G,H,I,J,K,L,M,N,P,Q,R,U,V,W,X,Y,Z,a0,a1,a2,a3]) S =
  ( some ([x0,x1,Value.slice none 0 0,.int .i64 0,x4,x5,x6,x7,x8,x9,a,d,f,g,i,k,l,m,n,o,p,q,r,s,t,u,w,x,y,z,A,B,C,b,c,D,E,F,G,H,I,J,K,L,M,N,P,Q,R,U,V,W,X,Y,Z,a0,a1,a2,a3],S)):=by
 kernel_rfl
theorem zW.r1 :jD zi ⟨false,false,false⟩ (zZ zi O) (reg Try.f65 1) (reg Try.f65 1).toList ([x0,x1,x2,x3,x4,x5,x6,x7,x8,x9,a,d,f,g,i,k,l,m,n,o,p,q,r,s,t,u,w,x,y,z,A,B,C,b,c,D,E,F,G,H,I,J,K,L,M,N,P,Q,R,U,V,W,X,Y,Z,a0,a1,a2,a3]) S =
  (zN ((zZ zi O) 55 [(dem (dem x0)),(.int .i64 1)] S) (fun v1 S1=>zN (jc v1 0 S1) (fun v3 S2=>zN (jc (zV 0 v1) 1 S2) (fun v4 S3=>zN (jc (zV 1 (zV 0 v1)) 2 S3) (fun v5 S4=>some ([x0,x1,x2,x3,v3,v4,v5,x7,x8,x9,a,zV 2 (zV 1 (zV 0 v1)),dem x0,dem v1,dem v3,dem v4,dem v5,m,n,o,p,q,r,s,t,u,w,x,y,z,A,B,C,b,c,D,E,F,G,H,I,J,K,L,M,N,P,Q,R,U,V,W,X,Y,Z,a0,a1,a2,a3],S4)) ()) ()) ()) ()):=by
 kernel_rfl
theorem zW.r2 :jD zi ⟨false,false,false⟩ (zZ zi O) (reg Try.f65 2) (reg Try.f65 2).toList ([x0,x1,x2,x3,x4,x5,x6,x7,x8,x9,a,d,f,g,i,k,l,m,n,o,p,q,r,s,t,u,w,x,y,z,A,B,C,b,c,D,E,F,G,H,I,J,K,L,M,N,P,Q,R,U,V,W,X,Y,Z,a0,a1,a2,a3]) S =
  (zN (wI zi BinOp.neq 64 (dem x6) (.int .i64 0) S) (fun v1 S1=>gdK (dem v1) false (ret x4) S1 (fun v3 S2=>gdK (dem v1) false (jy zi 24 (dem v3) (.int .i64 0)) S2 (fun v4 S3=>gdK (dem v1) false (jh zi false 3 v4) S3 (fun v5 S4=>gdK (dem v1) false (wI zi BinOp.lss 3 v5 (.int .i64 0)) S4 (fun v6 S5=>zN (wX (dem v1) (Value.bool true) v6 S5) (fun v7 S6=>gdK (dem v7) false (ret x4) S6 (fun v9 S7=>gdK (dem v7) false (jy zi 24 (dem v9) (.int .i64 0)) S7 (fun a4 S8=>gdK (dem v7) false (jh zi false 3 a4) S8 (fun a5 S9=>gdK (dem v7) false (wI zi BinOp.gtr 3 a5 (.int .i64 3)) S9 (fun a6 a7=>zN (wX (dem v7) (Value.bool true) a6 a7) (fun a8 a9=>some ([x0,x1,x2,x3,x4,x5,x6,x7,x8,x9,a,d,f,g,i,k,l,dem x6,v1,dem v1,dem v3,v4,v5,v6,v7,dem v7,dem v9,a4,a5,a6,a8,B,C,b,c,D,E,F,G,H,I,J,K,L,M,N,P,Q,R,U,V,W,X,Y,Z,a0,a1,a2,a3],a9)) ()) ()) ()) ()) ()) ()) ()) ()) ()) ()) ()):=by
 refine sP Try.f65 2 0 (v:=x6) ?_
 refine sD Try.f65 2 1 (fun v1 S1=>?_)
 refine sP Try.f65 2 2 (v:=v1) ?_
 refine sG Try.f65 2 3 (j:=2) (fun v3 S2=>?_)
 refine sG Try.f65 2 4 (j:=2) (fun v4 S3=>?_)
 refine sG Try.f65 2 5 (j:=2) (fun v5 S4=>?_)
 refine sG Try.f65 2 6 (j:=2) (fun v6 S5=>?_)
 refine sD Try.f65 2 7 (fun v7 S6=>?_)
 refine sP Try.f65 2 8 (v:=v7) ?_
 refine sG Try.f65 2 9 (j:=8) (fun v9 S7=>?_)
 refine sG Try.f65 2 10 (j:=8) (fun a4 S8=>?_)
 refine sG Try.f65 2 11 (j:=8) (fun a5 S9=>?_)
 refine sG Try.f65 2 12 (j:=8) (fun a6 a7=>?_)
 refine sD Try.f65 2 13 (fun a8 a9=>?_)
 kernel_rfl
theorem zW.r3 :jD zi ⟨false,false,false⟩ (zZ zi O) (reg Try.f65 3) (reg Try.f65 3).toList ([x0,x1,x2,x3,x4,x5,x6,x7,x8,x9,a,d,f,g,i,k,l,m,n,o,p,q,r,s,t,u,w,x,y,z,A,B,C,b,c,D,E,F,G,H,I,J,K,L,M,N,P,Q,R,U,V,W,X,Y,Z,a0,a1,a2,a3]) S =
  ( some ([x0,x1,Value.slice none 0 0,.int .i64 61,x4,x5,x6,x7,x8,x9,a,d,f,g,i,k,l,m,n,o,p,q,r,s,t,u,w,x,y,z,A,B,C,b,c,D,E,F,G,H,I,J,K,L,M,N,P,Q,R,U,V,W,X,Y,Z,a0,a1,a2,a3],S)):=by
 kernel_rfl
theorem zW.r4 :jD zi ⟨false,false,false⟩ (zZ zi O) (reg Try.f65 4) (reg Try.f65 4).toList ([x0,x1,x2,x3,x4,x5,x6,x7,x8,x9,a,d,f,g,i,k,l,m,n,o,p,q,r,s,t,u,w,x,y,z,A,B,C,b,c,D,E,F,G,H,I,J,K,L,M,N,P,Q,R,U,V,W,X,Y,Z,a0,a1,a2,a3]) S =
  ( some ([x0,x1,x2,x3,x4,x5,x6,Value.slice none 0 0,x8,x9,a,d,f,g,i,k,l,m,n,o,p,q,r,s,t,u,w,x,y,z,A,B,C,b,c,D,E,F,G,H,I,J,K,L,M,N,P,Q,R,U,V,W,X,Y,Z,a0,a1,a2,a3],S)):=by
 kernel_rfl
theorem zW.r5 :jD zi ⟨false,false,false⟩ (zZ zi O) (reg Try.f65 5) (reg Try.f65 5).toList ([x0,x1,x2,x3,x4,x5,x6,x7,x8,x9,a,d,f,g,i,k,l,m,n,o,p,q,r,s,t,u,w,x,y,z,A,B,C,b,c,D,E,F,G,H,I,J,K,L,M,N,P,Q,R,U,V,W,X,Y,Z,a0,a1,a2,a3]) S =
  (zN (jy zi 24 (dem x4) (.int .i64 0) S) (fun v1 S1=>zN (jh zi false 3 v1 S1) (fun v2 S2=>some ([x0,x1,x2,x3,x4,x5,x6,x7,x8,x9,a,d,f,g,i,k,l,m,n,o,p,q,r,s,t,u,w,x,y,z,A,dem x4,v1,v2,.int .i64 0,D,E,F,G,H,I,J,K,L,M,N,P,Q,R,U,V,W,X,Y,Z,a0,a1,a2,a3],S2)) ()) ()):=by
 kernel_rfl
theorem zW.r6 :jD zi ⟨false,false,false⟩ (zZ zi O) (reg Try.f65 6) (reg Try.f65 6).toList ([x0,x1,x2,x3,x4,x5,x6,x7,x8,x9,a,d,f,g,i,k,l,m,n,o,p,q,r,s,t,u,w,x,y,z,A,B,C,b,c,D,E,F,G,H,I,J,K,L,M,N,P,Q,R,U,V,W,X,Y,Z,a0,a1,a2,a3]) S =
  (zN (wI zi BinOp.lss 3 c b S) (fun v0 S1=>some ([x0,x1,x2,x3,x4,x5,x6,x7,x8,x9,a,d,f,g,i,k,l,m,n,o,p,q,r,s,t,u,w,x,y,z,A,B,C,b,c,v0,E,F,G,H,I,J,K,L,M,N,P,Q,R,U,V,W,X,Y,Z,a0,a1,a2,a3],S1)) ()):=by
 kernel_rfl
theorem zW.r7 :jD zi ⟨false,false,false⟩ (zZ zi O) (reg Try.f65 7) (reg Try.f65 7).toList ([x0,x1,x2,x3,x4,x5,x6,x7,x8,x9,a,d,f,g,i,k,l,m,n,o,p,q,r,s,t,u,w,x,y,z,A,B,C,b,c,D,E,F,G,H,I,J,K,L,M,N,P,Q,R,U,V,W,X,Y,Z,a0,a1,a2,a3]) S =
  (zN ((zZ zi O) 64 [(dem (dem x5))] S) (fun v1 S1=>zN (jc v1 0 S1) (fun v3 S2=>zN (jc (zV 0 v1) 1 S2) (fun v4 S3=>zN (jc (zV 1 (zV 0 v1)) 2 S3) (fun v5 S4=>zN (yI zi 43 S4) (fun v6 S5=>zN (wU zi 43 v6 (dem v3) S5) (fun v7 S6=>some ([x0,x1,x2,x3,x4,x5,x6,x7,v6,v4,v5,d,f,g,i,k,l,m,n,o,p,q,r,s,t,u,w,x,y,z,A,B,C,b,c,D,zV 2 (zV 1 (zV 0 v1)),dem x5,dem v1,v3,dem v4,dem v5,K,L,M,N,P,Q,R,U,V,W,X,Y,Z,a0,a1,a2,a3],S6)) ()) ()) ()) ()) ()) ()):=by
 kernel_rfl
theorem zW.r8 :jD zi ⟨false,false,false⟩ (zZ zi O) (reg Try.f65 8) (reg Try.f65 8).toList ([x0,x1,x2,x3,x4,x5,x6,x7,x8,x9,a,d,f,g,i,k,l,m,n,o,p,q,r,s,t,u,w,x,y,z,A,B,C,b,c,D,E,F,G,H,I,J,K,L,M,N,P,Q,R,U,V,W,X,Y,Z,a0,a1,a2,a3]) S =
  (zN (aUn zi UnOp.not (dem a) S) (fun v1 S1=>some ([x0,x1,x2,x3,x4,x5,x6,x7,x8,x9,a,d,f,g,i,k,l,m,n,o,p,q,r,s,t,u,w,x,y,z,A,B,C,b,c,D,E,F,G,H,I,J,dem a,v1,M,N,P,Q,R,U,V,W,X,Y,Z,a0,a1,a2,a3],S1)) ()):=by
 kernel_rfl
theorem zW.r9 :jD zi ⟨false,false,false⟩ (zZ zi O) (reg Try.f65 9) (reg Try.f65 9).toList ([x0,x1,x2,x3,x4,x5,x6,x7,x8,x9,a,d,f,g,i,k,l,m,n,o,p,q,r,s,t,u,w,x,y,z,A,B,C,b,c,D,E,F,G,H,I,J,K,L,M,N,P,Q,R,U,V,W,X,Y,Z,a0,a1,a2,a3]) S =
  ( some ([x0,x1,Value.slice none 0 0,.int .i64 61,x4,x5,x6,x7,x8,x9,a,d,f,g,i,k,l,m,n,o,p,q,r,s,t,u,w,x,y,z,A,B,C,b,c,D,E,F,G,H,I,J,K,L,M,N,P,Q,R,U,V,W,X,Y,Z,a0,a1,a2,a3],S)):=by
 kernel_rfl
theorem zW.r10 :jD zi ⟨false,false,false⟩ (zZ zi O) (reg Try.f65 10) (reg Try.f65 10).toList ([x0,x1,x2,x3,x4,x5,x6,x7,x8,x9,a,d,f,g,i,k,l,m,n,o,p,q,r,s,t,u,w,x,y,z,A,B,C,b,c,D,E,F,G,H,I,J,K,L,M,N,P,Q,R,U,V,W,X,Y,Z,a0,a1,a2,a3]) S =
  (zN (jh zi false 43 x8 S) (fun v1 S1=>zN (jK zi 44 1 [(0,v1)] S1) (fun v2 S2=>zN (wR zi 44 44 x7 v2 S2) (fun v3 S3=>some ([x0,x1,x2,x3,x4,x5,x6,v3,x8,x9,a,d,f,g,i,k,l,m,n,o,p,q,r,s,t,u,w,x,y,z,A,B,C,b,c,D,E,F,G,H,I,J,K,L,dem x7,v1,v2,dem v3,R,U,V,W,X,Y,Z,a0,a1,a2,a3],S3)) ()) ()) ()):=by
 kernel_rfl
theorem zW.r11 :jD zi ⟨false,false,false⟩ (zZ zi O) (reg Try.f65 11) (reg Try.f65 11).toList ([x0,x1,x2,x3,x4,x5,x6,x7,x8,x9,a,d,f,g,i,k,l,m,n,o,p,q,r,s,t,u,w,x,y,z,A,B,C,b,c,D,E,F,G,H,I,J,K,L,M,N,P,Q,R,U,V,W,X,Y,Z,a0,a1,a2,a3]) S =
  ( some ([x0,x1,x2,x3,x4,x9,x6,x7,x8,dem x9,a,d,f,g,i,k,l,m,n,o,p,q,r,s,t,u,w,x,y,z,A,B,C,b,c,D,E,F,G,H,I,J,K,L,M,N,P,Q,dem x9,U,V,W,X,Y,Z,a0,a1,a2,a3],S)):=by
 kernel_rfl
theorem zW.r12 :jD zi ⟨false,false,false⟩ (zZ zi O) (reg Try.f65 12) (reg Try.f65 12).toList ([x0,x1,x2,x3,x4,x5,x6,x7,x8,x9,a,d,f,g,i,k,l,m,n,o,p,q,r,s,t,u,w,x,y,z,A,B,C,b,c,D,E,F,G,H,I,J,K,L,M,N,P,Q,R,U,V,W,X,Y,Z,a0,a1,a2,a3]) S =
  (zN (wI zi BinOp.add 3 c (.int .i64 1) S) (fun v0 S1=>some ([x0,x1,x2,x3,x4,x5,x6,x7,x8,x9,a,d,f,g,i,k,l,m,n,o,p,q,r,s,t,u,w,x,y,z,A,B,C,b,dem v0,D,E,F,G,H,I,J,K,L,M,N,P,Q,R,v0,V,W,X,Y,Z,a0,a1,a2,a3],S1)) ()):=by
 kernel_rfl
theorem zW.r13 :jD zi ⟨false,false,false⟩ (zZ zi O) (reg Try.f65 13) (reg Try.f65 13).toList ([x0,x1,x2,x3,x4,x5,x6,x7,x8,x9,a,d,f,g,i,k,l,m,n,o,p,q,r,s,t,u,w,x,y,z,A,B,C,b,c,D,E,F,G,H,I,J,K,L,M,N,P,Q,R,U,V,W,X,Y,Z,a0,a1,a2,a3]) S =
  (zN (Zu zi 33 (dem x5) S) (fun v1 S1=>zN (wI zi BinOp.gtr 3 v1 (.int .i64 0) S1) (fun v2 S2=>gdK (dem v2) false (ret x7) S2 (fun v4 S3=>gdK (dem v2) false ((zZ zi O) 70 [(dem (dem v4))]) S3 (fun v5 S4=>gdK (dem v2) false (aUn zi UnOp.not v5) S4 (fun v6 S5=>zN (wX (dem v2) (Value.bool true) v6 S5) (fun v7 S6=>some ([x0,x1,x2,x3,x4,x5,x6,x7,x8,x9,a,d,f,g,i,k,l,m,n,o,p,q,r,s,t,u,w,x,y,z,A,B,C,b,c,D,E,F,G,H,I,J,K,L,M,N,P,Q,R,U,dem x5,v1,v2,dem v2,dem v4,v5,v6,v7,a3],S6)) ()) ()) ()) ()) ()) ()):=by
 refine sP Try.f65 13 0 (v:=x5) ?_
 refine sD Try.f65 13 1 (fun v1 S1=>?_)
 refine sD Try.f65 13 2 (fun v2 S2=>?_)
 refine sP Try.f65 13 3 (v:=v2) ?_
 refine sG Try.f65 13 4 (j:=3) (fun v4 S3=>?_)
 refine sG Try.f65 13 5 (j:=3) (fun v5 S4=>?_)
 refine sG Try.f65 13 6 (j:=3) (fun v6 S5=>?_)
 refine sD Try.f65 13 7 (fun v7 S6=>?_)
 kernel_rfl
theorem zW.r14 :jD zi ⟨false,false,false⟩ (zZ zi O) (reg Try.f65 14) (reg Try.f65 14).toList ([x0,x1,x2,x3,x4,x5,x6,x7,x8,x9,a,d,f,g,i,k,l,m,n,o,p,q,r,s,t,u,w,x,y,z,A,B,C,b,c,D,E,F,G,H,I,J,K,L,M,N,P,Q,R,U,V,W,X,Y,Z,a0,a1,a2,a3]) S =
  ( some ([x0,x1,Value.slice none 0 0,.int .i64 61,x4,x5,x6,x7,x8,x9,a,d,f,g,i,k,l,m,n,o,p,q,r,s,t,u,w,x,y,z,A,B,C,b,c,D,E,F,G,H,I,J,K,L,M,N,P,Q,R,U,V,W,X,Y,Z,a0,a1,a2,a3],S)):=by
 kernel_rfl
theorem zW.r15 :jD zi ⟨false,false,false⟩ (zZ zi O) (reg Try.f65 15) (reg Try.f65 15).toList ([x0,x1,x2,x3,x4,x5,x6,x7,x8,x9,a,d,f,g,i,k,l,m,n,o,p,q,r,s,t,u,w,x,y,z,A,B,C,b,c,D,E,F,G,H,I,J,K,L,M,N,P,Q,R,U,V,W,X,Y,Z,a0,a1,a2,a3]) S =
  ( some ([x0,x1,x7,.int .i64 0,x4,x5,x6,dem x7,x8,x9,a,d,f,g,i,k,l,m,n,o,p,q,r,s,t,u,w,x,y,z,A,B,C,b,c,D,E,F,G,H,I,J,K,L,M,N,P,Q,R,U,V,W,X,Y,Z,a0,a1,a2,dem x7],S)):=by
 kernel_rfl
theorem zW.rs:type_of% (alG @zW.r0 (alG @zW.r1 (alG @zW.r2 (alG @zW.r3 (alG @zW.r4 (alG @zW.r5 (alG @zW.r6 (alG @zW.r7 (alG @zW.r8 (alG @zW.r9 (alG @zW.r10 (alG @zW.r11 (alG @zW.r12 (alG @zW.r13 (alG @zW.r14 (@zW.r15)))))))))))))))):=alG @zW.r0 (alG @zW.r1 (alG @zW.r2 (alG @zW.r3 (alG @zW.r4 (alG @zW.r5 (alG @zW.r6 (alG @zW.r7 (alG @zW.r8 (alG @zW.r9 (alG @zW.r10 (alG @zW.r11 (alG @zW.r12 (alG @zW.r13 (alG @zW.r14 (@zW.r15)))))))))))))))
theorem zW.runs {x0:Value} {S S1:zy} {e:AEx} {T:List Value} (h:zJ zi O false zW.code ([x0,zh,zh,zh,zh,zh,zh,zh,zh,zh,zh,zh,zh,zh,zh,zh,zh,zh,zh,zh,zh,zh,zh,zh,zh,zh,zh,zh,zh,zh,zh,zh,zh,zh,zh,zh,zh,zh,zh,zh,zh,zh,zh,zh,zh,zh,zh,zh,zh,zh,zh,zh,zh,zh,zh,zh,zh,zh,zh]) zy.empty=some (e,T,S1)) (he:e=.normal∨e=.ret)  (h0:wG (T.getD 2 zh)=true) (h1:wG (T.getD 3 zh)=true) (hca:[x0].all (jW 16)=true) (hcv:jW 16 (Value.tuple #[T.getD 2 zh,T.getD 3 zh])=true):zZ zi O 65 [x0] S=some (Value.tuple #[T.getD 2 zh,T.getD 3 zh],S) :=
 yC rfl rfl Try.func65 (by decide) zW.body (by exact h) he ((ql ((show zQ zi T S1 Try.f65.results.toList=zQ zi T S1 [(ResultVar.tmp 2),(ResultVar.tmp 3)] from by kernel_rfl).trans (by simp only [zQ])) (by kernel_rfl) (by simp only [List.all_cons,List.all_nil,h0,h1,Bool.and_true])).trans rfl) hca hcv
end Go.Proofs.Ytfjogganfjkckaa
namespace Go.Proofs.Ytfjogganfjkckaa
open Go.Abs
abbrev zA.id:FuncId:=49
noncomputable def zA.jT:Code:=(.seq (.seq (.region 8 (reg Try.f49 8) false) (.cond (.tmp 35) Code.skip (.exit 2))) (.seq (.block 3 (.region 10 (reg Try.f49 10) true)) (.region 9 (reg Try.f49 9) false)))
noncomputable def zA.kZ:Code:=(.seq (.seq (.region 2 (reg Try.f49 2) false) (.cond (.tmp 13) Code.skip (.exit 0))) (.seq (.block 1 (.seq (.region 4 (reg Try.f49 4) false) (.seq (.seq (.region 5 (reg Try.f49 5) false) (.cond (.tmp 31) (.exit 1) Code.skip)) (.seq (.region 6 (reg Try.f49 6) false) (.seq (.seq (.region 7 (reg Try.f49 7) false) (.block 2 (.loop zA.jT))) (.seq (.region 11 (reg Try.f49 11) false) (.seq (.region 12 (reg Try.f49 12) false) (.cond (.tmp 67) (.seq (.region 13 (reg Try.f49 13) false) Code.ret) Code.skip)))))))) (.region 3 (reg Try.f49 3) false)))
noncomputable def zA.code:Code:=(.seq (.region 0 (reg Try.f49 0) false) (.seq (.seq (.region 1 (reg Try.f49 1) false) (.block 0 (.loop zA.kZ))) (.seq (.region 14 (reg Try.f49 14) false) Code.ret)))
theorem zA.body:Try.f49.body=some zA.code:=by kernel_rfl
theorem zA.eta {T:List Value} (h:T.length=69):T=[T.getD 0 zh,T.getD 1 zh,T.getD 2 zh,T.getD 3 zh,T.getD 4 zh,T.getD 5 zh,T.getD 6 zh,T.getD 7 zh,T.getD 8 zh,T.getD 9 zh,T.getD 10 zh,T.getD 11 zh,T.getD 12 zh,T.getD 13 zh,T.getD 14 zh,T.getD 15 zh,T.getD 16 zh,T.getD 17 zh,T.getD 18 zh,T.getD 19 zh,T.getD 20 zh,T.getD 21 zh,T.getD 22 zh,T.getD 23 zh,T.getD 24 zh,T.getD 25 zh,T.getD 26 zh,T.getD 27 zh,T.getD 28 zh,T.getD 29 zh,T.getD 30 zh,T.getD 31 zh,T.getD 32 zh,T.getD 33 zh,T.getD 34 zh,T.getD 35 zh,T.getD 36 zh,T.getD 37 zh,T.getD 38 zh,T.getD 39 zh,T.getD 40 zh,T.getD 41 zh,T.getD 42 zh,T.getD 43 zh,T.getD 44 zh,T.getD 45 zh,T.getD 46 zh,T.getD 47 zh,T.getD 48 zh,T.getD 49 zh,T.getD 50 zh,T.getD 51 zh,T.getD 52 zh,T.getD 53 zh,T.getD 54 zh,T.getD 55 zh,T.getD 56 zh,T.getD 57 zh,T.getD 58 zh,T.getD 59 zh,T.getD 60 zh,T.getD 61 zh,T.getD 62 zh,T.getD 63 zh,T.getD 64 zh,T.getD 65 zh,T.getD 66 zh,T.getD 67 zh,T.getD 68 zh]:=(qJ T 69 h).trans (by kernel_rfl)
variable (x0 x1 x2 x3 x4 x5 x6 x7 x8 x9 b a c d f g i k l m n o p q r s t u w x y z A B C D E F G H I J K L M N P Q R U V W X Y Z a0 a1 a2 a3 a4 a5 a6 a7 a8 a9 b0 b1 b2 b3:Value) (S:zy)
theorem zA.r0 :jD zi ⟨false,false,false⟩ (zZ zi O) (reg Try.f49 0) (reg Try.f49 0).toList ([x0,x1,x2,x3,x4,x5,x6,x7,x8,x9,b,a,c,d,f,g,i,k,l,m,n,o,p,q,r,s,t,u,w,x,y,z,A,B,C,D,E,F,G,H,I,J,K,L,M,N,P,Q,R,U,V,W,X,Y,Z,a0,a1,a2,a3,a4,a5,a6,a7,a8,a9,b0,b1,b2,b3]) S =
  ( some ([x0,x1,Value.slice none 0 0,.int .i64 0,x4,x5,x6,x7,x8,x9,b,a,c,d,f,g,i,k,l,m,n,o,p,q,r,s,t,u,w,x,y,z,A,B,C,D,E,F,G,H,I,J,K,L,M,N,P,Q,R,U,V,W,X,Y,Z,a0,a1,a2,a3,a4,a5,a6,a7,a8,a9,b0,b1,b2,b3],S)):=by
 kernel_rfl
theorem zA.r1 :jD zi ⟨false,false,false⟩ (zZ zi O) (reg Try.f49 1) (reg Try.f49 1).toList ([x0,x1,x2,x3,x4,x5,x6,x7,x8,x9,b,a,c,d,f,g,i,k,l,m,n,o,p,q,r,s,t,u,w,x,y,z,A,B,C,D,E,F,G,H,I,J,K,L,M,N,P,Q,R,U,V,W,X,Y,Z,a0,a1,a2,a3,a4,a5,a6,a7,a8,a9,b0,b1,b2,b3]) S =
  ( some ([x0,x1,x2,x3,.int .i64 0,x5,x6,x7,x8,x9,b,a,c,d,f,g,i,k,l,m,n,o,p,q,r,s,t,u,w,x,y,z,A,B,C,D,E,F,G,H,I,J,K,L,M,N,P,Q,R,U,V,W,X,Y,Z,a0,a1,a2,a3,a4,a5,a6,a7,a8,a9,b0,b1,b2,b3],S)):=by
 kernel_rfl
theorem zA.r2 :jD zi ⟨false,false,false⟩ (zZ zi O) (reg Try.f49 2) (reg Try.f49 2).toList ([x0,x1,x2,x3,x4,x5,x6,x7,x8,x9,b,a,c,d,f,g,i,k,l,m,n,o,p,q,r,s,t,u,w,x,y,z,A,B,C,D,E,F,G,H,I,J,K,L,M,N,P,Q,R,U,V,W,X,Y,Z,a0,a1,a2,a3,a4,a5,a6,a7,a8,a9,b0,b1,b2,b3]) S =
  (zN (wI zi BinOp.leq 3 (dem x4) (.int .i64 3) S) (fun v1 S1=>some ([x0,x1,x2,x3,x4,x5,x6,x7,x8,x9,b,a,dem x4,v1,f,g,i,k,l,m,n,o,p,q,r,s,t,u,w,x,y,z,A,B,C,D,E,F,G,H,I,J,K,L,M,N,P,Q,R,U,V,W,X,Y,Z,a0,a1,a2,a3,a4,a5,a6,a7,a8,a9,b0,b1,b2,b3],S1)) ()):=by
 kernel_rfl
theorem zA.r4 :jD zi ⟨false,false,false⟩ (zZ zi O) (reg Try.f49 4) (reg Try.f49 4).toList ([x0,x1,x2,x3,x4,x5,x6,x7,x8,x9,b,a,c,d,f,g,i,k,l,m,n,o,p,q,r,s,t,u,w,x,y,z,A,B,C,D,E,F,G,H,I,J,K,L,M,N,P,Q,R,U,V,W,X,Y,Z,a0,a1,a2,a3,a4,a5,a6,a7,a8,a9,b0,b1,b2,b3]) S =
  (zN (wI zi BinOp.mul 3 (.int .i64 2) (dem x4) S) (fun v2 S1=>zN (wI zi BinOp.add 3 (.int .i64 1) v2 S1) (fun v3 S2=>zN ((zZ zi O) 29 [(dem (dem x0)),(dem v3)] S2) (fun v4 S3=>zN (jc v4 0 S3) (fun v6 S4=>zN (jc (zV 0 v4) 1 S4) (fun v7 S5=>zN (jc (zV 1 (zV 0 v4)) 2 S5) (fun v8 S6=>some ([x0,x1,x2,x3,x4,v6,v7,v8,x8,x9,b,a,c,d,f,g,zV 2 (zV 1 (zV 0 v4)),dem x0,dem x4,v2,v3,dem v4,dem v6,dem v7,dem v8,s,t,u,w,x,y,z,A,B,C,D,E,F,G,H,I,J,K,L,M,N,P,Q,R,U,V,W,X,Y,Z,a0,a1,a2,a3,a4,a5,a6,a7,a8,a9,b0,b1,b2,b3],S6)) ()) ()) ()) ()) ()) ()):=by
 kernel_rfl
theorem zA.r5 :jD zi ⟨false,false,false⟩ (zZ zi O) (reg Try.f49 5) (reg Try.f49 5).toList ([x0,x1,x2,x3,x4,x5,x6,x7,x8,x9,b,a,c,d,f,g,i,k,l,m,n,o,p,q,r,s,t,u,w,x,y,z,A,B,C,D,E,F,G,H,I,J,K,L,M,N,P,Q,R,U,V,W,X,Y,Z,a0,a1,a2,a3,a4,a5,a6,a7,a8,a9,b0,b1,b2,b3]) S =
  (zN (wI zi BinOp.neq 3 (dem x7) (.int .i64 0) S) (fun v1 S1=>gdK (dem v1) false (ret x6) S1 (fun v3 S2=>gdK (dem v1) false (Zu zi 33 (dem v3)) S2 (fun v4 S3=>gdK (dem v1) false (wI zi BinOp.gtr 3 v4 (.int .i64 0)) S3 (fun v5 S4=>zN (wX (dem v1) (Value.bool true) v5 S4) (fun v6 S5=>some ([x0,x1,x2,x3,x4,x5,x6,x7,x8,x9,b,a,c,d,f,g,i,k,l,m,n,o,p,q,r,dem x7,v1,dem v1,dem v3,v4,v5,v6,A,B,C,D,E,F,G,H,I,J,K,L,M,N,P,Q,R,U,V,W,X,Y,Z,a0,a1,a2,a3,a4,a5,a6,a7,a8,a9,b0,b1,b2,b3],S5)) ()) ()) ()) ()) ()):=by
 refine sP Try.f49 5 0 (v:=x7) ?_
 refine sD Try.f49 5 1 (fun v1 S1=>?_)
 refine sP Try.f49 5 2 (v:=v1) ?_
 refine sG Try.f49 5 3 (j:=2) (fun v3 S2=>?_)
 refine sG Try.f49 5 4 (j:=2) (fun v4 S3=>?_)
 refine sG Try.f49 5 5 (j:=2) (fun v5 S4=>?_)
 refine sD Try.f49 5 6 (fun v6 S5=>?_)
 kernel_rfl
theorem zA.r6 :jD zi ⟨false,false,false⟩ (zZ zi O) (reg Try.f49 6) (reg Try.f49 6).toList ([x0,x1,x2,x3,x4,x5,x6,x7,x8,x9,b,a,c,d,f,g,i,k,l,m,n,o,p,q,r,s,t,u,w,x,y,z,A,B,C,D,E,F,G,H,I,J,K,L,M,N,P,Q,R,U,V,W,X,Y,Z,a0,a1,a2,a3,a4,a5,a6,a7,a8,a9,b0,b1,b2,b3]) S =
  (zN (jK zi 44 0 [] S) (fun v0 S1=>some ([x0,x1,x2,x3,x4,x5,x6,x7,v0,x9,b,a,c,d,f,g,i,k,l,m,n,o,p,q,r,s,t,u,w,x,y,z,dem v0,B,C,D,E,F,G,H,I,J,K,L,M,N,P,Q,R,U,V,W,X,Y,Z,a0,a1,a2,a3,a4,a5,a6,a7,a8,a9,b0,b1,b2,b3],S1)) ()):=by
 kernel_rfl
theorem zA.r7 :jD zi ⟨false,false,false⟩ (zZ zi O) (reg Try.f49 7) (reg Try.f49 7).toList ([x0,x1,x2,x3,x4,x5,x6,x7,x8,x9,b,a,c,d,f,g,i,k,l,m,n,o,p,q,r,s,t,u,w,x,y,z,A,B,C,D,E,F,G,H,I,J,K,L,M,N,P,Q,R,U,V,W,X,Y,Z,a0,a1,a2,a3,a4,a5,a6,a7,a8,a9,b0,b1,b2,b3]) S =
  ( some ([x0,x1,x2,x3,x4,x5,x6,x7,x8,.int .i64 0,b,a,c,d,f,g,i,k,l,m,n,o,p,q,r,s,t,u,w,x,y,z,A,B,C,D,E,F,G,H,I,J,K,L,M,N,P,Q,R,U,V,W,X,Y,Z,a0,a1,a2,a3,a4,a5,a6,a7,a8,a9,b0,b1,b2,b3],S)):=by
 kernel_rfl
theorem zA.r8 :jD zi ⟨false,false,false⟩ (zZ zi O) (reg Try.f49 8) (reg Try.f49 8).toList ([x0,x1,x2,x3,x4,x5,x6,x7,x8,x9,b,a,c,d,f,g,i,k,l,m,n,o,p,q,r,s,t,u,w,x,y,z,A,B,C,D,E,F,G,H,I,J,K,L,M,N,P,Q,R,U,V,W,X,Y,Z,a0,a1,a2,a3,a4,a5,a6,a7,a8,a9,b0,b1,b2,b3]) S =
  (zN (wI zi BinOp.lss 3 (dem x9) (dem x4) S) (fun v2 S1=>some ([x0,x1,x2,x3,x4,x5,x6,x7,x8,x9,b,a,c,d,f,g,i,k,l,m,n,o,p,q,r,s,t,u,w,x,y,z,A,dem x9,dem x4,v2,E,F,G,H,I,J,K,L,M,N,P,Q,R,U,V,W,X,Y,Z,a0,a1,a2,a3,a4,a5,a6,a7,a8,a9,b0,b1,b2,b3],S1)) ()):=by
 kernel_rfl
theorem zA.d10:qW zi (reg Try.f49 10)=true:=by kernel_rfl
theorem zA.alD:fixed zi (reg Try.f49 10)=false:=by kernel_rfl
theorem zA.k10:checked zi (reg Try.f49 10)=[0]:=by kernel_rfl
theorem zA.g10:again zi (reg Try.f49 10)=[]:=by kernel_rfl
theorem zA.r10 :zJ zi O false (.region 10 (reg Try.f49 10) true) ([x0,x1,x2,x3,x4,x5,x6,x7,x8,x9,b,a,c,d,f,g,i,k,l,m,n,o,p,q,r,s,t,u,w,x,y,z,A,B,C,D,E,F,G,H,I,J,K,L,M,N,P,Q,R,U,V,W,X,Y,Z,a0,a1,a2,a3,a4,a5,a6,a7,a8,a9,b0,b1,b2,b3]) S =
  Ja (okK x8 ( zN (wI zi BinOp.mul 3 (.int .i64 2) (dem x9) S) (fun v3 S1=>zN (wI zi BinOp.add 3 (.int .i64 1) v3 S1) (fun v4 S2=>zN (jy zi 24 (dem x5) v4 S2) (fun v5 S3=>zN (jh zi false 3 v5 S3) (fun v6 S4=>zN (wI zi BinOp.mul 3 (.int .i64 2) (dem x9) S4) (fun v9 S5=>zN (wI zi BinOp.add 3 (.int .i64 2) v9 S5) (fun b5 S6=>zN (jy zi 24 (dem x5) b5 S6) (fun b6 S7=>zN (jh zi false 3 b6 S7) (fun b7 S8=>zN (yA zi 43 [(0,(dem v6)),(1,(dem b7))] S8) (fun b8 S9=>zN (jK zi 44 1 [(0,b8)] S9) (fun b9 c0=>zN (wR zi 44 44 x8 b9 c0) (fun b4 c1=>some ([x0,x1,x2,x3,x4,x5,x6,x7,b4,x9,b,a,c,d,f,g,i,k,l,m,n,o,p,q,r,s,t,u,w,x,y,z,A,B,C,D,E,F,dem x8,dem x5,dem x9,v3,v4,v5,v6,dem x5,dem x9,v9,b5,b6,b7,b8,b9,dem b4,Z,a0,a1,a2,a3,a4,a5,a6,a7,a8,a9,b0,b1,b2,b3],c1)) ()) ()) ()) ()) ()) ()) ()) ()) ()) ()) ()) ()):=by
 rw [yF zA.d10 zA.alD zA.k10 zA.g10]
 refine congrArg Ja ?_
 refine tPC Try.f49 10 0 (v:=x8) ?_
 refine tP Try.f49 10 1 (v:=x5) ?_
 refine tP Try.f49 10 2 (v:=x9) ?_
 refine tD Try.f49 10 3 (fun v3 S1=>?_)
 refine tD Try.f49 10 4 (fun v4 S2=>?_)
 refine tD Try.f49 10 5 (fun v5 S3=>?_)
 refine tD Try.f49 10 6 (fun v6 S4=>?_)
 refine tP Try.f49 10 7 (v:=x5) ?_
 refine tP Try.f49 10 8 (v:=x9) ?_
 refine tD Try.f49 10 9 (fun v9 S5=>?_)
 refine tD Try.f49 10 10 (fun b5 S6=>?_)
 refine tD Try.f49 10 11 (fun b6 S7=>?_)
 refine tD Try.f49 10 12 (fun b7 S8=>?_)
 refine tD Try.f49 10 13 (fun b8 S9=>?_)
 refine tD Try.f49 10 14 (fun b9 c0=>?_)
 refine tD Try.f49 10 15 (fun b4 c1=>?_)
 refine tP Try.f49 10 16 (v:=b4) ?_
 kernel_rfl
theorem zA.r9 :jD zi ⟨false,false,false⟩ (zZ zi O) (reg Try.f49 9) (reg Try.f49 9).toList ([x0,x1,x2,x3,x4,x5,x6,x7,x8,x9,b,a,c,d,f,g,i,k,l,m,n,o,p,q,r,s,t,u,w,x,y,z,A,B,C,D,E,F,G,H,I,J,K,L,M,N,P,Q,R,U,V,W,X,Y,Z,a0,a1,a2,a3,a4,a5,a6,a7,a8,a9,b0,b1,b2,b3]) S =
  (zN (wI zi BinOp.add 3 (dem x9) (.int .i64 1) S) (fun v1 S1=>some ([x0,x1,x2,x3,x4,x5,x6,x7,x8,v1,b,a,c,d,f,g,i,k,l,m,n,o,p,q,r,s,t,u,w,x,y,z,A,B,C,D,dem x9,dem v1,G,H,I,J,K,L,M,N,P,Q,R,U,V,W,X,Y,Z,a0,a1,a2,a3,a4,a5,a6,a7,a8,a9,b0,b1,b2,b3],S1)) ()):=by
 kernel_rfl
theorem zA.r11 :jD zi ⟨false,false,false⟩ (zZ zi O) (reg Try.f49 11) (reg Try.f49 11).toList ([x0,x1,x2,x3,x4,x5,x6,x7,x8,x9,b,a,c,d,f,g,i,k,l,m,n,o,p,q,r,s,t,u,w,x,y,z,A,B,C,D,E,F,G,H,I,J,K,L,M,N,P,Q,R,U,V,W,X,Y,Z,a0,a1,a2,a3,a4,a5,a6,a7,a8,a9,b0,b1,b2,b3]) S =
  (zN ((zZ zi O) 50 [(dem (dem x8))] S) (fun v1 S1=>zN (jc v1 0 S1) (fun v3 S2=>zN (jc (zV 0 v1) 1 S2) (fun v4 S3=>some ([x0,x1,x2,x3,x4,x5,x6,x7,x8,x9,v3,v4,c,d,f,g,i,k,l,m,n,o,p,q,r,s,t,u,w,x,y,z,A,B,C,D,E,F,G,H,I,J,K,L,M,N,P,Q,R,U,V,W,X,Y,zV 1 (zV 0 v1),dem x8,dem v1,dem v3,dem v4,a4,a5,a6,a7,a8,a9,b0,b1,b2,b3],S3)) ()) ()) ()):=by
 kernel_rfl
theorem zA.r12 :jD zi ⟨false,false,false⟩ (zZ zi O) (reg Try.f49 12) (reg Try.f49 12).toList ([x0,x1,x2,x3,x4,x5,x6,x7,x8,x9,b,a,c,d,f,g,i,k,l,m,n,o,p,q,r,s,t,u,w,x,y,z,A,B,C,D,E,F,G,H,I,J,K,L,M,N,P,Q,R,U,V,W,X,Y,Z,a0,a1,a2,a3,a4,a5,a6,a7,a8,a9,b0,b1,b2,b3]) S =
  (zN (wI zi BinOp.eql 3 (dem a) (.int .i64 0) S) (fun v1 S1=>gdK (dem v1) true (ret b) S1 (fun v3 S2=>gdK (dem v1) true (qU zi false false 33 9 (dem v3)) S2 (fun v4 S3=>gdK (dem v1) true (ret x0) S3 (fun v5 S4=>gdK (dem v1) true (qU zi false false 33 9 (dem v5)) S4 (fun v6 S5=>gdK (dem v1) true (wI zi BinOp.eql 9 v4 v6) S5 (fun v7 S6=>zN (wX (dem v1) v7 (Value.bool false) S6) (fun v8 S7=>some ([x0,x1,x2,x3,x4,x5,x6,x7,x8,x9,b,a,c,d,f,g,i,k,l,m,n,o,p,q,r,s,t,u,w,x,y,z,A,B,C,D,E,F,G,H,I,J,K,L,M,N,P,Q,R,U,V,W,X,Y,Z,a0,a1,a2,a3,dem a,v1,dem v1,dem v3,v4,dem v5,v6,v7,v8,b3],S7)) ()) ()) ()) ()) ()) ()) ()):=by
 refine sP Try.f49 12 0 (v:=a) ?_
 refine sD Try.f49 12 1 (fun v1 S1=>?_)
 refine sP Try.f49 12 2 (v:=v1) ?_
 refine sG Try.f49 12 3 (j:=2) (fun v3 S2=>?_)
 refine sG Try.f49 12 4 (j:=2) (fun v4 S3=>?_)
 refine sG Try.f49 12 5 (j:=2) (fun v5 S4=>?_)
 refine sG Try.f49 12 6 (j:=2) (fun v6 S5=>?_)
 refine sG Try.f49 12 7 (j:=2) (fun v7 S6=>?_)
 refine sD Try.f49 12 8 (fun v8 S7=>?_)
 kernel_rfl
theorem zA.r13 :jD zi ⟨false,false,false⟩ (zZ zi O) (reg Try.f49 13) (reg Try.f49 13).toList ([x0,x1,x2,x3,x4,x5,x6,x7,x8,x9,b,a,c,d,f,g,i,k,l,m,n,o,p,q,r,s,t,u,w,x,y,z,A,B,C,D,E,F,G,H,I,J,K,L,M,N,P,Q,R,U,V,W,X,Y,Z,a0,a1,a2,a3,a4,a5,a6,a7,a8,a9,b0,b1,b2,b3]) S =
  ( some ([x0,x1,x8,.int .i64 0,x4,x5,x6,x7,dem x8,x9,b,a,c,d,f,g,i,k,l,m,n,o,p,q,r,s,t,u,w,x,y,z,A,B,C,D,E,F,G,H,I,J,K,L,M,N,P,Q,R,U,V,W,X,Y,Z,a0,a1,a2,a3,a4,a5,a6,a7,a8,a9,b0,b1,b2,dem x8],S)):=by
 kernel_rfl
theorem zA.r3 :jD zi ⟨false,false,false⟩ (zZ zi O) (reg Try.f49 3) (reg Try.f49 3).toList ([x0,x1,x2,x3,x4,x5,x6,x7,x8,x9,b,a,c,d,f,g,i,k,l,m,n,o,p,q,r,s,t,u,w,x,y,z,A,B,C,D,E,F,G,H,I,J,K,L,M,N,P,Q,R,U,V,W,X,Y,Z,a0,a1,a2,a3,a4,a5,a6,a7,a8,a9,b0,b1,b2,b3]) S =
  (zN (wI zi BinOp.add 3 (dem x4) (.int .i64 1) S) (fun v1 S1=>some ([x0,x1,x2,x3,v1,x5,x6,x7,x8,x9,b,a,c,d,dem x4,dem v1,i,k,l,m,n,o,p,q,r,s,t,u,w,x,y,z,A,B,C,D,E,F,G,H,I,J,K,L,M,N,P,Q,R,U,V,W,X,Y,Z,a0,a1,a2,a3,a4,a5,a6,a7,a8,a9,b0,b1,b2,b3],S1)) ()):=by
 kernel_rfl
theorem zA.r14 :jD zi ⟨false,false,false⟩ (zZ zi O) (reg Try.f49 14) (reg Try.f49 14).toList ([x0,x1,x2,x3,x4,x5,x6,x7,x8,x9,b,a,c,d,f,g,i,k,l,m,n,o,p,q,r,s,t,u,w,x,y,z,A,B,C,D,E,F,G,H,I,J,K,L,M,N,P,Q,R,U,V,W,X,Y,Z,a0,a1,a2,a3,a4,a5,a6,a7,a8,a9,b0,b1,b2,b3]) S =
  ( some ([x0,x1,Value.slice none 0 0,.int .i64 61,x4,x5,x6,x7,x8,x9,b,a,c,d,f,g,i,k,l,m,n,o,p,q,r,s,t,u,w,x,y,z,A,B,C,D,E,F,G,H,I,J,K,L,M,N,P,Q,R,U,V,W,X,Y,Z,a0,a1,a2,a3,a4,a5,a6,a7,a8,a9,b0,b1,b2,b3],S)):=by
 kernel_rfl
theorem zA.rs:type_of% (alG @zA.r0 (alG @zA.r1 (alG @zA.r2 (alG @zA.r4 (alG @zA.r5 (alG @zA.r6 (alG @zA.r7 (alG @zA.r8 (alG @zA.r10 (alG @zA.r9 (alG @zA.r11 (alG @zA.r12 (alG @zA.r13 (alG @zA.r3 (@zA.r14))))))))))))))):=alG @zA.r0 (alG @zA.r1 (alG @zA.r2 (alG @zA.r4 (alG @zA.r5 (alG @zA.r6 (alG @zA.r7 (alG @zA.r8 (alG @zA.r10 (alG @zA.r9 (alG @zA.r11 (alG @zA.r12 (alG @zA.r13 (alG @zA.r3 (@zA.r14))))))))))))))
theorem zA.runs {x0:Value} {S S1:zy} {e:AEx} {T:List Value} (h:zJ zi O false zA.code ([x0,zh,zh,zh,zh,zh,zh,zh,zh,zh,zh,zh,zh,zh,zh,zh,zh,zh,zh,zh,zh,zh,zh,zh,zh,zh,zh,zh,zh,zh,zh,zh,zh,zh,zh,zh,zh,zh,zh,zh,zh,zh,zh,zh,zh,zh,zh,zh,zh,zh,zh,zh,zh,zh,zh,zh,zh,zh,zh,zh,zh,zh,zh,zh,zh,zh,zh,zh,zh]) S=some (e,T,S1)) (he:e=.normal∨e=.ret)  (h0:wG (T.getD 2 zh)=true) (h1:wG (T.getD 3 zh)=true):zZ zi O 49 [x0] S=some (Value.tuple #[T.getD 2 zh,T.getD 3 zh],S1) :=
 yL rfl rfl Try.func49 (by decide) zA.body (by exact h) he ((ql ((show zQ zi T S1 Try.f49.results.toList=zQ zi T S1 [(ResultVar.tmp 2),(ResultVar.tmp 3)] from by kernel_rfl).trans (by simp only [zQ])) (by kernel_rfl) (by simp only [List.all_cons,List.all_nil,h0,h1,Bool.and_true])).trans rfl)
end Go.Proofs.Ytfjogganfjkckaa
namespace Go.Proofs.Ytfjogganfjkckaa
open Go.Abs
abbrev zL.id:FuncId:=33
noncomputable def zL.jT:Code:=(.seq (.region 4 (reg Try.f33 4) false) (.seq (.cond (.tmp 14) Code.skip (.exit 0)) (.seq (.block 1 (.seq (.region 5 (reg Try.f33 5) false) (.seq (.region 6 (reg Try.f33 6) true) (.cond (.tmp 24) (.seq (.region 7 (reg Try.f33 7) false) Code.ret) Code.skip)))) (.region 8 (reg Try.f33 8) false))))
noncomputable def zL.code:Code:=(.seq (.region 0 (reg Try.f33 0) false) (.seq (.seq (.region 1 (reg Try.f33 1) false) (.cond (.tmp 10) (.seq (.region 2 (reg Try.f33 2) false) Code.ret) Code.skip)) (.seq (.seq (.region 3 (reg Try.f33 3) false) (.block 0 (.loop zL.jT))) (.seq (.region 9 (reg Try.f33 9) false) Code.ret))))
theorem zL.body:Try.f33.body=some zL.code:=by kernel_rfl
theorem zL.eta {T:List Value} (h:T.length=26):T=[T.getD 0 zh,T.getD 1 zh,T.getD 2 zh,T.getD 3 zh,T.getD 4 zh,T.getD 5 zh,T.getD 6 zh,T.getD 7 zh,T.getD 8 zh,T.getD 9 zh,T.getD 10 zh,T.getD 11 zh,T.getD 12 zh,T.getD 13 zh,T.getD 14 zh,T.getD 15 zh,T.getD 16 zh,T.getD 17 zh,T.getD 18 zh,T.getD 19 zh,T.getD 20 zh,T.getD 21 zh,T.getD 22 zh,T.getD 23 zh,T.getD 24 zh,T.getD 25 zh]:=(qJ T 26 h).trans (by kernel_rfl)
variable (d u x y D w z A B C f g c b i j k l m n o p q r s t:Value) (S:zy)
theorem zL.r0 :jD zi ⟨false,false,false⟩ (zZ zi O) (reg Try.f33 0) (reg Try.f33 0).toList ([d,u,x,y,D,w,z,A,B,C,f,g,c,b,i,j,k,l,m,n,o,p,q,r,s,t]) S =
  ( some ([d,u,x,y,Value.bool false,w,z,A,B,C,f,g,c,b,i,j,k,l,m,n,o,p,q,r,s,t],S)):=by
 kernel_rfl
theorem zL.r1 :jD zi ⟨false,false,false⟩ (zZ zi O) (reg Try.f33 1) (reg Try.f33 1).toList ([d,u,x,y,D,w,z,A,B,C,f,g,c,b,i,j,k,l,m,n,o,p,q,r,s,t]) S =
  (zN (Zu zi 44 (dem d) S) (fun G E=>zN (Zu zi 44 (dem u) E) (fun F H=>zN (wI zi BinOp.neq 3 G F H) (fun R I=>some ([d,u,x,y,D,w,dem d,G,dem u,F,R,g,c,b,i,j,k,l,m,n,o,p,q,r,s,t],I)) ()) ()) ()):=by
 kernel_rfl
theorem zL.r2 :jD zi ⟨false,false,false⟩ (zZ zi O) (reg Try.f33 2) (reg Try.f33 2).toList ([d,u,x,y,D,w,z,A,B,C,f,g,c,b,i,j,k,l,m,n,o,p,q,r,s,t]) S =
  ( some ([d,u,x,y,Value.bool false,w,z,A,B,C,f,g,c,b,i,j,k,l,m,n,o,p,q,r,s,t],S)):=by
 kernel_rfl
theorem zL.r3 :jD zi ⟨false,false,false⟩ (zZ zi O) (reg Try.f33 3) (reg Try.f33 3).toList ([d,u,x,y,D,w,z,A,B,C,f,g,c,b,i,j,k,l,m,n,o,p,q,r,s,t]) S =
  (zN (Zu zi 44 (dem d) S) (fun G E=>some ([d,u,x,y,D,w,z,A,B,C,f,dem d,G,.int .i64 0,i,j,k,l,m,n,o,p,q,r,s,t],E)) ()):=by
 kernel_rfl
theorem zL.r4 :jD zi ⟨false,false,false⟩ (zZ zi O) (reg Try.f33 4) (reg Try.f33 4).toList ([d,u,x,y,D,w,z,A,B,C,f,g,c,b,i,j,k,l,m,n,o,p,q,r,s,t]) S =
  (zN (wI zi BinOp.lss 3 b c S) (fun J E=>some ([d,u,x,y,D,w,z,A,B,C,f,g,c,b,J,j,k,l,m,n,o,p,q,r,s,t],E)) ()):=by
 kernel_rfl
theorem zL.r5 :jD zi ⟨false,false,false⟩ (zZ zi O) (reg Try.f33 5) (reg Try.f33 5).toList ([d,u,x,y,D,w,z,A,B,C,f,g,c,b,i,j,k,l,m,n,o,p,q,r,s,t]) S =
  ( some ([d,u,x,y,D,b,z,A,B,C,f,g,c,dem b,i,dem b,k,l,m,n,o,p,q,r,s,t],S)):=by
 kernel_rfl
theorem zL.d6:qW zi (reg Try.f33 6)=true:=by kernel_rfl
theorem zL.ff6:fixed zi (reg Try.f33 6)=false:=by kernel_rfl
theorem zL.k6:checked zi (reg Try.f33 6)=[]:=by kernel_rfl
theorem zL.g6:again zi (reg Try.f33 6)=[]:=by kernel_rfl
theorem zL.r6 :zJ zi O false (.region 6 (reg Try.f33 6) true) ([d,u,x,y,D,w,z,A,B,C,f,g,c,b,i,j,k,l,m,n,o,p,q,r,s,t]) S =
  Ja (zN (jy zi 44 (dem d) (dem w) S) (fun K E=>zN (jh zi false 43 K E) (fun F H=>zN (jy zi 44 (dem u) (dem w) H) (fun L I=>zN (jh zi false 43 L I) (fun M N=>zN (wI zi BinOp.neq 43 F M N) (fun P Q=>some ([d,u,x,y,D,w,z,A,B,C,f,g,c,b,i,j,dem d,dem w,K,F,dem u,dem w,L,M,P,t],Q)) ()) ()) ()) ()) ()):=by
 rw [yF zL.d6 zL.ff6 zL.k6 zL.g6]
 refine congrArg Ja ?_
 refine tP Try.f33 6 0 (v:=d) ?_
 refine tP Try.f33 6 1 (v:=w) ?_
 refine tD Try.f33 6 2 (fun K E=>?_)
 refine tD Try.f33 6 3 (fun F H=>?_)
 refine tP Try.f33 6 4 (v:=u) ?_
 refine tP Try.f33 6 5 (v:=w) ?_
 refine tD Try.f33 6 6 (fun L I=>?_)
 refine tD Try.f33 6 7 (fun M N=>?_)
 refine tD Try.f33 6 8 (fun P Q=>?_)
 kernel_rfl
theorem zL.r7 :jD zi ⟨false,false,false⟩ (zZ zi O) (reg Try.f33 7) (reg Try.f33 7).toList ([d,u,x,y,D,w,z,A,B,C,f,g,c,b,i,j,k,l,m,n,o,p,q,r,s,t]) S =
  ( some ([d,u,x,y,Value.bool false,w,z,A,B,C,f,g,c,b,i,j,k,l,m,n,o,p,q,r,s,t],S)):=by
 kernel_rfl
theorem zL.r8 :jD zi ⟨false,false,false⟩ (zZ zi O) (reg Try.f33 8) (reg Try.f33 8).toList ([d,u,x,y,D,w,z,A,B,C,f,g,c,b,i,j,k,l,m,n,o,p,q,r,s,t]) S =
  (zN (wI zi BinOp.add 3 b (.int .i64 1) S) (fun J E=>some ([d,u,x,y,D,w,z,A,B,C,f,g,c,dem J,i,j,k,l,m,n,o,p,q,r,s,J],E)) ()):=by
 kernel_rfl
theorem zL.r9 :jD zi ⟨false,false,false⟩ (zZ zi O) (reg Try.f33 9) (reg Try.f33 9).toList ([d,u,x,y,D,w,z,A,B,C,f,g,c,b,i,j,k,l,m,n,o,p,q,r,s,t]) S =
  ( some ([d,u,x,y,Value.bool true,w,z,A,B,C,f,g,c,b,i,j,k,l,m,n,o,p,q,r,s,t],S)):=by
 kernel_rfl
theorem zL.rs:type_of% (alG @zL.r0 (alG @zL.r1 (alG @zL.r2 (alG @zL.r3 (alG @zL.r4 (alG @zL.r5 (alG @zL.r6 (alG @zL.r7 (alG @zL.r8 (@zL.r9)))))))))):=alG @zL.r0 (alG @zL.r1 (alG @zL.r2 (alG @zL.r3 (alG @zL.r4 (alG @zL.r5 (alG @zL.r6 (alG @zL.r7 (alG @zL.r8 (@zL.r9)))))))))
theorem zL.runs {d u:Value} {S E:zy} {e:AEx} {T:List Value} (h:zJ zi O false zL.code ([d,u,zh,zh,zh,zh,zh,zh,zh,zh,zh,zh,zh,zh,zh,zh,zh,zh,zh,zh,zh,zh,zh,zh,zh,zh]) S=some (e,T,E)) (he:e=.normal∨e=.ret):zZ zi O 33 [d,u] S=some (T.getD 4 zh,E) :=
 yL rfl rfl Try.func33 (by decide) zL.body (by exact h) he (yH (a:=T.getD 4 zh) ((show zQ zi T E Try.f33.results.toList=zQ zi T E [(ResultVar.tmp 4)] from by kernel_rfl).trans (by simp only [zQ])) (by kernel_rfl))
end Go.Proofs.Ytfjogganfjkckaa
namespace Go.Proofs.Ytfjogganfjkckaa
open Go.Abs
abbrev slices_Equal.id:FuncId:=75
noncomputable def slices_Equal.jT:Code:=(.seq (.region 4 (reg Try.f75 4) false) (.seq (.cond (.tmp 14) Code.skip (.exit 0)) (.seq (.block 1 (.seq (.region 5 (reg Try.f75 5) false) (.seq (.region 6 (reg Try.f75 6) true) (.cond (.tmp 24) (.seq (.region 7 (reg Try.f75 7) false) Code.ret) Code.skip)))) (.region 8 (reg Try.f75 8) false))))
noncomputable def slices_Equal.code:Code:=(.seq (.region 0 (reg Try.f75 0) false) (.seq (.seq (.region 1 (reg Try.f75 1) false) (.cond (.tmp 10) (.seq (.region 2 (reg Try.f75 2) false) Code.ret) Code.skip)) (.seq (.seq (.region 3 (reg Try.f75 3) false) (.block 0 (.loop slices_Equal.jT))) (.seq (.region 9 (reg Try.f75 9) false) Code.ret))))
theorem slices_Equal.body:Try.f75.body=some slices_Equal.code:=by kernel_rfl
theorem slices_Equal.eta {T:List Value} (h:T.length=26):T=[T.getD 0 zh,T.getD 1 zh,T.getD 2 zh,T.getD 3 zh,T.getD 4 zh,T.getD 5 zh,T.getD 6 zh,T.getD 7 zh,T.getD 8 zh,T.getD 9 zh,T.getD 10 zh,T.getD 11 zh,T.getD 12 zh,T.getD 13 zh,T.getD 14 zh,T.getD 15 zh,T.getD 16 zh,T.getD 17 zh,T.getD 18 zh,T.getD 19 zh,T.getD 20 zh,T.getD 21 zh,T.getD 22 zh,T.getD 23 zh,T.getD 24 zh,T.getD 25 zh]:=(qJ T 26 h).trans (by kernel_rfl)
variable (d u x y D w z A B C f g c b i j k l m n o p q r s t:Value) (S:zy)
theorem slices_Equal.r0 :jD zi ⟨false,false,false⟩ (zZ zi O) (reg Try.f75 0) (reg Try.f75 0).toList ([d,u,x,y,D,w,z,A,B,C,f,g,c,b,i,j,k,l,m,n,o,p,q,r,s,t]) S =
  ( some ([d,u,x,y,Value.bool false,w,z,A,B,C,f,g,c,b,i,j,k,l,m,n,o,p,q,r,s,t],S)):=by
 kernel_rfl
theorem slices_Equal.r1 :jD zi ⟨false,false,false⟩ (zZ zi O) (reg Try.f75 1) (reg Try.f75 1).toList ([d,u,x,y,D,w,z,A,B,C,f,g,c,b,i,j,k,l,m,n,o,p,q,r,s,t]) S =
  (zN (Zu zi 44 (dem d) S) (fun G E=>zN (Zu zi 44 (dem u) E) (fun F H=>zN (wI zi BinOp.neq 3 G F H) (fun R I=>some ([d,u,x,y,D,w,dem d,G,dem u,F,R,g,c,b,i,j,k,l,m,n,o,p,q,r,s,t],I)) ()) ()) ()):=by
 kernel_rfl
theorem slices_Equal.r2 :jD zi ⟨false,false,false⟩ (zZ zi O) (reg Try.f75 2) (reg Try.f75 2).toList ([d,u,x,y,D,w,z,A,B,C,f,g,c,b,i,j,k,l,m,n,o,p,q,r,s,t]) S =
  ( some ([d,u,x,y,Value.bool false,w,z,A,B,C,f,g,c,b,i,j,k,l,m,n,o,p,q,r,s,t],S)):=by
 kernel_rfl
theorem slices_Equal.r3 :jD zi ⟨false,false,false⟩ (zZ zi O) (reg Try.f75 3) (reg Try.f75 3).toList ([d,u,x,y,D,w,z,A,B,C,f,g,c,b,i,j,k,l,m,n,o,p,q,r,s,t]) S =
  (zN (Zu zi 44 (dem d) S) (fun G E=>some ([d,u,x,y,D,w,z,A,B,C,f,dem d,G,.int .i64 0,i,j,k,l,m,n,o,p,q,r,s,t],E)) ()):=by
 kernel_rfl
theorem slices_Equal.r4 :jD zi ⟨false,false,false⟩ (zZ zi O) (reg Try.f75 4) (reg Try.f75 4).toList ([d,u,x,y,D,w,z,A,B,C,f,g,c,b,i,j,k,l,m,n,o,p,q,r,s,t]) S =
  (zN (wI zi BinOp.lss 3 b c S) (fun J E=>some ([d,u,x,y,D,w,z,A,B,C,f,g,c,b,J,j,k,l,m,n,o,p,q,r,s,t],E)) ()):=by
 kernel_rfl
theorem slices_Equal.r5 :jD zi ⟨false,false,false⟩ (zZ zi O) (reg Try.f75 5) (reg Try.f75 5).toList ([d,u,x,y,D,w,z,A,B,C,f,g,c,b,i,j,k,l,m,n,o,p,q,r,s,t]) S =
  ( some ([d,u,x,y,D,b,z,A,B,C,f,g,c,dem b,i,dem b,k,l,m,n,o,p,q,r,s,t],S)):=by
 kernel_rfl
theorem slices_Equal.d6:qW zi (reg Try.f75 6)=true:=by kernel_rfl
theorem slices_Equal.ff6:fixed zi (reg Try.f75 6)=false:=by kernel_rfl
theorem slices_Equal.k6:checked zi (reg Try.f75 6)=[]:=by kernel_rfl
theorem slices_Equal.g6:again zi (reg Try.f75 6)=[]:=by kernel_rfl
theorem slices_Equal.r6 :zJ zi O false (.region 6 (reg Try.f75 6) true) ([d,u,x,y,D,w,z,A,B,C,f,g,c,b,i,j,k,l,m,n,o,p,q,r,s,t]) S =
  Ja (zN (jy zi 44 (dem d) (dem w) S) (fun K E=>zN (jh zi false 43 K E) (fun F H=>zN (jy zi 44 (dem u) (dem w) H) (fun L I=>zN (jh zi false 43 L I) (fun M N=>zN (wI zi BinOp.neq 43 F M N) (fun P Q=>some ([d,u,x,y,D,w,z,A,B,C,f,g,c,b,i,j,dem d,dem w,K,F,dem u,dem w,L,M,P,t],Q)) ()) ()) ()) ()) ()):=by
 rw [yF slices_Equal.d6 slices_Equal.ff6 slices_Equal.k6 slices_Equal.g6]
 refine congrArg Ja ?_
 refine tP Try.f75 6 0 (v:=d) ?_
 refine tP Try.f75 6 1 (v:=w) ?_
 refine tD Try.f75 6 2 (fun K E=>?_)
 refine tD Try.f75 6 3 (fun F H=>?_)
 refine tP Try.f75 6 4 (v:=u) ?_
 refine tP Try.f75 6 5 (v:=w) ?_
 refine tD Try.f75 6 6 (fun L I=>?_)
 refine tD Try.f75 6 7 (fun M N=>?_)
 refine tD Try.f75 6 8 (fun P Q=>?_)
 kernel_rfl
theorem slices_Equal.r7 :jD zi ⟨false,false,false⟩ (zZ zi O) (reg Try.f75 7) (reg Try.f75 7).toList ([d,u,x,y,D,w,z,A,B,C,f,g,c,b,i,j,k,l,m,n,o,p,q,r,s,t]) S =
  ( some ([d,u,x,y,Value.bool false,w,z,A,B,C,f,g,c,b,i,j,k,l,m,n,o,p,q,r,s,t],S)):=by
 kernel_rfl
theorem slices_Equal.r8 :jD zi ⟨false,false,false⟩ (zZ zi O) (reg Try.f75 8) (reg Try.f75 8).toList ([d,u,x,y,D,w,z,A,B,C,f,g,c,b,i,j,k,l,m,n,o,p,q,r,s,t]) S =
  (zN (wI zi BinOp.add 3 b (.int .i64 1) S) (fun J E=>some ([d,u,x,y,D,w,z,A,B,C,f,g,c,dem J,i,j,k,l,m,n,o,p,q,r,s,J],E)) ()):=by
 kernel_rfl
theorem slices_Equal.r9 :jD zi ⟨false,false,false⟩ (zZ zi O) (reg Try.f75 9) (reg Try.f75 9).toList ([d,u,x,y,D,w,z,A,B,C,f,g,c,b,i,j,k,l,m,n,o,p,q,r,s,t]) S =
  ( some ([d,u,x,y,Value.bool true,w,z,A,B,C,f,g,c,b,i,j,k,l,m,n,o,p,q,r,s,t],S)):=by
 kernel_rfl
theorem slices_Equal.rs:type_of% (alG @slices_Equal.r0 (alG @slices_Equal.r1 (alG @slices_Equal.r2 (alG @slices_Equal.r3 (alG @slices_Equal.r4 (alG @slices_Equal.r5 (alG @slices_Equal.r6 (alG @slices_Equal.r7 (alG @slices_Equal.r8 (@slices_Equal.r9)))))))))):=alG @slices_Equal.r0 (alG @slices_Equal.r1 (alG @slices_Equal.r2 (alG @slices_Equal.r3 (alG @slices_Equal.r4 (alG @slices_Equal.r5 (alG @slices_Equal.r6 (alG @slices_Equal.r7 (alG @slices_Equal.r8 (@slices_Equal.r9)))))))))
theorem slices_Equal.runs {d u:Value} {S E:zy} {e:AEx} {T:List Value} (h:zJ zi O false slices_Equal.code ([d,u,zh,zh,zh,zh,zh,zh,zh,zh,zh,zh,zh,zh,zh,zh,zh,zh,zh,zh,zh,zh,zh,zh,zh,zh]) S=some (e,T,E)) (he:e=.normal∨e=.ret):zZ zi O 75 [d,u] S=some (T.getD 4 zh,E) :=
 yL rfl rfl Try.func75 (by decide) slices_Equal.body (by exact h) he (yH (a:=T.getD 4 zh) ((show zQ zi T E Try.f75.results.toList=zQ zi T E [(ResultVar.tmp 4)] from by kernel_rfl).trans (by simp only [zQ])) (by kernel_rfl))
end Go.Proofs.Ytfjogganfjkckaa
namespace Go.Proofs.Ytfjogganfjkckaa
open Go.Abs
abbrev jO.id:FuncId:=70
noncomputable def jO.jT:Code:=(.seq (.region 3 (reg Try.f70 3) false) (.seq (.cond (.tmp 10) Code.skip (.exit 0)) (.seq (.block 1 (.seq (.region 4 (reg Try.f70 4) false) (.seq (.seq (.region 5 (reg Try.f70 5) false) (.cond (.tmp 16) (.seq (.region 6 (reg Try.f70 6) false) Code.ret) Code.skip)) (.region 7 (reg Try.f70 7) false)))) (.region 8 (reg Try.f70 8) false))))
noncomputable def jO.code:Code:=(.seq (.region 0 (reg Try.f70 0) false) (.seq (.region 1 (reg Try.f70 1) false) (.seq (.seq (.region 2 (reg Try.f70 2) false) (.block 0 (.loop jO.jT))) (.seq (.region 9 (reg Try.f70 9) false) Code.ret))))
theorem jO.body:Try.f70.body=some jO.code:=by kernel_rfl
theorem jO.eta {T:List Value} (h:T.length=24):T=[T.getD 0 zh,T.getD 1 zh,T.getD 2 zh,T.getD 3 zh,T.getD 4 zh,T.getD 5 zh,T.getD 6 zh,T.getD 7 zh,T.getD 8 zh,T.getD 9 zh,T.getD 10 zh,T.getD 11 zh,T.getD 12 zh,T.getD 13 zh,T.getD 14 zh,T.getD 15 zh,T.getD 16 zh,T.getD 17 zh,T.getD 18 zh,T.getD 19 zh,T.getD 20 zh,T.getD 21 zh,T.getD 22 zh,T.getD 23 zh]:=(qJ T 24 h).trans (by kernel_rfl)
variable (r v B s w t z x y u b c d f g i j k l m n o p q:Value) (S:zy)
theorem jO.r0 :jD zi ⟨false,false,false⟩ (zZ zi O) (reg Try.f70 0) (reg Try.f70 0).toList ([r,v,B,s,w,t,z,x,y,u,b,c,d,f,g,i,j,k,l,m,n,o,p,q]) S =
  ( some ([r,v,Value.bool false,s,w,t,z,x,y,u,b,c,d,f,g,i,j,k,l,m,n,o,p,q],S)):=by
 kernel_rfl
theorem jO.r1 :jD zi ⟨false,false,false⟩ (zZ zi O) (reg Try.f70 1) (reg Try.f70 1).toList ([r,v,B,s,w,t,z,x,y,u,b,c,d,f,g,i,j,k,l,m,n,o,p,q]) S =
  (zN (Zl zi 126 none S) (fun E A=>some ([r,v,B,E,w,t,dem E,x,y,u,b,c,d,f,g,i,j,k,l,m,n,o,p,q],A)) ()):=by
 kernel_rfl
theorem jO.r2 :jD zi ⟨false,false,false⟩ (zZ zi O) (reg Try.f70 2) (reg Try.f70 2).toList ([r,v,B,s,w,t,z,x,y,u,b,c,d,f,g,i,j,k,l,m,n,o,p,q]) S =
  (zN (Zu zi 44 (dem r) S) (fun C A=>some ([r,v,B,s,w,t,z,dem r,C,.int .i64 0,b,c,d,f,g,i,j,k,l,m,n,o,p,q],A)) ()):=by
 kernel_rfl
theorem jO.r3 :jD zi ⟨false,false,false⟩ (zZ zi O) (reg Try.f70 3) (reg Try.f70 3).toList ([r,v,B,s,w,t,z,x,y,u,b,c,d,f,g,i,j,k,l,m,n,o,p,q]) S =
  (zN (wI zi BinOp.lss 3 u y S) (fun E A=>some ([r,v,B,s,w,t,z,x,y,u,E,c,d,f,g,i,j,k,l,m,n,o,p,q],A)) ()):=by
 kernel_rfl
theorem jO.r4 :jD zi ⟨false,false,false⟩ (zZ zi O) (reg Try.f70 4) (reg Try.f70 4).toList ([r,v,B,s,w,t,z,x,y,u,b,c,d,f,g,i,j,k,l,m,n,o,p,q]) S =
  (zN (jy zi 44 x u S) (fun E A=>zN (jh zi false 43 E A) (fun C F=>zN (yI zi 43 F) (fun D G=>zN (wU zi 43 D (dem C) G) (fun H I=>some ([r,v,B,s,w,D,z,x,y,u,b,E,C,f,g,i,j,k,l,m,n,o,p,q],I)) ()) ()) ()) ()):=by
 kernel_rfl
theorem jO.r5 :jD zi ⟨false,false,false⟩ (zZ zi O) (reg Try.f70 5) (reg Try.f70 5).toList ([r,v,B,s,w,t,z,x,y,u,b,c,d,f,g,i,j,k,l,m,n,o,p,q]) S =
  (zN (zF zi 43 t 0 S) (fun C A=>zN (jh zi false 3 C A) (fun D F=>zN (vX zi false 126 (dem s) D false F) (fun H G=>some ([r,v,B,s,w,t,z,x,y,u,b,c,d,dem s,C,D,H,k,l,m,n,o,p,q],G)) ()) ()) ()):=by
 kernel_rfl
theorem jO.r6 :jD zi ⟨false,false,false⟩ (zZ zi O) (reg Try.f70 6) (reg Try.f70 6).toList ([r,v,B,s,w,t,z,x,y,u,b,c,d,f,g,i,j,k,l,m,n,o,p,q]) S =
  ( some ([r,v,Value.bool false,s,w,t,z,x,y,u,b,c,d,f,g,i,j,k,l,m,n,o,p,q],S)):=by
 kernel_rfl
theorem jO.r7 :jD zi ⟨false,false,false⟩ (zZ zi O) (reg Try.f70 7) (reg Try.f70 7).toList ([r,v,B,s,w,t,z,x,y,u,b,c,d,f,g,i,j,k,l,m,n,o,p,q]) S =
  (zN (zF zi 43 t 0 S) (fun C A=>zN (jh zi false 3 C A) (fun D F=>zN (qo zi 126 (dem s) D (Value.bool true) F) (fun H G=>some ([r,v,B,s,w,t,z,x,y,u,b,c,d,f,g,i,j,dem s,C,D,n,o,p,q],G)) ()) ()) ()):=by
 kernel_rfl
theorem jO.r8 :jD zi ⟨false,false,false⟩ (zZ zi O) (reg Try.f70 8) (reg Try.f70 8).toList ([r,v,B,s,w,t,z,x,y,u,b,c,d,f,g,i,j,k,l,m,n,o,p,q]) S =
  (zN (wI zi BinOp.add 3 u (.int .i64 1) S) (fun E A=>some ([r,v,B,s,w,t,z,x,y,dem E,b,c,d,f,g,i,j,k,l,m,E,o,p,q],A)) ()):=by
 kernel_rfl
theorem jO.r9 :jD zi ⟨false,false,false⟩ (zZ zi O) (reg Try.f70 9) (reg Try.f70 9).toList ([r,v,B,s,w,t,z,x,y,u,b,c,d,f,g,i,j,k,l,m,n,o,p,q]) S =
  (zN (Zu zi 44 (dem r) S) (fun C A=>zN (wI zi BinOp.leq 3 C (.int .i64 3) A) (fun D F=>some ([r,v,D,s,w,t,z,x,y,u,b,c,d,f,g,i,j,k,l,m,n,dem r,C,dem D],F)) ()) ()):=by
 kernel_rfl
theorem jO.rs:type_of% (alG @jO.r0 (alG @jO.r1 (alG @jO.r2 (alG @jO.r3 (alG @jO.r4 (alG @jO.r5 (alG @jO.r6 (alG @jO.r7 (alG @jO.r8 (@jO.r9)))))))))):=alG @jO.r0 (alG @jO.r1 (alG @jO.r2 (alG @jO.r3 (alG @jO.r4 (alG @jO.r5 (alG @jO.r6 (alG @jO.r7 (alG @jO.r8 (@jO.r9)))))))))
theorem jO.runs {r:Value} {S A:zy} {e:AEx} {T:List Value} (h:zJ zi O false jO.code ([r,zh,zh,zh,zh,zh,zh,zh,zh,zh,zh,zh,zh,zh,zh,zh,zh,zh,zh,zh,zh,zh,zh,zh]) zy.empty=some (e,T,A)) (he:e=.normal∨e=.ret) (hca:[r].all (jW 16)=true) (hcv:jW 16 (T.getD 2 zh)=true):zZ zi O 70 [r] S=some (T.getD 2 zh,S) :=
 yC rfl rfl Try.func70 (by decide) jO.body (by exact h) he (yH (a:=T.getD 2 zh) ((show zQ zi T A Try.f70.results.toList=zQ zi T A [(ResultVar.tmp 2)] from by kernel_rfl).trans (by simp only [zQ])) (by kernel_rfl)) hca hcv
end Go.Proofs.Ytfjogganfjkckaa
namespace Go.Proofs.Ytfjogganfjkckaa
open Go.Abs
abbrev wE.id:FuncId:=62
noncomputable def wE.jT:Code:=(.seq (.region 5 (reg Try.f62 5) false) (.seq (.cond (.tmp 23) Code.skip (.exit 0)) (.seq (.block 1 (.seq (.region 6 (reg Try.f62 6) false) (.seq (.region 7 (reg Try.f62 7) false) (.seq (.seq (.region 8 (reg Try.f62 8) false) (.cond (.tmp 32) (.seq (.region 9 (reg Try.f62 9) false) Code.ret) Code.skip)) (.region 10 (reg Try.f62 10) false))))) (.region 11 (reg Try.f62 11) false))))
noncomputable def wE.code:Code:=(.seq (.region 0 (reg Try.f62 0) false) (.seq (.seq (.region 1 (reg Try.f62 1) false) (.cond (.tmp 12) (.seq (.region 2 (reg Try.f62 2) false) Code.ret) Code.skip)) (.seq (.region 3 (reg Try.f62 3) false) (.seq (.seq (.region 4 (reg Try.f62 4) false) (.block 0 (.loop wE.jT))) (.seq (.region 12 (reg Try.f62 12) false) Code.ret)))))
theorem wE.body:Try.f62.body=some wE.code:=by kernel_rfl
theorem wE.eta {T:List Value} (h:T.length=39):T=[T.getD 0 zh,T.getD 1 zh,T.getD 2 zh,T.getD 3 zh,T.getD 4 zh,T.getD 5 zh,T.getD 6 zh,T.getD 7 zh,T.getD 8 zh,T.getD 9 zh,T.getD 10 zh,T.getD 11 zh,T.getD 12 zh,T.getD 13 zh,T.getD 14 zh,T.getD 15 zh,T.getD 16 zh,T.getD 17 zh,T.getD 18 zh,T.getD 19 zh,T.getD 20 zh,T.getD 21 zh,T.getD 22 zh,T.getD 23 zh,T.getD 24 zh,T.getD 25 zh,T.getD 26 zh,T.getD 27 zh,T.getD 28 zh,T.getD 29 zh,T.getD 30 zh,T.getD 31 zh,T.getD 32 zh,T.getD 33 zh,T.getD 34 zh,T.getD 35 zh,T.getD 36 zh,T.getD 37 zh,T.getD 38 zh]:=(qJ T 39 h).trans (by kernel_rfl)
variable (F J N P H M K L I G d f g i j k l m n o b c a p q r s t u v w x y z A B C D E:Value) (S:zy)
theorem wE.r0 :jD zi ⟨false,false,false⟩ (zZ zi O) (reg Try.f62 0) (reg Try.f62 0).toList ([F,J,N,P,H,M,K,L,I,G,d,f,g,i,j,k,l,m,n,o,b,c,a,p,q,r,s,t,u,v,w,x,y,z,A,B,C,D,E]) S =
  ( some ([F,J,Value.slice none 0 0,.int .i64 0,H,M,K,L,I,G,d,f,g,i,j,k,l,m,n,o,b,c,a,p,q,r,s,t,u,v,w,x,y,z,A,B,C,D,E],S)):=by
 kernel_rfl
theorem wE.r1 :jD zi ⟨false,false,false⟩ (zZ zi O) (reg Try.f62 1) (reg Try.f62 1).toList ([F,J,N,P,H,M,K,L,I,G,d,f,g,i,j,k,l,m,n,o,b,c,a,p,q,r,s,t,u,v,w,x,y,z,A,B,C,D,E]) S =
  (zN ((zZ zi O) 70 [(dem (dem F))] S) (fun R Q=>zN (aUn zi UnOp.not R Q) (fun U X=>some ([F,J,N,P,H,M,K,L,I,G,dem F,R,U,i,j,k,l,m,n,o,b,c,a,p,q,r,s,t,u,v,w,x,y,z,A,B,C,D,E],X)) ()) ()):=by
 kernel_rfl
theorem wE.r2 :jD zi ⟨false,false,false⟩ (zZ zi O) (reg Try.f62 2) (reg Try.f62 2).toList ([F,J,N,P,H,M,K,L,I,G,d,f,g,i,j,k,l,m,n,o,b,c,a,p,q,r,s,t,u,v,w,x,y,z,A,B,C,D,E]) S =
  ( some ([F,J,Value.slice none 0 0,.int .i64 61,H,M,K,L,I,G,d,f,g,i,j,k,l,m,n,o,b,c,a,p,q,r,s,t,u,v,w,x,y,z,A,B,C,D,E],S)):=by
 kernel_rfl
theorem wE.r3 :jD zi ⟨false,false,false⟩ (zZ zi O) (reg Try.f62 3) (reg Try.f62 3).toList ([F,J,N,P,H,M,K,L,I,G,d,f,g,i,j,k,l,m,n,o,b,c,a,p,q,r,s,t,u,v,w,x,y,z,A,B,C,D,E]) S =
  (zN (Zu zi 44 (dem F) S) (fun R Q=>zN (jK zi 24 1 [(0,R)] Q) (fun U X=>zN ((zZ zi O) 63 [(dem U)] X) (fun W Y=>zN (jc W 0 Y) (fun v5 Z=>zN (jc (zV 0 W) 1 Z) (fun v6 S5=>some ([F,J,N,P,v5,v6,K,L,I,G,d,f,g,zV 1 (zV 0 W),dem F,R,U,dem W,dem v5,dem v6,b,c,a,p,q,r,s,t,u,v,w,x,y,z,A,B,C,D,E],S5)) ()) ()) ()) ()) ()):=by
 kernel_rfl
theorem wE.r4 :jD zi ⟨false,false,false⟩ (zZ zi O) (reg Try.f62 4) (reg Try.f62 4).toList ([F,J,N,P,H,M,K,L,I,G,d,f,g,i,j,k,l,m,n,o,b,c,a,p,q,r,s,t,u,v,w,x,y,z,A,B,C,D,E]) S =
  (zN (Zu zi 44 (dem F) S) (fun R Q=>some ([F,J,N,P,H,M,K,L,I,G,d,f,g,i,j,k,l,m,n,o,dem F,R,.int .i64 0,p,q,r,s,t,u,v,w,x,y,z,A,B,C,D,E],Q)) ()):=by
 kernel_rfl
theorem wE.r5 :jD zi ⟨false,false,false⟩ (zZ zi O) (reg Try.f62 5) (reg Try.f62 5).toList ([F,J,N,P,H,M,K,L,I,G,d,f,g,i,j,k,l,m,n,o,b,c,a,p,q,r,s,t,u,v,w,x,y,z,A,B,C,D,E]) S =
  (zN (wI zi BinOp.lss 3 a c S) (fun V Q=>some ([F,J,N,P,H,M,K,L,I,G,d,f,g,i,j,k,l,m,n,o,b,c,a,V,q,r,s,t,u,v,w,x,y,z,A,B,C,D,E],Q)) ()):=by
 kernel_rfl
theorem wE.r6 :jD zi ⟨false,false,false⟩ (zZ zi O) (reg Try.f62 6) (reg Try.f62 6).toList ([F,J,N,P,H,M,K,L,I,G,d,f,g,i,j,k,l,m,n,o,b,c,a,p,q,r,s,t,u,v,w,x,y,z,A,B,C,D,E]) S =
  (zN (jy zi 44 b a S) (fun V Q=>zN (jh zi false 43 V Q) (fun R X=>zN (yI zi 43 X) (fun U Y=>zN (wU zi 43 U (dem R) Y) (fun W Z=>some ([F,J,N,P,H,M,K,U,I,G,d,f,g,i,j,k,l,m,n,o,b,c,a,p,V,R,s,t,u,v,w,x,y,z,A,B,C,D,E],Z)) ()) ()) ()) ()):=by
 kernel_rfl
theorem wE.r7 :jD zi ⟨false,false,false⟩ (zZ zi O) (reg Try.f62 7) (reg Try.f62 7).toList ([F,J,N,P,H,M,K,L,I,G,d,f,g,i,j,k,l,m,n,o,b,c,a,p,q,r,s,t,u,v,w,x,y,z,A,B,C,D,E]) S =
  (zN (jh zi false 43 L S) (fun V Q=>zN ((zZ zi O) 71 [(dem V)] Q) (fun R X=>zN (jc R 0 X) (fun W Y=>zN (jc (zV 0 R) 1 Y) (fun v4 Z=>some ([F,J,N,P,H,M,K,L,W,v4,d,f,g,i,j,k,l,m,n,o,b,c,a,p,q,r,zV 1 (zV 0 R),V,dem R,dem W,dem v4,x,y,z,A,B,C,D,E],Z)) ()) ()) ()) ()):=by
 kernel_rfl
theorem wE.r8 :jD zi ⟨false,false,false⟩ (zZ zi O) (reg Try.f62 8) (reg Try.f62 8).toList ([F,J,N,P,H,M,K,L,I,G,d,f,g,i,j,k,l,m,n,o,b,c,a,p,q,r,s,t,u,v,w,x,y,z,A,B,C,D,E]) S =
  (zN (wI zi BinOp.neq 64 (dem G) (.int .i64 0) S) (fun R Q=>some ([F,J,N,P,H,M,K,L,I,G,d,f,g,i,j,k,l,m,n,o,b,c,a,p,q,r,s,t,u,v,w,dem G,R,z,A,B,C,D,E],Q)) ()):=by
 kernel_rfl
theorem wE.r9 :jD zi ⟨false,false,false⟩ (zZ zi O) (reg Try.f62 9) (reg Try.f62 9).toList ([F,J,N,P,H,M,K,L,I,G,d,f,g,i,j,k,l,m,n,o,b,c,a,p,q,r,s,t,u,v,w,x,y,z,A,B,C,D,E]) S =
  ( some ([F,J,Value.slice none 0 0,G,H,M,K,L,I,dem G,d,f,g,i,j,k,l,m,n,o,b,c,a,p,q,r,s,t,u,v,w,x,y,dem G,A,B,C,D,E],S)):=by
 kernel_rfl
theorem wE.r10 :jD zi ⟨false,false,false⟩ (zZ zi O) (reg Try.f62 10) (reg Try.f62 10).toList ([F,J,N,P,H,M,K,L,I,G,d,f,g,i,j,k,l,m,n,o,b,c,a,p,q,r,s,t,u,v,w,x,y,z,A,B,C,D,E]) S =
  (zN (wR zi 33 33 H (dem I) S) (fun U Q=>some ([F,J,N,P,U,M,K,L,I,G,d,f,g,i,j,k,l,m,n,o,b,c,a,p,q,r,s,t,u,v,w,x,y,z,dem H,dem I,dem U,D,E],Q)) ()):=by
 kernel_rfl
theorem wE.r11 :jD zi ⟨false,false,false⟩ (zZ zi O) (reg Try.f62 11) (reg Try.f62 11).toList ([F,J,N,P,H,M,K,L,I,G,d,f,g,i,j,k,l,m,n,o,b,c,a,p,q,r,s,t,u,v,w,x,y,z,A,B,C,D,E]) S =
  (zN (wI zi BinOp.add 3 a (.int .i64 1) S) (fun V Q=>some ([F,J,N,P,H,M,K,L,I,G,d,f,g,i,j,k,l,m,n,o,b,c,dem V,p,q,r,s,t,u,v,w,x,y,z,A,B,C,V,E],Q)) ()):=by
 kernel_rfl
theorem wE.r12 :jD zi ⟨false,false,false⟩ (zZ zi O) (reg Try.f62 12) (reg Try.f62 12).toList ([F,J,N,P,H,M,K,L,I,G,d,f,g,i,j,k,l,m,n,o,b,c,a,p,q,r,s,t,u,v,w,x,y,z,A,B,C,D,E]) S =
  ( some ([F,J,H,.int .i64 0,dem H,M,K,L,I,G,d,f,g,i,j,k,l,m,n,o,b,c,a,p,q,r,s,t,u,v,w,x,y,z,A,B,C,D,dem H],S)):=by
 kernel_rfl
theorem wE.rs:type_of% (alG @wE.r0 (alG @wE.r1 (alG @wE.r2 (alG @wE.r3 (alG @wE.r4 (alG @wE.r5 (alG @wE.r6 (alG @wE.r7 (alG @wE.r8 (alG @wE.r9 (alG @wE.r10 (alG @wE.r11 (@wE.r12))))))))))))):=alG @wE.r0 (alG @wE.r1 (alG @wE.r2 (alG @wE.r3 (alG @wE.r4 (alG @wE.r5 (alG @wE.r6 (alG @wE.r7 (alG @wE.r8 (alG @wE.r9 (alG @wE.r10 (alG @wE.r11 (@wE.r12))))))))))))
theorem wE.runs {F:Value} {S Q:zy} {e:AEx} {T:List Value} (h:zJ zi O false wE.code ([F,zh,zh,zh,zh,zh,zh,zh,zh,zh,zh,zh,zh,zh,zh,zh,zh,zh,zh,zh,zh,zh,zh,zh,zh,zh,zh,zh,zh,zh,zh,zh,zh,zh,zh,zh,zh,zh,zh]) zy.empty=some (e,T,Q)) (he:e=.normal∨e=.ret)  (h0:wG (T.getD 2 zh)=true) (h1:wG (T.getD 3 zh)=true) (hca:[F].all (jW 16)=true) (hcv:jW 16 (Value.tuple #[T.getD 2 zh,T.getD 3 zh])=true):zZ zi O 62 [F] S=some (Value.tuple #[T.getD 2 zh,T.getD 3 zh],S) :=
 yC rfl rfl Try.func62 (by decide) wE.body (by exact h) he ((ql ((show zQ zi T Q Try.f62.results.toList=zQ zi T Q [(ResultVar.tmp 2),(ResultVar.tmp 3)] from by kernel_rfl).trans (by simp only [zQ])) (by kernel_rfl) (by simp only [List.all_cons,List.all_nil,h0,h1,Bool.and_true])).trans rfl) hca hcv
end Go.Proofs.Ytfjogganfjkckaa
namespace Go.Proofs.Ytfjogganfjkckaa
open Go.Abs
abbrev zC.id:FuncId:=50
noncomputable def zC.jT:Code:=(.seq (.region 10 (reg Try.f50 10) false) (.seq (.cond (.tmp 30) Code.skip (.exit 2)) (.seq (.block 3 (.seq (.region 11 (reg Try.f50 11) false) (.seq (.region 12 (reg Try.f50 12) false) (.cond (.tmp 37) (.seq (.region 13 (reg Try.f50 13) false) Code.ret) Code.skip)))) (.region 14 (reg Try.f50 14) false))))
noncomputable def zC.kZ:Code:=(.seq (.region 5 (reg Try.f50 5) false) (.seq (.cond (.tmp 18) Code.skip (.exit 0)) (.seq (.block 1 (.seq (.region 6 (reg Try.f50 6) false) (.seq (.seq (.region 7 (reg Try.f50 7) false) (.cond (.tmp 24) (.seq (.region 8 (reg Try.f50 8) false) Code.ret) Code.skip)) (.seq (.seq (.region 9 (reg Try.f50 9) false) (.block 2 (.loop zC.jT))) (.region 15 (reg Try.f50 15) false))))) (.region 16 (reg Try.f50 16) false))))
noncomputable def zC.code:Code:=(.seq (.region 0 (reg Try.f50 0) false) (.seq (.seq (.region 1 (reg Try.f50 1) false) (.cond (.tmp 11) (.seq (.region 2 (reg Try.f50 2) false) Code.ret) Code.skip)) (.seq (.region 3 (reg Try.f50 3) false) (.seq (.seq (.region 4 (reg Try.f50 4) false) (.block 0 (.loop zC.kZ))) (.seq (.region 17 (reg Try.f50 17) false) Code.ret)))))
theorem zC.body:Try.f50.body=some zC.code:=by kernel_rfl
theorem zC.eta {T:List Value} (h:T.length=51):T=[T.getD 0 zh,T.getD 1 zh,T.getD 2 zh,T.getD 3 zh,T.getD 4 zh,T.getD 5 zh,T.getD 6 zh,T.getD 7 zh,T.getD 8 zh,T.getD 9 zh,T.getD 10 zh,T.getD 11 zh,T.getD 12 zh,T.getD 13 zh,T.getD 14 zh,T.getD 15 zh,T.getD 16 zh,T.getD 17 zh,T.getD 18 zh,T.getD 19 zh,T.getD 20 zh,T.getD 21 zh,T.getD 22 zh,T.getD 23 zh,T.getD 24 zh,T.getD 25 zh,T.getD 26 zh,T.getD 27 zh,T.getD 28 zh,T.getD 29 zh,T.getD 30 zh,T.getD 31 zh,T.getD 32 zh,T.getD 33 zh,T.getD 34 zh,T.getD 35 zh,T.getD 36 zh,T.getD 37 zh,T.getD 38 zh,T.getD 39 zh,T.getD 40 zh,T.getD 41 zh,T.getD 42 zh,T.getD 43 zh,T.getD 44 zh,T.getD 45 zh,T.getD 46 zh,T.getD 47 zh,T.getD 48 zh,T.getD 49 zh,T.getD 50 zh]:=(qJ T 51 h).trans (by kernel_rfl)
variable (U Y x2 x3 W X V Z x8 x9 i j k l m c d a n o p q r s t u v f g b w x y z A B C D E F G H I J K L M N P Q R:Value) (S:zy)
theorem zC.r0 :jD zi ⟨false,false,false⟩ (zZ zi O) (reg Try.f50 0) (reg Try.f50 0).toList ([U,Y,x2,x3,W,X,V,Z,x8,x9,i,j,k,l,m,c,d,a,n,o,p,q,r,s,t,u,v,f,g,b,w,x,y,z,A,B,C,D,E,F,G,H,I,J,K,L,M,N,P,Q,R]) S =
  ( some ([U,Y,Value.slice none 0 0,.int .i64 0,W,X,V,Z,x8,x9,i,j,k,l,m,c,d,a,n,o,p,q,r,s,t,u,v,f,g,b,w,x,y,z,A,B,C,D,E,F,G,H,I,J,K,L,M,N,P,Q,R],S)):=by
 kernel_rfl
theorem zC.r1 :jD zi ⟨false,false,false⟩ (zZ zi O) (reg Try.f50 1) (reg Try.f50 1).toList ([U,Y,x2,x3,W,X,V,Z,x8,x9,i,j,k,l,m,c,d,a,n,o,p,q,r,s,t,u,v,f,g,b,w,x,y,z,A,B,C,D,E,F,G,H,I,J,K,L,M,N,P,Q,R]) S =
  (zN (Zu zi 44 (dem U) S) (fun v1 S1=>zN (wI zi BinOp.gtr 3 v1 (.int .i64 3) S1) (fun v2 S2=>some ([U,Y,x2,x3,W,X,V,Z,x8,dem U,v1,v2,k,l,m,c,d,a,n,o,p,q,r,s,t,u,v,f,g,b,w,x,y,z,A,B,C,D,E,F,G,H,I,J,K,L,M,N,P,Q,R],S2)) ()) ()):=by
 kernel_rfl
theorem zC.r2 :jD zi ⟨false,false,false⟩ (zZ zi O) (reg Try.f50 2) (reg Try.f50 2).toList ([U,Y,x2,x3,W,X,V,Z,x8,x9,i,j,k,l,m,c,d,a,n,o,p,q,r,s,t,u,v,f,g,b,w,x,y,z,A,B,C,D,E,F,G,H,I,J,K,L,M,N,P,Q,R]) S =
  ( some ([U,Y,Value.slice none 0 0,.int .i64 61,W,X,V,Z,x8,x9,i,j,k,l,m,c,d,a,n,o,p,q,r,s,t,u,v,f,g,b,w,x,y,z,A,B,C,D,E,F,G,H,I,J,K,L,M,N,P,Q,R],S)):=by
 kernel_rfl
theorem zC.r3 :jD zi ⟨false,false,false⟩ (zZ zi O) (reg Try.f50 3) (reg Try.f50 3).toList ([U,Y,x2,x3,W,X,V,Z,x8,x9,i,j,k,l,m,c,d,a,n,o,p,q,r,s,t,u,v,f,g,b,w,x,y,z,A,B,C,D,E,F,G,H,I,J,K,L,M,N,P,Q,R]) S =
  (zN (Zu zi 44 (dem U) S) (fun v1 S1=>zN (jK zi 24 1 [(0,v1)] S1) (fun v2 S2=>some ([U,Y,x2,x3,v2,X,V,Z,x8,x9,i,j,dem U,v1,dem v2,c,d,a,n,o,p,q,r,s,t,u,v,f,g,b,w,x,y,z,A,B,C,D,E,F,G,H,I,J,K,L,M,N,P,Q,R],S2)) ()) ()):=by
 kernel_rfl
theorem zC.r4 :jD zi ⟨false,false,false⟩ (zZ zi O) (reg Try.f50 4) (reg Try.f50 4).toList ([U,Y,x2,x3,W,X,V,Z,x8,x9,i,j,k,l,m,c,d,a,n,o,p,q,r,s,t,u,v,f,g,b,w,x,y,z,A,B,C,D,E,F,G,H,I,J,K,L,M,N,P,Q,R]) S =
  (zN (Zu zi 44 (dem U) S) (fun v1 S1=>some ([U,Y,x2,x3,W,X,V,Z,x8,x9,i,j,k,l,m,dem U,v1,.int .i64 0,n,o,p,q,r,s,t,u,v,f,g,b,w,x,y,z,A,B,C,D,E,F,G,H,I,J,K,L,M,N,P,Q,R],S1)) ()):=by
 kernel_rfl
theorem zC.r5 :jD zi ⟨false,false,false⟩ (zZ zi O) (reg Try.f50 5) (reg Try.f50 5).toList ([U,Y,x2,x3,W,X,V,Z,x8,x9,i,j,k,l,m,c,d,a,n,o,p,q,r,s,t,u,v,f,g,b,w,x,y,z,A,B,C,D,E,F,G,H,I,J,K,L,M,N,P,Q,R]) S =
  (zN (wI zi BinOp.lss 3 a d S) (fun v0 S1=>some ([U,Y,x2,x3,W,X,V,Z,x8,x9,i,j,k,l,m,c,d,a,v0,o,p,q,r,s,t,u,v,f,g,b,w,x,y,z,A,B,C,D,E,F,G,H,I,J,K,L,M,N,P,Q,R],S1)) ()):=by
 kernel_rfl
theorem zC.r6 :jD zi ⟨false,false,false⟩ (zZ zi O) (reg Try.f50 6) (reg Try.f50 6).toList ([U,Y,x2,x3,W,X,V,Z,x8,x9,i,j,k,l,m,c,d,a,n,o,p,q,r,s,t,u,v,f,g,b,w,x,y,z,A,B,C,D,E,F,G,H,I,J,K,L,M,N,P,Q,R]) S =
  (zN (jy zi 44 c (dem a) S) (fun v1 S1=>zN (jh zi false 43 v1 S1) (fun v2 S2=>zN (yI zi 43 S2) (fun v3 S3=>zN (wU zi 43 v3 (dem v2) S3) (fun v5 S4=>some ([U,Y,x2,x3,W,a,v3,Z,x8,x9,i,j,k,l,m,c,d,dem a,n,dem a,v1,v2,r,s,t,u,v,f,g,b,w,x,y,z,A,B,C,D,E,F,G,H,I,J,K,L,M,N,P,Q,R],S4)) ()) ()) ()) ()):=by
 kernel_rfl
theorem zC.r7 :jD zi ⟨false,false,false⟩ (zZ zi O) (reg Try.f50 7) (reg Try.f50 7).toList ([U,Y,x2,x3,W,X,V,Z,x8,x9,i,j,k,l,m,c,d,a,n,o,p,q,r,s,t,u,v,f,g,b,w,x,y,z,A,B,C,D,E,F,G,H,I,J,K,L,M,N,P,Q,R]) S =
  (zN (jh zi false 43 V S) (fun v0 S1=>zN ((zZ zi O) 48 [(dem v0)] S1) (fun v1 S2=>zN (aUn zi UnOp.not v1 S2) (fun v2 S3=>some ([U,Y,x2,x3,W,X,V,Z,x8,x9,i,j,k,l,m,c,d,a,n,o,p,q,v0,v1,v2,u,v,f,g,b,w,x,y,z,A,B,C,D,E,F,G,H,I,J,K,L,M,N,P,Q,R],S3)) ()) ()) ()):=by
 kernel_rfl
theorem zC.r8 :jD zi ⟨false,false,false⟩ (zZ zi O) (reg Try.f50 8) (reg Try.f50 8).toList ([U,Y,x2,x3,W,X,V,Z,x8,x9,i,j,k,l,m,c,d,a,n,o,p,q,r,s,t,u,v,f,g,b,w,x,y,z,A,B,C,D,E,F,G,H,I,J,K,L,M,N,P,Q,R]) S =
  ( some ([U,Y,Value.slice none 0 0,.int .i64 61,W,X,V,Z,x8,x9,i,j,k,l,m,c,d,a,n,o,p,q,r,s,t,u,v,f,g,b,w,x,y,z,A,B,C,D,E,F,G,H,I,J,K,L,M,N,P,Q,R],S)):=by
 kernel_rfl
theorem zC.r9 :jD zi ⟨false,false,false⟩ (zZ zi O) (reg Try.f50 9) (reg Try.f50 9).toList ([U,Y,x2,x3,W,X,V,Z,x8,x9,i,j,k,l,m,c,d,a,n,o,p,q,r,s,t,u,v,f,g,b,w,x,y,z,A,B,C,D,E,F,G,H,I,J,K,L,M,N,P,Q,R]) S =
  (zN (ZU zi false 44 (dem U) none (some (dem X)) S) (fun v2 S1=>zN (Zu zi 44 v2 S1) (fun v3 S2=>some ([U,Y,x2,x3,W,X,V,Z,x8,x9,i,j,k,l,m,c,d,a,n,o,p,q,r,s,t,dem U,dem X,v2,v3,.int .i64 0,w,x,y,z,A,B,C,D,E,F,G,H,I,J,K,L,M,N,P,Q,R],S2)) ()) ()):=by
 kernel_rfl
theorem zC.r10 :jD zi ⟨false,false,false⟩ (zZ zi O) (reg Try.f50 10) (reg Try.f50 10).toList ([U,Y,x2,x3,W,X,V,Z,x8,x9,i,j,k,l,m,c,d,a,n,o,p,q,r,s,t,u,v,f,g,b,w,x,y,z,A,B,C,D,E,F,G,H,I,J,K,L,M,N,P,Q,R]) S =
  (zN (wI zi BinOp.lss 3 b g S) (fun v0 S1=>some ([U,Y,x2,x3,W,X,V,Z,x8,x9,i,j,k,l,m,c,d,a,n,o,p,q,r,s,t,u,v,f,g,b,v0,x,y,z,A,B,C,D,E,F,G,H,I,J,K,L,M,N,P,Q,R],S1)) ()):=by
 kernel_rfl
theorem zC.r11 :jD zi ⟨false,false,false⟩ (zZ zi O) (reg Try.f50 11) (reg Try.f50 11).toList ([U,Y,x2,x3,W,X,V,Z,x8,x9,i,j,k,l,m,c,d,a,n,o,p,q,r,s,t,u,v,f,g,b,w,x,y,z,A,B,C,D,E,F,G,H,I,J,K,L,M,N,P,Q,R]) S =
  (zN (jy zi 44 f b S) (fun v0 S1=>zN (jh zi false 43 v0 S1) (fun v1 S2=>zN (yI zi 43 S2) (fun v2 S3=>zN (wU zi 43 v2 (dem v1) S3) (fun v3 S4=>some ([U,Y,x2,x3,W,X,V,Z,v2,x9,i,j,k,l,m,c,d,a,n,o,p,q,r,s,t,u,v,f,g,b,w,v0,v1,z,A,B,C,D,E,F,G,H,I,J,K,L,M,N,P,Q,R],S4)) ()) ()) ()) ()):=by
 kernel_rfl
theorem zC.r12 :jD zi ⟨false,false,false⟩ (zZ zi O) (reg Try.f50 12) (reg Try.f50 12).toList ([U,Y,x2,x3,W,X,V,Z,x8,x9,i,j,k,l,m,c,d,a,n,o,p,q,r,s,t,u,v,f,g,b,w,x,y,z,A,B,C,D,E,F,G,H,I,J,K,L,M,N,P,Q,R]) S =
  (zN (zF zi 43 x8 0 S) (fun v0 S1=>zN (jh zi false 3 v0 S1) (fun v1 S2=>zN (zF zi 43 V 0 S2) (fun v2 S3=>zN (jh zi false 3 v2 S3) (fun v3 S4=>zN (wI zi BinOp.eql 3 v1 v3 S4) (fun v4 S5=>some ([U,Y,x2,x3,W,X,V,Z,x8,x9,i,j,k,l,m,c,d,a,n,o,p,q,r,s,t,u,v,f,g,b,w,x,y,v0,v1,v2,v3,v4,E,F,G,H,I,J,K,L,M,N,P,Q,R],S5)) ()) ()) ()) ()) ()):=by
 kernel_rfl
theorem zC.r13 :jD zi ⟨false,false,false⟩ (zZ zi O) (reg Try.f50 13) (reg Try.f50 13).toList ([U,Y,x2,x3,W,X,V,Z,x8,x9,i,j,k,l,m,c,d,a,n,o,p,q,r,s,t,u,v,f,g,b,w,x,y,z,A,B,C,D,E,F,G,H,I,J,K,L,M,N,P,Q,R]) S =
  ( some ([U,Y,Value.slice none 0 0,.int .i64 61,W,X,V,Z,x8,x9,i,j,k,l,m,c,d,a,n,o,p,q,r,s,t,u,v,f,g,b,w,x,y,z,A,B,C,D,E,F,G,H,I,J,K,L,M,N,P,Q,R],S)):=by
 kernel_rfl
theorem zC.r14 :jD zi ⟨false,false,false⟩ (zZ zi O) (reg Try.f50 14) (reg Try.f50 14).toList ([U,Y,x2,x3,W,X,V,Z,x8,x9,i,j,k,l,m,c,d,a,n,o,p,q,r,s,t,u,v,f,g,b,w,x,y,z,A,B,C,D,E,F,G,H,I,J,K,L,M,N,P,Q,R]) S =
  (zN (wI zi BinOp.add 3 b (.int .i64 1) S) (fun v0 S1=>some ([U,Y,x2,x3,W,X,V,Z,x8,x9,i,j,k,l,m,c,d,a,n,o,p,q,r,s,t,u,v,f,g,dem v0,w,x,y,z,A,B,C,D,v0,F,G,H,I,J,K,L,M,N,P,Q,R],S1)) ()):=by
 kernel_rfl
theorem zC.r15 :jD zi ⟨false,false,false⟩ (zZ zi O) (reg Try.f50 15) (reg Try.f50 15).toList ([U,Y,x2,x3,W,X,V,Z,x8,x9,i,j,k,l,m,c,d,a,n,o,p,q,r,s,t,u,v,f,g,b,w,x,y,z,A,B,C,D,E,F,G,H,I,J,K,L,M,N,P,Q,R]) S =
  (zN (zF zi 43 V 0 S) (fun v1 S1=>zN (jh zi false 3 v1 S1) (fun v2 S2=>zN (zF zi 43 V 1 S2) (fun v3 S3=>zN (jh zi false 3 v3 S3) (fun v4 S4=>zN (jK zi 24 2 [(0,v2),(1,v4)] S4) (fun v5 S5=>zN (wR zi 24 24 W v5 S5) (fun v6 S6=>some ([U,Y,x2,x3,v6,X,V,Z,x8,x9,i,j,k,l,m,c,d,a,n,o,p,q,r,s,t,u,v,f,g,b,w,x,y,z,A,B,C,D,E,dem W,v1,v2,v3,v4,v5,dem v6,M,N,P,Q,R],S6)) ()) ()) ()) ()) ()) ()):=by
 kernel_rfl
theorem zC.r16 :jD zi ⟨false,false,false⟩ (zZ zi O) (reg Try.f50 16) (reg Try.f50 16).toList ([U,Y,x2,x3,W,X,V,Z,x8,x9,i,j,k,l,m,c,d,a,n,o,p,q,r,s,t,u,v,f,g,b,w,x,y,z,A,B,C,D,E,F,G,H,I,J,K,L,M,N,P,Q,R]) S =
  (zN (wI zi BinOp.add 3 a (.int .i64 1) S) (fun v0 S1=>some ([U,Y,x2,x3,W,X,V,Z,x8,x9,i,j,k,l,m,c,d,dem v0,n,o,p,q,r,s,t,u,v,f,g,b,w,x,y,z,A,B,C,D,E,F,G,H,I,J,K,L,v0,N,P,Q,R],S1)) ()):=by
 kernel_rfl
theorem zC.r17 :jD zi ⟨false,false,false⟩ (zZ zi O) (reg Try.f50 17) (reg Try.f50 17).toList ([U,Y,x2,x3,W,X,V,Z,x8,x9,i,j,k,l,m,c,d,a,n,o,p,q,r,s,t,u,v,f,g,b,w,x,y,z,A,B,C,D,E,F,G,H,I,J,K,L,M,N,P,Q,R]) S =
  (zN ((zZ zi O) 35 [(dem (dem W))] S) (fun v1 S1=>zN (jc v1 0 S1) (fun v2 S2=>zN (jc (zV 0 v1) 1 S2) (fun v3 S3=>some ([U,Y,v2,v3,W,X,V,Z,x8,x9,i,j,k,l,m,c,d,a,n,o,p,q,r,s,t,u,v,f,g,b,w,x,y,z,A,B,C,D,E,F,G,H,I,J,K,L,M,dem W,zV 1 (zV 0 v1),dem v2,dem v3],S3)) ()) ()) ()):=by
 kernel_rfl
theorem zC.rs:type_of% (alG @zC.r0 (alG @zC.r1 (alG @zC.r2 (alG @zC.r3 (alG @zC.r4 (alG @zC.r5 (alG @zC.r6 (alG @zC.r7 (alG @zC.r8 (alG @zC.r9 (alG @zC.r10 (alG @zC.r11 (alG @zC.r12 (alG @zC.r13 (alG @zC.r14 (alG @zC.r15 (alG @zC.r16 (@zC.r17)))))))))))))))))):=alG @zC.r0 (alG @zC.r1 (alG @zC.r2 (alG @zC.r3 (alG @zC.r4 (alG @zC.r5 (alG @zC.r6 (alG @zC.r7 (alG @zC.r8 (alG @zC.r9 (alG @zC.r10 (alG @zC.r11 (alG @zC.r12 (alG @zC.r13 (alG @zC.r14 (alG @zC.r15 (alG @zC.r16 (@zC.r17)))))))))))))))))
theorem zC.runs {U:Value} {S S1:zy} {e:AEx} {T:List Value} (h:zJ zi O false zC.code ([U,zh,zh,zh,zh,zh,zh,zh,zh,zh,zh,zh,zh,zh,zh,zh,zh,zh,zh,zh,zh,zh,zh,zh,zh,zh,zh,zh,zh,zh,zh,zh,zh,zh,zh,zh,zh,zh,zh,zh,zh,zh,zh,zh,zh,zh,zh,zh,zh,zh,zh]) zy.empty=some (e,T,S1)) (he:e=.normal∨e=.ret)  (h0:wG (T.getD 2 zh)=true) (h1:wG (T.getD 3 zh)=true) (hca:[U].all (jW 16)=true) (hcv:jW 16 (Value.tuple #[T.getD 2 zh,T.getD 3 zh])=true):zZ zi O 50 [U] S=some (Value.tuple #[T.getD 2 zh,T.getD 3 zh],S) :=
 yC rfl rfl Try.func50 (by decide) zC.body (by exact h) he ((ql ((show zQ zi T S1 Try.f50.results.toList=zQ zi T S1 [(ResultVar.tmp 2),(ResultVar.tmp 3)] from by kernel_rfl).trans (by simp only [zQ])) (by kernel_rfl) (by simp only [List.all_cons,List.all_nil,h0,h1,Bool.and_true])).trans rfl) hca hcv
end Go.Proofs.Ytfjogganfjkckaa
namespace Go.Proofs.Ytfjogganfjkckaa
open Go.Abs
abbrev yU.id:FuncId:=71
noncomputable def yU.code:Code:=(.seq (.region 0 (reg Try.f71 0) false) (.seq (.seq (.region 1 (reg Try.f71 1) false) (.cond (.tmp 8) (.seq (.region 2 (reg Try.f71 2) false) Code.ret) Code.skip)) (.seq (.region 3 (reg Try.f71 3) false) (.seq (.region 4 (reg Try.f71 4) false) Code.ret))))
theorem yU.body:Try.f71.body=some yU.code:=by kernel_rfl
variable (a m u v n o p q r s b c d f g i j k l:Value) (S:zy)
theorem yU.r0 :jD zi ⟨false,false,false⟩ (zZ zi O) (reg Try.f71 0) (reg Try.f71 0).toList ([a,m,u,v,n,o,p,q,r,s,b,c,d,f,g,i,j,k,l]) S =
  (zN (J3 (dem a) S) (fun w t=>some ([a,w,Value.slice none 0 0,.int .i64 0,n,o,p,q,r,s,b,c,d,f,g,i,j,k,l],t)) ()):=by
 kernel_rfl
theorem yU.r1 :jD zi ⟨false,false,false⟩ (zZ zi O) (reg Try.f71 1) (reg Try.f71 1).toList ([a,m,u,v,n,o,p,q,r,s,b,c,d,f,g,i,j,k,l]) S =
  (zN (jh zi false 43 m S) (fun w t=>zN ((zZ zi O) 68 [(dem w)] t) (fun x A=>zN (aUn zi UnOp.not x A) (fun y B=>some ([a,m,u,v,n,o,w,x,y,s,b,c,d,f,g,i,j,k,l],B)) ()) ()) ()):=by
 kernel_rfl
theorem yU.r2 :jD zi ⟨false,false,false⟩ (zZ zi O) (reg Try.f71 2) (reg Try.f71 2).toList ([a,m,u,v,n,o,p,q,r,s,b,c,d,f,g,i,j,k,l]) S =
  ( some ([a,m,Value.slice none 0 0,.int .i64 61,n,o,p,q,r,s,b,c,d,f,g,i,j,k,l],S)):=by
 kernel_rfl
theorem yU.r3 :jD zi ⟨false,false,false⟩ (zZ zi O) (reg Try.f71 3) (reg Try.f71 3).toList ([a,m,u,v,n,o,p,q,r,s,b,c,d,f,g,i,j,k,l]) S =
  (zN (zF zi 43 m 0 S) (fun w t=>zN (jh zi false 3 w t) (fun x A=>zN (zF zi 43 m 1 A) (fun y B=>zN (jh zi false 3 y B) (fun C G=>zN (jK zi 24 2 [(0,x),(1,C)] G) (fun D H=>zN ((zZ zi O) 63 [(dem D)] H) (fun z I=>zN (jc z 0 I) (fun E J=>zN (jc (zV 0 z) 1 J) (fun F K=>some ([a,m,u,v,E,F,p,q,r,zV 1 (zV 0 z),w,x,y,C,D,dem z,dem E,dem F,l],K)) ()) ()) ()) ()) ()) ()) ()) ()):=by
 kernel_rfl
theorem yU.r4 :jD zi ⟨false,false,false⟩ (zZ zi O) (reg Try.f71 4) (reg Try.f71 4).toList ([a,m,u,v,n,o,p,q,r,s,b,c,d,f,g,i,j,k,l]) S =
  ( some ([a,m,n,.int .i64 0,dem n,o,p,q,r,s,b,c,d,f,g,i,j,k,dem n],S)):=by
 kernel_rfl
theorem yU.rs:type_of% (alG @yU.r0 (alG @yU.r1 (alG @yU.r2 (alG @yU.r3 (@yU.r4))))):=alG @yU.r0 (alG @yU.r1 (alG @yU.r2 (alG @yU.r3 (@yU.r4))))
theorem yU.runs {a:Value} {S t:zy} {e:AEx} {T:List Value} (h:zJ zi O false yU.code ([a,zh,zh,zh,zh,zh,zh,zh,zh,zh,zh,zh,zh,zh,zh,zh,zh,zh,zh]) zy.empty=some (e,T,t)) (he:e=.normal∨e=.ret)  (h0:wG (T.getD 2 zh)=true) (h1:wG (T.getD 3 zh)=true) (hca:[a].all (jW 16)=true) (hcv:jW 16 (Value.tuple #[T.getD 2 zh,T.getD 3 zh])=true):zZ zi O 71 [a] S=some (Value.tuple #[T.getD 2 zh,T.getD 3 zh],S) :=
 yC rfl rfl Try.func71 (by decide) yU.body (by exact h) he ((ql ((show zQ zi T t Try.f71.results.toList=zQ zi T t [(ResultVar.tmp 2),(ResultVar.tmp 3)] from by kernel_rfl).trans (by simp only [zQ])) (by kernel_rfl) (by simp only [List.all_cons,List.all_nil,h0,h1,Bool.and_true])).trans rfl) hca hcv
end Go.Proofs.Ytfjogganfjkckaa
namespace Go.Proofs.Ytfjogganfjkckaa
open Go.Abs
abbrev jJ.id:FuncId:=36
noncomputable def jJ.code:Code:=(.seq (.region 0 (reg Try.f36 0) false) (.seq (.seq (.region 1 (reg Try.f36 1) false) (.cond (.tmp 6) (.seq (.region 2 (reg Try.f36 2) false) Code.ret) Code.skip)) (.seq (.region 3 (reg Try.f36 3) false) Code.ret)))
theorem jJ.body:Try.f36.body=some jJ.code:=by kernel_rfl
variable (a i r s k l m n o p b c d f g:Value) (S:zy)
theorem jJ.r0 :jD zi ⟨false,false,false⟩ (zZ zi O) (reg Try.f36 0) (reg Try.f36 0).toList ([a,i,r,s,k,l,m,n,o,p,b,c,d,f,g]) S =
  (zN (J3 (dem a) S) (fun q j=>some ([a,q,Value.slice none 0 0,.int .i64 0,k,l,m,n,o,p,b,c,d,f,g],j)) ()):=by
 kernel_rfl
theorem jJ.r1 :jD zi ⟨false,false,false⟩ (zZ zi O) (reg Try.f36 1) (reg Try.f36 1).toList ([a,i,r,s,k,l,m,n,o,p,b,c,d,f,g]) S =
  (zN (jh zi false 43 i S) (fun q j=>zN ((zZ zi O) 48 [(dem q)] j) (fun t v=>zN (aUn zi UnOp.not t v) (fun u w=>some ([a,i,r,s,q,t,u,n,o,p,b,c,d,f,g],w)) ()) ()) ()):=by
 kernel_rfl
theorem jJ.r2 :jD zi ⟨false,false,false⟩ (zZ zi O) (reg Try.f36 2) (reg Try.f36 2).toList ([a,i,r,s,k,l,m,n,o,p,b,c,d,f,g]) S =
  ( some ([a,i,Value.slice none 0 0,.int .i64 61,k,l,m,n,o,p,b,c,d,f,g],S)):=by
 kernel_rfl
theorem jJ.r3 :jD zi ⟨false,false,false⟩ (zZ zi O) (reg Try.f36 3) (reg Try.f36 3).toList ([a,i,r,s,k,l,m,n,o,p,b,c,d,f,g]) S =
  (zN (zF zi 43 i 0 S) (fun q j=>zN (jh zi false 3 q j) (fun t v=>zN (zF zi 43 i 1 v) (fun u w=>zN (jh zi false 3 u w) (fun y C=>zN (jK zi 24 2 [(0,t),(1,y)] C) (fun z D=>zN ((zZ zi O) 35 [(dem z)] D) (fun x E=>zN (jc x 0 E) (fun A F=>zN (jc (zV 0 x) 1 F) (fun B G=>some ([a,i,A,B,k,l,m,q,t,u,y,z,zV 1 (zV 0 x),dem A,dem B],G)) ()) ()) ()) ()) ()) ()) ()) ()):=by
 kernel_rfl
theorem jJ.rs:type_of% (alG @jJ.r0 (alG @jJ.r1 (alG @jJ.r2 (@jJ.r3)))):=alG @jJ.r0 (alG @jJ.r1 (alG @jJ.r2 (@jJ.r3)))
theorem jJ.runs {a:Value} {S j:zy} {e:AEx} {T:List Value} (h:zJ zi O false jJ.code ([a,zh,zh,zh,zh,zh,zh,zh,zh,zh,zh,zh,zh,zh,zh]) zy.empty=some (e,T,j)) (he:e=.normal∨e=.ret)  (h0:wG (T.getD 2 zh)=true) (h1:wG (T.getD 3 zh)=true) (hca:[a].all (jW 16)=true) (hcv:jW 16 (Value.tuple #[T.getD 2 zh,T.getD 3 zh])=true):zZ zi O 36 [a] S=some (Value.tuple #[T.getD 2 zh,T.getD 3 zh],S) :=
 yC rfl rfl Try.func36 (by decide) jJ.body (by exact h) he ((ql ((show zQ zi T j Try.f36.results.toList=zQ zi T j [(ResultVar.tmp 2),(ResultVar.tmp 3)] from by kernel_rfl).trans (by simp only [zQ])) (by kernel_rfl) (by simp only [List.all_cons,List.all_nil,h0,h1,Bool.and_true])).trans rfl) hca hcv
end Go.Proofs.Ytfjogganfjkckaa
namespace Go.Proofs.Ytfjogganfjkckaa
open Go.Abs
abbrev yw.id:FuncId:=64
noncomputable def yw.code:Code:=(.seq (.region 0 (reg Try.f64 0) false) (.seq (.region 1 (reg Try.f64 1) false) (.seq (.seq (.region 2 (reg Try.f64 2) false) (.cond (.tmp 16) (.seq (.region 3 (reg Try.f64 3) false) Code.ret) Code.skip)) (.seq (.region 4 (reg Try.f64 4) true) (.seq (.region 5 (reg Try.f64 5) true) Code.ret)))))
theorem yw.body:Try.f64.body=some yw.code:=by kernel_rfl
variable (c E C H I b z D A F d f g i j k l m n o p q r s t u w x y:Value) (S:zy)
theorem yw.r0 :jD zi ⟨false,false,false⟩ (zZ zi O) (reg Try.f64 0) (reg Try.f64 0).toList ([c,E,C,H,I,b,z,D,A,F,d,f,g,i,j,k,l,m,n,o,p,q,r,s,t,u,w,x,y]) S =
  (zN (yI zi 43 S) (fun J a=>some ([c,E,J,Value.slice none 0 0,Value.bool false,b,z,D,A,F,d,f,g,i,j,k,l,m,n,o,p,q,r,s,t,u,w,x,y],a)) ()):=by
 kernel_rfl
theorem yw.r1 :jD zi ⟨false,false,false⟩ (zZ zi O) (reg Try.f64 1) (reg Try.f64 1).toList ([c,E,C,H,I,b,z,D,A,F,d,f,g,i,j,k,l,m,n,o,p,q,r,s,t,u,w,x,y]) S =
  (zN ((zZ zi O) 55 [(dem (dem c)),(.int .i64 2)] S) (fun B a=>zN (jc B 0 a) (fun N K=>zN (jc (zV 0 B) 1 K) (fun G L=>zN (jc (zV 1 (zV 0 B)) 2 L) (fun P Q=>some ([c,E,C,H,I,N,G,P,A,zV 2 (zV 1 (zV 0 B)),dem c,dem B,dem N,dem G,dem P,k,l,m,n,o,p,q,r,s,t,u,w,x,y],Q)) ()) ()) ()) ()):=by
 kernel_rfl
theorem yw.r2 :jD zi ⟨false,false,false⟩ (zZ zi O) (reg Try.f64 2) (reg Try.f64 2).toList ([c,E,C,H,I,b,z,D,A,F,d,f,g,i,j,k,l,m,n,o,p,q,r,s,t,u,w,x,y]) S =
  (zN (wI zi BinOp.neq 64 (dem D) (.int .i64 0) S) (fun B a=>some ([c,E,C,H,I,b,z,D,A,F,d,f,g,i,j,dem D,B,m,n,o,p,q,r,s,t,u,w,x,y],a)) ()):=by
 kernel_rfl
theorem yw.r3 :jD zi ⟨false,false,false⟩ (zZ zi O) (reg Try.f64 3) (reg Try.f64 3).toList ([c,E,C,H,I,b,z,D,A,F,d,f,g,i,j,k,l,m,n,o,p,q,r,s,t,u,w,x,y]) S =
  (zN (yA zi 43 [] S) (fun J a=>zN (wU zi 43 C (dem J) a) (fun B K=>some ([c,E,C,Value.slice none 0 0,Value.bool false,b,z,D,A,F,d,f,g,i,j,k,l,J,n,o,p,q,r,s,t,u,w,x,y],K)) ()) ()):=by
 kernel_rfl
theorem yw.d4:qW zi (reg Try.f64 4)=true:=by kernel_rfl
theorem yw.ff4:fixed zi (reg Try.f64 4)=false:=by kernel_rfl
theorem yw.k4:checked zi (reg Try.f64 4)=[0,1,2,3,4,5,6]:=by kernel_rfl
theorem yw.g4:again zi (reg Try.f64 4)=[(2,7),(5,7)]:=by kernel_rfl
theorem yw.r4 :zJ zi O false (.region 4 (reg Try.f64 4) true) ([c,E,C,H,I,b,z,D,A,F,d,f,g,i,j,k,l,m,n,o,p,q,r,s,t,u,w,x,y]) S =
  Ja (okK b ( zN (jy zi 24 (dem b) (.int .i64 0) S) (fun B a=>okK B ( zN (jh zi false 3 B a) (fun M K=>okK M ( okK b ( zN (jy zi 24 (dem b) (.int .i64 1) K) (fun G L=>okK G ( zN (jh zi false 3 G L) (fun P Q=>okK P ( zN (yA zi 43 [(0,(dem M)),(1,(dem P))] Q) (fun R W=>okK R ( zN (yI zi 43 W) (fun V U=>zN (wU zi 43 V (dem R) U) (fun Y X=>ckK (qN B a U && (qN G L U && (true))) (some ([c,E,C,H,I,b,z,D,V,F,d,f,g,i,j,k,l,m,dem b,B,M,dem b,G,P,R,u,w,x,y],X)) ()) ()) ()) ()) ()) ()) ()) ()) ()) ()) ()) ()) ()) ()) ()):=by
 rw [yF yw.d4 yw.ff4 yw.k4 yw.g4]
 refine congrArg Ja ?_
 refine uPC Try.f64 4 0 (v:=b) (pe:=zh) ?_
 refine uDC Try.f64 4 1 (pe:=zh) (fun B a=>?_)
 refine uDC Try.f64 4 2 (pe:=B) (fun M K=>?_)
 refine uPC Try.f64 4 3 (v:=b) (pe:=zh) ?_
 refine uDC Try.f64 4 4 (pe:=zh) (fun G L=>?_)
 refine uDC Try.f64 4 5 (pe:=G) (fun P Q=>?_)
 refine uDC Try.f64 4 6 (pe:=zh) (fun R W=>?_)
 refine uD Try.f64 4 7 (pe:=zh) (fun V U=>?_)
 refine uD Try.f64 4 8 (pe:=zh) (fun Y X=>?_)
 kernel_rfl
theorem yw.d5:qW zi (reg Try.f64 5)=true:=by kernel_rfl
theorem yw.ff5:fixed zi (reg Try.f64 5)=false:=by kernel_rfl
theorem yw.k5:checked zi (reg Try.f64 5)=[0,1,1]:=by kernel_rfl
theorem yw.g5:again zi (reg Try.f64 5)=[(0,3)]:=by kernel_rfl
theorem yw.r5 :zJ zi O false (.region 5 (reg Try.f64 5) true) ([c,E,C,H,I,b,z,D,A,F,d,f,g,i,j,k,l,m,n,o,p,q,r,s,t,u,w,x,y]) S =
  Ja (zN (jh zi false 43 A S) (fun J a=>okK J ( okK z ( zN (jh zi false 43 A a) (fun M K=>zN ((zZ zi O) 68 [(dem M)] K) (fun N L=>zN (wU zi 43 C (dem J) L) (fun G Q=>ckK (qN A S L && (true)) (some ([c,E,C,z,N,b,dem z,D,A,F,d,f,g,i,j,k,l,m,n,o,p,q,r,s,t,J,dem z,M,dem N],Q)) ()) ()) ()) ()) ()) ()) ()):=by
 rw [yF yw.d5 yw.ff5 yw.k5 yw.g5]
 refine congrArg Ja ?_
 refine uDC Try.f64 5 0 (pe:=A) (fun J a=>?_)
 refine uPC Try.f64 5 1 (v:=z) (pe:=zh) ?_
 refine uD Try.f64 5 2 (pe:=A) (fun M K=>?_)
 refine uD Try.f64 5 3 (pe:=zh) (fun N L=>?_)
 refine uD Try.f64 5 4 (pe:=zh) (fun G Q=>?_)
 refine uP Try.f64 5 5 (v:=z) (pe:=zh) ?_
 refine uP Try.f64 5 6 (v:=N) (pe:=zh) ?_
 kernel_rfl
theorem yw.rs:type_of% (alG @yw.r0 (alG @yw.r1 (alG @yw.r2 (alG @yw.r3 (alG @yw.r4 (@yw.r5)))))):=alG @yw.r0 (alG @yw.r1 (alG @yw.r2 (alG @yw.r3 (alG @yw.r4 (@yw.r5)))))
theorem yw.runs {c:Value} {S a:zy} {e:AEx} {T:List Value} (h:zJ zi O false yw.code ([c,zh,zh,zh,zh,zh,zh,zh,zh,zh,zh,zh,zh,zh,zh,zh,zh,zh,zh,zh,zh,zh,zh,zh,zh,zh,zh,zh,zh]) zy.empty=some (e,T,a)) (he:e=.normal∨e=.ret) {w0:Value} (c0:jh zi false 43 (T.getD 2 zh) a=some (w0,a)) (h0:wG (w0)=true) (h1:wG (T.getD 3 zh)=true) (h2:wG (T.getD 4 zh)=true) (hca:[c].all (jW 16)=true) (hcv:jW 16 (Value.tuple #[w0,T.getD 3 zh,T.getD 4 zh])=true):zZ zi O 64 [c] S=some (Value.tuple #[w0,T.getD 3 zh,T.getD 4 zh],S) :=
 yC rfl rfl Try.func64 (by decide) yw.body (by exact h) he ((ql ((show zQ zi T a Try.f64.results.toList=zQ zi T a [(ResultVar.cell 2 43),(ResultVar.tmp 3),(ResultVar.tmp 4)] from by kernel_rfl).trans (by simp only [zQ,c0])) (by kernel_rfl) (by simp only [List.all_cons,List.all_nil,h0,h1,h2,Bool.and_true])).trans rfl) hca hcv
end Go.Proofs.Ytfjogganfjkckaa
namespace Go.Proofs.Ytfjogganfjkckaa
open Go.Abs
abbrev y8.id:FuncId:=56
noncomputable def y8.code:Code:=(.seq (.region 0 (reg Try.f56 0) false) (.seq (.region 1 (reg Try.f56 1) false) (.seq (.seq (.region 2 (reg Try.f56 2) false) (.cond (.tmp 19) (.seq (.region 3 (reg Try.f56 3) false) Code.ret) Code.skip)) (.seq (.region 4 (reg Try.f56 4) false) Code.ret))))
theorem y8.body:Try.f56.body=some y8.code:=by kernel_rfl
variable (a u t C w x s y z A d f g i k l m n o p q r:Value) (S:zy)
theorem y8.r0 :jD zi ⟨false,false,false⟩ (zZ zi O) (reg Try.f56 0) (reg Try.f56 0).toList ([a,u,t,C,w,x,s,y,z,A,d,f,g,i,k,l,m,n,o,p,q,r]) S =
  (zN (yI zi 43 S) (fun D b=>some ([a,u,D,.int .i64 0,w,x,s,y,z,A,d,f,g,i,k,l,m,n,o,p,q,r],b)) ()):=by
 kernel_rfl
theorem y8.r1 :jD zi ⟨false,false,false⟩ (zZ zi O) (reg Try.f56 1) (reg Try.f56 1).toList ([a,u,t,C,w,x,s,y,z,A,d,f,g,i,k,l,m,n,o,p,q,r]) S =
  (zN ((zZ zi O) 64 [(dem (dem a))] S) (fun c b=>zN (jc c 0 b) (fun E B=>zN (jc (zV 0 c) 1 B) (fun F I=>zN (jc (zV 1 (zV 0 c)) 2 I) (fun G J=>zN (yI zi 43 J) (fun H K=>zN (wU zi 43 H (dem E) K) (fun M L=>some ([a,u,t,C,H,F,G,zV 2 (zV 1 (zV 0 c)),dem a,dem c,E,dem F,dem G,i,k,l,m,n,o,p,q,r],L)) ()) ()) ()) ()) ()) ()):=by
 kernel_rfl
theorem y8.r2 :jD zi ⟨false,false,false⟩ (zZ zi O) (reg Try.f56 2) (reg Try.f56 2).toList ([a,u,t,C,w,x,s,y,z,A,d,f,g,i,k,l,m,n,o,p,q,r]) S =
  (zN (aUn zi UnOp.not (dem s) S) (fun c b=>gdK (dem c) false (ret x) b (fun E B=>gdK (dem c) false (Zu zi 33 (dem E)) B (fun F I=>gdK (dem c) false (wI zi BinOp.gtr 3 F (.int .i64 0)) I (fun G J=>zN (wX (dem c) (Value.bool true) G J) (fun H K=>some ([a,u,t,C,w,x,s,y,z,A,d,f,g,dem s,c,dem c,dem E,F,G,H,q,r],K)) ()) ()) ()) ()) ()):=by
 refine sP Try.f56 2 0 (v:=s) ?_
 refine sD Try.f56 2 1 (fun c b=>?_)
 refine sP Try.f56 2 2 (v:=c) ?_
 refine sG Try.f56 2 3 (j:=2) (fun E B=>?_)
 refine sG Try.f56 2 4 (j:=2) (fun F I=>?_)
 refine sG Try.f56 2 5 (j:=2) (fun G J=>?_)
 refine sD Try.f56 2 6 (fun H K=>?_)
 kernel_rfl
theorem y8.r3 :jD zi ⟨false,false,false⟩ (zZ zi O) (reg Try.f56 3) (reg Try.f56 3).toList ([a,u,t,C,w,x,s,y,z,A,d,f,g,i,k,l,m,n,o,p,q,r]) S =
  (zN (yA zi 43 [] S) (fun D b=>zN (wU zi 43 t (dem D) b) (fun c B=>some ([a,u,t,.int .i64 61,w,x,s,y,z,A,d,f,g,i,k,l,m,n,o,p,D,r],B)) ()) ()):=by
 kernel_rfl
theorem y8.r4 :jD zi ⟨false,false,false⟩ (zZ zi O) (reg Try.f56 4) (reg Try.f56 4).toList ([a,u,t,C,w,x,s,y,z,A,d,f,g,i,k,l,m,n,o,p,q,r]) S =
  (zN (jh zi false 43 w S) (fun D b=>zN (wU zi 43 t (dem D) b) (fun c B=>some ([a,u,t,.int .i64 0,w,x,s,y,z,A,d,f,g,i,k,l,m,n,o,p,q,D],B)) ()) ()):=by
 kernel_rfl
theorem y8.rs:type_of% (alG @y8.r0 (alG @y8.r1 (alG @y8.r2 (alG @y8.r3 (@y8.r4))))):=alG @y8.r0 (alG @y8.r1 (alG @y8.r2 (alG @y8.r3 (@y8.r4))))
theorem y8.runs {a:Value} {S b:zy} {e:AEx} {T:List Value} (h:zJ zi O false y8.code ([a,zh,zh,zh,zh,zh,zh,zh,zh,zh,zh,zh,zh,zh,zh,zh,zh,zh,zh,zh,zh,zh]) zy.empty=some (e,T,b)) (he:e=.normal∨e=.ret) {w0:Value} (c0:jh zi false 43 (T.getD 2 zh) b=some (w0,b)) (h0:wG (w0)=true) (h1:wG (T.getD 3 zh)=true) (hca:[a].all (jW 16)=true) (hcv:jW 16 (Value.tuple #[w0,T.getD 3 zh])=true):zZ zi O 56 [a] S=some (Value.tuple #[w0,T.getD 3 zh],S) :=
 yC rfl rfl Try.func56 (by decide) y8.body (by exact h) he ((ql ((show zQ zi T b Try.f56.results.toList=zQ zi T b [(ResultVar.cell 2 43),(ResultVar.tmp 3)] from by kernel_rfl).trans (by simp only [zQ,c0])) (by kernel_rfl) (by simp only [List.all_cons,List.all_nil,h0,h1,Bool.and_true])).trans rfl) hca hcv
end Go.Proofs.Ytfjogganfjkckaa
namespace Go.Proofs.Ytfjogganfjkckaa
open Go.Abs
abbrev zX.id:FuncId:=30
noncomputable def zX.code:Code:=(.seq (.region 0 (reg Try.f30 0) false) (.seq (.region 1 (reg Try.f30 1) false) (.seq (.seq (.region 2 (reg Try.f30 2) true) (.cond (.tmp 30) (.seq (.region 3 (reg Try.f30 3) false) Code.ret) Code.skip)) (.seq (.region 4 (reg Try.f30 4) true) Code.ret))))
theorem zX.body:Try.f30.body=some zX.code:=by kernel_rfl
variable (f P N Z c Q M V W X g i k l m n o p q r s t u w x y z A B C D E F G H I J K L:Value) (S:zy)
theorem zX.r0 :jD zi ⟨false,false,false⟩ (zZ zi O) (reg Try.f30 0) (reg Try.f30 0).toList ([f,P,N,Z,c,Q,M,V,W,X,g,i,k,l,m,n,o,p,q,r,s,t,u,w,x,y,z,A,B,C,D,E,F,G,H,I,J,K,L]) S =
  (zN (yI zi 43 S) (fun v0 d=>some ([f,P,v0,.int .i64 0,c,Q,M,V,W,X,g,i,k,l,m,n,o,p,q,r,s,t,u,w,x,y,z,A,B,C,D,E,F,G,H,I,J,K,L],d)) ()):=by
 kernel_rfl
theorem zX.r1 :jD zi ⟨false,false,false⟩ (zZ zi O) (reg Try.f30 1) (reg Try.f30 1).toList ([f,P,N,Z,c,Q,M,V,W,X,g,i,k,l,m,n,o,p,q,r,s,t,u,w,x,y,z,A,B,C,D,E,F,G,H,I,J,K,L]) S =
  (zN ((zZ zi O) 29 [(dem (dem f)),(.int .i64 2)] S) (fun a d=>zN (jc a 0 d) (fun v3 Y=>zN (jc (zV 0 a) 1 Y) (fun R S3=>zN (jc (zV 1 (zV 0 a)) 2 S3) (fun U S4=>some ([f,P,N,Z,v3,R,U,zV 2 (zV 1 (zV 0 a)),dem f,dem a,dem v3,dem R,dem U,l,m,n,o,p,q,r,s,t,u,w,x,y,z,A,B,C,D,E,F,G,H,I,J,K,L],S4)) ()) ()) ()) ()):=by
 kernel_rfl
theorem zX.d2:qW zi (reg Try.f30 2)=true:=by kernel_rfl
theorem zX.ff2:fixed zi (reg Try.f30 2)=false:=by kernel_rfl
theorem zX.k2:checked zi (reg Try.f30 2)=[]:=by kernel_rfl
theorem zX.g2:again zi (reg Try.f30 2)=[]:=by kernel_rfl
theorem zX.r2 :zJ zi O false (.region 2 (reg Try.f30 2) true) ([f,P,N,Z,c,Q,M,V,W,X,g,i,k,l,m,n,o,p,q,r,s,t,u,w,x,y,z,A,B,C,D,E,F,G,H,I,J,K,L]) S =
  Ja (zN (wI zi BinOp.neq 3 (dem M) (.int .i64 0) S) (fun a d=>gdK (dem a) false (ret Q) d (fun v3 Y=>gdK (dem a) false (Zu zi 33 (dem v3)) Y (fun R S3=>gdK (dem a) false (wI zi BinOp.gtr 3 R (.int .i64 0)) S3 (fun U S4=>zN (wX (dem a) (Value.bool true) U S4) (fun b S5=>gdK (dem b) false (ret c) S5 (fun v8 S6=>gdK (dem b) false (jy zi 24 (dem v8) (.int .i64 0)) S6 (fun v9 S7=>gdK (dem b) false (jh zi false 3 v9) S7 (fun a0 S8=>gdK (dem b) false (ret c) S8 (fun a1 S9=>gdK (dem b) false (jy zi 24 (dem a1) (.int .i64 1)) S9 (fun a2 a7=>gdK (dem b) false (jh zi false 3 a2) a7 (fun a3 a8=>gdK (dem b) false (yA zi 43 [(0,(dem a0)),(1,(dem a3))]) a8 (fun a4 a9=>gdK (dem b) false ((zZ zi O) 48 [(dem a4)]) a9 (fun a5 b0=>gdK (dem b) false (aUn zi UnOp.not a5) b0 (fun a6 b1=>zN (wX (dem b) (Value.bool true) a6 b1) (fun b2 b3=>some ([f,P,N,Z,c,Q,M,V,W,X,g,i,k,dem M,a,dem a,dem v3,R,U,b,dem b,dem v8,v9,a0,dem a1,a2,a3,a4,a5,a6,b2,E,F,G,H,I,J,K,L],b3)) ()) ()) ()) ()) ()) ()) ()) ()) ()) ()) ()) ()) ()) ()) ()):=by
 rw [yF zX.d2 zX.ff2 zX.k2 zX.g2]
 refine congrArg Ja ?_
 refine tP Try.f30 2 0 (v:=M) ?_
 refine tD Try.f30 2 1 (fun a d=>?_)
 refine tP Try.f30 2 2 (v:=a) ?_
 refine tG Try.f30 2 3 (j:=2) (fun v3 Y=>?_)
 refine tG Try.f30 2 4 (j:=2) (fun R S3=>?_)
 refine tG Try.f30 2 5 (j:=2) (fun U S4=>?_)
 refine tD Try.f30 2 6 (fun b S5=>?_)
 refine tP Try.f30 2 7 (v:=b) ?_
 refine tG Try.f30 2 8 (j:=7) (fun v8 S6=>?_)
 refine tG Try.f30 2 9 (j:=7) (fun v9 S7=>?_)
 refine tG Try.f30 2 10 (j:=7) (fun a0 S8=>?_)
 refine tG Try.f30 2 11 (j:=7) (fun a1 S9=>?_)
 refine tG Try.f30 2 12 (j:=7) (fun a2 a7=>?_)
 refine tG Try.f30 2 13 (j:=7) (fun a3 a8=>?_)
 refine tG Try.f30 2 14 (j:=7) (fun a4 a9=>?_)
 refine tG Try.f30 2 15 (j:=7) (fun a5 b0=>?_)
 refine tG Try.f30 2 16 (j:=7) (fun a6 b1=>?_)
 refine tD Try.f30 2 17 (fun b2 b3=>?_)
 kernel_rfl
theorem zX.r3 :jD zi ⟨false,false,false⟩ (zZ zi O) (reg Try.f30 3) (reg Try.f30 3).toList ([f,P,N,Z,c,Q,M,V,W,X,g,i,k,l,m,n,o,p,q,r,s,t,u,w,x,y,z,A,B,C,D,E,F,G,H,I,J,K,L]) S =
  (zN (yA zi 43 [] S) (fun v0 d=>zN (wU zi 43 N (dem v0) d) (fun a Y=>some ([f,P,N,.int .i64 61,c,Q,M,V,W,X,g,i,k,l,m,n,o,p,q,r,s,t,u,w,x,y,z,A,B,C,D,v0,F,G,H,I,J,K,L],Y)) ()) ()):=by
 kernel_rfl
theorem zX.d4:qW zi (reg Try.f30 4)=true:=by kernel_rfl
theorem zX.ff4:fixed zi (reg Try.f30 4)=false:=by kernel_rfl
theorem zX.k4:checked zi (reg Try.f30 4)=[]:=by kernel_rfl
theorem zX.g4:again zi (reg Try.f30 4)=[]:=by kernel_rfl
theorem zX.r4 :zJ zi O false (.region 4 (reg Try.f30 4) true) ([f,P,N,Z,c,Q,M,V,W,X,g,i,k,l,m,n,o,p,q,r,s,t,u,w,x,y,z,A,B,C,D,E,F,G,H,I,J,K,L]) S =
  Ja (zN (jy zi 24 (dem c) (.int .i64 0) S) (fun a d=>zN (jh zi false 3 a d) (fun v2 Y=>zN (jy zi 24 (dem c) (.int .i64 1) Y) (fun R S3=>zN (jh zi false 3 R S3) (fun U S4=>zN (yA zi 43 [(0,(dem v2)),(1,(dem U))] S4) (fun b S5=>zN (wU zi 43 N (dem b) S5) (fun v7 S6=>some ([f,P,N,.int .i64 0,c,Q,M,V,W,X,g,i,k,l,m,n,o,p,q,r,s,t,u,w,x,y,z,A,B,C,D,E,dem c,a,v2,dem c,R,U,b],S6)) ()) ()) ()) ()) ()) ()):=by
 rw [yF zX.d4 zX.ff4 zX.k4 zX.g4]
 refine congrArg Ja ?_
 refine tP Try.f30 4 0 (v:=c) ?_
 refine tD Try.f30 4 1 (fun a d=>?_)
 refine tD Try.f30 4 2 (fun v2 Y=>?_)
 refine tP Try.f30 4 3 (v:=c) ?_
 refine tD Try.f30 4 4 (fun R S3=>?_)
 refine tD Try.f30 4 5 (fun U S4=>?_)
 refine tD Try.f30 4 6 (fun b S5=>?_)
 refine tD Try.f30 4 7 (fun v7 S6=>?_)
 refine tP Try.f30 4 8 (v:=(.int .i64 0)) ?_
 kernel_rfl
theorem zX.rs:type_of% (alG @zX.r0 (alG @zX.r1 (alG @zX.r2 (alG @zX.r3 (@zX.r4))))):=alG @zX.r0 (alG @zX.r1 (alG @zX.r2 (alG @zX.r3 (@zX.r4))))
theorem zX.runs {f:Value} {S d:zy} {e:AEx} {T:List Value} (h:zJ zi O false zX.code ([f,zh,zh,zh,zh,zh,zh,zh,zh,zh,zh,zh,zh,zh,zh,zh,zh,zh,zh,zh,zh,zh,zh,zh,zh,zh,zh,zh,zh,zh,zh,zh,zh,zh,zh,zh,zh,zh,zh]) zy.empty=some (e,T,d)) (he:e=.normal∨e=.ret) {w0:Value} (c0:jh zi false 43 (T.getD 2 zh) d=some (w0,d)) (h0:wG (w0)=true) (h1:wG (T.getD 3 zh)=true) (hca:[f].all (jW 16)=true) (hcv:jW 16 (Value.tuple #[w0,T.getD 3 zh])=true):zZ zi O 30 [f] S=some (Value.tuple #[w0,T.getD 3 zh],S) :=
 yC rfl rfl Try.func30 (by decide) zX.body (by exact h) he ((ql ((show zQ zi T d Try.f30.results.toList=zQ zi T d [(ResultVar.cell 2 43),(ResultVar.tmp 3)] from by kernel_rfl).trans (by simp only [zQ,c0])) (by kernel_rfl) (by simp only [List.all_cons,List.all_nil,h0,h1,Bool.and_true])).trans rfl) hca hcv
end Go.Proofs.Ytfjogganfjkckaa
namespace Go.Proofs.Ytfjogganfjkckaa
open Go.Abs
abbrev qG.id:FuncId:=68
noncomputable def qG.code:Code:=(.seq (.region 0 (reg Try.f68 0) false) (.seq (.region 1 (reg Try.f68 1) false) Code.ret))
theorem qG.body:Try.f68.body=some qG.code:=by kernel_rfl
variable (c i Y J K L M N P Q l m n o p q r s t u w:Value) (S:zy)
theorem qG.r0 :jD zi ⟨false,false,false⟩ (zZ zi O) (reg Try.f68 0) (reg Try.f68 0).toList ([c,i,Y,J,K,L,M,N,P,Q,l,m,n,o,p,q,r,s,t,u,w]) S =
  (zN (J3 (dem c) S) (fun x d=>some ([c,x,Value.bool false,J,K,L,M,N,P,Q,l,m,n,o,p,q,r,s,t,u,w],d)) ()):=by
 kernel_rfl
theorem qG.r1 :jD zi ⟨false,false,false⟩ (zZ zi O) (reg Try.f68 1) (reg Try.f68 1).toList ([c,i,Y,J,K,L,M,N,P,Q,l,m,n,o,p,q,r,s,t,u,w]) S =
  (zN (zF zi 43 i 0 S) (fun x d=>zN (jh zi false 3 x d) (fun R Z=>zN (wI zi BinOp.geq 3 R (.int .i64 1) Z) (fun f S3=>gdK (dem f) true (zF zi 43 i 0) S3 (fun U S4=>gdK (dem f) true (jh zi false 3 U) S4 (fun V S5=>gdK (dem f) true (wI zi BinOp.leq 3 V (.int .i64 1000000)) S5 (fun W S6=>zN (wX (dem f) W (Value.bool false) S6) (fun g S7=>gdK (dem g) true (zF zi 43 i 1) S7 (fun X S8=>gdK (dem g) true (jh zi false 3 X) S8 (fun y S9=>gdK (dem g) true (wI zi BinOp.geq 3 y (.int .i64 0)) S9 (fun z D=>zN (wX (dem g) z (Value.bool false) D) (fun b E=>gdK (dem b) true (zF zi 43 i 1) E (fun A F=>gdK (dem b) true (jh zi false 3 A) F (fun B G=>gdK (dem b) true (wI zi BinOp.leq 3 B (.int .i64 1000)) G (fun C H=>zN (wX (dem b) C (Value.bool false) H) (fun k I=>some ([c,i,k,x,R,f,dem f,U,V,W,g,dem g,X,y,z,b,dem b,A,B,C,dem k],I)) ()) ()) ()) ()) ()) ()) ()) ()) ()) ()) ()) ()) ()) ()) ()):=by
 refine sD Try.f68 1 0 (fun x d=>?_)
 refine sD Try.f68 1 1 (fun R Z=>?_)
 refine sD Try.f68 1 2 (fun f S3=>?_)
 refine sP Try.f68 1 3 (v:=f) ?_
 refine sG Try.f68 1 4 (j:=3) (fun U S4=>?_)
 refine sG Try.f68 1 5 (j:=3) (fun V S5=>?_)
 refine sG Try.f68 1 6 (j:=3) (fun W S6=>?_)
 refine sD Try.f68 1 7 (fun g S7=>?_)
 refine sP Try.f68 1 8 (v:=g) ?_
 refine sG Try.f68 1 9 (j:=8) (fun X S8=>?_)
 refine sG Try.f68 1 10 (j:=8) (fun y S9=>?_)
 refine sG Try.f68 1 11 (j:=8) (fun z D=>?_)
 refine sD Try.f68 1 12 (fun b E=>?_)
 refine sP Try.f68 1 13 (v:=b) ?_
 refine sG Try.f68 1 14 (j:=13) (fun A F=>?_)
 refine sG Try.f68 1 15 (j:=13) (fun B G=>?_)
 refine sG Try.f68 1 16 (j:=13) (fun C H=>?_)
 refine sD Try.f68 1 17 (fun k I=>?_)
 refine sP Try.f68 1 18 (v:=k) ?_
 kernel_rfl
theorem qG.rs:type_of% (alG @qG.r0 (@qG.r1)):=alG @qG.r0 (@qG.r1)
theorem qG.runs {c:Value} {S d:zy} {e:AEx} {T:List Value} (h:zJ zi O false qG.code ([c,zh,zh,zh,zh,zh,zh,zh,zh,zh,zh,zh,zh,zh,zh,zh,zh,zh,zh,zh,zh]) zy.empty=some (e,T,d)) (he:e=.normal∨e=.ret) (hca:[c].all (jW 16)=true) (hcv:jW 16 (T.getD 2 zh)=true):zZ zi O 68 [c] S=some (T.getD 2 zh,S) :=
 yC rfl rfl Try.func68 (by decide) qG.body (by exact h) he (yH (a:=T.getD 2 zh) ((show zQ zi T d Try.f68.results.toList=zQ zi T d [(ResultVar.tmp 2)] from by kernel_rfl).trans (by simp only [zQ])) (by kernel_rfl)) hca hcv
end Go.Proofs.Ytfjogganfjkckaa
namespace Go.Proofs.Ytfjogganfjkckaa
open Go.Abs
abbrev jE.id:FuncId:=48
noncomputable def jE.code:Code:=(.seq (.region 0 (reg Try.f48 0) false) (.seq (.region 1 (reg Try.f48 1) false) Code.ret))
theorem jE.body:Try.f48.body=some jE.code:=by kernel_rfl
variable (c i Y J K L M N P Q l m n o p q r s t u w:Value) (S:zy)
theorem jE.r0 :jD zi ⟨false,false,false⟩ (zZ zi O) (reg Try.f48 0) (reg Try.f48 0).toList ([c,i,Y,J,K,L,M,N,P,Q,l,m,n,o,p,q,r,s,t,u,w]) S =
  (zN (J3 (dem c) S) (fun x d=>some ([c,x,Value.bool false,J,K,L,M,N,P,Q,l,m,n,o,p,q,r,s,t,u,w],d)) ()):=by
 kernel_rfl
theorem jE.r1 :jD zi ⟨false,false,false⟩ (zZ zi O) (reg Try.f48 1) (reg Try.f48 1).toList ([c,i,Y,J,K,L,M,N,P,Q,l,m,n,o,p,q,r,s,t,u,w]) S =
  (zN (zF zi 43 i 0 S) (fun x d=>zN (jh zi false 3 x d) (fun R Z=>zN (wI zi BinOp.gtr 3 R (.int .i64 0) Z) (fun f S3=>gdK (dem f) true (zF zi 43 i 0) S3 (fun U S4=>gdK (dem f) true (jh zi false 3 U) S4 (fun V S5=>gdK (dem f) true (wI zi BinOp.leq 3 V (.int .i64 1000000)) S5 (fun W S6=>zN (wX (dem f) W (Value.bool false) S6) (fun g S7=>gdK (dem g) true (zF zi 43 i 1) S7 (fun X S8=>gdK (dem g) true (jh zi false 3 X) S8 (fun y S9=>gdK (dem g) true (wI zi BinOp.geq 3 y (.int .i64 0)) S9 (fun z D=>zN (wX (dem g) z (Value.bool false) D) (fun b E=>gdK (dem b) true (zF zi 43 i 1) E (fun A F=>gdK (dem b) true (jh zi false 3 A) F (fun B G=>gdK (dem b) true (wI zi BinOp.leq 3 B (.int .i64 1000)) G (fun C H=>zN (wX (dem b) C (Value.bool false) H) (fun k I=>some ([c,i,k,x,R,f,dem f,U,V,W,g,dem g,X,y,z,b,dem b,A,B,C,dem k],I)) ()) ()) ()) ()) ()) ()) ()) ()) ()) ()) ()) ()) ()) ()) ()):=by
 refine sD Try.f48 1 0 (fun x d=>?_)
 refine sD Try.f48 1 1 (fun R Z=>?_)
 refine sD Try.f48 1 2 (fun f S3=>?_)
 refine sP Try.f48 1 3 (v:=f) ?_
 refine sG Try.f48 1 4 (j:=3) (fun U S4=>?_)
 refine sG Try.f48 1 5 (j:=3) (fun V S5=>?_)
 refine sG Try.f48 1 6 (j:=3) (fun W S6=>?_)
 refine sD Try.f48 1 7 (fun g S7=>?_)
 refine sP Try.f48 1 8 (v:=g) ?_
 refine sG Try.f48 1 9 (j:=8) (fun X S8=>?_)
 refine sG Try.f48 1 10 (j:=8) (fun y S9=>?_)
 refine sG Try.f48 1 11 (j:=8) (fun z D=>?_)
 refine sD Try.f48 1 12 (fun b E=>?_)
 refine sP Try.f48 1 13 (v:=b) ?_
 refine sG Try.f48 1 14 (j:=13) (fun A F=>?_)
 refine sG Try.f48 1 15 (j:=13) (fun B G=>?_)
 refine sG Try.f48 1 16 (j:=13) (fun C H=>?_)
 refine sD Try.f48 1 17 (fun k I=>?_)
 refine sP Try.f48 1 18 (v:=k) ?_
 kernel_rfl
theorem jE.rs:type_of% (alG @jE.r0 (@jE.r1)):=alG @jE.r0 (@jE.r1)
theorem jE.runs {c:Value} {S d:zy} {e:AEx} {T:List Value} (h:zJ zi O false jE.code ([c,zh,zh,zh,zh,zh,zh,zh,zh,zh,zh,zh,zh,zh,zh,zh,zh,zh,zh,zh,zh]) zy.empty=some (e,T,d)) (he:e=.normal∨e=.ret) (hca:[c].all (jW 16)=true) (hcv:jW 16 (T.getD 2 zh)=true):zZ zi O 48 [c] S=some (T.getD 2 zh,S) :=
 yC rfl rfl Try.func48 (by decide) jE.body (by exact h) he (yH (a:=T.getD 2 zh) ((show zQ zi T d Try.f48.results.toList=zQ zi T d [(ResultVar.tmp 2)] from by kernel_rfl).trans (by simp only [zQ])) (by kernel_rfl)) hca hcv
end Go.Proofs.Ytfjogganfjkckaa
namespace Go.Proofs.Ytfjogganfjkckaa
open Go.Abs
theorem afN {t:TypeId} {a b:List UInt8} {S:zy}:JZ zi .eql t (.string ⟨a.toArray⟩) (.string ⟨b.toArray⟩) S=some (.bool (decide (a=b)),S):=by rw [aee]
end Go.Proofs.Ytfjogganfjkckaa
namespace Go.Proofs.Ytfjogganfjkckaa
open Go.Abs
structure TxV where
 id:Int
 fee:Int
 deriving DecidableEq
def fT (t:TxV):List Value:=[.int .i64 t.id,.int .i64 t.fee]
abbrev tv (t:TxV):Value:=.agg [Value.int .i64 t.id,.int .i64 t.fee].toArray
structure TxV.Ok (t:TxV):Prop where
 id:-9223372036854775808≤t.id∧t.id < 9223372036854775808
 fee:-9223372036854775808≤t.fee∧t.fee < 9223372036854775808
def qF (t:TxV):Bool:=decide (1≤t.id) && decide (t.id≤1000000) && decide (0≤t.fee) && decide (t.fee≤1000)
theorem xJ {t:TxV}:qF t=true ↔ 1≤t.id∧t.id≤1000000∧0≤t.fee∧t.fee≤1000:=by
 simp [qF,and_assoc]
abbrev mem1 (t:TxV):zy:=zy.empty.push (.cells [Value.int .i64 t.id,.int .i64 t.fee] (.own []) 0)
theorem box1 (t:TxV):J3 (tv t) zy.empty=some (.pointer (some ⟨0,0,none⟩),mem1 t):=rfl
theorem ZI (t:TxV):(mem1 t).get 0=some (.cells [Value.int .i64 t.id,.int .i64 t.fee] (.own []) 0):=rfl
theorem qG.v (t:TxV) (S:zy):zZ zi O qG.id [tv t] S=some (.bool (qF t),S):=by
 obtain ⟨T,hTe⟩:∃ T,T=(tv t::zh::zh::zh::zh::zh::zh::zh::zh::zh::zh::zh::zh::zh::zh::zh::zh::zh::zh::zh::zh::[]):=⟨_,rfl⟩
 have hr:zJ zi O false qG.code T zy.empty=zJ zi O false qG.code T zy.empty:=rfl
 have l0:=qK (t:=3) (o:=0+0) (ZI t) ZX rfl
 have l1:=qK (t:=3) (o:=0+1) (ZI t) ZX rfl
 by_cases h1:1≤t.id <;> by_cases h2:t.id≤1000000 <;> by_cases h3:0≤t.fee <;> by_cases h4:t.fee≤1000
 all_goals
  conv at hr =>
   rhs
   rw [hTe]
   simp only [qG.code,qG.rs,zSs,reduceIte,zk,zn,zo,zq,box1,xw,Ji,l0,l1,h1,h2,h3,h4]
  rw [hTe] at hr
  simp only [qF,h1,h2,h3,h4,decide_true,decide_false,Bool.and_true,Bool.and_false,Bool.false_and]
  exact qG.runs hr (.inr rfl) rfl rfl
theorem jE.v (t:TxV) (S:zy):zZ zi O jE.id [tv t] S=some (.bool (qF t),S):=by
 obtain ⟨T,hTe⟩:∃ T,T=(tv t::zh::zh::zh::zh::zh::zh::zh::zh::zh::zh::zh::zh::zh::zh::zh::zh::zh::zh::zh::zh::[]):=⟨_,rfl⟩
 have hr:zJ zi O false jE.code T zy.empty=zJ zi O false jE.code T zy.empty:=rfl
 have l0:=qK (t:=3) (o:=0+0) (ZI t) ZX rfl
 have l1:=qK (t:=3) (o:=0+1) (ZI t) ZX rfl
 have h0:decide (1≤t.id)=decide (0 < t.id):=decide_eq_decide.mpr (by omega)
 unfold qF
 rw [h0]
 by_cases h1:0 < t.id <;> by_cases h2:t.id≤1000000 <;> by_cases h3:0≤t.fee <;> by_cases h4:t.fee≤1000
 all_goals
  conv at hr =>
   rhs
   rw [hTe]
   simp only [jE.code,jE.rs,zSs,reduceIte,zk,zn,zo,zq,box1,xw,Ji,l0,l1,h1,h2,h3,h4]
  rw [hTe] at hr
  simp only [h1,h2,h3,h4,decide_true,decide_false,Bool.and_true,Bool.and_false,Bool.false_and]
  exact jE.runs hr (.inr rfl) rfl rfl
end Go.Proofs.Ytfjogganfjkckaa
namespace Go.Proofs.Ytfjogganfjkckaa
open Go.Abs
def txB (t:TxV):List UInt8:=encs [t.id,t.fee]
def ajK (t:TxV):Value:=if qF t then .tuple #[by_ 2 (txB t),.int .i64 0] else .tuple #[.slice none 0 0,.int .i64 61]
theorem acp {t:TxV} (h:qF t=true):(txB t).length≤20:=by
 obtain ⟨h1,h2,h3,h4⟩:=xJ.mp h
 have:=Jl (l:=[t.id,t.fee]) (by intro n hn;simp at hn;rcases hn with rfl | rfl <;> omega)
 exact this
theorem acD (x y:Int):sv 2 1 2 [.int .i64 x,.int .i64 y]=iz 2 [x,y]:=rfl
theorem yU.v (t:TxV) (S:zy):zZ zi O yU.id [tv t] S=some (ajK t,S):=by
 obtain ⟨T,hTe⟩:∃ T,T=(tv t::zh::zh::zh::zh::zh::zh::zh::zh::zh::zh::zh::zh::zh::zh::zh::zh::zh::zh::[]):=⟨_,rfl⟩
 have hr:zJ zi O false yU.code T zy.empty=zJ zi O false yU.code T zy.empty:=rfl
 have l0:=qK (t:=3) (o:=0+0) (ZI t) ZX rfl
 have l1:=qK (t:=3) (o:=0+1) (ZI t) ZX rfl
 have lt:=KE (ZI t)
 unfold ajK
 by_cases h:qF t=true
 ·
  have hh:=xJ.mp h
  have c1:=fun S=>jH.v (l:=[t.id,t.fee]) Okl.read (by decide) (by simp;omega) S
  conv at hr =>
   rhs
   rw [hTe]
   simp only [yU.code,yU.rs,zSs,reduceIte,zk,zn,zo,zq,box1,lt,Zr,qG.v,h,xw,Ji,l0,l1,Qs,acD,c1,JW (l:=[t.id,t.fee]) (by simp) (by simp;omega) (by simp)]
  rw [hTe] at hr
  rw [if_pos h]
  exact yU.runs hr (.inr rfl) (by simp only [List.getD_cons_succ,List.getD_cons_zero,wJ,wC,jS,jY,wB]) rfl rfl (yV (all2 (qH (k:=2) (Nat.le_refl 2)) rfl))
 ·
  rw [Bool.not_eq_true] at h
  conv at hr =>
   rhs
   rw [hTe]
   simp only [yU.code,yU.rs,zSs,reduceIte,zk,zn,zo,zq,box1,lt,Zr,qG.v,h]
  rw [hTe] at hr
  rw [if_neg (by rw [h];decide)]
  exact yU.runs hr (.inr rfl) rfl rfl rfl rfl
theorem jJ.v (t:TxV) (S:zy):zZ zi O jJ.id [tv t] S=some (ajK t,S):=by
 obtain ⟨T,hTe⟩:∃ T,T=(tv t::zh::zh::zh::zh::zh::zh::zh::zh::zh::zh::zh::zh::zh::zh::[]):=⟨_,rfl⟩
 have hr:zJ zi O false jJ.code T zy.empty=zJ zi O false jJ.code T zy.empty:=rfl
 have l0:=qK (t:=3) (o:=0+0) (ZI t) ZX rfl
 have l1:=qK (t:=3) (o:=0+1) (ZI t) ZX rfl
 have lt:=KE (ZI t)
 unfold ajK
 by_cases h:qF t=true
 ·
  have hh:=xJ.mp h
  have c1:=fun S=>zK.v (l:=[t.id,t.fee]) Okl.read (by decide) (by simp;omega) S
  conv at hr =>
   rhs
   rw [hTe]
   simp only [jJ.code,jJ.rs,zSs,reduceIte,zk,zn,zo,zq,box1,lt,Zr,jE.v,h,xw,Ji,l0,l1,Qs,acD,c1,JW (l:=[t.id,t.fee]) (by simp) (by simp;omega) (by simp)]
  rw [hTe] at hr
  rw [if_pos h]
  exact jJ.runs hr (.inr rfl) (by simp only [List.getD_cons_succ,List.getD_cons_zero,wJ,wC,jS,jY,wB]) rfl rfl (yV (all2 (qH (k:=2) (Nat.le_refl 2)) rfl))
 ·
  rw [Bool.not_eq_true] at h
  conv at hr =>
   rhs
   rw [hTe]
   simp only [jJ.code,jJ.rs,zSs,reduceIte,zk,zn,zo,zq,box1,lt,Zr,jE.v,h]
  rw [hTe] at hr
  rw [if_neg (by rw [h];decide)]
  exact jJ.runs hr (.inr rfl) rfl rfl rfl rfl
theorem JO (S:zy):yI zi 43 S=some (.pointer (some ⟨S.next,0,none⟩),S.push (.cells (fT ⟨0,0⟩) (.own []) 0)):=by kernel_rfl
theorem XO (S:zy) (t:TxV):∃ S2,wU zi 43 (.pointer (some ⟨S.next,0,none⟩)) (tv t) (S.push (.cells (fT ⟨0,0⟩) (.own []) 0))=some (zh,S2)∧S2.get S.next=some (.cells (fT t) (.own []) 0)∧Ext S S2∧S.next < S2.next :=
 YT S (by rw [qL,List.toList_toArray];rfl) ZY rfl rfl
theorem abl {S S0:zy} {q:Nat} {u:TxV} (t:TxV) (hg:S.get q=some (.cells (fT u) (.own []) 0)) (hE:Ext S0 S) (hq:S0.next≤q):∃ S2,wU zi 43 (.pointer (some ⟨q,0,none⟩)) (tv t) S=some (zh,S2)∧S2.get q=some (.cells (fT t) (.own []) 0)∧Ext S0 S2∧S2.next=S.next∧∀ k,k≠q→S2.get k=S.get k :=
 abv hg ZY rfl rfl (by simp [fT]) hE hq
theorem akR {R:Type} {a b:Int} (r:Option R) (p:Zv r):okK (.agg [Value.int .i64 a,.int .i64 b].toArray) r p=r:=kF rfl r p
theorem Wp {S:zy} {q:Nat} {t:TxV} (h:S.get q=some (.cells (fT t) (.own []) 0)):jh zi false 43 (.pointer (some ⟨q,0,none⟩)) S=some (tv t,S):=KE h
theorem Xg {S:zy} {q:Nat} {t:TxV} (h:S.get q=some (.cells (fT t) (.own []) 0)):jh zi false 3 (.pointer (some ⟨q,0+0,none⟩)) S=some (.int .i64 t.id,S):=qK (t:=3) (o:=0+0) h ZX rfl
theorem akn {S:zy} {q:Nat} {t:TxV} (h:S.get q=some (.cells (fT t) (.own []) 0)):jh zi false 3 (.pointer (some ⟨q,0+1,none⟩)) S=some (.int .i64 t.fee,S):=qK (t:=3) (o:=0+1) h ZX rfl
theorem alu (k:Nat) (hk:k≤2) (a b:Int) (h:k≠0) (S:zy):jy zi 24 (iz k [a,b]) (.int .i64 0) S=some (EP [.int .i64 a],S):=acP ⟨hk,fun h0=>absurd h0 h⟩ (by decide) (by simp)
theorem alk (k:Nat) (hk:k≤2) (a b:Int) (h:k≠0) (S:zy):jy zi 24 (iz k [a,b]) (.int .i64 1) S=some (EP [.int .i64 b],S):=acP ⟨hk,fun h0=>absurd h0 h⟩ (by decide) (by simp)
def ah3 (l:List UInt8):Value:=match qp 2 l with
 | some ([a,b],r)=>.tuple #[tv ⟨a,b⟩,by_ 2 r,.bool (qF ⟨a,b⟩)]
 | _=>.tuple #[tv ⟨0,0⟩,.slice none 0 0,.bool false]
theorem KJ (l:List UInt8):qp 2 l=none∨∃ a b r,qp 2 l=some ([a,b],r)∧r.length≤l.length:=by
 cases h:qp 2 l with
 | none=>exact .inl rfl
 | some ar =>
  obtain ⟨a,r⟩:=ar
  obtain ⟨h1,h2⟩:=WT h
  match a,h1 with
  | [x,y],_=>exact .inr ⟨x,y,r,rfl,h2⟩
theorem yw.v {k:Nat} {l:List UInt8} (hk:Okl k l) (k2:k≠2) (hl:l.length≤140737488355328) (S:zy):zZ zi O yw.id [by_ k l] S=some (ah3 l,S):=by
 obtain ⟨T,hTe⟩:∃ T,T=(by_ k l::zh::zh::zh::zh::zh::zh::zh::zh::zh::zh::zh::zh::zh::zh::zh::zh::zh::zh::zh::zh::zh::zh::zh::zh::zh::zh::zh::zh::[]):=⟨_,rfl⟩
 have hr:zJ zi O false yw.code T zy.empty=zJ zi O false yw.code T zy.empty:=rfl
 have c1:=fun S=>zS.v (many:=2) hk k2 hl S
 have a1:=JO zy.empty
 have g1:(zy.empty.push (.cells (fT ⟨0,0⟩) (.own []) 0)).get 0=some (.cells (fT ⟨0,0⟩) (.own []) 0):=by kernel_rfl
 have n1:(zy.empty.push (.cells (fT ⟨0,0⟩) (.own []) 0)).next=1:=by kernel_rfl
 rw [show zy.empty.next=0 from rfl] at a1
 have r1:Zi 0 (if k=0 then 0 else 2) 2 l=_:=xU (m:=2) (by decide) (by decide)
 rw [r1] at c1
 unfold ah3
 generalize hS1:zy.empty.push (.cells (fT ⟨0,0⟩) (.own []) 0)=S1 at a1 g1 n1
 rcases KJ l with h | ⟨a,b,r,h,hlr⟩
 ·
  rw [h] at c1 ⊢
  obtain ⟨S2,p1,p2,p3,p4⟩:=abl ⟨0,0⟩ g1 (Ext.refl zy.empty |>.trans (hS1 ▸ Ext.push _ _)) (Nat.zero_le _)
  conv at hr =>
   rhs
   rw [hTe]
   simp only [yw.code,yw.rs,zSs,reduceIte,zk,zn,zo,zq,if_neg k2,a1,c1,wF,p1]
  rw [hTe] at hr
  exact yw.runs hr (.inr rfl) (Wp p2) rfl rfl rfl (all1 (qH (k:=k) hk.le)) rfl
 ·
  rw [h] at c1 ⊢
  have e0:=alu 1 (by decide) a b (by decide)
  have e1:=alk 1 (by decide) a b (by decide)
  have c2:∀ S,zZ zi O 68 [.agg [Value.int .i64 a,.int .i64 b].toArray] S=some (.bool (qF ⟨a,b⟩),S):=fun S=>qG.v ⟨a,b⟩ S
  obtain ⟨S2,p1,p2,p3,p4⟩:=XO S1 ⟨a,b⟩
  have g2:S2.get 0=some (.cells (fT ⟨0,0⟩) (.own []) 0):=by rw [p3.get 0 (by omega),g1]
  obtain ⟨S3,q1,q2,q3,q4,q5⟩:=abl ⟨a,b⟩ g2 (Ext.trans (hS1 ▸ Ext.push _ _:Ext zy.empty S1) p3) (Nat.zero_le _)
  conv at hr =>
   rhs
   rw [hTe]
   simp only [yw.code,yw.rs,zSs,reduceIte,zk,zn,zo,zq,if_neg k2,a1,c1,e0,e1,qy,Z5 (yS) (yS),JO,p1,Wp p2,q1,c2,yP p2,akR]
  rw [hTe] at hr
  exact yw.runs hr (.inr rfl) (Wp q2) rfl (by simp only [List.getD_cons_succ,List.getD_cons_zero,wJ,wC,jS,jY,wB]) rfl (all1 (qH (k:=k) hk.le)) (yV (alF rfl (qH (k:=2) (Nat.le_refl 2)) rfl))
noncomputable def afM (l:List UInt8):Option TxV:=rd (fun t=>qF t=true) txB l
theorem ae7 {a b:TxV} {r s:List UInt8} (ha:qF a=true) (hb:qF b=true) (h:txB a++r=txB b++s):a=b∧r=s:=by
 obtain ⟨a1,a2,a3,a4⟩:=xJ.mp ha
 obtain ⟨b1,b2,b3,b4⟩:=xJ.mp hb
 obtain ⟨h1,h2⟩:=WR (a:=[a.id,a.fee]) (c:=[b.id,b.fee]) rfl (by simp [Few];omega) (by simp [Few];omega) h
 refine ⟨?_,h2⟩
 cases a;cases b
 simp at h1
 rw [h1.1,h1.2]
theorem JV (l:List UInt8) (t:TxV):afM l=some t ↔ qF t=true∧l=txB t :=
 agK (fun x y hx hy h=>(ae7 (r:=[]) (s:=[]) hx hy (by simpa using h)).1) l t
theorem abr {l:List UInt8} (h:∀ t,¬ (qF t=true∧l=txB t)):afM l=none:=by
 cases hr:afM l with
 | none=>rfl
 | some t=>exact absurd ((JV l t).mp hr) (h t)
noncomputable def aes (l:List UInt8):Value:=match afM l with
 | some t=>.tuple #[tv t,.int .i64 0]
 | none=>.tuple #[tv ⟨0,0⟩,.int .i64 61]
theorem agy {l r:List UInt8} {a b:Int} (h:qp 2 l=some ([a,b],r)):afM l=if qF ⟨a,b⟩=true∧r=[] then some ⟨a,b⟩ else none:=by
 obtain ⟨_,h2,h3⟩:=(y7 _ _ _ _).mp h
 split
 ·
  rename_i hc
  exact (JV _ _).mpr ⟨hc.1,by rw [h2,hc.2,List.append_nil];rfl⟩
 ·
  rename_i hc
  refine abr fun t ht=>hc ?_
  obtain ⟨b1,b2,b3,b4⟩:=xJ.mp ht.1
  have h4:encs [t.id,t.fee]++[]=encs [a,b]++r:=by rw [List.append_nil,← h2];exact ht.2.symm
  obtain ⟨h5,h6⟩:=WR (a:=[t.id,t.fee]) (c:=[a,b]) rfl (by simp [Few];omega) h3 h4
  simp at h5
  rw [← h5.1,← h5.2]
  exact ⟨ht.1,h6.symm⟩
theorem QM {l:List UInt8} (h:qp 2 l=none):afM l=none:=by
 refine abr fun t ht=>?_
 obtain ⟨b1,b2,b3,b4⟩:=xJ.mp ht.1
 have:=(y7 2 l [t.id,t.fee] []).mpr ⟨rfl,by rw [List.append_nil];exact ht.2,by simp [Few];omega⟩
 rw [h] at this
 cases this
theorem y8.v {k:Nat} {l:List UInt8} (hk:Okl k l) (k2:k≠2) (hl:l.length≤140737488355328) (S:zy):zZ zi O y8.id [by_ k l] S=some (aes l,S):=by
 obtain ⟨T,hTe⟩:∃ T,T=(by_ k l::zh::zh::zh::zh::zh::zh::zh::zh::zh::zh::zh::zh::zh::zh::zh::zh::zh::zh::zh::zh::zh::[]):=⟨_,rfl⟩
 have hr:zJ zi O false y8.code T zy.empty=zJ zi O false y8.code T zy.empty:=rfl
 have c1:=fun S=>yw.v hk k2 hl S
 have a1:=JO zy.empty
 have g1:(zy.empty.push (.cells (fT ⟨0,0⟩) (.own []) 0)).get 0=some (.cells (fT ⟨0,0⟩) (.own []) 0):=by kernel_rfl
 have n1:(zy.empty.push (.cells (fT ⟨0,0⟩) (.own []) 0)).next=1:=by kernel_rfl
 rw [show zy.empty.next=0 from rfl] at a1
 have hE1:Ext zy.empty (zy.empty.push (.cells (fT ⟨0,0⟩) (.own []) 0)):=Ext.push _ _
 generalize zy.empty.push (.cells (fT ⟨0,0⟩) (.own []) 0)=S1 at a1 g1 n1 hE1
 unfold ah3 at c1
 unfold aes
 rcases KJ l with h | ⟨a,b,r,h,hlr⟩
 ·
  rw [h] at c1
  rw [QM h]
  obtain ⟨S2,p1,p2,p3,p4⟩:=XO S1 ⟨0,0⟩
  have g2:S2.get 0=some (.cells (fT ⟨0,0⟩) (.own []) 0):=by rw [p3.get 0 (by omega),g1]
  obtain ⟨S3,q1,q2,q3,q4,q5⟩:=abl ⟨0,0⟩ g2 (Ext.trans hE1 p3) (Nat.zero_le _)
  conv at hr =>
   rhs
   rw [hTe]
   simp only [y8.code,y8.rs,zSs,reduceIte,zk,zn,zo,zq,if_neg k2,a1,c1,JO,p1,wF,q1]
  rw [hTe] at hr
  exact y8.runs hr (.inr rfl) (Wp q2) rfl rfl (all1 (qH (k:=k) hk.le)) rfl
 ·
  rw [h] at c1
  rw [agy h]
  by_cases hok:qF ⟨a,b⟩=true
  ·
   obtain ⟨S2,p1,p2,p3,p4⟩:=XO S1 ⟨a,b⟩
   have g2:S2.get 0=some (.cells (fT ⟨0,0⟩) (.own []) 0):=by rw [p3.get 0 (by omega),g1]
   by_cases h0:r=[]
   ·
    subst h0
    obtain ⟨S3,q1,q2,q3,q4,q5⟩:=abl ⟨a,b⟩ g2 (Ext.trans hE1 p3) (Nat.zero_le _)
    conv at hr =>
     rhs
     rw [hTe]
     simp only [y8.code,y8.rs,zSs,reduceIte,zk,zn,zo,zq,if_neg k2,a1,c1,JO,p1,hok,ZP Okl.read,goInt,List.length_nil,Int.ofNat_zero,Int.natCast_zero,Int.lt_irrefl,Wp p2,q1]
    rw [if_pos ⟨hok,rfl⟩]
    rw [hTe] at hr
    exact y8.runs hr (.inr rfl) (Wp q2) rfl rfl (all1 (qH (k:=k) hk.le)) rfl
   ·
    have hp:(0:Int) < (r.length:Int):=by have:=List.length_pos_iff.mpr h0;omega
    obtain ⟨S3,q1,q2,q3,q4,q5⟩:=abl ⟨0,0⟩ g2 (Ext.trans hE1 p3) (Nat.zero_le _)
    conv at hr =>
     rhs
     rw [hTe]
     simp only [y8.code,y8.rs,zSs,reduceIte,zk,zn,zo,zq,if_neg k2,a1,c1,JO,p1,hok,ZP Okl.read,goInt,decide_eq_true hp,wF,q1]
    rw [if_neg (fun h=>h0 h.2)]
    rw [hTe] at hr
    exact y8.runs hr (.inr rfl) (Wp q2) rfl rfl (all1 (qH (k:=k) hk.le)) rfl
  ·
   rw [if_neg (fun h=>hok h.1)]
   rw [Bool.not_eq_true] at hok
   obtain ⟨S2,p1,p2,p3,p4⟩:=XO S1 ⟨a,b⟩
   have g2:S2.get 0=some (.cells (fT ⟨0,0⟩) (.own []) 0):=by rw [p3.get 0 (by omega),g1]
   obtain ⟨S3,q1,q2,q3,q4,q5⟩:=abl ⟨0,0⟩ g2 (Ext.trans hE1 p3) (Nat.zero_le _)
   conv at hr =>
    rhs
    rw [hTe]
    simp only [y8.code,y8.rs,zSs,reduceIte,zk,zn,zo,zq,if_neg k2,a1,c1,JO,p1,hok,wF,q1]
   rw [hTe] at hr
   exact y8.runs hr (.inr rfl) (Wp q2) rfl rfl (all1 (qH (k:=k) hk.le)) rfl
theorem zX.v {k:Nat} {l:List UInt8} (hk:Okl k l) (k2:k≠2) (hl:l.length≤140737488355328) (S:zy):zZ zi O zX.id [by_ k l] S=some (aes l,S):=by
 obtain ⟨T,hTe⟩:∃ T,T=(by_ k l::zh::zh::zh::zh::zh::zh::zh::zh::zh::zh::zh::zh::zh::zh::zh::zh::zh::zh::zh::zh::zh::zh::zh::zh::zh::zh::zh::zh::zh::zh::zh::zh::zh::zh::zh::zh::zh::zh::[]):=⟨_,rfl⟩
 have hr:zJ zi O false zX.code T zy.empty=zJ zi O false zX.code T zy.empty:=rfl
 have c1:=fun S=>zD.v (many:=2) hk k2 hl S
 have r1:Zi 2 2 2 l=_:=xU (m:=2) (by decide) (by decide)
 rw [r1] at c1
 have a1:=JO zy.empty
 have g1:(zy.empty.push (.cells (fT ⟨0,0⟩) (.own []) 0)).get 0=some (.cells (fT ⟨0,0⟩) (.own []) 0):=by kernel_rfl
 rw [show zy.empty.next=0 from rfl] at a1
 have hE1:Ext zy.empty (zy.empty.push (.cells (fT ⟨0,0⟩) (.own []) 0)):=Ext.push _ _
 generalize zy.empty.push (.cells (fT ⟨0,0⟩) (.own []) 0)=S1 at a1 g1 hE1
 obtain ⟨S3,q1,q2,q3,q4,q5⟩:=abl ⟨0,0⟩ g1 hE1 (Nat.zero_le _)
 unfold aes
 rcases KJ l with h | ⟨a,b,r,h,hlr⟩
 ·
  rw [h] at c1
  rw [QM h]
  conv at hr =>
   rhs
   rw [hTe]
   simp only [zX.code,zX.rs,zSs,reduceIte,zk,zn,zo,zq,if_neg k2,a1,c1,wF,q1]
  rw [hTe] at hr
  exact zX.runs hr (.inr rfl) (Wp q2) rfl rfl (all1 (qH (k:=k) hk.le)) rfl
 ·
  rw [h] at c1
  rw [agy h]
  have e0:=alu 1 (by decide) a b (by decide)
  have e1:=alk 1 (by decide) a b (by decide)
  have c2:∀ S,zZ zi O 48 [.agg [Value.int .i64 a,.int .i64 b].toArray] S=some (.bool (qF ⟨a,b⟩),S):=fun S=>jE.v ⟨a,b⟩ S
  by_cases h0:r=[]
  ·
   subst h0
   by_cases hok:qF ⟨a,b⟩=true
   ·
    obtain ⟨S4,p1,p2,p3,p4⟩:=abl ⟨a,b⟩ g1 hE1 (Nat.zero_le _)
    conv at hr =>
     rhs
     rw [hTe]
     simp only [zX.code,zX.rs,zSs,reduceIte,zk,zn,zo,zq,if_neg k2,a1,c1,ZP Okl.read,goInt,List.length_nil,Int.ofNat_zero,Int.natCast_zero,Int.lt_irrefl,e0,e1,qy,Z5 (yS) (yS),c2,hok,p1]
    rw [if_pos ⟨hok,rfl⟩]
    rw [hTe] at hr
    exact zX.runs hr (.inr rfl) (Wp p2) rfl rfl (all1 (qH (k:=k) hk.le)) rfl
   ·
    rw [if_neg (fun h=>hok h.1)]
    rw [Bool.not_eq_true] at hok
    conv at hr =>
     rhs
     rw [hTe]
     simp only [zX.code,zX.rs,zSs,reduceIte,zk,zn,zo,zq,if_neg k2,a1,c1,ZP Okl.read,goInt,List.length_nil,Int.ofNat_zero,Int.natCast_zero,Int.lt_irrefl,e0,e1,qy,Z5 (yS) (yS),c2,hok,wF,q1]
    rw [hTe] at hr
    exact zX.runs hr (.inr rfl) (Wp q2) rfl rfl (all1 (qH (k:=k) hk.le)) rfl
  ·
   have hp:(0:Int) < (r.length:Int):=by have:=List.length_pos_iff.mpr h0;omega
   rw [if_neg (fun h=>h0 h.2)]
   conv at hr =>
    rhs
    rw [hTe]
    simp only [zX.code,zX.rs,zSs,reduceIte,zk,zn,zo,zq,if_neg k2,a1,c1,ZP Okl.read,goInt,decide_eq_true hp,wF,q1]
   rw [hTe] at hr
   exact zX.runs hr (.inr rfl) (Wp q2) rfl rfl (all1 (qH (k:=k) hk.le)) rfl
end Go.Proofs.Ytfjogganfjkckaa
