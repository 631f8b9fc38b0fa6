/-
The law JournalBytes returns true for every input that holds together at most 1048576 values and letters (each counted as often as it is reached), and leaves it as it was. Condition: that bound, the second form's (UptoSaid); nothing else. Part 6 of 6 of the texts (put together by a program: own names are short, what isn't needed is left out).
-/
import Derived.Test.YtblpnklfimkfoaaZJournalBytes5
import Derived.Test.YtblpnklfimkfoaaChecked
import Derived.KernelRfl
import Derived.Test.YtblpnklfimkfoaaRows
import Derived.ChangeArms
import Derived.WalkKit
import Derived.ProofKit
import Derived.OpenShut
import Derived.ShutString
import Derived.ChangeOld
import Derived.Below
import Derived.SizedLaws
import Derived.Carry
import Derived.JoinedCond
import Derived.Deep.CondSized
set_option linter.unusedVariables false
set_option linter.unusedSimpArgs false
set_option maxRecDepth 100000
namespace Go.Proofs.Ytblpnklfimkfoaa
open Go.Abs
abbrev zu.id : FuncId := 13
noncomputable def zu.jh : Code := (Code.block 1 (Code.seq (Code.region 3 (reg Try.f13 3) false) (Code.seq (Code.seq (Code.region 4 (reg Try.f13 4) false) (Code.cond (Operand.tmp 19) (Code.seq (Code.region 5 (reg Try.f13 5) false) Code.ret) Code.skip)) (Code.seq (Code.region 6 (reg Try.f13 6) false) (Code.region 7 (reg Try.f13 7) false)))))
noncomputable def zu.code : Code := (Code.seq (Code.region 0 (reg Try.f13 0) false) (Code.seq (Code.region 1 (reg Try.f13 1) false) (Code.seq (Code.region 2 (reg Try.f13 2) false) (Code.block 0 (Code.loop zu.jh)))))
theorem zu.body : Try.f13.body = some zu.code := by kernel_rfl
theorem zu.eta {T : List Value} (h : T.length = 29) : T = [T.getD 0 undef,T.getD 1 undef,T.getD 2 undef,T.getD 3 undef,T.getD 4 undef,T.getD 5 undef,T.getD 6 undef,T.getD 7 undef,T.getD 8 undef,T.getD 9 undef,T.getD 10 undef,T.getD 11 undef,T.getD 12 undef,T.getD 13 undef,T.getD 14 undef,T.getD 15 undef,T.getD 16 undef,T.getD 17 undef,T.getD 18 undef,T.getD 19 undef,T.getD 20 undef,T.getD 21 undef,T.getD 22 undef,T.getD 23 undef,T.getD 24 undef,T.getD 25 undef,T.getD 26 undef,T.getD 27 undef,T.getD 28 undef] := (wV T 29 h).trans (by kernel_rfl)
variable (v A D E x w B y z C a b c d f g i j k l m n o p q r s t u : Value) (S : zi)
theorem zu.r0  : jl Try.prog ⟨false, false, false⟩ (jc Try.prog O) (reg Try.f13 0) (reg Try.f13 0).toList ([v,A,D,E,x,w,B,y,z,C,a,b,c,d,f,g,i,j,k,l,m,n,o,p,q,r,s,t,u]) S =
  ( some ([v,A,Value.slice none 0 0,Value.int IntKind.i64 0,x,w,B,y,z,C,a,b,c,d,f,g,i,j,k,l,m,n,o,p,q,r,s,t,u], S)) := by
 kernel_rfl
theorem zu.r1  : jl Try.prog ⟨false, false, false⟩ (jc Try.prog O) (reg Try.f13 1) (reg Try.f13 1).toList ([v,A,D,E,x,w,B,y,z,C,a,b,c,d,f,g,i,j,k,l,m,n,o,p,q,r,s,t,u]) S =
  (zW (jg Try.prog 22 0 [] S) (fun L F => some ([v,A,D,E,L,w,B,y,z,dem L,a,b,c,d,f,g,i,j,k,l,m,n,o,p,q,r,s,t,u], F)) ()) := by
 kernel_rfl
theorem zu.r2  : jl Try.prog ⟨false, false, false⟩ (jc Try.prog O) (reg Try.f13 2) (reg Try.f13 2).toList ([v,A,D,E,x,w,B,y,z,C,a,b,c,d,f,g,i,j,k,l,m,n,o,p,q,r,s,t,u]) S =
  ( some ([v,A,D,E,x,Value.int IntKind.i64 0,B,y,z,C,a,b,c,d,f,g,i,j,k,l,m,n,o,p,q,r,s,t,u], S)) := by
 kernel_rfl
theorem zu.r3  : jl Try.prog ⟨false, false, false⟩ (jc Try.prog O) (reg Try.f13 3) (reg Try.f13 3).toList ([v,A,D,E,x,w,B,y,z,C,a,b,c,d,f,g,i,j,k,l,m,n,o,p,q,r,s,t,u]) S =
  (zW (wz Try.prog false 26 (dem v) (some (dem w)) none S) (fun G F => zW ((jc Try.prog O) 37 [(dem G)] F) (fun H J => zW (zL H 0 J) (fun M K => zW (zL (zQ 0 H) 1 K) (fun N R => zW (zL (zQ 1 (zQ 0 H)) 2 R) (fun P U => zW (qc Try.prog 28 U) (fun Q V => zW (yU Try.prog 28 Q (dem M) V) (fun X W => some ([v,A,D,E,x,w,Q,N,P,C,zQ 2 (zQ 1 (zQ 0 H)),dem v,dem w,G,dem H,M,dem N,dem P,k,l,m,n,o,p,q,r,s,t,u], W)) ()) ()) ()) ()) ()) ()) ()) := by
 kernel_rfl
theorem zu.r4  : jl Try.prog ⟨false, false, false⟩ (jc Try.prog O) (reg Try.f13 4) (reg Try.f13 4).toList ([v,A,D,E,x,w,B,y,z,C,a,b,c,d,f,g,i,j,k,l,m,n,o,p,q,r,s,t,u]) S =
  (zW (aUn Try.prog UnOp.not (dem z) S) (fun I F => some ([v,A,D,E,x,w,B,y,z,C,a,b,c,d,f,g,i,j,dem z,I,m,n,o,p,q,r,s,t,u], F)) ()) := by
 kernel_rfl
theorem zu.r5  : jl Try.prog ⟨false, false, false⟩ (jc Try.prog O) (reg Try.f13 5) (reg Try.f13 5).toList ([v,A,D,E,x,w,B,y,z,C,a,b,c,d,f,g,i,j,k,l,m,n,o,p,q,r,s,t,u]) S =
  ( some ([v,A,x,w,dem x,dem w,B,y,z,C,a,b,c,d,f,g,i,j,k,l,dem x,dem w,o,p,q,r,s,t,u], S)) := by
 kernel_rfl
theorem zu.r6  : jl Try.prog ⟨false, false, false⟩ (jc Try.prog O) (reg Try.f13 6) (reg Try.f13 6).toList ([v,A,D,E,x,w,B,y,z,C,a,b,c,d,f,g,i,j,k,l,m,n,o,p,q,r,s,t,u]) S =
  (zW (jw Try.prog false 28 B S) (fun I F => zW (jg Try.prog 22 1 [(0, I)] F) (fun G J => zW (jB Try.prog 22 22 x G J) (fun H K => some ([v,A,D,E,H,w,B,y,z,C,a,b,c,d,f,g,i,j,k,l,m,n,dem x,I,G,dem H,s,t,u], K)) ()) ()) ()) := by
 kernel_rfl
theorem zu.r7  : jl Try.prog ⟨false, false, false⟩ (jc Try.prog O) (reg Try.f13 7) (reg Try.f13 7).toList ([v,A,D,E,x,w,B,y,z,C,a,b,c,d,f,g,i,j,k,l,m,n,o,p,q,r,s,t,u]) S =
  (zW (jJ Try.prog BinOp.add 3 (dem w) (dem y) S) (fun G F => some ([v,A,D,E,x,G,B,y,z,C,a,b,c,d,f,g,i,j,k,l,m,n,o,p,q,r,dem w,dem y,dem G], F)) ()) := by
 kernel_rfl
theorem zu.rs : type_of% (And.intro @zu.r0 (And.intro @zu.r1 (And.intro @zu.r2 (And.intro @zu.r3 (And.intro @zu.r4 (And.intro @zu.r5 (And.intro @zu.r6 (@zu.r7)))))))) := And.intro @zu.r0 (And.intro @zu.r1 (And.intro @zu.r2 (And.intro @zu.r3 (And.intro @zu.r4 (And.intro @zu.r5 (And.intro @zu.r6 (@zu.r7)))))))
theorem zu.runs {v : Value} {S F : zi} {e : AEx} {T : List Value} (h : zI Try.prog O false zu.code ([v,undef,undef,undef,undef,undef,undef,undef,undef,undef,undef,undef,undef,undef,undef,undef,undef,undef,undef,undef,undef,undef,undef,undef,undef,undef,undef,undef,undef]) zi.empty = some (e, T, F)) (he : e = .normal ∨ e = .ret)  (h0 : ji (T.getD 2 undef) = true) (h1 : ji (T.getD 3 undef) = true) (hca : [v].all (jy 16) = true) (hcv : jy 16 (Value.tuple #[T.getD 2 undef, T.getD 3 undef]) = true) : jc Try.prog O 13 [v] S = some (Value.tuple #[T.getD 2 undef, T.getD 3 undef], S) :=
 qH rfl rfl Try.func13 (by decide) zu.body (by exact h) he ((wu ((show zV Try.prog T F Try.f13.results.toList = zV Try.prog T F [(ResultVar.tmp 2), (ResultVar.tmp 3)] from by kernel_rfl).trans (by simp only [zV])) (by kernel_rfl) (by simp only [List.all_cons, List.all_nil, h0, h1, Bool.and_true])).trans rfl) hca hcv
end Go.Proofs.Ytblpnklfimkfoaa
namespace Go.Proofs.Ytblpnklfimkfoaa
open Go.Abs
theorem yZ {x : wU} (hx : jR x = true) (s : List UInt8) : kN (wK x ++ s) = some (ZI x, s) ∧ wL 4 (ZI x) = some (kR x, J8 x.txt) ∧ kN (J8 x.txt) = some (x.txt, []) := by
 have h1 := wW (l := ZI x) (r := s) (by have := Zh hx; omega)
 have h2 := vP hx []
 have h3 := wW (l := x.txt) (r := []) (by have := (qU hx).2; omega)
 rw [List.append_nil] at h3
 rw [List.append_nil, List.append_nil] at h2
 exact ⟨h1, h2, h3⟩
def XP (l : List UInt8) (r : wU) (n : Nat) (ok : Bool) : Prop := r.Ok ∧ ((ok = true ∧ jR r = true ∧ n = (wK r).length ∧ ∃ s, l = wK r ++ s) ∨ (ok = false ∧ ∀ x s, jR x = true → l ≠ wK x ++ s))
theorem abp {l : List UInt8} (h : kN l = none) : XP l rz 0 false := ⟨Kw, .inr ⟨rfl, fun x s hx hl => by
 rw [hl, (yZ hx s).1] at h; cases h⟩⟩
theorem aax {l t u : List UInt8} (h : kN l = some (t, u)) (h2 : wL 4 t = none) : XP l rz 0 false := ⟨Kw, .inr ⟨rfl, fun x s hx hl => by
 rw [hl, (yZ hx s).1] at h
 simp only [Option.some.injEq, Prod.mk.injEq] at h
 rw [← h.1, (yZ hx s).2.1] at h2; cases h2⟩⟩
theorem acy {l t u v : List UInt8} {a b c d : Int} (h : kN l = some (t, u)) (h2 : wL 4 t = some ([a, b, c, d], v)) (h3 : kN v = none) : XP l rz 0 false := ⟨Kw, .inr ⟨rfl, fun x s hx hl => by
 rw [hl, (yZ hx s).1] at h
 simp only [Option.some.injEq, Prod.mk.injEq] at h
 rw [← h.1, (yZ hx s).2.1] at h2
 simp only [Option.some.injEq, Prod.mk.injEq] at h2
 rw [← h2.2, (yZ hx s).2.2] at h3; cases h3⟩⟩
theorem VF {l t u v y w s : List UInt8} {a b c d : Int} {x : wU} (h : kN l = some (t, u)) (h2 : wL 4 t = some ([a, b, c, d], v)) (h3 : kN v = some (y, w)) (hx : jR x = true) (hl : l = wK x ++ s) : xG ⟨a, b, c, d, 1, y⟩ x := by
 rw [hl, (yZ hx s).1] at h
 simp only [Option.some.injEq, Prod.mk.injEq] at h
 rw [← h.1, (yZ hx s).2.1] at h2
 simp only [Option.some.injEq, Prod.mk.injEq, kR, List.cons.injEq, and_true] at h2
 rw [← h2.2, (yZ hx s).2.2] at h3
 simp only [Option.some.injEq, Prod.mk.injEq] at h3
 obtain ⟨⟨i1, i2, i3, i4⟩, _⟩ := h2
 exact ⟨i1.symm, i2.symm, i3.symm, i4.symm, h3.1.symm⟩
theorem zk.v {k : Nat} {l : List UInt8} (hk : Okl k l) (k2 : k ≠ 2) (hl : l.length ≤ 140737488351232) : ∃ r n ok, XP l r n ok ∧ ∀ S, jc Try.prog O zk.id [by_ k l] S = some (.tuple #[rv r, .int .i64 (n : Nat), .bool ok], S) := by
 have a1 : qc Try.prog 28 zi.empty = some (.pointer (some ⟨0, 0, none⟩), VK rz) := adb zi.empty
 have g1 := vM rz
 have ne0 : (0 : Nat) ≠ 2 := by decide
 have cl : [by_ k l].all (jy 16) = true := all1 (vG (k := k) hk.le)
 obtain ⟨T, hTe⟩ : ∃ T, T = (by_ k l :: undef :: undef :: undef :: undef :: undef :: undef :: undef :: undef :: undef :: undef :: undef :: undef :: undef :: undef :: undef :: undef :: undef :: undef :: undef :: undef :: undef :: undef :: undef :: undef :: undef :: undef :: undef :: undef :: undef :: undef :: undef :: undef :: undef :: undef :: undef :: undef :: undef :: undef :: undef :: undef :: undef :: undef :: undef :: undef :: undef :: undef :: undef :: undef :: undef :: undef :: undef :: undef :: undef :: undef :: undef :: undef :: undef :: undef :: undef :: undef :: undef :: undef :: undef :: undef :: undef :: undef :: undef :: undef :: undef :: undef :: undef :: undef :: undef :: undef :: undef :: undef :: undef :: undef :: undef :: undef :: undef :: undef :: undef :: undef :: undef :: []) := ⟨_, rfl⟩
 have hr : zI Try.prog O false zk.code T zi.empty = zI Try.prog O false zk.code T zi.empty := rfl
 have c1 := fun S => zy.v (k := k) (l := l) hk k2 (by omega) S
 unfold Jg at c1
 have z0 : ∀ S, yh Try.prog 28 [] S = some (rv rz, S) := fun S => WM S
 have s1 := adw g1 rz
 cases ht : kN l with
 | none =>
  rw [ht] at c1
  refine ⟨rz, 0, false, abp ht, fun S => ?_⟩
  conv at hr =>
   rhs
   rw [hTe]
   simp only [zk.code, zk.rs, zSs, reduceIte, Nat.reduceEqDiff, Int.reduceEq, Int.reduceLT, Int.reduceLE, if_neg k2, a1, c1, z0, s1]
  rw [hTe] at hr
  exact zk.runs hr (.inr rfl) (JU (yH _ 0 rz) ne0) rfl rfl rfl cl rfl
 | some tu =>
  obtain ⟨t, u⟩ := tu
  rw [ht] at c1
  obtain ⟨f1, f2⟩ := vI ht
  have c2 := fun S => zh.v (many := 4) (k := 1) (l := t) Okl.read (by decide) (by omega) S
  have r1 : ∀ k0 k1, vw k0 k1 4 t = _ := fun k0 k1 => Wj (m := 4) (by decide) (by decide)
  rw [r1] at c2
  rcases aan t with h | ⟨a, b, c, d, s, h, hlr⟩
  ·
   rw [h] at c2
   refine ⟨rz, 0, false, aax ht h, fun S => ?_⟩
   conv at hr =>
    rhs
    rw [hTe]
    simp only [zk.code, zk.rs, zSs, reduceIte, Nat.reduceEqDiff, Int.reduceEq, Int.reduceLT, Int.reduceLE, if_neg k2, a1, c1, c2, z0, s1]
   rw [hTe] at hr
   exact zk.runs hr (.inr rfl) (JU (yH _ 0 rz) ne0) rfl rfl rfl cl rfl
  ·
   rw [h] at c2
   have c3 := fun S => zy.v (k := 1) (l := s) Okl.read (by decide) (by omega) S
   unfold Jg at c3
   cases hy : kN s with
   | none =>
    rw [hy] at c3
    refine ⟨rz, 0, false, acy ht h hy, fun S => ?_⟩
    conv at hr =>
     rhs
     rw [hTe]
     simp only [zk.code, zk.rs, zSs, reduceIte, Nat.reduceEqDiff, Int.reduceEq, Int.reduceLT, Int.reduceLE, if_neg k2, a1, c1, c2, c3, z0, s1]
    rw [hTe] at hr
    exact zk.runs hr (.inr rfl) (JU (yH _ 0 rz) ne0) rfl rfl rfl cl rfl
   | some yw =>
    obtain ⟨y, w⟩ := yw
    rw [hy] at c3
    obtain ⟨_, _, few⟩ := (vH _ _ _ _).mp h
    obtain ⟨e1, e2⟩ := vI hy
    have ro : wU.Ok ⟨a, b, c, d, 1, y⟩ := ⟨Okl.read, by show (1 : Nat) ≠ 2; decide, by show y.length ≤ _; omega, xQ (few _ (by simp)), xQ (few _ (by simp)), xQ (few _ (by simp)), xQ (few _ (by simp))⟩
    have i0 := fun S => Z7 (k := 1) (i := 0) (m := 0) (l := [a, b, c, d]) Okl.read rfl rfl S
    have i1 := fun S => Z7 (k := 1) (i := 1) (m := 1) (l := [a, b, c, d]) Okl.read rfl rfl S
    have i2 := fun S => Z7 (k := 1) (i := 2) (m := 2) (l := [a, b, c, d]) Okl.read rfl rfl S
    have i3 := fun S => Z7 (k := 1) (i := 3) (m := 3) (l := [a, b, c, d]) Okl.read rfl rfl S
    have ne1 : (1 : Nat) ≠ 2 := by decide
    have bd := fun S => qO (y0 := .int .i64 a) (y1 := .int .i64 b) (y2 := .int .i64 c) (y3 := .int .i64 d) (y4 := by_ 1 y) qC qC qC qC XU S
    have a2 : qc Try.prog 28 (VK rz) = some (.pointer (some ⟨1, 0, none⟩), ZK rz rz) := adb (VK rz)
    have s2 : yU Try.prog 28 (.pointer (some ⟨1, 0, none⟩)) (.agg [Value.int .i64 a, .int .i64 b, .int .i64 c, .int .i64 d, by_ 1 y].toArray) (ZK rz rz) = some (undef, acr (ZK rz rz) 1 ⟨a, b, c, d, 1, y⟩) := adw (Xj rz rz) ⟨a, b, c, d, 1, y⟩
    have q1 := yH (ZK rz rz) 1 ⟨a, b, c, d, 1, y⟩
    have q0 : (acr (ZK rz rz) 1 ⟨a, b, c, d, 1, y⟩).get 0 = some (.cells (fR rz) (.own []) 0) := (KN (by decide)).trans (KC rz rz)
    have ok1 : okq 3 (.agg [Value.int .i64 a, .int .i64 b, .int .i64 c, .int .i64 d, by_ 1 y].toArray) = true := ab4 ⟨a, b, c, d, 1, y⟩
    have sn : ∀ (x : wU) (v : List UInt8), jR x = true → l = wK x ++ v → xG ⟨a, b, c, d, 1, y⟩ x := fun x v h1 h2 => VF ht h hy h1 h2
    have hrx : (rv ⟨a, b, c, d, 1, y⟩ : Value) = .agg [Value.int .i64 a, .int .i64 b, .int .i64 c, .int .i64 d, by_ 1 y].toArray := rfl
    generalize hrr : (⟨a, b, c, d, 1, y⟩ : wU) = r at ro s2 q1 q0 sn hrx
    generalize acr (ZK rz rz) 1 r = A3 at s2 q1 q0
    have s3 := adw q0 rz
    have s4 := adw q0 r
    have ll : ∀ S, qM Try.prog 26 (by_ k l) S = some (.int .i64 l.length, S) := fun S => yK hk
    have lr : ∀ S, qM Try.prog 26 (by_ 1 (wK r)) S = some (.int .i64 (wK r).length, S) := fun S => yK Okl.read
    have c4 := fun S => zF.v ro S
    unfold VJ at c4
    cases hR : jR r
    ·
     rw [hR] at c4
     refine ⟨rz, 0, false, ⟨Kw, .inr ⟨rfl, fun x s hx hl => ?_⟩⟩, fun S => ?_⟩
     ·
      rw [(sn x s hx hl).like.1, hx] at hR; cases hR
     ·
      conv at hr =>
       rhs
       rw [hTe]
       simp only [zk.code, zk.rs, zSs, reduceIte, Nat.reduceEqDiff, Int.reduceEq, Int.reduceLT, Int.reduceLE, if_neg k2, a1, c1, c2, c3, z0, i0, i1, i2, i3, qJ, bd, a2, s2, JU q1 ro.ne, WX ok1, c4, s3]
      rw [hTe] at hr
      exact zk.runs hr (.inr rfl) (JU (yH _ 0 rz) ne0) rfl rfl rfl cl rfl
    ·
     rw [hR] at c4
     by_cases h7 : (l.length : Int) < ((wK r).length : Int)
     ·
      have d7 := decide_eq_true h7
      refine ⟨rz, 0, false, ⟨Kw, .inr ⟨rfl, fun x s hx hl => ?_⟩⟩, fun S => ?_⟩
      ·
       have := congrArg List.length hl
       rw [List.length_append, ← (sn x s hx hl).like.2.2] at this
       omega
      ·
       conv at hr =>
        rhs
        rw [hTe]
        simp only [zk.code, zk.rs, zSs, reduceIte, Nat.reduceEqDiff, Int.reduceEq, Int.reduceLT, Int.reduceLE, if_neg k2, a1, c1, c2, c3, z0, i0, i1, i2, i3, qJ, bd, a2, s2, JU q1 ro.ne, WX ok1, c4, s3, ll, lr, d7]
       rw [hTe] at hr
       exact zk.runs hr (.inr rfl) (JU (yH _ 0 rz) ne0) rfl rfl rfl cl rfl
     ·
      have d7 := decide_eq_false h7
      have sl : ∀ S, yT Try.prog 26 (by_ k l) none (some (.int .i64 (wK r).length)) S = some (by_ k (l.take (wK r).length), S) := fun S => by
       rw [kJ hk (i := 0) (j := (wK r).length) rfl rfl (by omega) (by omega) (by omega), if_neg k2]
       simp
      have hk3 : Okl k (l.take (wK r).length) := ⟨hk.le, fun h0 => by rw [hk.nil h0, List.take_nil]⟩
      have t1 : ∀ S, kG Try.prog 26 9 (by_ 1 (wK r)) S = some (.string ⟨(wK r).toArray⟩, S) := fun S => Yh Okl.read
      have t2 : ∀ S, jK Try.prog false false 26 9 (by_ 1 (wK r)) S = some (.string ⟨(wK r).toArray⟩, S) := fun S => by rw [qy]; exact t1 S
      have t3 : ∀ S, kG Try.prog 26 9 (by_ k (l.take (wK r).length)) S = some (.string ⟨(l.take (wK r).length).toArray⟩, S) := fun S => Yh hk3
      have t4 : ∀ S, jK Try.prog false false 26 9 (by_ k (l.take (wK r).length)) S = some (.string ⟨(l.take (wK r).length).toArray⟩, S) := fun S => by rw [qy]; exact t3 S
      have cq : ∀ S, jJ Try.prog .neq 9 (.string ⟨(wK r).toArray⟩) (.string ⟨(l.take (wK r).length).toArray⟩) S = some (.bool (!decide (wK r = l.take (wK r).length)), S) := fun S => afv (t := 9)
      by_cases h8 : wK r = l.take (wK r).length
      ·
       have d8 := decide_eq_true h8
       have d8 : (!decide (wK r = l.take (wK r).length)) = false := by rw [d8]; rfl
       rw [d8] at cq
       refine ⟨r, (wK r).length, true, ⟨ro, .inl ⟨rfl, hR, rfl, l.drop (wK r).length, ?_⟩⟩, fun S => ?_⟩
       ·
        conv => lhs; rw [← List.take_append_drop (wK r).length l]
        rw [← h8]
       ·
        conv at hr =>
         rhs
         rw [hTe]
         simp only [zk.code, zk.rs, zSs, reduceIte, Nat.reduceEqDiff, Int.reduceEq, Int.reduceLT, Int.reduceLE, if_neg k2, a1, c1, c2, c3, z0, i0, i1, i2, i3, qJ, bd, a2, s2, JU q1 ro.ne, WX ok1, c4, s4, ll, lr, d7, sl, t1, t2, t3, t4, cq]
        rw [hTe] at hr
        exact zk.runs hr (.inr rfl) (JU (yH _ 0 r) ro.ne) rfl rfl rfl cl (qh (agI (xk ro.okl.le) rfl rfl))
      ·
       have d8 := decide_eq_false h8
       have d8 : (!decide (wK r = l.take (wK r).length)) = true := by rw [d8]; rfl
       rw [d8] at cq
       refine ⟨rz, 0, false, ⟨Kw, .inr ⟨rfl, fun x s hx hl => ?_⟩⟩, fun S => ?_⟩
       ·
        refine h8 ?_
        rw [hl, (sn x s hx hl).like.2.2, List.take_left]
       ·
        conv at hr =>
         rhs
         rw [hTe]
         simp only [zk.code, zk.rs, zSs, reduceIte, Nat.reduceEqDiff, Int.reduceEq, Int.reduceLT, Int.reduceLE, if_neg k2, a1, c1, c2, c3, z0, i0, i1, i2, i3, qJ, bd, a2, s2, JU q1 ro.ne, WX ok1, c4, s3, ll, lr, d7, sl, t1, t2, t3, t4, cq]
        rw [hTe] at hr
        exact zk.runs hr (.inr rfl) (JU (yH _ 0 rz) ne0) rfl rfl rfl cl rfl
section
variable {k : Nat} {l : List UInt8}
theorem zu.round (hk : Okl k l) (k2 : k ≠ 2) (hl : l.length ≤ 1000000000000) : ∀ (n : Nat) (suf : List UInt8) (out : List wU) {T : List Value} {r : St} {S : zi}, wQ (zI Try.prog O false zu.jh) T S = r → T.length = 29 → suf.length ≤ n →
  T.getD 0 undef = by_ k l → T.getD 4 undef = rl 2 out → T.getD 5 undef = .int .i64 (out.flatMap wK).length → l = out.flatMap wK ++ suf → (∀ r ∈ out, r.Ok ∧ jR r = true) →
  ∃ T' S' rs m, r = some (.ret, T', S') ∧ T'.length = 29 ∧ T'.getD 2 undef = rl 2 rs ∧ T'.getD 3 undef = .int .i64 (m : Nat) ∧ WI l rs m := by
 intro n
 induction n with
 | zero =>
  intro suf out T r S hL hT hn h0 h4 h5 hpre hout
  have hs : suf = [] := List.length_eq_zero_iff.1 (by omega)
  have hll : l.length = (out.flatMap wK).length + suf.length := by rw [hpre, List.length_append]
  have hTe := zu.eta hT
  rw [h0, h4, h5] at hTe
  have hr : zI Try.prog O false zu.jh T S = zI Try.prog O false zu.jh T S := rfl
  have sl := fun S => Xx (S := S) hk (m := (out.flatMap wK).length) (by omega) (by omega)
  rw [Int.toNat_natCast, show l.drop (out.flatMap wK).length = suf by rw [hpre, List.drop_left], if_neg k2] at sl
  obtain ⟨r1, n1, ok, ⟨ro, hP⟩, c1⟩ := zk.v (k := k) (l := suf) ⟨hk.le, fun h => hs⟩ k2 (by omega)
  obtain ⟨S2, b1, b2, b3, b4⟩ := KJ r1 S
  rcases hP with ⟨rfl, hR, _, s, hs2⟩ | ⟨rfl, hno⟩
  ·
   have := vU r1
   have h9 := congrArg List.length hs2
   rw [List.length_append] at h9
   omega
  ·
   conv at hr =>
    rhs
    rw [hTe]
    simp only [zu.jh, zu.code, zu.rs, zSs, reduceIte, Nat.reduceEqDiff, Int.reduceEq, Int.reduceLT, Int.reduceLE, if_neg k2, sl, c1, adb, b1]
   exact ⟨_, _, out, _, hL.symm.trans (jq hr (by simp)), rfl, rfl, rfl, hout, rfl, suf, hpre, hno⟩
 | succ n ih =>
  intro suf out T r S hL hT hn h0 h4 h5 hpre hout
  have hll : l.length = (out.flatMap wK).length + suf.length := by rw [hpre, List.length_append]
  have hTe := zu.eta hT
  rw [h0, h4, h5] at hTe
  have hr : zI Try.prog O false zu.jh T S = zI Try.prog O false zu.jh T S := rfl
  have sl := fun S => Xx (S := S) hk (m := (out.flatMap wK).length) (by omega) (by omega)
  rw [Int.toNat_natCast, show l.drop (out.flatMap wK).length = suf by rw [hpre, List.drop_left], if_neg k2] at sl
  obtain ⟨r1, n1, ok, ⟨ro, hP⟩, c1⟩ := zk.v (k := k) (l := suf) ⟨hk.le, fun h => by
   have := hk.nil h
   rw [hpre] at this
   exact (List.append_eq_nil_iff.1 this).2⟩ k2 (by omega)
  obtain ⟨S2, b1, b2, b3, b4⟩ := KJ r1 S
  rcases hP with ⟨rfl, hR, rfl, s, hs2⟩ | ⟨rfl, hno⟩
  ·
   have rp := vU r1
   have h9 := congrArg List.length hs2
   rw [List.length_append] at h9
   have hol := Jr out
   have hout2 : ∀ r ∈ out ++ [r1], r.Ok ∧ jR r = true := fun r hr => by
    rcases List.mem_append.1 hr with hr | hr
    ·
     exact hout r hr
    ·
     rw [List.mem_singleton.1 hr]; exact ⟨ro, hR⟩
   have efl : (out ++ [r1]).flatMap wK = out.flatMap wK ++ wK r1 := by simp
   have hpre2 : l = (out ++ [r1]).flatMap wK ++ s := by rw [efl, List.append_assoc, ← hs2]; exact hpre
   have wi : IntKind.i64.wrap (((out.flatMap wK).length : Int) + ((wK r1).length : Int)) = (((out ++ [r1]).flatMap wK).length : Int) := by
    rw [wrap_i64 (by omega) (by omega), efl, List.length_append]; omega
   have ap := fun S => aaK (S := S) (r := r1) (k := 2) (l := out) Okl.own (by decide) (by omega)
   conv at hr =>
    rhs
    rw [hTe]
    simp only [zu.jh, zu.code, zu.rs, zSs, reduceIte, Nat.reduceEqDiff, Int.reduceEq, Int.reduceLT, Int.reduceLE, if_neg k2, sl, c1, adb, b1, JU b2 ro.ne, abg, ap, wi]
   exact ih s (out ++ [r1]) ((jY hr).symm.trans hL) rfl (by omega) rfl rfl rfl hpre2 hout2
  ·
   conv at hr =>
    rhs
    rw [hTe]
    simp only [zu.jh, zu.code, zu.rs, zSs, reduceIte, Nat.reduceEqDiff, Int.reduceEq, Int.reduceLT, Int.reduceLE, if_neg k2, sl, c1, adb, b1]
   exact ⟨_, _, out, _, hL.symm.trans (jq hr (by simp)), rfl, rfl, rfl, hout, rfl, suf, hpre, hno⟩
theorem zu.v (hk : Okl k l) (k2 : k ≠ 2) (hl : l.length ≤ 1000000000000) : ∃ rs m, WI l rs m ∧ ∀ S, jc Try.prog O zu.id [by_ k l] S = some (.tuple #[rl 2 rs, .int .i64 (m : Nat)], S) := by
 obtain ⟨T, hTe⟩ : ∃ T, T = (by_ k l :: undef :: undef :: undef :: undef :: undef :: undef :: undef :: undef :: undef :: undef :: undef :: undef :: undef :: undef :: undef :: undef :: undef :: undef :: undef :: undef :: undef :: undef :: undef :: undef :: undef :: undef :: undef :: undef :: []) := ⟨_, rfl⟩
 have hr : zI Try.prog O false zu.code T zi.empty = zI Try.prog O false zu.code T zi.empty := rfl
 have rl0 : ∀ S, jg Try.prog 22 0 [] S = some (rl 2 [], S) := fun S => by rw [WE]; rfl
 conv at hr =>
  rhs
  rw [hTe]
  simp only [zu.code, zu.rs, zSs, reduceIte, Nat.reduceEqDiff, Int.reduceEq, Int.reduceLT, Int.reduceLE, rl0]
 generalize hL : wQ (zI Try.prog O false zu.jh) _ _ = r at hr
 obtain ⟨T', S', rs, m, rfl, g1, g2, g3, g4⟩ := zu.round hk k2 hl l.length l [] hL rfl (Nat.le_refl _) rfl rfl rfl rfl (fun r h => by cases h)
 have hT' := zu.eta g1
 rw [g2, g3] at hT'
 conv at hr =>
  rhs
  rw [hT']
  simp only [zu.code, zu.rs, zSs, reduceIte, Nat.reduceEqDiff, Int.reduceEq, Int.reduceLT, Int.reduceLE]
 rw [hTe] at hr
 refine ⟨rs, m, g4, fun S => ?_⟩
 exact zu.runs hr (.inr rfl) (by simp only [List.getD_cons_succ, List.getD_cons_zero, zO, zJ, zD, zG, zK]) rfl (all1 (vG (k := k) hk.le)) (qh (all2 (XR (d := 3) (Nat.le_refl 2) fun r h => (g4.1 r h).1) rfl))
end
end Go.Proofs.Ytblpnklfimkfoaa
namespace Go.Proofs.Ytblpnklfimkfoaa
open Go.Abs Go.RowKit
theorem acX {X : Type} (d : DataW X) : 1 ≤ Rows.uptoBulk d := by
 cases d with
 | lit l => cases l <;> simp [Rows.uptoBulk]
 | nil => simp [Rows.uptoBulk]
 | ptr d => simp [Rows.uptoBulk]
 | slice elems spare => simp [Rows.uptoBulk]
 | agg parts => simp [Rows.uptoBulk]
 | iface t d => simp [Rows.uptoBulk]
 | map entries => simp [Rows.uptoBulk]
 | held h => simp [Rows.uptoBulk]
theorem acS {X : Type} (l : List (DataW X)) : l.length ≤ Rows.uptoBulkAll l := by
 induction l with
 | nil => simp [Rows.uptoBulkAll]
 | cons x r ih => have := acX x; simp only [Rows.uptoBulkAll, List.length_cons]; omega
section
variable {P : Program} {b0 : Nat} {W : World} {X : Type} {enc : TypeId × Value → X}
theorem Vr {t e : TypeId} {v : Value} {d : DataW X} {p : List MemPlace} (ht : P.underlying t = some (.slice e)) (h : DataW.Trod enc P W 0 (fun _ => true) true t v d p) {a : Option Addr} {k c : Nat} (hv : v = .slice a k c) : k ≤ Rows.uptoBulk d := by
 subst hv
 obtain ⟨fuel, hf⟩ := h
 rcases DataW.trod_slice ht hf with ⟨h1, h2⟩ | ⟨a', len, cap, elems, rest, n, _, h1, h2, _, _, _, h3, _⟩
 ·
  simp [Value.cells] at h1
  omega
 ·
  simp [Value.cells] at h1
  simp only [Prod.mk.injEq] at h2
  rw [h2.1]
  have := acS (elems.map (·.1))
  simp only [Rows.uptoBulk]
  rw [List.length_map] at this
  omega
theorem Qi (hmix : P.follows .mixedOrders = true) {n : Nat} {ts : List TypeId} {cs : List (Bool × Ty)} (hts : WS P n ts = some cs) {f : FuncId} {j N : Nat}
  (hlaw : ∀ x : Args cs, Args.Good cs x → (∀ (a : Option Addr) (k c : Nat), (Args.place cs x zi.empty).1[j]? = some (.slice a k c) → k ≤ N) → ∃ k, (kV P k f (Args.place cs x zi.empty).1 (Args.place cs x zi.empty).2).map (·.1) = some (.bool true))
  {args : Array Value} {ds : List (DataW X)} {ps : List MemPlace} (hA : DataW.TrodAll enc P W 0 (fun _ => true) true ts args.toList ds ps)
  (hv : ∀ (j : Nat) t v, ts[j]? = some t → args[j]? = some v → Value.okWide P W .any b0 t v) (hsz : (DataW.weightsEach P ts ds).all (· ≤ reachBytes) = true)
  (hN : ∀ (a : Option Addr) (k c : Nat), args.toList[j]? = some (.slice a k c) → k ≤ N) :
  Calls P f args W fun e W' => e = .returned (.bool true) ∧ Below W.heap.size W W' := by
 obtain ⟨x, hx1, hx2⟩ := aaj ts cs args.toList ds ps hts hA (fun j t v h1 h2 => hv j t v h1 (by simpa using h2)) (fun y hy => by simpa using List.all_eq_true.1 hsz y hy)
 obtain ⟨m, hm, hr, hl⟩ := hx2 W.heap.size W (fun _ => none) zi.empty (Nat.le_refl _) (aav W)
 obtain ⟨k, hk⟩ := hlaw x hx1 (fun a k c hi => by
  have h1 := hl.2 j
  have hj : j < args.toList.length := by
   rw [← hl.1]
   exact (List.getElem?_eq_some_iff.1 hi).1
  rw [List.getD_eq_getElem?_getD, hi, Option.getD_some, List.getD_eq_getElem?_getD, List.getElem?_eq_getElem hj, Option.getD_some] at h1
  have hN' : ∀ (a : Option Addr) (k c : Nat), args.toList[j] = .slice a k c → k ≤ N := fun a k c h => hN a k c (by rw [List.getElem?_eq_getElem hj, h])
  generalize args.toList[j] = v at h1 hN'
  cases h1 with
  | sliceNil => omega
  | slice h hn hl => exact hN' _ _ _ rfl
  | slice0 h hl ha => omega
  | sliceE a c => omega)
 obtain ⟨⟨v, H'⟩, hc, hv⟩ := Option.map_eq_some_iff.1 hk
 have hv' : v = .bool true := hv
 subst hv'
 have := (afi (P := P) (B := W.heap.size) (w0 := W) hmix k f _ _ _ _ hc m W args.toList hl hr).2
 rw [show args.toList.toArray = args by simp] at this
 refine this.mono fun e w' ⟨v', m', he, hvr, _, hr'⟩ => ⟨?_, hr'.below⟩
 cases hvr
 exact he
end
theorem abA (x : (Ty.slc 1 (.int .u8)).Val) (hg : (Ty.slc 1 (.int .u8)).Good x) (H : zi) : ∃ k l, Okl k l ∧ k ≠ 2 ∧ (Ty.slc 1 (.int .u8)).WH x = [by_ k l] ∧ ∃ a, ((Ty.slc 1 (.int .u8)).place x H).1 = [.slice a l.length l.length] := by
 obtain ⟨k, l, h1, h2, h3, _⟩ := XM x hg
 refine ⟨k, l, h1, h2, h3, ?_⟩
 match x with
 | none =>
  have : l = [] := by
   have h3 : [Value.slice none 0 0] = [by_ k l] := h3
   by_cases hk : k = 0
   ·
    exact h1.nil hk
   ·
    simp only [by_, vs, sv, if_neg hk, List.cons.injEq, and_true] at h3
    cases h3
  rw [this]
  exact ⟨none, rfl⟩
 | some xs =>
  have hl : l.length = List.length (α := Int) xs := by
   have h3 : [SL 1 1 (List.length (α := Int) xs) ((show List Int from xs).flatMap fun n => [Value.int .u8 n])] = [by_ k l] := h3
   by_cases hk : k = 0
   ·
    subst hk
    simp only [by_, vs, sv, if_true, List.cons.injEq, and_true] at h3
    cases h3
   ·
    simp only [by_, vs, sv, if_neg hk, List.cons.injEq, and_true] at h3
    unfold SL at h3
    injection h3 with _ h3
    injection h3 with _ h3
    injection h3 with h3 _
    exact h3.symm
  match xs with
  | [] =>
   have hl : l.length = 0 := hl
   rw [hl]
   exact ⟨_, rfl⟩
  | y :: ys =>
   have hl : l.length = List.length (α := Int) ys + 1 := hl
   rw [hl]
   exact ⟨_, rfl⟩
end Go.Proofs.Ytblpnklfimkfoaa
namespace Go.Proofs.Ytblpnklfimkfoaa
open Go.Abs
namespace journalBytes
def codes : List (Bool × Ty) := [(true, afg), (false, .slc 1 (.int .u8))]
theorem coded : WS Try.prog 9 [28, 26] = some codes := by kernel_rfl
theorem adp (r : wU) : ∃ S1, jc Try.prog O 10 [] (VK r) = some (.bool true, S1) := by
 have h : (kF Try.prog O 40 10 [] (VK r)).map (·.1) = some (.bool true) := by kernel_rfl
 cases hc : kF Try.prog O 40 10 [] (VK r) with
 | none => rw [hc] at h; cases h
 | some x =>
  obtain ⟨v, S1⟩ := x
  rw [hc] at h
  cases h
  exact ⟨S1, acG hc⟩
theorem run {j : Nat} {r : wU} {b : List UInt8} (ro : r.Ok) (hj : Okl j b) (j2 : j ≠ 2) (hb : b.length ≤ 1000000000000) : ∃ S', jc Try.prog O 4 [rv r, by_ j b] zi.empty = some (.bool true, S') := by
 obtain ⟨T, hTe⟩ : ∃ T, T = (rv r :: by_ j b :: undef :: undef :: undef :: undef :: undef :: undef :: undef :: undef :: undef :: undef :: undef :: undef :: undef :: undef :: undef :: undef :: undef :: undef :: undef :: undef :: undef :: undef :: undef :: undef :: undef :: undef :: undef :: undef :: undef :: undef :: undef :: undef :: undef :: undef :: undef :: undef :: undef :: undef :: undef :: undef :: undef :: undef :: undef :: undef :: undef :: undef :: undef :: undef :: undef :: undef :: undef :: undef :: undef :: undef :: undef :: undef :: []) := ⟨_, rfl⟩
 have hr : zI Try.prog O false zA.code T zi.empty = zI Try.prog O false zA.code T zi.empty := rfl
 obtain ⟨S1, c0⟩ := adp r
 have g0 := vM r
 have c1 := fun S => zT.v ro S
 have c2 := fun S => zF.v ro S
 unfold VJ at c1 c2
 have cp : ∀ S, jB Try.prog 26 26 (by_ 2 []) (by_ j b) S = some (by_ 2 b, S) := fun S => abV hj (by omega)
 obtain ⟨rs, m, hs, c3⟩ := zB.v (k := 1) (l := b) Okl.read (by decide) hb
 obtain ⟨ks, m2, hs2, c4⟩ := zu.v hj j2 hb
 obtain ⟨i1, i2⟩ := V4 _ _ _ _ _ hs hs2
 subst i2
 have hk0 : Okl (if rs = [] then 0 else 2) rs := ⟨by split <;> omega, fun h => by split at h <;> first | assumption | omega⟩
 generalize (if rs = [] then 0 else 2) = k0 at c3 hk0
 have hrl := Jr rs
 have hrb : (rs.flatMap wK).length ≤ b.length := by
  obtain ⟨rest, e, _⟩ := hs.2.2
  have := congrArg List.length e
  rw [List.length_append] at this
  omega
 have c5 := fun S => zq.v hk0.dem (Okl.read (l := ks)) (afh _) (by decide) (fun t ht => (hs.1 t ht).1) (fun t ht => (hs2.1 t ht).1) (by omega) i1 S
 cases hR : jR r
 ·
  rw [hR] at c1 c2
  have t1 : ∀ S, kG Try.prog 26 9 (.slice none 0 0) S = some (.string ⟨([] : List UInt8).toArray⟩, S) := fun S => by
   have : ∀ S, kG Try.prog 26 9 (by_ 0 []) S = some (.string ⟨([] : List UInt8).toArray⟩, S) := fun S => Yh Okl.none
   exact this S
  have t2 : ∀ S, jK Try.prog false false 26 9 (.slice none 0 0) S = some (.string ⟨([] : List UInt8).toArray⟩, S) := fun S => by
   have : jK Try.prog false false 26 9 (by_ 0 []) S = kG Try.prog 26 9 (by_ 0 []) S := qy _ _ _ _
   exact this.trans (t1 S)
  have cq : ∀ S, jJ Try.prog .eql 9 (.string ⟨([] : List UInt8).toArray⟩) (.string ⟨([] : List UInt8).toArray⟩) S = some (.bool true, S) := fun S => by
   have := ach (t := 9) (a := []) (b := []) (S := S)
   rw [decide_eq_true rfl] at this
   exact this
  conv at hr =>
   rhs
   rw [hTe]
   simp only [zA.code, zA.rs, zSs, reduceIte, Nat.reduceEqDiff, Int.reduceEq, Int.reduceLT, Int.reduceLE, ad9, JU g0 ro.ne, c1, c2, if_neg j2, bb0, cp, c3, c4, aej, c0, t1, t2, cq, c5]
  rw [hTe] at hr
  exact ⟨_, zA.runs hr (.inr rfl)⟩
 ·
  rw [hR] at c1 c2
  have t1 : ∀ S, kG Try.prog 26 9 (by_ 1 (wK r)) S = some (.string ⟨(wK r).toArray⟩, S) := fun S => Yh Okl.read
  have t2 : ∀ S, jK Try.prog false false 26 9 (by_ 1 (wK r)) S = some (.string ⟨(wK r).toArray⟩, S) := fun S => by rw [qy]; exact t1 S
  have cq : ∀ S, jJ Try.prog .eql 9 (.string ⟨(wK r).toArray⟩) (.string ⟨(wK r).toArray⟩) S = some (.bool true, S) := fun S => by
   have := ach (t := 9) (a := wK r) (b := wK r) (S := S)
   rw [decide_eq_true rfl] at this
   exact this
  conv at hr =>
   rhs
   rw [hTe]
   simp only [zA.code, zA.rs, zSs, reduceIte, Nat.reduceEqDiff, Int.reduceEq, Int.reduceLT, Int.reduceLE, ad9, JU g0 ro.ne, c1, c2, if_neg j2, bb0, cp, c3, c4, aej, c0, t1, t2, cq, c5]
  rw [hTe] at hr
  exact ⟨_, zA.runs hr (.inr rfl)⟩
theorem law (x : Args codes) (h : Args.Good codes x) (hN : ∀ (a : Option Addr) (k c : Nat), (Args.place codes x zi.empty).1[1]? = some (.slice a k c) → k ≤ 1048576) : ∃ k, (kV Try.prog k 4 (Args.place codes x zi.empty).1 (Args.place codes x zi.empty).2).map (·.1) = some (.bool true) := by
 obtain ⟨a, b, u⟩ := x
 obtain ⟨h1, h2, _⟩ := h
 obtain ⟨r, p1, ro⟩ := af9 a h1
 obtain ⟨j, m, q1, q2, q3, ad, q4⟩ := abA b h2 (afg.place a zi.empty).2
 have hm : m.length ≤ 1048576 := by
  refine hN ad m.length m.length ?_
  show some (xK false ((Ty.slc 1 (.int .u8)).place b (afg.place a zi.empty).2).1) = _
  rw [q4]; rfl
 obtain ⟨S', e⟩ := run ro q1 q2 (by omega)
 refine Xr af8 (S' := S') ?_
 have e2 : Args.WH codes (a, b, u) = [rv r, by_ j m] := by
  show [xK true (afg.WH a), xK false ((Ty.slc 1 (.int .u8)).WH b)] = _
  rw [p1, q3]; rfl
 rw [e2]
 exact e
end journalBytes
end Go.Proofs.Ytblpnklfimkfoaa
namespace Go.Proofs.Ytblpnklfimkfoaa.journalBytes
open Go.ChangeShapes Go.WideShapes Go.ChangeAt Go.RowKit Go.Abs
theorem own : ownKnob Try.prog.godebug = none := by kernel_rfl
theorem laidOut : laidOutB Try.prog = true := by kernel_rfl
theorem mixes : Try.prog.follows .mixedOrders = true := by kernel_rfl
set_option maxRecDepth 100000 in
theorem lifted (os : Os) (started : os.Started) (H : Type) (enc : TypeId × Value → H) (F : Stop.Interp) :
  ReturnsInHanded {} Try.checked os 4 .any ((Rows.OpenSpec.upto Rows.journalBytesSpec).pre6 enc Try.prog Try.f4 Rows.journalBytesUptoRow.domain false) (((Rows.OpenSpec.upto Rows.journalBytesSpec).at F).post enc Try.prog Try.f4 false true false false) := by
 refine returnsInHanded_of_cond_sized (C := Try.checked) (s := Rows.OpenSpec.upto Rows.journalBytesSpec) (k := Rows.uptoSmall) rfl own started (by kernel_rfl) Try.func4
  (OpenSpec.witness (enc := enc) (C := Try.checked) (s := Rows.OpenSpec.upto Rows.journalBytesSpec) (k := Rows.uptoSmall) rfl false ⟨#[], #[.agg #[.int .i64 0, .int .i64 0, .int .i64 0, .int .i64 0, .slice none 0 0], .slice none 0 0], []⟩ 8 (by kernel_rfl) (by kernel_rfl) (by kernel_rfl) (x := ([.agg [.lit (.int .i64 0), .lit (.int .i64 0), .lit (.int .i64 0), .lit (.int .i64 0), .nil], .nil], [], [])) (by kernel_rfl) rfl (by kernel_rfl)) ?_
 intro W base args ds gs before hval0 hW hcnd hk hsz0 _
 have hW' := hW
 obtain ⟨p, q, hA0, hV, rfl, hfz, hnd⟩ := hW
 obtain ⟨rfl, rfl⟩ := trodVars_none hV
 have hsz1 : (DataW.weightsEach Try.prog (Try.f4.params.toList ++ Rows.journalBytesSpec.plain.varTypes Try.prog) (ds ++ [])).all (· ≤ reachBytes) = true := hsz0
 have hval : ∀ (j : Nat) t v, Try.f4.params[j]? = some t → args[j]? = some v → Value.okWide Try.prog W .any base t v := hval0
 have hA1 : DataW.TrodAll enc Try.prog W 0 (fun _ => true) true Try.f4.params.toList args.toList ds p := hA0
 rw [Try.params4] at hA1 hsz1 hval
 have hA : DataW.TrodAll enc Try.prog W 0 (fun _ => true) true [28, 26] args.toList ds p := hA1
 have hsz : (DataW.weightsEach Try.prog [28, 26] ds).all (· ≤ reachBytes) = true := by rw [List.append_nil ds] at hsz1; exact hsz1
 clear hA0 hA1 hval0 hsz0 hsz1
 have r := hA
 obtain ⟨v0, vs0, d0, ds0, p0, q0, hargs0, rfl, hp0, h0, r0⟩ := trodAll_cons r
 obtain ⟨v1, vs1, d1, ds1, p1, q1, hargs1, rfl, hp1, h1, r1⟩ := trodAll_cons r0
 obtain ⟨_, rfl, _⟩ := trodAll_nil r1
 refine (Qi mixes coded law hA (fun j t v h1 h2 => hval j t v (by rw [List.getElem?_toArray]; exact h1) h2) hsz (fun a k c hi => by
  rw [hargs0, hargs1] at hi
  have hi2 : v1 = .slice a k c := by simpa using hi
  have hb1 := Vr Try.underlying26 h1 hi2
  have hb2 := of_decide_eq_true hk
  simp only [List.cons_append, List.nil_append, List.append_nil, Rows.uptoBulkAll] at hb2
  omega)).mono fun e W' ⟨he, bel⟩ => ?_
 subst he
 exact ⟨_, rfl, _, _, _, [], _, [], hW', trodAll_mk1 (shut_bool (by kernel_rfl) _), acT laidOut bel _ _ _ _ (by kernel_rfl) hA, rfl, bel.frame _, fun h => by cases h⟩
theorem over : Rows.JournalBytesUptoSaid :=
 OpenClaim.holds_of_cond 4 Try.f4 rfl rfl rfl rfl rfl rfl rfl ⟨rfl, rfl, rfl, rfl, rfl⟩ rfl rfl rfl rfl rfl (by kernel_rfl) Try.func4 (by kernel_rfl)
  (of_decide_eq_true (by kernel_rfl)) (by unfold Func.isWrapper; first | (rw [if_pos (by decide +kernel)]; kernel_rfl) | (rw [if_neg (by decide +kernel)]; exact ⟨rfl, rfl⟩))
  (fun os started H enc _ F => lifted os started H enc F)
theorem proved : Rows.JournalBytesUptoSaid := over
end Go.Proofs.Ytblpnklfimkfoaa.journalBytes
namespace Go.Proofs.Ytblpnklfimkfoaa
theorem journalBytes_holds : Rows.JournalBytesUptoSaid := journalBytes.proved
#print axioms journalBytes_holds
end Go.Proofs.Ytblpnklfimkfoaa
