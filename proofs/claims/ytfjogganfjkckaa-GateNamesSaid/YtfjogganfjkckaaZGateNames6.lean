/-
The law GateNames returns true for every input, and leaves it as it was; no condition. Part 6 of 7 of the texts (put together by a program: own names are short, what isn't needed is left out).
-/
import Derived.Test.YtfjogganfjkckaaZGateNames5
import Derived.Test.YtfjogganfjkckaaChecked
import Derived.KernelRfl
set_option linter.unusedVariables false
set_option linter.unusedSimpArgs false
set_option maxRecDepth 100000
namespace Go.Proofs.Ytfjogganfjkckaa
open Go.Abs
abbrev ji.id : FuncId := 18
noncomputable def ji.code : Code := (Code.seq (Code.region 0 (reg Try.f18 0) false) (Code.seq (Code.region 1 (reg Try.f18 1) false) Code.ret))
theorem ji.body : Try.f18.body = some ji.code := by kernel_rfl
variable (g i k l x4 x5 x6 x7 x8 x9 o p q r s t u w x y z A B C D E F G H I J K L M N P Q R : Value) (S : zi)
theorem ji.r0  : jv Try.prog ⟨false, false, false⟩ (zQ Try.prog O) (reg Try.f18 0) (reg Try.f18 0).toList ([g,i,k,l,x4,x5,x6,x7,x8,x9,o,p,q,r,s,t,u,w,x,y,z,A,B,C,D,E,F,G,H,I,J,K,L,M,N,P,Q,R]) S =
  (zF (Jo (dem g) S) (fun U m => zF (Jo (dem i) m) (fun V S2 => some ([g,i,U,V,Value.bool false,x5,x6,x7,x8,x9,o,p,q,r,s,t,u,w,x,y,z,A,B,C,D,E,F,G,H,I,J,K,L,M,N,P,Q,R], S2)) ()) ()) := by
 kernel_rfl
theorem ji.r1  : jv Try.prog ⟨false, false, false⟩ (zQ Try.prog O) (reg Try.f18 1) (reg Try.f18 1).toList ([g,i,k,l,x4,x5,x6,x7,x8,x9,o,p,q,r,s,t,u,w,x,y,z,A,B,C,D,E,F,G,H,I,J,K,L,M,N,P,Q,R]) S =
  (zF (zo Try.prog 46 k 0 S) (fun U m => zF (zZ Try.prog false 3 U m) (fun V S2 => zF (zo Try.prog 46 l 0 S2) (fun v2 S3 => zF (zZ Try.prog false 3 v2 S3) (fun v3 S4 => zF (jX Try.prog BinOp.eql 3 V v3 S4) (fun f S5 => gdK (dem f) true (zo Try.prog 46 k 1) S5 (fun v6 S6 => gdK (dem f) true (zZ Try.prog false 3 v6) S6 (fun v7 S7 => gdK (dem f) true (zo Try.prog 46 l 1) S7 (fun v8 S8 => gdK (dem f) true (zZ Try.prog false 3 v8) S8 (fun v9 S9 => gdK (dem f) true (jX Try.prog BinOp.eql 3 v7 v9) S9 (fun W b2 => zF (wP (dem f) W (Value.bool false) b2) (fun b b3 => gdK (dem b) true (zo Try.prog 46 k 2) b3 (fun X b4 => gdK (dem b) true (zZ Try.prog false 3 X) b4 (fun Y b5 => gdK (dem b) true (zo Try.prog 46 l 2) b5 (fun Z b6 => gdK (dem b) true (zZ Try.prog false 3 Z) b6 (fun a0 b7 => gdK (dem b) true (jX Try.prog BinOp.eql 3 Y a0) b7 (fun a1 b8 => zF (wP (dem b) a1 (Value.bool false) b8) (fun c b9 => gdK (dem c) true (zo Try.prog 46 k 3) b9 (fun a2 c0 => gdK (dem c) true (zZ Try.prog false 3 a2) c0 (fun a3 c1 => gdK (dem c) true (zo Try.prog 46 l 3) c1 (fun a4 c2 => gdK (dem c) true (zZ Try.prog false 3 a4) c2 (fun a5 c3 => gdK (dem c) true (jX Try.prog BinOp.eql 3 a3 a5) c3 (fun a6 c4 => zF (wP (dem c) a6 (Value.bool false) c4) (fun d c5 => gdK (dem d) true (zo Try.prog 46 k 4) c5 (fun a7 c6 => gdK (dem d) true (zZ Try.prog false 44 a7) c6 (fun a8 c7 => gdK (dem d) true (zo Try.prog 46 l 4) c7 (fun a9 c8 => gdK (dem d) true (zZ Try.prog false 44 a9) c8 (fun b0 c9 => gdK (dem d) true ((zQ Try.prog O) 33 [(dem a8), (dem b0)]) c9 (fun b1 d0 => zF (wP (dem d) b1 (Value.bool false) d0) (fun n d1 => some ([g,i,k,l,n,U,V,v2,v3,f,dem f,v6,v7,v8,v9,W,b,dem b,X,Y,Z,a0,a1,c,dem c,a2,a3,a4,a5,a6,d,dem d,a7,a8,a9,b0,b1,dem n], d1)) ()) ()) ()) ()) ()) ()) ()) ()) ()) ()) ()) ()) ()) ()) ()) ()) ()) ()) ()) ()) ()) ()) ()) ()) ()) ()) ()) ()) ()) := by
 refine sD Try.f18 1 0 (fun U m => ?_)
 refine sD Try.f18 1 1 (fun V S2 => ?_)
 refine sD Try.f18 1 2 (fun v2 S3 => ?_)
 refine sD Try.f18 1 3 (fun v3 S4 => ?_)
 refine sD Try.f18 1 4 (fun f S5 => ?_)
 refine sP Try.f18 1 5 (v := f) ?_
 refine sG Try.f18 1 6 (j := 5) (fun v6 S6 => ?_)
 refine sG Try.f18 1 7 (j := 5) (fun v7 S7 => ?_)
 refine sG Try.f18 1 8 (j := 5) (fun v8 S8 => ?_)
 refine sG Try.f18 1 9 (j := 5) (fun v9 S9 => ?_)
 refine sG Try.f18 1 10 (j := 5) (fun W b2 => ?_)
 refine sD Try.f18 1 11 (fun b b3 => ?_)
 refine sP Try.f18 1 12 (v := b) ?_
 refine sG Try.f18 1 13 (j := 12) (fun X b4 => ?_)
 refine sG Try.f18 1 14 (j := 12) (fun Y b5 => ?_)
 refine sG Try.f18 1 15 (j := 12) (fun Z b6 => ?_)
 refine sG Try.f18 1 16 (j := 12) (fun a0 b7 => ?_)
 refine sG Try.f18 1 17 (j := 12) (fun a1 b8 => ?_)
 refine sD Try.f18 1 18 (fun c b9 => ?_)
 refine sP Try.f18 1 19 (v := c) ?_
 refine sG Try.f18 1 20 (j := 19) (fun a2 c0 => ?_)
 refine sG Try.f18 1 21 (j := 19) (fun a3 c1 => ?_)
 refine sG Try.f18 1 22 (j := 19) (fun a4 c2 => ?_)
 refine sG Try.f18 1 23 (j := 19) (fun a5 c3 => ?_)
 refine sG Try.f18 1 24 (j := 19) (fun a6 c4 => ?_)
 refine sD Try.f18 1 25 (fun d c5 => ?_)
 refine sP Try.f18 1 26 (v := d) ?_
 refine sG Try.f18 1 27 (j := 26) (fun a7 c6 => ?_)
 refine sG Try.f18 1 28 (j := 26) (fun a8 c7 => ?_)
 refine sG Try.f18 1 29 (j := 26) (fun a9 c8 => ?_)
 refine sG Try.f18 1 30 (j := 26) (fun b0 c9 => ?_)
 refine sG Try.f18 1 31 (j := 26) (fun b1 d0 => ?_)
 refine sD Try.f18 1 32 (fun n d1 => ?_)
 refine sP Try.f18 1 33 (v := n) ?_
 kernel_rfl
theorem ji.rs : type_of% (And.intro @ji.r0 (@ji.r1)) := And.intro @ji.r0 (@ji.r1)
theorem ji.runs {g i : Value} {S m : zi} {e : AEx} {T : List Value} (h : zA Try.prog O false ji.code ([g,i,undef,undef,undef,undef,undef,undef,undef,undef,undef,undef,undef,undef,undef,undef,undef,undef,undef,undef,undef,undef,undef,undef,undef,undef,undef,undef,undef,undef,undef,undef,undef,undef,undef,undef,undef,undef]) zi.empty = some (e, T, m)) (he : e = .normal ∨ e = .ret) (hca : [g, i].all (jH 16) = true) (hcv : jH 16 (T.getD 4 undef) = true) : zQ Try.prog O 18 [g, i] S = some (T.getD 4 undef, S) :=
 wZ rfl rfl Try.func18 (by decide) ji.body (by exact h) he (wV (a := T.getD 4 undef) ((show zG Try.prog T m Try.f18.results.toList = zG Try.prog T m [(ResultVar.tmp 4)] from by kernel_rfl).trans (by simp only [zG])) (by kernel_rfl)) hca hcv
end Go.Proofs.Ytfjogganfjkckaa
namespace Go.Proofs.Ytfjogganfjkckaa
open Go.Abs
abbrev jT.id : FuncId := 46
noncomputable def jT.code : Code := (Code.seq (Code.region 0 (reg Try.f46 0) false) (Code.seq (Code.seq (Code.region 1 (reg Try.f46 1) false) (Code.cond (Operand.tmp 10) (Code.seq (Code.region 2 (reg Try.f46 2) false) Code.ret) Code.skip)) (Code.seq (Code.region 3 (reg Try.f46 3) false) (Code.seq (Code.region 4 (reg Try.f46 4) false) (Code.seq (Code.region 5 (reg Try.f46 5) false) Code.ret)))))
theorem jT.body : Try.f46.body = some jT.code := by kernel_rfl
variable (a b K L B F C G H I c d f g i j k l m n o p q r s t u v w x y z A : Value) (S : zi)
theorem jT.r0  : jv Try.prog ⟨false, false, false⟩ (zQ Try.prog O) (reg Try.f46 0) (reg Try.f46 0).toList ([a,b,K,L,B,F,C,G,H,I,c,d,f,g,i,j,k,l,m,n,o,p,q,r,s,t,u,v,w,x,y,z,A]) S =
  (zF (Jo (dem a) S) (fun J D => some ([a,J,Value.slice none 0 0,Value.int IntKind.i64 0,B,F,C,G,H,I,c,d,f,g,i,j,k,l,m,n,o,p,q,r,s,t,u,v,w,x,y,z,A], D)) ()) := by
 kernel_rfl
theorem jT.r1  : jv Try.prog ⟨false, false, false⟩ (zQ Try.prog O) (reg Try.f46 1) (reg Try.f46 1).toList ([a,b,K,L,B,F,C,G,H,I,c,d,f,g,i,j,k,l,m,n,o,p,q,r,s,t,u,v,w,x,y,z,A]) S =
  (zF (zZ Try.prog false 46 b S) (fun J D => zF ((zQ Try.prog O) 45 [(dem J)] D) (fun M N => zF (aUn Try.prog UnOp.not M N) (fun E P => some ([a,b,K,L,B,F,C,G,J,M,E,d,f,g,i,j,k,l,m,n,o,p,q,r,s,t,u,v,w,x,y,z,A], P)) ()) ()) ()) := by
 kernel_rfl
theorem jT.r2  : jv Try.prog ⟨false, false, false⟩ (zQ Try.prog O) (reg Try.f46 2) (reg Try.f46 2).toList ([a,b,K,L,B,F,C,G,H,I,c,d,f,g,i,j,k,l,m,n,o,p,q,r,s,t,u,v,w,x,y,z,A]) S =
  ( some ([a,b,Value.slice none 0 0,Value.int IntKind.i64 71,B,F,C,G,H,I,c,d,f,g,i,j,k,l,m,n,o,p,q,r,s,t,u,v,w,x,y,z,A], S)) := by
 kernel_rfl
theorem jT.r3  : jv Try.prog ⟨false, false, false⟩ (zQ Try.prog O) (reg Try.f46 3) (reg Try.f46 3).toList ([a,b,K,L,B,F,C,G,H,I,c,d,f,g,i,j,k,l,m,n,o,p,q,r,s,t,u,v,w,x,y,z,A]) S =
  (zF (zo Try.prog 46 b 0 S) (fun J D => zF (zZ Try.prog false 3 J D) (fun M N => zF (zo Try.prog 46 b 1 N) (fun E P => zF (zZ Try.prog false 3 E P) (fun Z X => zF (zo Try.prog 46 b 2 X) (fun Q Y => zF (zZ Try.prog false 3 Q Y) (fun R S6 => zF (zo Try.prog 46 b 3 S6) (fun v6 S7 => zF (zZ Try.prog false 3 v6 S7) (fun v7 S8 => zF (jR Try.prog 24 4 [(0, M), (1, Z), (2, R), (3, v7)] S8) (fun v8 S9 => zF ((zQ Try.prog O) 63 [(dem v8)] S9) (fun U a0 => zF (zS U 0 a0) (fun V a1 => zF (zS (zV 0 U) 1 a1) (fun W a2 => some ([a,b,K,L,V,W,C,G,H,I,c,zV 1 (zV 0 U),J,M,E,Z,Q,R,v6,v7,v8,dem U,dem V,dem W,s,t,u,v,w,x,y,z,A], a2)) ()) ()) ()) ()) ()) ()) ()) ()) ()) ()) ()) ()) := by
 kernel_rfl
theorem jT.r4  : jv Try.prog ⟨false, false, false⟩ (zQ Try.prog O) (reg Try.f46 4) (reg Try.f46 4).toList ([a,b,K,L,B,F,C,G,H,I,c,d,f,g,i,j,k,l,m,n,o,p,q,r,s,t,u,v,w,x,y,z,A]) S =
  (zF (zo Try.prog 46 b 4 S) (fun J D => zF (zZ Try.prog false 44 J D) (fun M N => zF ((zQ Try.prog O) 62 [(dem M)] N) (fun E P => zF (zS E 0 P) (fun Q X => zF (zS (zV 0 E) 1 X) (fun R Y => some ([a,b,K,L,B,F,Q,R,H,I,c,d,f,g,i,j,k,l,m,n,o,p,q,r,zV 1 (zV 0 E),J,M,dem E,dem Q,dem R,y,z,A], Y)) ()) ()) ()) ()) ()) := by
 kernel_rfl
theorem jT.r5  : jv Try.prog ⟨false, false, false⟩ (zQ Try.prog O) (reg Try.f46 5) (reg Try.f46 5).toList ([a,b,K,L,B,F,C,G,H,I,c,d,f,g,i,j,k,l,m,n,o,p,q,r,s,t,u,v,w,x,y,z,A]) S =
  (zF (yj Try.prog 33 33 B (dem C) S) (fun E D => some ([a,b,E,Value.int IntKind.i64 0,dem B,F,C,G,H,I,c,d,f,g,i,j,k,l,m,n,o,p,q,r,s,t,u,v,w,x,dem B,dem C,dem E], D)) ()) := by
 kernel_rfl
theorem jT.rs : type_of% (And.intro @jT.r0 (And.intro @jT.r1 (And.intro @jT.r2 (And.intro @jT.r3 (And.intro @jT.r4 (@jT.r5)))))) := And.intro @jT.r0 (And.intro @jT.r1 (And.intro @jT.r2 (And.intro @jT.r3 (And.intro @jT.r4 (@jT.r5)))))
theorem jT.runs {a : Value} {S D : zi} {e : AEx} {T : List Value} (h : zA Try.prog O false jT.code ([a,undef,undef,undef,undef,undef,undef,undef,undef,undef,undef,undef,undef,undef,undef,undef,undef,undef,undef,undef,undef,undef,undef,undef,undef,undef,undef,undef,undef,undef,undef,undef,undef]) zi.empty = some (e, T, D)) (he : e = .normal ∨ e = .ret)  (h0 : jY (T.getD 2 undef) = true) (h1 : jY (T.getD 3 undef) = true) (hca : [a].all (jH 16) = true) (hcv : jH 16 (Value.tuple #[T.getD 2 undef, T.getD 3 undef]) = true) : zQ Try.prog O 46 [a] S = some (Value.tuple #[T.getD 2 undef, T.getD 3 undef], S) :=
 wZ rfl rfl Try.func46 (by decide) jT.body (by exact h) he ((ql ((show zG Try.prog T D Try.f46.results.toList = zG Try.prog T D [(ResultVar.tmp 2), (ResultVar.tmp 3)] from by kernel_rfl).trans (by simp only [zG])) (by kernel_rfl) (by simp only [List.all_cons, List.all_nil, h0, h1, Bool.and_true])).trans rfl) hca hcv
end Go.Proofs.Ytfjogganfjkckaa
namespace Go.Proofs.Ytfjogganfjkckaa
open Go.Abs
abbrev jc.id : FuncId := 37
noncomputable def jc.code : Code := (Code.seq (Code.region 0 (reg Try.f37 0) false) (Code.seq (Code.seq (Code.region 1 (reg Try.f37 1) false) (Code.cond (Operand.tmp 10) (Code.seq (Code.region 2 (reg Try.f37 2) false) Code.ret) Code.skip)) (Code.seq (Code.region 3 (reg Try.f37 3) false) (Code.seq (Code.region 4 (reg Try.f37 4) false) (Code.seq (Code.region 5 (reg Try.f37 5) false) Code.ret)))))
theorem jc.body : Try.f37.body = some jc.code := by kernel_rfl
variable (a b K L B F C G H I c d f g i j k l m n o p q r s t u v w x y z A : Value) (S : zi)
theorem jc.r0  : jv Try.prog ⟨false, false, false⟩ (zQ Try.prog O) (reg Try.f37 0) (reg Try.f37 0).toList ([a,b,K,L,B,F,C,G,H,I,c,d,f,g,i,j,k,l,m,n,o,p,q,r,s,t,u,v,w,x,y,z,A]) S =
  (zF (Jo (dem a) S) (fun J D => some ([a,J,Value.slice none 0 0,Value.int IntKind.i64 0,B,F,C,G,H,I,c,d,f,g,i,j,k,l,m,n,o,p,q,r,s,t,u,v,w,x,y,z,A], D)) ()) := by
 kernel_rfl
theorem jc.r1  : jv Try.prog ⟨false, false, false⟩ (zQ Try.prog O) (reg Try.f37 1) (reg Try.f37 1).toList ([a,b,K,L,B,F,C,G,H,I,c,d,f,g,i,j,k,l,m,n,o,p,q,r,s,t,u,v,w,x,y,z,A]) S =
  (zF (zZ Try.prog false 46 b S) (fun J D => zF ((zQ Try.prog O) 32 [(dem J)] D) (fun M N => zF (aUn Try.prog UnOp.not M N) (fun E P => some ([a,b,K,L,B,F,C,G,J,M,E,d,f,g,i,j,k,l,m,n,o,p,q,r,s,t,u,v,w,x,y,z,A], P)) ()) ()) ()) := by
 kernel_rfl
theorem jc.r2  : jv Try.prog ⟨false, false, false⟩ (zQ Try.prog O) (reg Try.f37 2) (reg Try.f37 2).toList ([a,b,K,L,B,F,C,G,H,I,c,d,f,g,i,j,k,l,m,n,o,p,q,r,s,t,u,v,w,x,y,z,A]) S =
  ( some ([a,b,Value.slice none 0 0,Value.int IntKind.i64 71,B,F,C,G,H,I,c,d,f,g,i,j,k,l,m,n,o,p,q,r,s,t,u,v,w,x,y,z,A], S)) := by
 kernel_rfl
theorem jc.r3  : jv Try.prog ⟨false, false, false⟩ (zQ Try.prog O) (reg Try.f37 3) (reg Try.f37 3).toList ([a,b,K,L,B,F,C,G,H,I,c,d,f,g,i,j,k,l,m,n,o,p,q,r,s,t,u,v,w,x,y,z,A]) S =
  (zF (zo Try.prog 46 b 0 S) (fun J D => zF (zZ Try.prog false 3 J D) (fun M N => zF (zo Try.prog 46 b 1 N) (fun E P => zF (zZ Try.prog false 3 E P) (fun Z X => zF (zo Try.prog 46 b 2 X) (fun Q Y => zF (zZ Try.prog false 3 Q Y) (fun R S6 => zF (zo Try.prog 46 b 3 S6) (fun v6 S7 => zF (zZ Try.prog false 3 v6 S7) (fun v7 S8 => zF (jR Try.prog 24 4 [(0, M), (1, Z), (2, R), (3, v7)] S8) (fun v8 S9 => zF ((zQ Try.prog O) 35 [(dem v8)] S9) (fun U a0 => zF (zS U 0 a0) (fun V a1 => zF (zS (zV 0 U) 1 a1) (fun W a2 => some ([a,b,K,L,V,W,C,G,H,I,c,zV 1 (zV 0 U),J,M,E,Z,Q,R,v6,v7,v8,dem U,dem V,dem W,s,t,u,v,w,x,y,z,A], a2)) ()) ()) ()) ()) ()) ()) ()) ()) ()) ()) ()) ()) := by
 kernel_rfl
theorem jc.r4  : jv Try.prog ⟨false, false, false⟩ (zQ Try.prog O) (reg Try.f37 4) (reg Try.f37 4).toList ([a,b,K,L,B,F,C,G,H,I,c,d,f,g,i,j,k,l,m,n,o,p,q,r,s,t,u,v,w,x,y,z,A]) S =
  (zF (zo Try.prog 46 b 4 S) (fun J D => zF (zZ Try.prog false 44 J D) (fun M N => zF ((zQ Try.prog O) 50 [(dem M)] N) (fun E P => zF (zS E 0 P) (fun Q X => zF (zS (zV 0 E) 1 X) (fun R Y => some ([a,b,K,L,B,F,Q,R,H,I,c,d,f,g,i,j,k,l,m,n,o,p,q,r,zV 1 (zV 0 E),J,M,dem E,dem Q,dem R,y,z,A], Y)) ()) ()) ()) ()) ()) := by
 kernel_rfl
theorem jc.r5  : jv Try.prog ⟨false, false, false⟩ (zQ Try.prog O) (reg Try.f37 5) (reg Try.f37 5).toList ([a,b,K,L,B,F,C,G,H,I,c,d,f,g,i,j,k,l,m,n,o,p,q,r,s,t,u,v,w,x,y,z,A]) S =
  (zF (yj Try.prog 33 33 B (dem C) S) (fun E D => some ([a,b,E,Value.int IntKind.i64 0,dem B,F,C,G,H,I,c,d,f,g,i,j,k,l,m,n,o,p,q,r,s,t,u,v,w,x,dem B,dem C,dem E], D)) ()) := by
 kernel_rfl
theorem jc.rs : type_of% (And.intro @jc.r0 (And.intro @jc.r1 (And.intro @jc.r2 (And.intro @jc.r3 (And.intro @jc.r4 (@jc.r5)))))) := And.intro @jc.r0 (And.intro @jc.r1 (And.intro @jc.r2 (And.intro @jc.r3 (And.intro @jc.r4 (@jc.r5)))))
theorem jc.runs {a : Value} {S D : zi} {e : AEx} {T : List Value} (h : zA Try.prog O false jc.code ([a,undef,undef,undef,undef,undef,undef,undef,undef,undef,undef,undef,undef,undef,undef,undef,undef,undef,undef,undef,undef,undef,undef,undef,undef,undef,undef,undef,undef,undef,undef,undef,undef]) zi.empty = some (e, T, D)) (he : e = .normal ∨ e = .ret)  (h0 : jY (T.getD 2 undef) = true) (h1 : jY (T.getD 3 undef) = true) (hca : [a].all (jH 16) = true) (hcv : jH 16 (Value.tuple #[T.getD 2 undef, T.getD 3 undef]) = true) : zQ Try.prog O 37 [a] S = some (Value.tuple #[T.getD 2 undef, T.getD 3 undef], S) :=
 wZ rfl rfl Try.func37 (by decide) jc.body (by exact h) he ((ql ((show zG Try.prog T D Try.f37.results.toList = zG Try.prog T D [(ResultVar.tmp 2), (ResultVar.tmp 3)] from by kernel_rfl).trans (by simp only [zG])) (by kernel_rfl) (by simp only [List.all_cons, List.all_nil, h0, h1, Bool.and_true])).trans rfl) hca hcv
end Go.Proofs.Ytfjogganfjkckaa
namespace Go.Proofs.Ytfjogganfjkckaa
open Go.Abs
abbrev jg.id : FuncId := 45
noncomputable def jg.code : Code := (Code.seq (Code.region 0 (reg Try.f45 0) false) (Code.seq (Code.seq (Code.region 1 (reg Try.f45 1) false) (Code.cond (Operand.tmp 20) (Code.seq (Code.region 2 (reg Try.f45 2) false) Code.ret) Code.skip)) (Code.seq (Code.seq (Code.region 3 (reg Try.f45 3) false) (Code.cond (Operand.tmp 37) (Code.seq (Code.region 4 (reg Try.f45 4) false) Code.ret) Code.skip)) (Code.seq (Code.region 5 (reg Try.f45 5) false) (Code.seq (Code.region 6 (reg Try.f45 6) false) Code.ret)))))
theorem jg.body : Try.f45.body = some jg.code := by kernel_rfl
variable (U b x2 X V Y Z x7 x8 x9 c d f g i k l m n o p q r s t u w x y z A B C D E F G H I J K L M N P Q : Value) (S : zi)
theorem jg.r0  : jv Try.prog ⟨false, false, false⟩ (zQ Try.prog O) (reg Try.f45 0) (reg Try.f45 0).toList ([U,b,x2,X,V,Y,Z,x7,x8,x9,c,d,f,g,i,k,l,m,n,o,p,q,r,s,t,u,w,x,y,z,A,B,C,D,E,F,G,H,I,J,K,L,M,N,P,Q]) S =
  (zF (Jo (dem U) S) (fun v0 W => some ([U,v0,Value.bool false,X,V,Y,Z,x7,x8,x9,c,d,f,g,i,k,l,m,n,o,p,q,r,s,t,u,w,x,y,z,A,B,C,D,E,F,G,H,I,J,K,L,M,N,P,Q], W)) ()) := by
 kernel_rfl
theorem jg.r1  : jv Try.prog ⟨false, false, false⟩ (zQ Try.prog O) (reg Try.f45 1) (reg Try.f45 1).toList ([U,b,x2,X,V,Y,Z,x7,x8,x9,c,d,f,g,i,k,l,m,n,o,p,q,r,s,t,u,w,x,y,z,A,B,C,D,E,F,G,H,I,J,K,L,M,N,P,Q]) S =
  (zF (zo Try.prog 46 b 0 S) (fun v0 W => zF (zZ Try.prog false 3 v0 W) (fun v1 S2 => zF ((zQ Try.prog O) 60 [(dem v1), (Value.int IntKind.i64 1), (Value.int IntKind.i64 4095)] S2) (fun R S3 => zF (aUn Try.prog UnOp.not R S3) (fun v3 S4 => gdK (dem v3) false (zo Try.prog 46 b 1) S4 (fun v5 S5 => gdK (dem v3) false (zZ Try.prog false 3 v5) S5 (fun v6 S6 => gdK (dem v3) false ((zQ Try.prog O) 60 [(dem v6), (Value.int IntKind.i64 0), (Value.int IntKind.i64 6)]) S6 (fun v7 S7 => gdK (dem v3) false (aUn Try.prog UnOp.not v7) S7 (fun v8 S8 => zF (wP (dem v3) (Value.bool true) v8 S8) (fun v9 S9 => gdK (dem v9) false (zo Try.prog 46 b 2) S9 (fun a0 a5 => gdK (dem v9) false (zZ Try.prog false 3 a0) a5 (fun a1 a6 => gdK (dem v9) false ((zQ Try.prog O) 60 [(dem a1), (Value.int IntKind.i64 0), (Value.int IntKind.i64 255)]) a6 (fun a2 a7 => gdK (dem v9) false (aUn Try.prog UnOp.not a2) a7 (fun a3 a8 => zF (wP (dem v9) (Value.bool true) a3 a8) (fun a4 a9 => some ([U,b,x2,X,V,v0,v1,R,v3,dem v3,v5,v6,v7,v8,v9,dem v9,a0,a1,a2,a3,a4,q,r,s,t,u,w,x,y,z,A,B,C,D,E,F,G,H,I,J,K,L,M,N,P,Q], a9)) ()) ()) ()) ()) ()) ()) ()) ()) ()) ()) ()) ()) ()) ()) := by
 refine sD Try.f45 1 0 (fun v0 W => ?_)
 refine sD Try.f45 1 1 (fun v1 S2 => ?_)
 refine sD Try.f45 1 2 (fun R S3 => ?_)
 refine sD Try.f45 1 3 (fun v3 S4 => ?_)
 refine sP Try.f45 1 4 (v := v3) ?_
 refine sG Try.f45 1 5 (j := 4) (fun v5 S5 => ?_)
 refine sG Try.f45 1 6 (j := 4) (fun v6 S6 => ?_)
 refine sG Try.f45 1 7 (j := 4) (fun v7 S7 => ?_)
 refine sG Try.f45 1 8 (j := 4) (fun v8 S8 => ?_)
 refine sD Try.f45 1 9 (fun v9 S9 => ?_)
 refine sP Try.f45 1 10 (v := v9) ?_
 refine sG Try.f45 1 11 (j := 10) (fun a0 a5 => ?_)
 refine sG Try.f45 1 12 (j := 10) (fun a1 a6 => ?_)
 refine sG Try.f45 1 13 (j := 10) (fun a2 a7 => ?_)
 refine sG Try.f45 1 14 (j := 10) (fun a3 a8 => ?_)
 refine sD Try.f45 1 15 (fun a4 a9 => ?_)
 kernel_rfl
theorem jg.r2  : jv Try.prog ⟨false, false, false⟩ (zQ Try.prog O) (reg Try.f45 2) (reg Try.f45 2).toList ([U,b,x2,X,V,Y,Z,x7,x8,x9,c,d,f,g,i,k,l,m,n,o,p,q,r,s,t,u,w,x,y,z,A,B,C,D,E,F,G,H,I,J,K,L,M,N,P,Q]) S =
  ( some ([U,b,Value.bool false,X,V,Y,Z,x7,x8,x9,c,d,f,g,i,k,l,m,n,o,p,q,r,s,t,u,w,x,y,z,A,B,C,D,E,F,G,H,I,J,K,L,M,N,P,Q], S)) := by
 kernel_rfl
theorem jg.r3  : jv Try.prog ⟨false, false, false⟩ (zQ Try.prog O) (reg Try.f45 3) (reg Try.f45 3).toList ([U,b,x2,X,V,Y,Z,x7,x8,x9,c,d,f,g,i,k,l,m,n,o,p,q,r,s,t,u,w,x,y,z,A,B,C,D,E,F,G,H,I,J,K,L,M,N,P,Q]) S =
  (zF (zo Try.prog 46 b 3 S) (fun v0 W => zF (zZ Try.prog false 3 v0 W) (fun v1 S2 => zF (jX Try.prog BinOp.neq 3 v1 (Value.int IntKind.i64 0) S2) (fun R S3 => gdK (dem R) true (zo Try.prog 46 b 3) S3 (fun v4 S4 => gdK (dem R) true (zZ Try.prog false 3 v4) S4 (fun v5 S5 => gdK (dem R) true ((zQ Try.prog O) 61 [(dem v5)]) S5 (fun v6 S6 => gdK (dem R) true (aUn Try.prog UnOp.not v6) S6 (fun v7 S7 => gdK (dem R) true (ret v7) S7 (fun v8 S8 => gdK (dem v8) false (zo Try.prog 46 b 3) S8 (fun v9 S9 => gdK (dem v8) false (zZ Try.prog false 3 v9) S9 (fun b0 a5 => gdK (dem v8) false (jX Try.prog BinOp.quo 3 b0 (Value.int IntKind.i64 65536)) a5 (fun a0 a6 => gdK (dem v8) false (zo Try.prog 46 b 0) a6 (fun a1 a7 => gdK (dem v8) false (zZ Try.prog false 3 a1) a7 (fun a2 a8 => gdK (dem v8) false (jX Try.prog BinOp.geq 3 a0 a2) a8 (fun a3 a9 => gdK (dem R) true (wP (dem v8) (Value.bool true) a3) a9 (fun a4 b1 => zF (wP (dem R) a4 (Value.bool false) b1) (fun b2 b3 => some ([U,b,x2,X,V,Y,Z,x7,x8,x9,c,d,f,g,i,k,l,m,n,o,p,v0,v1,R,dem R,v4,v5,v6,v7,dem v8,v9,b0,a0,a1,a2,a3,a4,b2,I,J,K,L,M,N,P,Q], b3)) ()) ()) ()) ()) ()) ()) ()) ()) ()) ()) ()) ()) ()) ()) ()) ()) := by
 refine sD Try.f45 3 0 (fun v0 W => ?_)
 refine sD Try.f45 3 1 (fun v1 S2 => ?_)
 refine sD Try.f45 3 2 (fun R S3 => ?_)
 refine sP Try.f45 3 3 (v := R) ?_
 refine sG Try.f45 3 4 (j := 3) (fun v4 S4 => ?_)
 refine sG Try.f45 3 5 (j := 3) (fun v5 S5 => ?_)
 refine sG Try.f45 3 6 (j := 3) (fun v6 S6 => ?_)
 refine sG Try.f45 3 7 (j := 3) (fun v7 S7 => ?_)
 refine sG Try.f45 3 8 (j := 3) (fun v8 S8 => ?_)
 refine sG Try.f45 3 9 (j := 8) (fun v9 S9 => ?_)
 refine sG Try.f45 3 10 (j := 8) (fun b0 a5 => ?_)
 refine sG Try.f45 3 11 (j := 8) (fun a0 a6 => ?_)
 refine sG Try.f45 3 12 (j := 8) (fun a1 a7 => ?_)
 refine sG Try.f45 3 13 (j := 8) (fun a2 a8 => ?_)
 refine sG Try.f45 3 14 (j := 8) (fun a3 a9 => ?_)
 refine sG Try.f45 3 15 (j := 3) (fun a4 b1 => ?_)
 refine sD Try.f45 3 16 (fun b2 b3 => ?_)
 kernel_rfl
theorem jg.r4  : jv Try.prog ⟨false, false, false⟩ (zQ Try.prog O) (reg Try.f45 4) (reg Try.f45 4).toList ([U,b,x2,X,V,Y,Z,x7,x8,x9,c,d,f,g,i,k,l,m,n,o,p,q,r,s,t,u,w,x,y,z,A,B,C,D,E,F,G,H,I,J,K,L,M,N,P,Q]) S =
  ( some ([U,b,Value.bool false,X,V,Y,Z,x7,x8,x9,c,d,f,g,i,k,l,m,n,o,p,q,r,s,t,u,w,x,y,z,A,B,C,D,E,F,G,H,I,J,K,L,M,N,P,Q], S)) := by
 kernel_rfl
theorem jg.r5  : jv Try.prog ⟨false, false, false⟩ (zQ Try.prog O) (reg Try.f45 5) (reg Try.f45 5).toList ([U,b,x2,X,V,Y,Z,x7,x8,x9,c,d,f,g,i,k,l,m,n,o,p,q,r,s,t,u,w,x,y,z,A,B,C,D,E,F,G,H,I,J,K,L,M,N,P,Q]) S =
  (zF (zo Try.prog 46 b 4 S) (fun v0 W => zF (zZ Try.prog false 44 v0 W) (fun v1 S2 => zF ((zQ Try.prog O) 62 [(dem v1)] S2) (fun R S3 => zF (zS R 0 S3) (fun v4 S4 => zF (zS (zV 0 R) 1 S4) (fun v5 S5 => some ([U,b,x2,v4,v5,Y,Z,x7,x8,x9,c,d,f,g,i,k,l,m,n,o,p,q,r,s,t,u,w,x,y,z,A,B,C,D,E,F,G,H,zV 1 (zV 0 R),v0,v1,dem R,dem v4,dem v5,P,Q], S5)) ()) ()) ()) ()) ()) := by
 kernel_rfl
theorem jg.r6  : jv Try.prog ⟨false, false, false⟩ (zQ Try.prog O) (reg Try.f45 6) (reg Try.f45 6).toList ([U,b,x2,X,V,Y,Z,x7,x8,x9,c,d,f,g,i,k,l,m,n,o,p,q,r,s,t,u,w,x,y,z,A,B,C,D,E,F,G,H,I,J,K,L,M,N,P,Q]) S =
  (zF (jX Try.prog BinOp.eql 64 (dem V) (Value.int IntKind.i64 0) S) (fun v1 W => some ([U,b,v1,X,V,Y,Z,x7,x8,x9,c,d,f,g,i,k,l,m,n,o,p,q,r,s,t,u,w,x,y,z,A,B,C,D,E,F,G,H,I,J,K,L,M,N,dem V,dem v1], W)) ()) := by
 kernel_rfl
theorem jg.rs : type_of% (And.intro @jg.r0 (And.intro @jg.r1 (And.intro @jg.r2 (And.intro @jg.r3 (And.intro @jg.r4 (And.intro @jg.r5 (@jg.r6))))))) := And.intro @jg.r0 (And.intro @jg.r1 (And.intro @jg.r2 (And.intro @jg.r3 (And.intro @jg.r4 (And.intro @jg.r5 (@jg.r6))))))
theorem jg.runs {U : Value} {S W : zi} {e : AEx} {T : List Value} (h : zA Try.prog O false jg.code ([U,undef,undef,undef,undef,undef,undef,undef,undef,undef,undef,undef,undef,undef,undef,undef,undef,undef,undef,undef,undef,undef,undef,undef,undef,undef,undef,undef,undef,undef,undef,undef,undef,undef,undef,undef,undef,undef,undef,undef,undef,undef,undef,undef,undef,undef]) zi.empty = some (e, T, W)) (he : e = .normal ∨ e = .ret) (hca : [U].all (jH 16) = true) (hcv : jH 16 (T.getD 2 undef) = true) : zQ Try.prog O 45 [U] S = some (T.getD 2 undef, S) :=
 wZ rfl rfl Try.func45 (by decide) jg.body (by exact h) he (wV (a := T.getD 2 undef) ((show zG Try.prog T W Try.f45.results.toList = zG Try.prog T W [(ResultVar.tmp 2)] from by kernel_rfl).trans (by simp only [zG])) (by kernel_rfl)) hca hcv
end Go.Proofs.Ytfjogganfjkckaa
namespace Go.Proofs.Ytfjogganfjkckaa
open Go.Abs
abbrev zq.id : FuncId := 32
noncomputable def zq.code : Code := (Code.seq (Code.region 0 (reg Try.f32 0) false) (Code.seq (Code.seq (Code.region 1 (reg Try.f32 1) false) (Code.cond (Operand.tmp 36) (Code.seq (Code.region 2 (reg Try.f32 2) false) Code.ret) Code.skip)) (Code.seq (Code.region 3 (reg Try.f32 3) false) (Code.seq (Code.seq (Code.region 4 (reg Try.f32 4) false) (Code.cond (Operand.tmp 44) (Code.seq (Code.region 5 (reg Try.f32 5) false) Code.ret) Code.skip)) (Code.seq (Code.seq (Code.region 6 (reg Try.f32 6) false) (Code.cond (Operand.tmp 47) (Code.seq (Code.region 7 (reg Try.f32 7) false) Code.ret) Code.skip)) (Code.seq (Code.region 8 (reg Try.f32 8) false) (Code.seq (Code.region 9 (reg Try.f32 9) false) Code.ret)))))))
theorem zq.body : Try.f32.body = some zq.code := by kernel_rfl
variable (x0 b x2 x3 x4 x5 x6 x7 x8 x9 c d f g i k l m n o p q r s t u w x y z A B C D E F G H I J K L M N P Q R U V W X Y Z a0 a1 a2 a3 a4 a5 a6 a7 a8 a9 : Value) (S : zi)
theorem zq.r0  : jv Try.prog ⟨false, false, false⟩ (zQ Try.prog O) (reg Try.f32 0) (reg Try.f32 0).toList ([x0,b,x2,x3,x4,x5,x6,x7,x8,x9,c,d,f,g,i,k,l,m,n,o,p,q,r,s,t,u,w,x,y,z,A,B,C,D,E,F,G,H,I,J,K,L,M,N,P,Q,R,U,V,W,X,Y,Z,a0,a1,a2,a3,a4,a5,a6,a7,a8,a9]) S =
  (zF (Jo (dem x0) S) (fun v0 S1 => some ([x0,v0,Value.bool false,x3,x4,x5,x6,x7,x8,x9,c,d,f,g,i,k,l,m,n,o,p,q,r,s,t,u,w,x,y,z,A,B,C,D,E,F,G,H,I,J,K,L,M,N,P,Q,R,U,V,W,X,Y,Z,a0,a1,a2,a3,a4,a5,a6,a7,a8,a9], S1)) ()) := by
 kernel_rfl
theorem zq.r1  : jv Try.prog ⟨false, false, false⟩ (zQ Try.prog O) (reg Try.f32 1) (reg Try.f32 1).toList ([x0,b,x2,x3,x4,x5,x6,x7,x8,x9,c,d,f,g,i,k,l,m,n,o,p,q,r,s,t,u,w,x,y,z,A,B,C,D,E,F,G,H,I,J,K,L,M,N,P,Q,R,U,V,W,X,Y,Z,a0,a1,a2,a3,a4,a5,a6,a7,a8,a9]) S =
  (zF (zo Try.prog 46 b 0 S) (fun v0 S1 => zF (zZ Try.prog false 3 v0 S1) (fun v1 S2 => zF (jX Try.prog BinOp.lss 3 v1 (Value.int IntKind.i64 1) S2) (fun v2 S3 => gdK (dem v2) false (zo Try.prog 46 b 0) S3 (fun v4 S4 => gdK (dem v2) false (zZ Try.prog false 3 v4) S4 (fun v5 S5 => gdK (dem v2) false (jX Try.prog BinOp.gtr 3 v5 (Value.int IntKind.i64 4095)) S5 (fun v6 S6 => zF (wP (dem v2) (Value.bool true) v6 S6) (fun v7 S7 => gdK (dem v7) false (zo Try.prog 46 b 1) S7 (fun v9 S8 => gdK (dem v7) false (zZ Try.prog false 3 v9) S8 (fun b3 S9 => gdK (dem v7) false (jX Try.prog BinOp.lss 3 b3 (Value.int IntKind.i64 0)) S9 (fun b4 c4 => zF (wP (dem v7) (Value.bool true) b4 c4) (fun b0 c5 => gdK (dem b0) false (zo Try.prog 46 b 1) c5 (fun b5 c6 => gdK (dem b0) false (zZ Try.prog false 3 b5) c6 (fun b6 c7 => gdK (dem b0) false (jX Try.prog BinOp.gtr 3 b6 (Value.int IntKind.i64 6)) c7 (fun b7 c8 => zF (wP (dem b0) (Value.bool true) b7 c8) (fun b1 c9 => gdK (dem b1) false (zo Try.prog 46 b 2) c9 (fun b8 d0 => gdK (dem b1) false (zZ Try.prog false 3 b8) d0 (fun b9 d1 => gdK (dem b1) false (jX Try.prog BinOp.lss 3 b9 (Value.int IntKind.i64 0)) d1 (fun c0 d2 => zF (wP (dem b1) (Value.bool true) c0 d2) (fun b2 d3 => gdK (dem b2) false (zo Try.prog 46 b 2) d3 (fun c1 d4 => gdK (dem b2) false (zZ Try.prog false 3 c1) d4 (fun c2 d5 => gdK (dem b2) false (jX Try.prog BinOp.gtr 3 c2 (Value.int IntKind.i64 255)) d5 (fun c3 d6 => zF (wP (dem b2) (Value.bool true) c3 d6) (fun d7 d8 => some ([x0,b,x2,x3,x4,x5,x6,x7,x8,v0,v1,v2,dem v2,v4,v5,v6,v7,dem v7,v9,b3,b4,b0,dem b0,b5,b6,b7,b1,dem b1,b8,b9,c0,b2,dem b2,c1,c2,c3,d7,H,I,J,K,L,M,N,P,Q,R,U,V,W,X,Y,Z,a0,a1,a2,a3,a4,a5,a6,a7,a8,a9], d8)) ()) ()) ()) ()) ()) ()) ()) ()) ()) ()) ()) ()) ()) ()) ()) ()) ()) ()) ()) ()) ()) ()) ()) := by
 refine sD Try.f32 1 0 (fun v0 S1 => ?_)
 refine sD Try.f32 1 1 (fun v1 S2 => ?_)
 refine sD Try.f32 1 2 (fun v2 S3 => ?_)
 refine sP Try.f32 1 3 (v := v2) ?_
 refine sG Try.f32 1 4 (j := 3) (fun v4 S4 => ?_)
 refine sG Try.f32 1 5 (j := 3) (fun v5 S5 => ?_)
 refine sG Try.f32 1 6 (j := 3) (fun v6 S6 => ?_)
 refine sD Try.f32 1 7 (fun v7 S7 => ?_)
 refine sP Try.f32 1 8 (v := v7) ?_
 refine sG Try.f32 1 9 (j := 8) (fun v9 S8 => ?_)
 refine sG Try.f32 1 10 (j := 8) (fun b3 S9 => ?_)
 refine sG Try.f32 1 11 (j := 8) (fun b4 c4 => ?_)
 refine sD Try.f32 1 12 (fun b0 c5 => ?_)
 refine sP Try.f32 1 13 (v := b0) ?_
 refine sG Try.f32 1 14 (j := 13) (fun b5 c6 => ?_)
 refine sG Try.f32 1 15 (j := 13) (fun b6 c7 => ?_)
 refine sG Try.f32 1 16 (j := 13) (fun b7 c8 => ?_)
 refine sD Try.f32 1 17 (fun b1 c9 => ?_)
 refine sP Try.f32 1 18 (v := b1) ?_
 refine sG Try.f32 1 19 (j := 18) (fun b8 d0 => ?_)
 refine sG Try.f32 1 20 (j := 18) (fun b9 d1 => ?_)
 refine sG Try.f32 1 21 (j := 18) (fun c0 d2 => ?_)
 refine sD Try.f32 1 22 (fun b2 d3 => ?_)
 refine sP Try.f32 1 23 (v := b2) ?_
 refine sG Try.f32 1 24 (j := 23) (fun c1 d4 => ?_)
 refine sG Try.f32 1 25 (j := 23) (fun c2 d5 => ?_)
 refine sG Try.f32 1 26 (j := 23) (fun c3 d6 => ?_)
 refine sD Try.f32 1 27 (fun d7 d8 => ?_)
 kernel_rfl
theorem zq.r2  : jv Try.prog ⟨false, false, false⟩ (zQ Try.prog O) (reg Try.f32 2) (reg Try.f32 2).toList ([x0,b,x2,x3,x4,x5,x6,x7,x8,x9,c,d,f,g,i,k,l,m,n,o,p,q,r,s,t,u,w,x,y,z,A,B,C,D,E,F,G,H,I,J,K,L,M,N,P,Q,R,U,V,W,X,Y,Z,a0,a1,a2,a3,a4,a5,a6,a7,a8,a9]) S =
  ( some ([x0,b,Value.bool false,x3,x4,x5,x6,x7,x8,x9,c,d,f,g,i,k,l,m,n,o,p,q,r,s,t,u,w,x,y,z,A,B,C,D,E,F,G,H,I,J,K,L,M,N,P,Q,R,U,V,W,X,Y,Z,a0,a1,a2,a3,a4,a5,a6,a7,a8,a9], S)) := by
 kernel_rfl
theorem zq.r3  : jv Try.prog ⟨false, false, false⟩ (zQ Try.prog O) (reg Try.f32 3) (reg Try.f32 3).toList ([x0,b,x2,x3,x4,x5,x6,x7,x8,x9,c,d,f,g,i,k,l,m,n,o,p,q,r,s,t,u,w,x,y,z,A,B,C,D,E,F,G,H,I,J,K,L,M,N,P,Q,R,U,V,W,X,Y,Z,a0,a1,a2,a3,a4,a5,a6,a7,a8,a9]) S =
  (zF (zo Try.prog 46 b 4 S) (fun v0 S1 => zF (zZ Try.prog false 44 v0 S1) (fun v1 S2 => zF ((zQ Try.prog O) 50 [(dem v1)] S2) (fun v2 S3 => zF (zS v2 0 S3) (fun v4 S4 => zF (zS (zV 0 v2) 1 S4) (fun v5 S5 => some ([x0,b,x2,v4,v5,x5,x6,x7,x8,x9,c,d,f,g,i,k,l,m,n,o,p,q,r,s,t,u,w,x,y,z,A,B,C,D,E,F,G,zV 1 (zV 0 v2),v0,v1,dem v2,dem v4,dem v5,N,P,Q,R,U,V,W,X,Y,Z,a0,a1,a2,a3,a4,a5,a6,a7,a8,a9], S5)) ()) ()) ()) ()) ()) := by
 kernel_rfl
theorem zq.r4  : jv Try.prog ⟨false, false, false⟩ (zQ Try.prog O) (reg Try.f32 4) (reg Try.f32 4).toList ([x0,b,x2,x3,x4,x5,x6,x7,x8,x9,c,d,f,g,i,k,l,m,n,o,p,q,r,s,t,u,w,x,y,z,A,B,C,D,E,F,G,H,I,J,K,L,M,N,P,Q,R,U,V,W,X,Y,Z,a0,a1,a2,a3,a4,a5,a6,a7,a8,a9]) S =
  (zF (jX Try.prog BinOp.neq 3 (dem x4) (Value.int IntKind.i64 0) S) (fun v1 S1 => some ([x0,b,x2,x3,x4,x5,x6,x7,x8,x9,c,d,f,g,i,k,l,m,n,o,p,q,r,s,t,u,w,x,y,z,A,B,C,D,E,F,G,H,I,J,K,L,M,dem x4,v1,Q,R,U,V,W,X,Y,Z,a0,a1,a2,a3,a4,a5,a6,a7,a8,a9], S1)) ()) := by
 kernel_rfl
theorem zq.r5  : jv Try.prog ⟨false, false, false⟩ (zQ Try.prog O) (reg Try.f32 5) (reg Try.f32 5).toList ([x0,b,x2,x3,x4,x5,x6,x7,x8,x9,c,d,f,g,i,k,l,m,n,o,p,q,r,s,t,u,w,x,y,z,A,B,C,D,E,F,G,H,I,J,K,L,M,N,P,Q,R,U,V,W,X,Y,Z,a0,a1,a2,a3,a4,a5,a6,a7,a8,a9]) S =
  ( some ([x0,b,Value.bool false,x3,x4,x5,x6,x7,x8,x9,c,d,f,g,i,k,l,m,n,o,p,q,r,s,t,u,w,x,y,z,A,B,C,D,E,F,G,H,I,J,K,L,M,N,P,Q,R,U,V,W,X,Y,Z,a0,a1,a2,a3,a4,a5,a6,a7,a8,a9], S)) := by
 kernel_rfl
theorem zq.r6  : jv Try.prog ⟨false, false, false⟩ (zQ Try.prog O) (reg Try.f32 6) (reg Try.f32 6).toList ([x0,b,x2,x3,x4,x5,x6,x7,x8,x9,c,d,f,g,i,k,l,m,n,o,p,q,r,s,t,u,w,x,y,z,A,B,C,D,E,F,G,H,I,J,K,L,M,N,P,Q,R,U,V,W,X,Y,Z,a0,a1,a2,a3,a4,a5,a6,a7,a8,a9]) S =
  (zF (zo Try.prog 46 b 3 S) (fun v0 S1 => zF (zZ Try.prog false 3 v0 S1) (fun v1 S2 => zF (jX Try.prog BinOp.eql 3 v1 (Value.int IntKind.i64 0) S2) (fun v2 S3 => some ([x0,b,x2,x3,x4,x5,x6,x7,x8,x9,c,d,f,g,i,k,l,m,n,o,p,q,r,s,t,u,w,x,y,z,A,B,C,D,E,F,G,H,I,J,K,L,M,N,P,v0,v1,v2,V,W,X,Y,Z,a0,a1,a2,a3,a4,a5,a6,a7,a8,a9], S3)) ()) ()) ()) := by
 kernel_rfl
theorem zq.r7  : jv Try.prog ⟨false, false, false⟩ (zQ Try.prog O) (reg Try.f32 7) (reg Try.f32 7).toList ([x0,b,x2,x3,x4,x5,x6,x7,x8,x9,c,d,f,g,i,k,l,m,n,o,p,q,r,s,t,u,w,x,y,z,A,B,C,D,E,F,G,H,I,J,K,L,M,N,P,Q,R,U,V,W,X,Y,Z,a0,a1,a2,a3,a4,a5,a6,a7,a8,a9]) S =
  ( some ([x0,b,Value.bool true,x3,x4,x5,x6,x7,x8,x9,c,d,f,g,i,k,l,m,n,o,p,q,r,s,t,u,w,x,y,z,A,B,C,D,E,F,G,H,I,J,K,L,M,N,P,Q,R,U,V,W,X,Y,Z,a0,a1,a2,a3,a4,a5,a6,a7,a8,a9], S)) := by
 kernel_rfl
theorem zq.r8  : jv Try.prog ⟨false, false, false⟩ (zQ Try.prog O) (reg Try.f32 8) (reg Try.f32 8).toList ([x0,b,x2,x3,x4,x5,x6,x7,x8,x9,c,d,f,g,i,k,l,m,n,o,p,q,r,s,t,u,w,x,y,z,A,B,C,D,E,F,G,H,I,J,K,L,M,N,P,Q,R,U,V,W,X,Y,Z,a0,a1,a2,a3,a4,a5,a6,a7,a8,a9]) S =
  (zF (zo Try.prog 46 b 3 S) (fun v0 S1 => zF (zZ Try.prog false 3 v0 S1) (fun v1 S2 => zF ((zQ Try.prog O) 51 [(dem v1)] S2) (fun v2 S3 => zF (zS v2 0 S3) (fun v4 S4 => zF (zS (zV 0 v2) 1 S4) (fun v5 S5 => zF (zS (zV 1 (zV 0 v2)) 2 S5) (fun v6 S6 => zF (zS (zV 2 (zV 1 (zV 0 v2))) 3 S6) (fun v7 S7 => some ([x0,b,x2,x3,x4,v4,v5,v6,v7,x9,c,d,f,g,i,k,l,m,n,o,p,q,r,s,t,u,w,x,y,z,A,B,C,D,E,F,G,H,I,J,K,L,M,N,P,Q,R,U,zV 3 (zV 2 (zV 1 (zV 0 v2))),v0,v1,dem v2,dem v4,dem v5,dem v6,dem v7,a3,a4,a5,a6,a7,a8,a9], S7)) ()) ()) ()) ()) ()) ()) ()) := by
 kernel_rfl
theorem zq.r9  : jv Try.prog ⟨false, false, false⟩ (zQ Try.prog O) (reg Try.f32 9) (reg Try.f32 9).toList ([x0,b,x2,x3,x4,x5,x6,x7,x8,x9,c,d,f,g,i,k,l,m,n,o,p,q,r,s,t,u,w,x,y,z,A,B,C,D,E,F,G,H,I,J,K,L,M,N,P,Q,R,U,V,W,X,Y,Z,a0,a1,a2,a3,a4,a5,a6,a7,a8,a9]) S =
  (gdK (dem x8) true (ret x5) S (fun v2 S1 => gdK (dem x8) true (zo Try.prog 46 b 0) S1 (fun v3 S2 => gdK (dem x8) true (zZ Try.prog false 3 v3) S2 (fun v4 S3 => gdK (dem x8) true (jX Try.prog BinOp.lss 3 (dem v2) v4) S3 (fun v5 S4 => zF (wP (dem x8) v5 (Value.bool false) S4) (fun v6 S5 => some ([x0,b,v6,x3,x4,x5,x6,x7,dem x8,x9,c,d,f,g,i,k,l,m,n,o,p,q,r,s,t,u,w,x,y,z,A,B,C,D,E,F,G,H,I,J,K,L,M,N,P,Q,R,U,V,W,X,Y,Z,a0,a1,a2,x8,dem x8,dem v2,v3,v4,v5,dem v6], S5)) ()) ()) ()) ()) ()) := by
 refine sP Try.f32 9 0 (v := x8) ?_
 refine sP Try.f32 9 1 (v := x8) ?_
 refine sG Try.f32 9 2 (j := 1) (fun v2 S1 => ?_)
 refine sG Try.f32 9 3 (j := 1) (fun v3 S2 => ?_)
 refine sG Try.f32 9 4 (j := 1) (fun v4 S3 => ?_)
 refine sG Try.f32 9 5 (j := 1) (fun v5 S4 => ?_)
 refine sD Try.f32 9 6 (fun v6 S5 => ?_)
 refine sP Try.f32 9 7 (v := v6) ?_
 kernel_rfl
theorem zq.rs : type_of% (And.intro @zq.r0 (And.intro @zq.r1 (And.intro @zq.r2 (And.intro @zq.r3 (And.intro @zq.r4 (And.intro @zq.r5 (And.intro @zq.r6 (And.intro @zq.r7 (And.intro @zq.r8 (@zq.r9)))))))))) := And.intro @zq.r0 (And.intro @zq.r1 (And.intro @zq.r2 (And.intro @zq.r3 (And.intro @zq.r4 (And.intro @zq.r5 (And.intro @zq.r6 (And.intro @zq.r7 (And.intro @zq.r8 (@zq.r9)))))))))
theorem zq.runs {x0 : Value} {S S1 : zi} {e : AEx} {T : List Value} (h : zA Try.prog O false zq.code ([x0,undef,undef,undef,undef,undef,undef,undef,undef,undef,undef,undef,undef,undef,undef,undef,undef,undef,undef,undef,undef,undef,undef,undef,undef,undef,undef,undef,undef,undef,undef,undef,undef,undef,undef,undef,undef,undef,undef,undef,undef,undef,undef,undef,undef,undef,undef,undef,undef,undef,undef,undef,undef,undef,undef,undef,undef,undef,undef,undef,undef,undef,undef]) zi.empty = some (e, T, S1)) (he : e = .normal ∨ e = .ret) (hca : [x0].all (jH 16) = true) (hcv : jH 16 (T.getD 2 undef) = true) : zQ Try.prog O 32 [x0] S = some (T.getD 2 undef, S) :=
 wZ rfl rfl Try.func32 (by decide) zq.body (by exact h) he (wV (a := T.getD 2 undef) ((show zG Try.prog T S1 Try.f32.results.toList = zG Try.prog T S1 [(ResultVar.tmp 2)] from by kernel_rfl).trans (by simp only [zG])) (by kernel_rfl)) hca hcv
end Go.Proofs.Ytfjogganfjkckaa
namespace Go.Proofs.Ytfjogganfjkckaa
open Go.Abs
abbrev wH.id : FuncId := 23
noncomputable def wH.code : Code := (Code.seq (Code.region 0 (reg Try.f23 0) false) (Code.seq (Code.seq (Code.region 1 (reg Try.f23 1) false) (Code.cond (Operand.tmp 5) (Code.seq (Code.region 2 (reg Try.f23 2) false) Code.ret) Code.skip)) (Code.seq (Code.region 3 (reg Try.f23 3) false) Code.ret)))
theorem wH.body : Try.f23.body = some wH.code := by kernel_rfl
variable (b c u m n o p q r s d f g i j k : Value) (S : zi)
theorem wH.r0  : jv Try.prog ⟨false, false, false⟩ (zQ Try.prog O) (reg Try.f23 0) (reg Try.f23 0).toList ([b,c,u,m,n,o,p,q,r,s,d,f,g,i,j,k]) S =
  (zF (Jo (dem b) S) (fun t l => some ([b,t,Value.int IntKind.i64 0,m,n,o,p,q,r,s,d,f,g,i,j,k], l)) ()) := by
 kernel_rfl
theorem wH.r1  : jv Try.prog ⟨false, false, false⟩ (zQ Try.prog O) (reg Try.f23 1) (reg Try.f23 1).toList ([b,c,u,m,n,o,p,q,r,s,d,f,g,i,j,k]) S =
  (zF (zZ Try.prog false 46 c S) (fun t l => zF ((zQ Try.prog O) 45 [(dem t)] l) (fun v x => zF (aUn Try.prog UnOp.not v x) (fun w y => some ([b,c,u,t,v,w,p,q,r,s,d,f,g,i,j,k], y)) ()) ()) ()) := by
 kernel_rfl
theorem wH.r2  : jv Try.prog ⟨false, false, false⟩ (zQ Try.prog O) (reg Try.f23 2) (reg Try.f23 2).toList ([b,c,u,m,n,o,p,q,r,s,d,f,g,i,j,k]) S =
  ( some ([b,c,Value.int IntKind.i64 0,m,n,o,p,q,r,s,d,f,g,i,j,k], S)) := by
 kernel_rfl
theorem wH.r3  : jv Try.prog ⟨false, false, false⟩ (zQ Try.prog O) (reg Try.f23 3) (reg Try.f23 3).toList ([b,c,u,m,n,o,p,q,r,s,d,f,g,i,j,k]) S =
  (zF (zo Try.prog 46 c 0 S) (fun t l => zF (zZ Try.prog false 3 t l) (fun v x => zF (jX Try.prog BinOp.mul 3 v (Value.int IntKind.i64 65536) x) (fun w y => zF (zo Try.prog 46 c 1 y) (fun z H => zF (zZ Try.prog false 3 z H) (fun A I => zF (jX Try.prog BinOp.mul 3 A (Value.int IntKind.i64 256) I) (fun B J => zF (jX Try.prog BinOp.add 3 w B J) (fun C K => zF (zo Try.prog 46 c 2 K) (fun D L => zF (zZ Try.prog false 3 D L) (fun E M => zF (jX Try.prog BinOp.add 3 C E M) (fun F G => some ([b,c,F,m,n,o,t,v,w,z,A,B,C,D,E,dem F], G)) ()) ()) ()) ()) ()) ()) ()) ()) ()) ()) := by
 kernel_rfl
theorem wH.rs : type_of% (And.intro @wH.r0 (And.intro @wH.r1 (And.intro @wH.r2 (@wH.r3)))) := And.intro @wH.r0 (And.intro @wH.r1 (And.intro @wH.r2 (@wH.r3)))
theorem wH.runs {b : Value} {S l : zi} {e : AEx} {T : List Value} (h : zA Try.prog O false wH.code ([b,undef,undef,undef,undef,undef,undef,undef,undef,undef,undef,undef,undef,undef,undef,undef]) zi.empty = some (e, T, l)) (he : e = .normal ∨ e = .ret) (hca : [b].all (jH 16) = true) (hcv : jH 16 (T.getD 2 undef) = true) : zQ Try.prog O 23 [b] S = some (T.getD 2 undef, S) :=
 wZ rfl rfl Try.func23 (by decide) wH.body (by exact h) he (wV (a := T.getD 2 undef) ((show zG Try.prog T l Try.f23.results.toList = zG Try.prog T l [(ResultVar.tmp 2)] from by kernel_rfl).trans (by simp only [zG])) (by kernel_rfl)) hca hcv
end Go.Proofs.Ytfjogganfjkckaa
namespace Go.Proofs.Ytfjogganfjkckaa
open Go.Abs
abbrev jJ.id : FuncId := 60
noncomputable def jJ.code : Code := (Code.seq (Code.region 0 (reg Try.f60 0) false) (Code.seq (Code.region 1 (reg Try.f60 1) false) Code.ret))
theorem jJ.body : Try.f60.body = some jJ.code := by kernel_rfl
variable (b c d o p q z s t u i k l m n : Value) (S : zi)
theorem jJ.r0  : jv Try.prog ⟨false, false, false⟩ (zQ Try.prog O) (reg Try.f60 0) (reg Try.f60 0).toList ([b,c,d,o,p,q,z,s,t,u,i,k,l,m,n]) S =
  ( some ([b,c,d,o,p,q,Value.bool false,s,t,u,i,k,l,m,n], S)) := by
 kernel_rfl
theorem jJ.r1  : jv Try.prog ⟨false, false, false⟩ (zQ Try.prog O) (reg Try.f60 1) (reg Try.f60 1).toList ([b,c,d,o,p,q,z,s,t,u,i,k,l,m,n]) S =
  (zF (jX Try.prog BinOp.geq 3 (dem b) (dem c) S) (fun f g => gdK (dem f) true (ret b) g (fun w A => gdK (dem f) true (ret d) A (fun x B => gdK (dem f) true (jX Try.prog BinOp.leq 3 (dem w) (dem x)) B (fun y C => zF (wP (dem f) y (Value.bool false) C) (fun r D => some ([b,c,d,o,p,q,r,dem b,dem c,f,dem f,dem w,dem x,y,dem r], D)) ()) ()) ()) ()) ()) := by
 refine sP Try.f60 1 0 (v := b) ?_
 refine sP Try.f60 1 1 (v := c) ?_
 refine sD Try.f60 1 2 (fun f g => ?_)
 refine sP Try.f60 1 3 (v := f) ?_
 refine sG Try.f60 1 4 (j := 3) (fun w A => ?_)
 refine sG Try.f60 1 5 (j := 3) (fun x B => ?_)
 refine sG Try.f60 1 6 (j := 3) (fun y C => ?_)
 refine sD Try.f60 1 7 (fun r D => ?_)
 refine sP Try.f60 1 8 (v := r) ?_
 kernel_rfl
theorem jJ.rs : type_of% (And.intro @jJ.r0 (@jJ.r1)) := And.intro @jJ.r0 (@jJ.r1)
theorem jJ.runs {b c d : Value} {S g : zi} {e : AEx} {T : List Value} (h : zA Try.prog O false jJ.code ([b,c,d,undef,undef,undef,undef,undef,undef,undef,undef,undef,undef,undef,undef]) S = some (e, T, g)) (he : e = .normal ∨ e = .ret) : zQ Try.prog O 60 [b, c, d] S = some (T.getD 6 undef, g) :=
 yB rfl rfl Try.func60 (by decide) jJ.body (by exact h) he (wV (a := T.getD 6 undef) ((show zG Try.prog T g Try.f60.results.toList = zG Try.prog T g [(ResultVar.tmp 6)] from by kernel_rfl).trans (by simp only [zG])) (by kernel_rfl))
end Go.Proofs.Ytfjogganfjkckaa
namespace Go.Proofs.Ytfjogganfjkckaa
open Go.Abs
abbrev wC.id : FuncId := 61
noncomputable def wC.code : Code := (Code.seq (Code.region 0 (reg Try.f61 0) false) (Code.seq (Code.region 1 (reg Try.f61 1) false) Code.ret))
theorem wC.body : Try.f61.body = some wC.code := by kernel_rfl
variable (b g w k l m n o p q f : Value) (S : zi)
theorem wC.r0  : jv Try.prog ⟨false, false, false⟩ (zQ Try.prog O) (reg Try.f61 0) (reg Try.f61 0).toList ([b,g,w,k,l,m,n,o,p,q,f]) S =
  ( some ([b,g,Value.bool false,k,l,m,n,o,p,q,f], S)) := by
 kernel_rfl
theorem wC.r1  : jv Try.prog ⟨false, false, false⟩ (zQ Try.prog O) (reg Try.f61 1) (reg Try.f61 1).toList ([b,g,w,k,l,m,n,o,p,q,f]) S =
  (zF ((zQ Try.prog O) 60 [(dem (dem b)), (Value.int IntKind.i64 65536), (Value.int IntKind.i64 268435455)] S) (fun c d => gdK (dem c) true (ret b) d (fun r x => gdK (dem c) true (jX Try.prog BinOp.rem 3 (dem r) (Value.int IntKind.i64 65536)) x (fun s y => gdK (dem c) true (jX Try.prog BinOp.quo 3 s (Value.int IntKind.i64 256)) y (fun t z => gdK (dem c) true (jX Try.prog BinOp.lss 3 t (Value.int IntKind.i64 7)) z (fun u A => zF (wP (dem c) u (Value.bool false) A) (fun i B => some ([b,g,i,dem b,c,dem c,dem r,s,t,u,dem i], B)) ()) ()) ()) ()) ()) ()) := by
 refine sP Try.f61 1 0 (v := b) ?_
 refine sD Try.f61 1 1 (fun c d => ?_)
 refine sP Try.f61 1 2 (v := c) ?_
 refine sG Try.f61 1 3 (j := 2) (fun r x => ?_)
 refine sG Try.f61 1 4 (j := 2) (fun s y => ?_)
 refine sG Try.f61 1 5 (j := 2) (fun t z => ?_)
 refine sG Try.f61 1 6 (j := 2) (fun u A => ?_)
 refine sD Try.f61 1 7 (fun i B => ?_)
 refine sP Try.f61 1 8 (v := i) ?_
 kernel_rfl
theorem wC.rs : type_of% (And.intro @wC.r0 (@wC.r1)) := And.intro @wC.r0 (@wC.r1)
theorem wC.runs {b : Value} {S d : zi} {e : AEx} {T : List Value} (h : zA Try.prog O false wC.code ([b,undef,undef,undef,undef,undef,undef,undef,undef,undef,undef]) S = some (e, T, d)) (he : e = .normal ∨ e = .ret) : zQ Try.prog O 61 [b] S = some (T.getD 2 undef, d) :=
 yB rfl rfl Try.func61 (by decide) wC.body (by exact h) he (wV (a := T.getD 2 undef) ((show zG Try.prog T d Try.f61.results.toList = zG Try.prog T d [(ResultVar.tmp 2)] from by kernel_rfl).trans (by simp only [zG])) (by kernel_rfl))
end Go.Proofs.Ytfjogganfjkckaa
namespace Go.Proofs.Ytfjogganfjkckaa
open Go.Abs
abbrev wJ.id : FuncId := 74
noncomputable def wJ.code : Code := (Code.seq (Code.region 0 (reg Try.f74 0) false) (Code.seq (Code.seq (Code.region 1 (reg Try.f74 1) false) (Code.cond (Operand.tmp 5) (Code.seq (Code.region 2 (reg Try.f74 2) false) Code.ret) Code.skip)) (Code.seq (Code.region 3 (reg Try.f74 3) false) Code.ret)))
theorem wJ.body : Try.f74.body = some wJ.code := by kernel_rfl
variable (b c l f g i j k : Value) (S : zi)
theorem wJ.r0  : jv Try.prog ⟨false, false, false⟩ (zQ Try.prog O) (reg Try.f74 0) (reg Try.f74 0).toList ([b,c,l,f,g,i,j,k]) S =
  ( some ([b,c,Value.int IntKind.i64 0,f,g,i,j,k], S)) := by
 kernel_rfl
theorem wJ.r1  : jv Try.prog ⟨false, false, false⟩ (zQ Try.prog O) (reg Try.f74 1) (reg Try.f74 1).toList ([b,c,l,f,g,i,j,k]) S =
  (zF ((zQ Try.prog O) 61 [(dem (dem b))] S) (fun m d => zF (aUn Try.prog UnOp.not m d) (fun n o => some ([b,c,l,dem b,m,n,j,k], o)) ()) ()) := by
 kernel_rfl
theorem wJ.r2  : jv Try.prog ⟨false, false, false⟩ (zQ Try.prog O) (reg Try.f74 2) (reg Try.f74 2).toList ([b,c,l,f,g,i,j,k]) S =
  ( some ([b,c,Value.int IntKind.i64 0,f,g,i,j,k], S)) := by
 kernel_rfl
theorem wJ.r3  : jv Try.prog ⟨false, false, false⟩ (zQ Try.prog O) (reg Try.f74 3) (reg Try.f74 3).toList ([b,c,l,f,g,i,j,k]) S =
  (zF (jX Try.prog BinOp.quo 3 (dem b) (Value.int IntKind.i64 65536) S) (fun m d => some ([b,c,m,f,g,i,dem b,dem m], d)) ()) := by
 kernel_rfl
theorem wJ.rs : type_of% (And.intro @wJ.r0 (And.intro @wJ.r1 (And.intro @wJ.r2 (@wJ.r3)))) := And.intro @wJ.r0 (And.intro @wJ.r1 (And.intro @wJ.r2 (@wJ.r3)))
theorem wJ.runs {b : Value} {S d : zi} {e : AEx} {T : List Value} (h : zA Try.prog O false wJ.code ([b,undef,undef,undef,undef,undef,undef,undef]) S = some (e, T, d)) (he : e = .normal ∨ e = .ret) : zQ Try.prog O 74 [b] S = some (T.getD 2 undef, d) :=
 yB rfl rfl Try.func74 (by decide) wJ.body (by exact h) he (wV (a := T.getD 2 undef) ((show zG Try.prog T d Try.f74.results.toList = zG Try.prog T d [(ResultVar.tmp 2)] from by kernel_rfl).trans (by simp only [zG])) (by kernel_rfl))
end Go.Proofs.Ytfjogganfjkckaa
namespace Go.Proofs.Ytfjogganfjkckaa
open Go.Abs
abbrev zW.id : FuncId := 51
noncomputable def zW.code : Code := (Code.seq (Code.region 0 (reg Try.f51 0) false) (Code.seq (Code.seq (Code.region 1 (reg Try.f51 1) false) (Code.cond (Operand.tmp 10) (Code.seq (Code.region 2 (reg Try.f51 2) false) Code.ret) Code.skip)) (Code.seq (Code.region 3 (reg Try.f51 3) false) (Code.seq (Code.region 4 (reg Try.f51 4) false) Code.ret))))
theorem zW.body : Try.f51.body = some zW.code := by kernel_rfl
variable (a E H I J K b c C G d f g i k l m n o p q r s t u w x y z A B : Value) (S : zi)
theorem zW.r0  : jv Try.prog ⟨false, false, false⟩ (zQ Try.prog O) (reg Try.f51 0) (reg Try.f51 0).toList ([a,E,H,I,J,K,b,c,C,G,d,f,g,i,k,l,m,n,o,p,q,r,s,t,u,w,x,y,z,A,B]) S =
  ( some ([a,E,Value.int IntKind.i64 0,Value.int IntKind.i64 0,Value.int IntKind.i64 0,Value.bool false,b,c,C,G,d,f,g,i,k,l,m,n,o,p,q,r,s,t,u,w,x,y,z,A,B], S)) := by
 kernel_rfl
theorem zW.r1  : jv Try.prog ⟨false, false, false⟩ (zQ Try.prog O) (reg Try.f51 1) (reg Try.f51 1).toList ([a,E,H,I,J,K,b,c,C,G,d,f,g,i,k,l,m,n,o,p,q,r,s,t,u,w,x,y,z,A,B]) S =
  (zF (jX Try.prog BinOp.lss 3 (dem a) (Value.int IntKind.i64 0) S) (fun R D => some ([a,E,H,I,J,K,b,c,C,dem a,R,f,g,i,k,l,m,n,o,p,q,r,s,t,u,w,x,y,z,A,B], D)) ()) := by
 kernel_rfl
theorem zW.r2  : jv Try.prog ⟨false, false, false⟩ (zQ Try.prog O) (reg Try.f51 2) (reg Try.f51 2).toList ([a,E,H,I,J,K,b,c,C,G,d,f,g,i,k,l,m,n,o,p,q,r,s,t,u,w,x,y,z,A,B]) S =
  ( some ([a,E,Value.int IntKind.i64 0,Value.int IntKind.i64 0,Value.int IntKind.i64 0,Value.bool false,b,c,C,G,d,f,g,i,k,l,m,n,o,p,q,r,s,t,u,w,x,y,z,A,B], S)) := by
 kernel_rfl
theorem zW.r3  : jv Try.prog ⟨false, false, false⟩ (zQ Try.prog O) (reg Try.f51 3) (reg Try.f51 3).toList ([a,E,H,I,J,K,b,c,C,G,d,f,g,i,k,l,m,n,o,p,q,r,s,t,u,w,x,y,z,A,B]) S =
  (zF (jX Try.prog BinOp.quo 3 (dem a) (Value.int IntKind.i64 65536) S) (fun R D => zF (jX Try.prog BinOp.quo 3 (dem a) (Value.int IntKind.i64 256) D) (fun Y U => zF (jX Try.prog BinOp.rem 3 Y (Value.int IntKind.i64 256) U) (fun F V => zF (jX Try.prog BinOp.rem 3 (dem a) (Value.int IntKind.i64 256) V) (fun N W => some ([a,E,H,I,J,K,R,F,N,G,d,dem a,dem R,dem a,Y,dem F,dem a,dem N,o,p,q,r,s,t,u,w,x,y,z,A,B], W)) ()) ()) ()) ()) := by
 kernel_rfl
theorem zW.r4  : jv Try.prog ⟨false, false, false⟩ (zQ Try.prog O) (reg Try.f51 4) (reg Try.f51 4).toList ([a,E,H,I,J,K,b,c,C,G,d,f,g,i,k,l,m,n,o,p,q,r,s,t,u,w,x,y,z,A,B]) S =
  (zF (jX Try.prog BinOp.geq 3 (dem (dem b)) (Value.int IntKind.i64 1) S) (fun F D => gdK (dem F) true (ret (dem b)) D (fun N U => gdK (dem F) true (jX Try.prog BinOp.leq 3 (dem N) (Value.int IntKind.i64 4095)) U (fun X V => zF (wP (dem F) X (Value.bool false) V) (fun L W => gdK (dem L) true (ret (dem c)) W (fun P Z => gdK (dem L) true (jX Try.prog BinOp.leq 3 (dem P) (Value.int IntKind.i64 6)) Z (fun Q S6 => zF (wP (dem L) Q (Value.bool false) S6) (fun M S7 => some ([a,E,b,c,C,M,dem b,dem c,dem C,G,d,f,g,i,k,l,m,n,dem b,dem c,dem C,dem (dem b),F,dem F,dem N,X,L,dem L,dem P,Q,dem M], S7)) ()) ()) ()) ()) ()) ()) ()) := by
 refine sP Try.f51 4 0 (v := b) ?_
 refine sP Try.f51 4 1 (v := c) ?_
 refine sP Try.f51 4 2 (v := C) ?_
 refine sP Try.f51 4 3 (v := (dem b)) ?_
 refine sD Try.f51 4 4 (fun F D => ?_)
 refine sP Try.f51 4 5 (v := F) ?_
 refine sG Try.f51 4 6 (j := 5) (fun N U => ?_)
 refine sG Try.f51 4 7 (j := 5) (fun X V => ?_)
 refine sD Try.f51 4 8 (fun L W => ?_)
 refine sP Try.f51 4 9 (v := L) ?_
 refine sG Try.f51 4 10 (j := 9) (fun P Z => ?_)
 refine sG Try.f51 4 11 (j := 9) (fun Q S6 => ?_)
 refine sD Try.f51 4 12 (fun M S7 => ?_)
 refine sP Try.f51 4 13 (v := b) ?_
 refine sP Try.f51 4 14 (v := c) ?_
 refine sP Try.f51 4 15 (v := C) ?_
 refine sP Try.f51 4 16 (v := M) ?_
 kernel_rfl
theorem zW.rs : type_of% (And.intro @zW.r0 (And.intro @zW.r1 (And.intro @zW.r2 (And.intro @zW.r3 (@zW.r4))))) := And.intro @zW.r0 (And.intro @zW.r1 (And.intro @zW.r2 (And.intro @zW.r3 (@zW.r4))))
theorem zW.runs {a : Value} {S D : zi} {e : AEx} {T : List Value} (h : zA Try.prog O false zW.code ([a,undef,undef,undef,undef,undef,undef,undef,undef,undef,undef,undef,undef,undef,undef,undef,undef,undef,undef,undef,undef,undef,undef,undef,undef,undef,undef,undef,undef,undef,undef]) S = some (e, T, D)) (he : e = .normal ∨ e = .ret)  (h0 : jY (T.getD 2 undef) = true) (h1 : jY (T.getD 3 undef) = true) (h2 : jY (T.getD 4 undef) = true) (h3 : jY (T.getD 5 undef) = true) : zQ Try.prog O 51 [a] S = some (Value.tuple #[T.getD 2 undef, T.getD 3 undef, T.getD 4 undef, T.getD 5 undef], D) :=
 yB rfl rfl Try.func51 (by decide) zW.body (by exact h) he ((ql ((show zG Try.prog T D Try.f51.results.toList = zG Try.prog T D [(ResultVar.tmp 2), (ResultVar.tmp 3), (ResultVar.tmp 4), (ResultVar.tmp 5)] from by kernel_rfl).trans (by simp only [zG])) (by kernel_rfl) (by simp only [List.all_cons, List.all_nil, h0, h1, h2, h3, Bool.and_true])).trans rfl)
end Go.Proofs.Ytfjogganfjkckaa
namespace Go.Proofs.Ytfjogganfjkckaa
open Go.Abs
def btw (n a b : Int) : Bool := decide (a ≤ n) && decide (n ≤ b)
theorem QL {n a b : Int} : btw n a b = true ↔ a ≤ n ∧ n ≤ b := by simp [btw]
def kR (n : Int) : Bool := btw n 65536 268435455 && decide (n % 65536 / 256 < 7)
theorem xG {n : Int} : kR n = true ↔ 65536 ≤ n ∧ n ≤ 268435455 ∧ n % 65536 / 256 < 7 := by simp [kR, btw, and_assoc]
def WO (n : Int) : Int := if kR n = true then n / 65536 else 0
theorem Vk {n m : Int} (h : 0 ≤ n) : n.tmod m = n % m := Int.tmod_eq_emod_of_nonneg h
theorem W9 {n m : Int} (h : 0 ≤ n) : n.tdiv m = n / m := Int.tdiv_eq_ediv_of_nonneg h
theorem YV : (65536 : Int) ≠ 0 := by decide
theorem ah7 : (256 : Int) ≠ 0 := by decide
theorem jJ.v (n a b : Int) (S : zi) : zQ Try.prog O jJ.id [.int .i64 n, .int .i64 a, .int .i64 b] S = some (.bool (btw n a b), S) := by
 obtain ⟨T, hTe⟩ : ∃ T, T = (.int .i64 n :: .int .i64 a :: .int .i64 b :: undef :: undef :: undef :: undef :: undef :: undef :: undef :: undef :: undef :: undef :: undef :: undef :: []) := ⟨_, rfl⟩
 have hr : zA Try.prog O false jJ.code T S = zA Try.prog O false jJ.code T S := rfl
 unfold btw
 by_cases h1 : a ≤ n
 ·
  conv at hr =>
   rhs
   rw [hTe]
   simp only [jJ.code, jJ.rs, zSs, reduceIte, Nat.reduceEqDiff, Int.reduceEq, Int.reduceLT, Int.reduceLE, decide_eq_true h1]
  rw [decide_eq_true h1, Bool.true_and]
  rw [hTe] at hr
  exact jJ.runs hr (.inr rfl)
 ·
  conv at hr =>
   rhs
   rw [hTe]
   simp only [jJ.code, jJ.rs, zSs, reduceIte, Nat.reduceEqDiff, Int.reduceEq, Int.reduceLT, Int.reduceLE, decide_eq_false h1]
  rw [decide_eq_false h1, Bool.false_and]
  rw [hTe] at hr
  exact jJ.runs hr (.inr rfl)
theorem wC.v (n : Int) (S : zi) : zQ Try.prog O wC.id [.int .i64 n] S = some (.bool (kR n), S) := by
 obtain ⟨T, hTe⟩ : ∃ T, T = (.int .i64 n :: undef :: undef :: undef :: undef :: undef :: undef :: undef :: undef :: undef :: undef :: []) := ⟨_, rfl⟩
 have hr : zA Try.prog O false wC.code T S = zA Try.prog O false wC.code T S := rfl
 unfold kR
 cases h1 : btw n 65536 268435455
 ·
  conv at hr =>
   rhs
   rw [hTe]
   simp only [wC.code, wC.rs, zSs, reduceIte, Nat.reduceEqDiff, Int.reduceEq, Int.reduceLT, Int.reduceLE, jJ.v, h1]
  rw [hTe] at hr
  exact wC.runs hr (.inr rfl)
 ·
  have hb := QL.mp h1
  have q1 : IntKind.i64.wrap ((n.tmod 65536).tdiv 256) = n % 65536 / 256 := by
   rw [Vk (by omega), W9 (by omega), wrap_i64 (by omega) (by omega)]
  conv at hr =>
   rhs
   rw [hTe]
   simp only [wC.code, wC.rs, zSs, reduceIte, Nat.reduceEqDiff, Int.reduceEq, Int.reduceLT, Int.reduceLE, jJ.v, h1, WV _ _ _ YV, kY _ _ _ ah7, q1]
  rw [hTe] at hr
  rw [Bool.true_and]
  exact wC.runs hr (.inr rfl)
theorem wJ.v (n : Int) (S : zi) : zQ Try.prog O wJ.id [.int .i64 n] S = some (.int .i64 (WO n), S) := by
 obtain ⟨T, hTe⟩ : ∃ T, T = (.int .i64 n :: undef :: undef :: undef :: undef :: undef :: undef :: undef :: []) := ⟨_, rfl⟩
 have hr : zA Try.prog O false wJ.code T S = zA Try.prog O false wJ.code T S := rfl
 unfold WO
 cases h1 : kR n
 ·
  conv at hr =>
   rhs
   rw [hTe]
   simp only [wJ.code, wJ.rs, zSs, reduceIte, Nat.reduceEqDiff, Int.reduceEq, Int.reduceLT, Int.reduceLE, wC.v, h1]
  rw [hTe] at hr
  exact wJ.runs hr (.inr rfl)
 ·
  have hb := xG.mp h1
  have q1 : IntKind.i64.wrap (n.tdiv 65536) = n / 65536 := by
   rw [W9 (by omega), wrap_i64 (by omega) (by omega)]
  conv at hr =>
   rhs
   rw [hTe]
   simp only [wJ.code, wJ.rs, zSs, reduceIte, Nat.reduceEqDiff, Int.reduceEq, Int.reduceLT, Int.reduceLE, wC.v, h1, kY _ _ _ YV, q1]
  rw [hTe] at hr
  exact wJ.runs hr (.inr rfl)
def aam (n : Int) : Value := if n < 0 then .tuple #[.int .i64 0, .int .i64 0, .int .i64 0, .bool false] else .tuple #[.int .i64 (n / 65536), .int .i64 (n / 256 % 256), .int .i64 (n % 256), .bool (kR n)]
theorem zW.v (n : Int) (hn : n < 9223372036854775808) (S : zi) : zQ Try.prog O zW.id [.int .i64 n] S = some (aam n, S) := by
 obtain ⟨T, hTe⟩ : ∃ T, T = (.int .i64 n :: undef :: undef :: undef :: undef :: undef :: undef :: undef :: undef :: undef :: undef :: undef :: undef :: undef :: undef :: undef :: undef :: undef :: undef :: undef :: undef :: undef :: undef :: undef :: undef :: undef :: undef :: undef :: undef :: undef :: undef :: []) := ⟨_, rfl⟩
 have hr : zA Try.prog O false zW.code T S = zA Try.prog O false zW.code T S := rfl
 unfold aam
 by_cases h0 : n < 0
 ·
  conv at hr =>
   rhs
   rw [hTe]
   simp only [zW.code, zW.rs, zSs, reduceIte, Nat.reduceEqDiff, Int.reduceEq, Int.reduceLT, Int.reduceLE, decide_eq_true h0]
  rw [hTe] at hr
  rw [if_pos h0]
  exact zW.runs hr (.inr rfl) rfl rfl rfl rfl
 ·
  have q1 : IntKind.i64.wrap (n.tdiv 65536) = n / 65536 := by
   rw [W9 (by omega), wrap_i64 (by omega) (by omega)]
  have q2 : (IntKind.i64.wrap (n.tdiv 256)).tmod 256 = n / 256 % 256 := by
   rw [W9 (by omega), wrap_i64 (by omega) (by omega), Vk (by omega)]
  have q3 : n.tmod 256 = n % 256 := Vk (by omega)
  rw [if_neg h0]
  by_cases h1 : 1 ≤ n / 65536
  ·
   by_cases h2 : n / 65536 ≤ 4095
   ·
    have e : kR n = decide (n / 256 % 256 ≤ 6) := by
     rw [Bool.eq_iff_iff, xG]; simp; omega
    rw [e]
    conv at hr =>
     rhs
     rw [hTe]
     simp only [zW.code, zW.rs, zSs, reduceIte, Nat.reduceEqDiff, Int.reduceEq, Int.reduceLT, Int.reduceLE, decide_eq_false h0, WV _ _ _ ah7, kY _ _ _ ah7, kY _ _ _ YV, q1, q2, q3, decide_eq_true h1, decide_eq_true h2]
    rw [hTe] at hr
    exact zW.runs hr (.inr rfl) rfl rfl rfl rfl
   ·
    have e : kR n = false := by
     cases h : kR n with
     | false => rfl
     | true => have := xG.mp h; omega
    rw [e]
    conv at hr =>
     rhs
     rw [hTe]
     simp only [zW.code, zW.rs, zSs, reduceIte, Nat.reduceEqDiff, Int.reduceEq, Int.reduceLT, Int.reduceLE, decide_eq_false h0, WV _ _ _ ah7, kY _ _ _ ah7, kY _ _ _ YV, q1, q2, q3, decide_eq_true h1, decide_eq_false h2]
    rw [hTe] at hr
    exact zW.runs hr (.inr rfl) rfl rfl rfl rfl
  ·
   have e : kR n = false := by
    cases h : kR n with
    | false => rfl
    | true => have := xG.mp h; omega
   rw [e]
   conv at hr =>
    rhs
    rw [hTe]
    simp only [zW.code, zW.rs, zSs, reduceIte, Nat.reduceEqDiff, Int.reduceEq, Int.reduceLT, Int.reduceLE, decide_eq_false h0, WV _ _ _ ah7, kY _ _ _ ah7, kY _ _ _ YV, q1, q2, q3, decide_eq_false h1]
   rw [hTe] at hr
   exact zW.runs hr (.inr rfl) rfl rfl rfl rfl
end Go.Proofs.Ytfjogganfjkckaa
namespace Go.Proofs.Ytfjogganfjkckaa
open Go.Abs
abbrev zH.id : FuncId := 65
noncomputable def zH.jP : Code := (Code.seq (Code.region 6 (reg Try.f65 6) false) (Code.seq (Code.cond (Operand.tmp 35) Code.skip (Code.exit 0)) (Code.seq (Code.block 1 (Code.seq (Code.region 7 (reg Try.f65 7) false) (Code.seq (Code.seq (Code.region 8 (reg Try.f65 8) false) (Code.cond (Operand.tmp 43) (Code.seq (Code.region 9 (reg Try.f65 9) false) Code.ret) Code.skip)) (Code.seq (Code.region 10 (reg Try.f65 10) false) (Code.region 11 (reg Try.f65 11) false))))) (Code.region 12 (reg Try.f65 12) false))))
noncomputable def zH.code : Code := (Code.seq (Code.region 0 (reg Try.f65 0) false) (Code.seq (Code.region 1 (reg Try.f65 1) false) (Code.seq (Code.seq (Code.region 2 (reg Try.f65 2) false) (Code.cond (Operand.tmp 30) (Code.seq (Code.region 3 (reg Try.f65 3) false) Code.ret) Code.skip)) (Code.seq (Code.region 4 (reg Try.f65 4) false) (Code.seq (Code.seq (Code.region 5 (reg Try.f65 5) false) (Code.block 0 (Code.loop zH.jP))) (Code.seq (Code.seq (Code.region 13 (reg Try.f65 13) false) (Code.cond (Operand.tmp 57) (Code.seq (Code.region 14 (reg Try.f65 14) false) Code.ret) Code.skip)) (Code.seq (Code.region 15 (reg Try.f65 15) false) Code.ret)))))))
theorem zH.body : Try.f65.body = some zH.code := by kernel_rfl
theorem zH.eta {T : List Value} (h : T.length = 59) : T = [T.getD 0 undef,T.getD 1 undef,T.getD 2 undef,T.getD 3 undef,T.getD 4 undef,T.getD 5 undef,T.getD 6 undef,T.getD 7 undef,T.getD 8 undef,T.getD 9 undef,T.getD 10 undef,T.getD 11 undef,T.getD 12 undef,T.getD 13 undef,T.getD 14 undef,T.getD 15 undef,T.getD 16 undef,T.getD 17 undef,T.getD 18 undef,T.getD 19 undef,T.getD 20 undef,T.getD 21 undef,T.getD 22 undef,T.getD 23 undef,T.getD 24 undef,T.getD 25 undef,T.getD 26 undef,T.getD 27 undef,T.getD 28 undef,T.getD 29 undef,T.getD 30 undef,T.getD 31 undef,T.getD 32 undef,T.getD 33 undef,T.getD 34 undef,T.getD 35 undef,T.getD 36 undef,T.getD 37 undef,T.getD 38 undef,T.getD 39 undef,T.getD 40 undef,T.getD 41 undef,T.getD 42 undef,T.getD 43 undef,T.getD 44 undef,T.getD 45 undef,T.getD 46 undef,T.getD 47 undef,T.getD 48 undef,T.getD 49 undef,T.getD 50 undef,T.getD 51 undef,T.getD 52 undef,T.getD 53 undef,T.getD 54 undef,T.getD 55 undef,T.getD 56 undef,T.getD 57 undef,T.getD 58 undef] := (qG T 59 h).trans (by kernel_rfl)
variable (x0 x1 x2 x3 x4 x5 x6 x7 x8 x9 a d f g i k l m n o p q r s t u w x y z A B C b c D E F G H I J K L M N P Q R U V W X Y Z a0 a1 a2 a3 : Value) (S : zi)
theorem zH.r0  : jv Try.prog ⟨false, false, false⟩ (zQ Try.prog O) (reg Try.f65 0) (reg Try.f65 0).toList ([x0,x1,x2,x3,x4,x5,x6,x7,x8,x9,a,d,f,g,i,k,l,m,n,o,p,q,r,s,t,u,w,x,y,z,A,B,C,b,c,D,E,F,G,H,I,J,K,L,M,N,P,Q,R,U,V,W,X,Y,Z,a0,a1,a2,a3]) S =
  ( some ([x0,x1,Value.slice none 0 0,Value.int IntKind.i64 0,x4,x5,x6,x7,x8,x9,a,d,f,g,i,k,l,m,n,o,p,q,r,s,t,u,w,x,y,z,A,B,C,b,c,D,E,F,G,H,I,J,K,L,M,N,P,Q,R,U,V,W,X,Y,Z,a0,a1,a2,a3], S)) := by
 kernel_rfl
theorem zH.r1  : jv Try.prog ⟨false, false, false⟩ (zQ Try.prog O) (reg Try.f65 1) (reg Try.f65 1).toList ([x0,x1,x2,x3,x4,x5,x6,x7,x8,x9,a,d,f,g,i,k,l,m,n,o,p,q,r,s,t,u,w,x,y,z,A,B,C,b,c,D,E,F,G,H,I,J,K,L,M,N,P,Q,R,U,V,W,X,Y,Z,a0,a1,a2,a3]) S =
  (zF ((zQ Try.prog O) 55 [(dem (dem x0)), (Value.int IntKind.i64 1)] S) (fun v1 S1 => zF (zS v1 0 S1) (fun v3 S2 => zF (zS (zV 0 v1) 1 S2) (fun v4 S3 => zF (zS (zV 1 (zV 0 v1)) 2 S3) (fun v5 S4 => some ([x0,x1,x2,x3,v3,v4,v5,x7,x8,x9,a,zV 2 (zV 1 (zV 0 v1)),dem x0,dem v1,dem v3,dem v4,dem v5,m,n,o,p,q,r,s,t,u,w,x,y,z,A,B,C,b,c,D,E,F,G,H,I,J,K,L,M,N,P,Q,R,U,V,W,X,Y,Z,a0,a1,a2,a3], S4)) ()) ()) ()) ()) := by
 kernel_rfl
theorem zH.r2  : jv Try.prog ⟨false, false, false⟩ (zQ Try.prog O) (reg Try.f65 2) (reg Try.f65 2).toList ([x0,x1,x2,x3,x4,x5,x6,x7,x8,x9,a,d,f,g,i,k,l,m,n,o,p,q,r,s,t,u,w,x,y,z,A,B,C,b,c,D,E,F,G,H,I,J,K,L,M,N,P,Q,R,U,V,W,X,Y,Z,a0,a1,a2,a3]) S =
  (zF (jX Try.prog BinOp.neq 64 (dem x6) (Value.int IntKind.i64 0) S) (fun v1 S1 => gdK (dem v1) false (ret x4) S1 (fun v3 S2 => gdK (dem v1) false (jB Try.prog 24 (dem v3) (Value.int IntKind.i64 0)) S2 (fun v4 S3 => gdK (dem v1) false (zZ Try.prog false 3 v4) S3 (fun v5 S4 => gdK (dem v1) false (jX Try.prog BinOp.lss 3 v5 (Value.int IntKind.i64 0)) S4 (fun v6 S5 => zF (wP (dem v1) (Value.bool true) v6 S5) (fun v7 S6 => gdK (dem v7) false (ret x4) S6 (fun v9 S7 => gdK (dem v7) false (jB Try.prog 24 (dem v9) (Value.int IntKind.i64 0)) S7 (fun a4 S8 => gdK (dem v7) false (zZ Try.prog false 3 a4) S8 (fun a5 S9 => gdK (dem v7) false (jX Try.prog BinOp.gtr 3 a5 (Value.int IntKind.i64 3)) S9 (fun a6 a7 => zF (wP (dem v7) (Value.bool true) a6 a7) (fun a8 a9 => some ([x0,x1,x2,x3,x4,x5,x6,x7,x8,x9,a,d,f,g,i,k,l,dem x6,v1,dem v1,dem v3,v4,v5,v6,v7,dem v7,dem v9,a4,a5,a6,a8,B,C,b,c,D,E,F,G,H,I,J,K,L,M,N,P,Q,R,U,V,W,X,Y,Z,a0,a1,a2,a3], a9)) ()) ()) ()) ()) ()) ()) ()) ()) ()) ()) ()) := by
 refine sP Try.f65 2 0 (v := x6) ?_
 refine sD Try.f65 2 1 (fun v1 S1 => ?_)
 refine sP Try.f65 2 2 (v := v1) ?_
 refine sG Try.f65 2 3 (j := 2) (fun v3 S2 => ?_)
 refine sG Try.f65 2 4 (j := 2) (fun v4 S3 => ?_)
 refine sG Try.f65 2 5 (j := 2) (fun v5 S4 => ?_)
 refine sG Try.f65 2 6 (j := 2) (fun v6 S5 => ?_)
 refine sD Try.f65 2 7 (fun v7 S6 => ?_)
 refine sP Try.f65 2 8 (v := v7) ?_
 refine sG Try.f65 2 9 (j := 8) (fun v9 S7 => ?_)
 refine sG Try.f65 2 10 (j := 8) (fun a4 S8 => ?_)
 refine sG Try.f65 2 11 (j := 8) (fun a5 S9 => ?_)
 refine sG Try.f65 2 12 (j := 8) (fun a6 a7 => ?_)
 refine sD Try.f65 2 13 (fun a8 a9 => ?_)
 kernel_rfl
theorem zH.r3  : jv Try.prog ⟨false, false, false⟩ (zQ Try.prog O) (reg Try.f65 3) (reg Try.f65 3).toList ([x0,x1,x2,x3,x4,x5,x6,x7,x8,x9,a,d,f,g,i,k,l,m,n,o,p,q,r,s,t,u,w,x,y,z,A,B,C,b,c,D,E,F,G,H,I,J,K,L,M,N,P,Q,R,U,V,W,X,Y,Z,a0,a1,a2,a3]) S =
  ( some ([x0,x1,Value.slice none 0 0,Value.int IntKind.i64 61,x4,x5,x6,x7,x8,x9,a,d,f,g,i,k,l,m,n,o,p,q,r,s,t,u,w,x,y,z,A,B,C,b,c,D,E,F,G,H,I,J,K,L,M,N,P,Q,R,U,V,W,X,Y,Z,a0,a1,a2,a3], S)) := by
 kernel_rfl
theorem zH.r4  : jv Try.prog ⟨false, false, false⟩ (zQ Try.prog O) (reg Try.f65 4) (reg Try.f65 4).toList ([x0,x1,x2,x3,x4,x5,x6,x7,x8,x9,a,d,f,g,i,k,l,m,n,o,p,q,r,s,t,u,w,x,y,z,A,B,C,b,c,D,E,F,G,H,I,J,K,L,M,N,P,Q,R,U,V,W,X,Y,Z,a0,a1,a2,a3]) S =
  ( some ([x0,x1,x2,x3,x4,x5,x6,Value.slice none 0 0,x8,x9,a,d,f,g,i,k,l,m,n,o,p,q,r,s,t,u,w,x,y,z,A,B,C,b,c,D,E,F,G,H,I,J,K,L,M,N,P,Q,R,U,V,W,X,Y,Z,a0,a1,a2,a3], S)) := by
 kernel_rfl
theorem zH.r5  : jv Try.prog ⟨false, false, false⟩ (zQ Try.prog O) (reg Try.f65 5) (reg Try.f65 5).toList ([x0,x1,x2,x3,x4,x5,x6,x7,x8,x9,a,d,f,g,i,k,l,m,n,o,p,q,r,s,t,u,w,x,y,z,A,B,C,b,c,D,E,F,G,H,I,J,K,L,M,N,P,Q,R,U,V,W,X,Y,Z,a0,a1,a2,a3]) S =
  (zF (jB Try.prog 24 (dem x4) (Value.int IntKind.i64 0) S) (fun v1 S1 => zF (zZ Try.prog false 3 v1 S1) (fun v2 S2 => some ([x0,x1,x2,x3,x4,x5,x6,x7,x8,x9,a,d,f,g,i,k,l,m,n,o,p,q,r,s,t,u,w,x,y,z,A,dem x4,v1,v2,Value.int IntKind.i64 0,D,E,F,G,H,I,J,K,L,M,N,P,Q,R,U,V,W,X,Y,Z,a0,a1,a2,a3], S2)) ()) ()) := by
 kernel_rfl
theorem zH.r6  : jv Try.prog ⟨false, false, false⟩ (zQ Try.prog O) (reg Try.f65 6) (reg Try.f65 6).toList ([x0,x1,x2,x3,x4,x5,x6,x7,x8,x9,a,d,f,g,i,k,l,m,n,o,p,q,r,s,t,u,w,x,y,z,A,B,C,b,c,D,E,F,G,H,I,J,K,L,M,N,P,Q,R,U,V,W,X,Y,Z,a0,a1,a2,a3]) S =
  (zF (jX Try.prog BinOp.lss 3 c b S) (fun v0 S1 => some ([x0,x1,x2,x3,x4,x5,x6,x7,x8,x9,a,d,f,g,i,k,l,m,n,o,p,q,r,s,t,u,w,x,y,z,A,B,C,b,c,v0,E,F,G,H,I,J,K,L,M,N,P,Q,R,U,V,W,X,Y,Z,a0,a1,a2,a3], S1)) ()) := by
 kernel_rfl
theorem zH.r7  : jv Try.prog ⟨false, false, false⟩ (zQ Try.prog O) (reg Try.f65 7) (reg Try.f65 7).toList ([x0,x1,x2,x3,x4,x5,x6,x7,x8,x9,a,d,f,g,i,k,l,m,n,o,p,q,r,s,t,u,w,x,y,z,A,B,C,b,c,D,E,F,G,H,I,J,K,L,M,N,P,Q,R,U,V,W,X,Y,Z,a0,a1,a2,a3]) S =
  (zF ((zQ Try.prog O) 64 [(dem (dem x5))] S) (fun v1 S1 => zF (zS v1 0 S1) (fun v3 S2 => zF (zS (zV 0 v1) 1 S2) (fun v4 S3 => zF (zS (zV 1 (zV 0 v1)) 2 S3) (fun v5 S4 => zF (yJ Try.prog 43 S4) (fun v6 S5 => zF (wU Try.prog 43 v6 (dem v3) S5) (fun v7 S6 => some ([x0,x1,x2,x3,x4,x5,x6,x7,v6,v4,v5,d,f,g,i,k,l,m,n,o,p,q,r,s,t,u,w,x,y,z,A,B,C,b,c,D,zV 2 (zV 1 (zV 0 v1)),dem x5,dem v1,v3,dem v4,dem v5,K,L,M,N,P,Q,R,U,V,W,X,Y,Z,a0,a1,a2,a3], S6)) ()) ()) ()) ()) ()) ()) := by
 kernel_rfl
theorem zH.r8  : jv Try.prog ⟨false, false, false⟩ (zQ Try.prog O) (reg Try.f65 8) (reg Try.f65 8).toList ([x0,x1,x2,x3,x4,x5,x6,x7,x8,x9,a,d,f,g,i,k,l,m,n,o,p,q,r,s,t,u,w,x,y,z,A,B,C,b,c,D,E,F,G,H,I,J,K,L,M,N,P,Q,R,U,V,W,X,Y,Z,a0,a1,a2,a3]) S =
  (zF (aUn Try.prog UnOp.not (dem a) S) (fun v1 S1 => some ([x0,x1,x2,x3,x4,x5,x6,x7,x8,x9,a,d,f,g,i,k,l,m,n,o,p,q,r,s,t,u,w,x,y,z,A,B,C,b,c,D,E,F,G,H,I,J,dem a,v1,M,N,P,Q,R,U,V,W,X,Y,Z,a0,a1,a2,a3], S1)) ()) := by
 kernel_rfl
theorem zH.r9  : jv Try.prog ⟨false, false, false⟩ (zQ Try.prog O) (reg Try.f65 9) (reg Try.f65 9).toList ([x0,x1,x2,x3,x4,x5,x6,x7,x8,x9,a,d,f,g,i,k,l,m,n,o,p,q,r,s,t,u,w,x,y,z,A,B,C,b,c,D,E,F,G,H,I,J,K,L,M,N,P,Q,R,U,V,W,X,Y,Z,a0,a1,a2,a3]) S =
  ( some ([x0,x1,Value.slice none 0 0,Value.int IntKind.i64 61,x4,x5,x6,x7,x8,x9,a,d,f,g,i,k,l,m,n,o,p,q,r,s,t,u,w,x,y,z,A,B,C,b,c,D,E,F,G,H,I,J,K,L,M,N,P,Q,R,U,V,W,X,Y,Z,a0,a1,a2,a3], S)) := by
 kernel_rfl
theorem zH.r10  : jv Try.prog ⟨false, false, false⟩ (zQ Try.prog O) (reg Try.f65 10) (reg Try.f65 10).toList ([x0,x1,x2,x3,x4,x5,x6,x7,x8,x9,a,d,f,g,i,k,l,m,n,o,p,q,r,s,t,u,w,x,y,z,A,B,C,b,c,D,E,F,G,H,I,J,K,L,M,N,P,Q,R,U,V,W,X,Y,Z,a0,a1,a2,a3]) S =
  (zF (zZ Try.prog false 43 x8 S) (fun v1 S1 => zF (jR Try.prog 44 1 [(0, v1)] S1) (fun v2 S2 => zF (yj Try.prog 44 44 x7 v2 S2) (fun v3 S3 => some ([x0,x1,x2,x3,x4,x5,x6,v3,x8,x9,a,d,f,g,i,k,l,m,n,o,p,q,r,s,t,u,w,x,y,z,A,B,C,b,c,D,E,F,G,H,I,J,K,L,dem x7,v1,v2,dem v3,R,U,V,W,X,Y,Z,a0,a1,a2,a3], S3)) ()) ()) ()) := by
 kernel_rfl
theorem zH.r11  : jv Try.prog ⟨false, false, false⟩ (zQ Try.prog O) (reg Try.f65 11) (reg Try.f65 11).toList ([x0,x1,x2,x3,x4,x5,x6,x7,x8,x9,a,d,f,g,i,k,l,m,n,o,p,q,r,s,t,u,w,x,y,z,A,B,C,b,c,D,E,F,G,H,I,J,K,L,M,N,P,Q,R,U,V,W,X,Y,Z,a0,a1,a2,a3]) S =
  ( some ([x0,x1,x2,x3,x4,x9,x6,x7,x8,dem x9,a,d,f,g,i,k,l,m,n,o,p,q,r,s,t,u,w,x,y,z,A,B,C,b,c,D,E,F,G,H,I,J,K,L,M,N,P,Q,dem x9,U,V,W,X,Y,Z,a0,a1,a2,a3], S)) := by
 kernel_rfl
theorem zH.r12  : jv Try.prog ⟨false, false, false⟩ (zQ Try.prog O) (reg Try.f65 12) (reg Try.f65 12).toList ([x0,x1,x2,x3,x4,x5,x6,x7,x8,x9,a,d,f,g,i,k,l,m,n,o,p,q,r,s,t,u,w,x,y,z,A,B,C,b,c,D,E,F,G,H,I,J,K,L,M,N,P,Q,R,U,V,W,X,Y,Z,a0,a1,a2,a3]) S =
  (zF (jX Try.prog BinOp.add 3 c (Value.int IntKind.i64 1) S) (fun v0 S1 => some ([x0,x1,x2,x3,x4,x5,x6,x7,x8,x9,a,d,f,g,i,k,l,m,n,o,p,q,r,s,t,u,w,x,y,z,A,B,C,b,dem v0,D,E,F,G,H,I,J,K,L,M,N,P,Q,R,v0,V,W,X,Y,Z,a0,a1,a2,a3], S1)) ()) := by
 kernel_rfl
theorem zH.r13  : jv Try.prog ⟨false, false, false⟩ (zQ Try.prog O) (reg Try.f65 13) (reg Try.f65 13).toList ([x0,x1,x2,x3,x4,x5,x6,x7,x8,x9,a,d,f,g,i,k,l,m,n,o,p,q,r,s,t,u,w,x,y,z,A,B,C,b,c,D,E,F,G,H,I,J,K,L,M,N,P,Q,R,U,V,W,X,Y,Z,a0,a1,a2,a3]) S =
  (zF (ZM Try.prog 33 (dem x5) S) (fun v1 S1 => zF (jX Try.prog BinOp.gtr 3 v1 (Value.int IntKind.i64 0) S1) (fun v2 S2 => gdK (dem v2) false (ret x7) S2 (fun v4 S3 => gdK (dem v2) false ((zQ Try.prog O) 70 [(dem (dem v4))]) S3 (fun v5 S4 => gdK (dem v2) false (aUn Try.prog UnOp.not v5) S4 (fun v6 S5 => zF (wP (dem v2) (Value.bool true) v6 S5) (fun v7 S6 => some ([x0,x1,x2,x3,x4,x5,x6,x7,x8,x9,a,d,f,g,i,k,l,m,n,o,p,q,r,s,t,u,w,x,y,z,A,B,C,b,c,D,E,F,G,H,I,J,K,L,M,N,P,Q,R,U,dem x5,v1,v2,dem v2,dem v4,v5,v6,v7,a3], S6)) ()) ()) ()) ()) ()) ()) := by
 refine sP Try.f65 13 0 (v := x5) ?_
 refine sD Try.f65 13 1 (fun v1 S1 => ?_)
 refine sD Try.f65 13 2 (fun v2 S2 => ?_)
 refine sP Try.f65 13 3 (v := v2) ?_
 refine sG Try.f65 13 4 (j := 3) (fun v4 S3 => ?_)
 refine sG Try.f65 13 5 (j := 3) (fun v5 S4 => ?_)
 refine sG Try.f65 13 6 (j := 3) (fun v6 S5 => ?_)
 refine sD Try.f65 13 7 (fun v7 S6 => ?_)
 kernel_rfl
theorem zH.r14  : jv Try.prog ⟨false, false, false⟩ (zQ Try.prog O) (reg Try.f65 14) (reg Try.f65 14).toList ([x0,x1,x2,x3,x4,x5,x6,x7,x8,x9,a,d,f,g,i,k,l,m,n,o,p,q,r,s,t,u,w,x,y,z,A,B,C,b,c,D,E,F,G,H,I,J,K,L,M,N,P,Q,R,U,V,W,X,Y,Z,a0,a1,a2,a3]) S =
  ( some ([x0,x1,Value.slice none 0 0,Value.int IntKind.i64 61,x4,x5,x6,x7,x8,x9,a,d,f,g,i,k,l,m,n,o,p,q,r,s,t,u,w,x,y,z,A,B,C,b,c,D,E,F,G,H,I,J,K,L,M,N,P,Q,R,U,V,W,X,Y,Z,a0,a1,a2,a3], S)) := by
 kernel_rfl
theorem zH.r15  : jv Try.prog ⟨false, false, false⟩ (zQ Try.prog O) (reg Try.f65 15) (reg Try.f65 15).toList ([x0,x1,x2,x3,x4,x5,x6,x7,x8,x9,a,d,f,g,i,k,l,m,n,o,p,q,r,s,t,u,w,x,y,z,A,B,C,b,c,D,E,F,G,H,I,J,K,L,M,N,P,Q,R,U,V,W,X,Y,Z,a0,a1,a2,a3]) S =
  ( some ([x0,x1,x7,Value.int IntKind.i64 0,x4,x5,x6,dem x7,x8,x9,a,d,f,g,i,k,l,m,n,o,p,q,r,s,t,u,w,x,y,z,A,B,C,b,c,D,E,F,G,H,I,J,K,L,M,N,P,Q,R,U,V,W,X,Y,Z,a0,a1,a2,dem x7], S)) := by
 kernel_rfl
theorem zH.rs : type_of% (And.intro @zH.r0 (And.intro @zH.r1 (And.intro @zH.r2 (And.intro @zH.r3 (And.intro @zH.r4 (And.intro @zH.r5 (And.intro @zH.r6 (And.intro @zH.r7 (And.intro @zH.r8 (And.intro @zH.r9 (And.intro @zH.r10 (And.intro @zH.r11 (And.intro @zH.r12 (And.intro @zH.r13 (And.intro @zH.r14 (@zH.r15)))))))))))))))) := And.intro @zH.r0 (And.intro @zH.r1 (And.intro @zH.r2 (And.intro @zH.r3 (And.intro @zH.r4 (And.intro @zH.r5 (And.intro @zH.r6 (And.intro @zH.r7 (And.intro @zH.r8 (And.intro @zH.r9 (And.intro @zH.r10 (And.intro @zH.r11 (And.intro @zH.r12 (And.intro @zH.r13 (And.intro @zH.r14 (@zH.r15)))))))))))))))
theorem zH.runs {x0 : Value} {S S1 : zi} {e : AEx} {T : List Value} (h : zA Try.prog O false zH.code ([x0,undef,undef,undef,undef,undef,undef,undef,undef,undef,undef,undef,undef,undef,undef,undef,undef,undef,undef,undef,undef,undef,undef,undef,undef,undef,undef,undef,undef,undef,undef,undef,undef,undef,undef,undef,undef,undef,undef,undef,undef,undef,undef,undef,undef,undef,undef,undef,undef,undef,undef,undef,undef,undef,undef,undef,undef,undef,undef]) zi.empty = some (e, T, S1)) (he : e = .normal ∨ e = .ret)  (h0 : jY (T.getD 2 undef) = true) (h1 : jY (T.getD 3 undef) = true) (hca : [x0].all (jH 16) = true) (hcv : jH 16 (Value.tuple #[T.getD 2 undef, T.getD 3 undef]) = true) : zQ Try.prog O 65 [x0] S = some (Value.tuple #[T.getD 2 undef, T.getD 3 undef], S) :=
 wZ rfl rfl Try.func65 (by decide) zH.body (by exact h) he ((ql ((show zG Try.prog T S1 Try.f65.results.toList = zG Try.prog T S1 [(ResultVar.tmp 2), (ResultVar.tmp 3)] from by kernel_rfl).trans (by simp only [zG])) (by kernel_rfl) (by simp only [List.all_cons, List.all_nil, h0, h1, Bool.and_true])).trans rfl) hca hcv
end Go.Proofs.Ytfjogganfjkckaa
namespace Go.Proofs.Ytfjogganfjkckaa
open Go.Abs
abbrev zx.id : FuncId := 33
noncomputable def zx.jP : Code := (Code.seq (Code.region 4 (reg Try.f33 4) false) (Code.seq (Code.cond (Operand.tmp 14) Code.skip (Code.exit 0)) (Code.seq (Code.block 1 (Code.seq (Code.region 5 (reg Try.f33 5) false) (Code.seq (Code.region 6 (reg Try.f33 6) true) (Code.cond (Operand.tmp 24) (Code.seq (Code.region 7 (reg Try.f33 7) false) Code.ret) Code.skip)))) (Code.region 8 (reg Try.f33 8) false))))
noncomputable def zx.code : Code := (Code.seq (Code.region 0 (reg Try.f33 0) false) (Code.seq (Code.seq (Code.region 1 (reg Try.f33 1) false) (Code.cond (Operand.tmp 10) (Code.seq (Code.region 2 (reg Try.f33 2) false) Code.ret) Code.skip)) (Code.seq (Code.seq (Code.region 3 (reg Try.f33 3) false) (Code.block 0 (Code.loop zx.jP))) (Code.seq (Code.region 9 (reg Try.f33 9) false) Code.ret))))
theorem zx.body : Try.f33.body = some zx.code := by kernel_rfl
theorem zx.eta {T : List Value} (h : T.length = 26) : T = [T.getD 0 undef,T.getD 1 undef,T.getD 2 undef,T.getD 3 undef,T.getD 4 undef,T.getD 5 undef,T.getD 6 undef,T.getD 7 undef,T.getD 8 undef,T.getD 9 undef,T.getD 10 undef,T.getD 11 undef,T.getD 12 undef,T.getD 13 undef,T.getD 14 undef,T.getD 15 undef,T.getD 16 undef,T.getD 17 undef,T.getD 18 undef,T.getD 19 undef,T.getD 20 undef,T.getD 21 undef,T.getD 22 undef,T.getD 23 undef,T.getD 24 undef,T.getD 25 undef] := (qG T 26 h).trans (by kernel_rfl)
variable (d u x y D w z A B C f g c b i j k l m n o p q r s t : Value) (S : zi)
theorem zx.r0  : jv Try.prog ⟨false, false, false⟩ (zQ Try.prog O) (reg Try.f33 0) (reg Try.f33 0).toList ([d,u,x,y,D,w,z,A,B,C,f,g,c,b,i,j,k,l,m,n,o,p,q,r,s,t]) S =
  ( some ([d,u,x,y,Value.bool false,w,z,A,B,C,f,g,c,b,i,j,k,l,m,n,o,p,q,r,s,t], S)) := by
 kernel_rfl
theorem zx.r1  : jv Try.prog ⟨false, false, false⟩ (zQ Try.prog O) (reg Try.f33 1) (reg Try.f33 1).toList ([d,u,x,y,D,w,z,A,B,C,f,g,c,b,i,j,k,l,m,n,o,p,q,r,s,t]) S =
  (zF (ZM Try.prog 44 (dem d) S) (fun G E => zF (ZM Try.prog 44 (dem u) E) (fun F H => zF (jX Try.prog BinOp.neq 3 G F H) (fun R I => some ([d,u,x,y,D,w,dem d,G,dem u,F,R,g,c,b,i,j,k,l,m,n,o,p,q,r,s,t], I)) ()) ()) ()) := by
 kernel_rfl
theorem zx.r2  : jv Try.prog ⟨false, false, false⟩ (zQ Try.prog O) (reg Try.f33 2) (reg Try.f33 2).toList ([d,u,x,y,D,w,z,A,B,C,f,g,c,b,i,j,k,l,m,n,o,p,q,r,s,t]) S =
  ( some ([d,u,x,y,Value.bool false,w,z,A,B,C,f,g,c,b,i,j,k,l,m,n,o,p,q,r,s,t], S)) := by
 kernel_rfl
theorem zx.r3  : jv Try.prog ⟨false, false, false⟩ (zQ Try.prog O) (reg Try.f33 3) (reg Try.f33 3).toList ([d,u,x,y,D,w,z,A,B,C,f,g,c,b,i,j,k,l,m,n,o,p,q,r,s,t]) S =
  (zF (ZM Try.prog 44 (dem d) S) (fun G E => some ([d,u,x,y,D,w,z,A,B,C,f,dem d,G,Value.int IntKind.i64 0,i,j,k,l,m,n,o,p,q,r,s,t], E)) ()) := by
 kernel_rfl
theorem zx.r4  : jv Try.prog ⟨false, false, false⟩ (zQ Try.prog O) (reg Try.f33 4) (reg Try.f33 4).toList ([d,u,x,y,D,w,z,A,B,C,f,g,c,b,i,j,k,l,m,n,o,p,q,r,s,t]) S =
  (zF (jX Try.prog BinOp.lss 3 b c S) (fun J E => some ([d,u,x,y,D,w,z,A,B,C,f,g,c,b,J,j,k,l,m,n,o,p,q,r,s,t], E)) ()) := by
 kernel_rfl
theorem zx.r5  : jv Try.prog ⟨false, false, false⟩ (zQ Try.prog O) (reg Try.f33 5) (reg Try.f33 5).toList ([d,u,x,y,D,w,z,A,B,C,f,g,c,b,i,j,k,l,m,n,o,p,q,r,s,t]) S =
  ( some ([d,u,x,y,D,b,z,A,B,C,f,g,c,dem b,i,dem b,k,l,m,n,o,p,q,r,s,t], S)) := by
 kernel_rfl
theorem zx.d6 : kD Try.prog (reg Try.f33 6) = true := by kernel_rfl
theorem zx.ff6 : fixed Try.prog (reg Try.f33 6) = false := by kernel_rfl
theorem zx.k6 : checked Try.prog (reg Try.f33 6) = [] := by kernel_rfl
theorem zx.g6 : again Try.prog (reg Try.f33 6) = [] := by kernel_rfl
theorem zx.r6  : zA Try.prog O false (.region 6 (reg Try.f33 6) true) ([d,u,x,y,D,w,z,A,B,C,f,g,c,b,i,j,k,l,m,n,o,p,q,r,s,t]) S =
  JE (zF (jB Try.prog 44 (dem d) (dem w) S) (fun K E => zF (zZ Try.prog false 43 K E) (fun F H => zF (jB Try.prog 44 (dem u) (dem w) H) (fun L I => zF (zZ Try.prog false 43 L I) (fun M N => zF (jX Try.prog BinOp.neq 43 F M N) (fun P Q => some ([d,u,x,y,D,w,z,A,B,C,f,g,c,b,i,j,dem d,dem w,K,F,dem u,dem w,L,M,P,t], Q)) ()) ()) ()) ()) ()) := by
 rw [yQ zx.d6 zx.ff6 zx.k6 zx.g6]
 refine congrArg JE ?_
 refine tP Try.f33 6 0 (v := d) ?_
 refine tP Try.f33 6 1 (v := w) ?_
 refine tD Try.f33 6 2 (fun K E => ?_)
 refine tD Try.f33 6 3 (fun F H => ?_)
 refine tP Try.f33 6 4 (v := u) ?_
 refine tP Try.f33 6 5 (v := w) ?_
 refine tD Try.f33 6 6 (fun L I => ?_)
 refine tD Try.f33 6 7 (fun M N => ?_)
 refine tD Try.f33 6 8 (fun P Q => ?_)
 kernel_rfl
theorem zx.r7  : jv Try.prog ⟨false, false, false⟩ (zQ Try.prog O) (reg Try.f33 7) (reg Try.f33 7).toList ([d,u,x,y,D,w,z,A,B,C,f,g,c,b,i,j,k,l,m,n,o,p,q,r,s,t]) S =
  ( some ([d,u,x,y,Value.bool false,w,z,A,B,C,f,g,c,b,i,j,k,l,m,n,o,p,q,r,s,t], S)) := by
 kernel_rfl
theorem zx.r8  : jv Try.prog ⟨false, false, false⟩ (zQ Try.prog O) (reg Try.f33 8) (reg Try.f33 8).toList ([d,u,x,y,D,w,z,A,B,C,f,g,c,b,i,j,k,l,m,n,o,p,q,r,s,t]) S =
  (zF (jX Try.prog BinOp.add 3 b (Value.int IntKind.i64 1) S) (fun J E => some ([d,u,x,y,D,w,z,A,B,C,f,g,c,dem J,i,j,k,l,m,n,o,p,q,r,s,J], E)) ()) := by
 kernel_rfl
theorem zx.r9  : jv Try.prog ⟨false, false, false⟩ (zQ Try.prog O) (reg Try.f33 9) (reg Try.f33 9).toList ([d,u,x,y,D,w,z,A,B,C,f,g,c,b,i,j,k,l,m,n,o,p,q,r,s,t]) S =
  ( some ([d,u,x,y,Value.bool true,w,z,A,B,C,f,g,c,b,i,j,k,l,m,n,o,p,q,r,s,t], S)) := by
 kernel_rfl
theorem zx.rs : type_of% (And.intro @zx.r0 (And.intro @zx.r1 (And.intro @zx.r2 (And.intro @zx.r3 (And.intro @zx.r4 (And.intro @zx.r5 (And.intro @zx.r6 (And.intro @zx.r7 (And.intro @zx.r8 (@zx.r9)))))))))) := And.intro @zx.r0 (And.intro @zx.r1 (And.intro @zx.r2 (And.intro @zx.r3 (And.intro @zx.r4 (And.intro @zx.r5 (And.intro @zx.r6 (And.intro @zx.r7 (And.intro @zx.r8 (@zx.r9)))))))))
theorem zx.runs {d u : Value} {S E : zi} {e : AEx} {T : List Value} (h : zA Try.prog O false zx.code ([d,u,undef,undef,undef,undef,undef,undef,undef,undef,undef,undef,undef,undef,undef,undef,undef,undef,undef,undef,undef,undef,undef,undef,undef,undef]) S = some (e, T, E)) (he : e = .normal ∨ e = .ret) : zQ Try.prog O 33 [d, u] S = some (T.getD 4 undef, E) :=
 yB rfl rfl Try.func33 (by decide) zx.body (by exact h) he (wV (a := T.getD 4 undef) ((show zG Try.prog T E Try.f33.results.toList = zG Try.prog T E [(ResultVar.tmp 4)] from by kernel_rfl).trans (by simp only [zG])) (by kernel_rfl))
end Go.Proofs.Ytfjogganfjkckaa
namespace Go.Proofs.Ytfjogganfjkckaa
open Go.Abs
abbrev slices_Equal.id : FuncId := 75
noncomputable def slices_Equal.jP : Code := (Code.seq (Code.region 4 (reg Try.f75 4) false) (Code.seq (Code.cond (Operand.tmp 14) Code.skip (Code.exit 0)) (Code.seq (Code.block 1 (Code.seq (Code.region 5 (reg Try.f75 5) false) (Code.seq (Code.region 6 (reg Try.f75 6) true) (Code.cond (Operand.tmp 24) (Code.seq (Code.region 7 (reg Try.f75 7) false) Code.ret) Code.skip)))) (Code.region 8 (reg Try.f75 8) false))))
noncomputable def slices_Equal.code : Code := (Code.seq (Code.region 0 (reg Try.f75 0) false) (Code.seq (Code.seq (Code.region 1 (reg Try.f75 1) false) (Code.cond (Operand.tmp 10) (Code.seq (Code.region 2 (reg Try.f75 2) false) Code.ret) Code.skip)) (Code.seq (Code.seq (Code.region 3 (reg Try.f75 3) false) (Code.block 0 (Code.loop slices_Equal.jP))) (Code.seq (Code.region 9 (reg Try.f75 9) false) Code.ret))))
theorem slices_Equal.body : Try.f75.body = some slices_Equal.code := by kernel_rfl
theorem slices_Equal.eta {T : List Value} (h : T.length = 26) : T = [T.getD 0 undef,T.getD 1 undef,T.getD 2 undef,T.getD 3 undef,T.getD 4 undef,T.getD 5 undef,T.getD 6 undef,T.getD 7 undef,T.getD 8 undef,T.getD 9 undef,T.getD 10 undef,T.getD 11 undef,T.getD 12 undef,T.getD 13 undef,T.getD 14 undef,T.getD 15 undef,T.getD 16 undef,T.getD 17 undef,T.getD 18 undef,T.getD 19 undef,T.getD 20 undef,T.getD 21 undef,T.getD 22 undef,T.getD 23 undef,T.getD 24 undef,T.getD 25 undef] := (qG T 26 h).trans (by kernel_rfl)
variable (d u x y D w z A B C f g c b i j k l m n o p q r s t : Value) (S : zi)
theorem slices_Equal.r0  : jv Try.prog ⟨false, false, false⟩ (zQ Try.prog O) (reg Try.f75 0) (reg Try.f75 0).toList ([d,u,x,y,D,w,z,A,B,C,f,g,c,b,i,j,k,l,m,n,o,p,q,r,s,t]) S =
  ( some ([d,u,x,y,Value.bool false,w,z,A,B,C,f,g,c,b,i,j,k,l,m,n,o,p,q,r,s,t], S)) := by
 kernel_rfl
theorem slices_Equal.r1  : jv Try.prog ⟨false, false, false⟩ (zQ Try.prog O) (reg Try.f75 1) (reg Try.f75 1).toList ([d,u,x,y,D,w,z,A,B,C,f,g,c,b,i,j,k,l,m,n,o,p,q,r,s,t]) S =
  (zF (ZM Try.prog 44 (dem d) S) (fun G E => zF (ZM Try.prog 44 (dem u) E) (fun F H => zF (jX Try.prog BinOp.neq 3 G F H) (fun R I => some ([d,u,x,y,D,w,dem d,G,dem u,F,R,g,c,b,i,j,k,l,m,n,o,p,q,r,s,t], I)) ()) ()) ()) := by
 kernel_rfl
theorem slices_Equal.r2  : jv Try.prog ⟨false, false, false⟩ (zQ Try.prog O) (reg Try.f75 2) (reg Try.f75 2).toList ([d,u,x,y,D,w,z,A,B,C,f,g,c,b,i,j,k,l,m,n,o,p,q,r,s,t]) S =
  ( some ([d,u,x,y,Value.bool false,w,z,A,B,C,f,g,c,b,i,j,k,l,m,n,o,p,q,r,s,t], S)) := by
 kernel_rfl
theorem slices_Equal.r3  : jv Try.prog ⟨false, false, false⟩ (zQ Try.prog O) (reg Try.f75 3) (reg Try.f75 3).toList ([d,u,x,y,D,w,z,A,B,C,f,g,c,b,i,j,k,l,m,n,o,p,q,r,s,t]) S =
  (zF (ZM Try.prog 44 (dem d) S) (fun G E => some ([d,u,x,y,D,w,z,A,B,C,f,dem d,G,Value.int IntKind.i64 0,i,j,k,l,m,n,o,p,q,r,s,t], E)) ()) := by
 kernel_rfl
theorem slices_Equal.r4  : jv Try.prog ⟨false, false, false⟩ (zQ Try.prog O) (reg Try.f75 4) (reg Try.f75 4).toList ([d,u,x,y,D,w,z,A,B,C,f,g,c,b,i,j,k,l,m,n,o,p,q,r,s,t]) S =
  (zF (jX Try.prog BinOp.lss 3 b c S) (fun J E => some ([d,u,x,y,D,w,z,A,B,C,f,g,c,b,J,j,k,l,m,n,o,p,q,r,s,t], E)) ()) := by
 kernel_rfl
theorem slices_Equal.r5  : jv Try.prog ⟨false, false, false⟩ (zQ Try.prog O) (reg Try.f75 5) (reg Try.f75 5).toList ([d,u,x,y,D,w,z,A,B,C,f,g,c,b,i,j,k,l,m,n,o,p,q,r,s,t]) S =
  ( some ([d,u,x,y,D,b,z,A,B,C,f,g,c,dem b,i,dem b,k,l,m,n,o,p,q,r,s,t], S)) := by
 kernel_rfl
theorem slices_Equal.d6 : kD Try.prog (reg Try.f75 6) = true := by kernel_rfl
theorem slices_Equal.ff6 : fixed Try.prog (reg Try.f75 6) = false := by kernel_rfl
theorem slices_Equal.k6 : checked Try.prog (reg Try.f75 6) = [] := by kernel_rfl
theorem slices_Equal.g6 : again Try.prog (reg Try.f75 6) = [] := by kernel_rfl
theorem slices_Equal.r6  : zA Try.prog O false (.region 6 (reg Try.f75 6) true) ([d,u,x,y,D,w,z,A,B,C,f,g,c,b,i,j,k,l,m,n,o,p,q,r,s,t]) S =
  JE (zF (jB Try.prog 44 (dem d) (dem w) S) (fun K E => zF (zZ Try.prog false 43 K E) (fun F H => zF (jB Try.prog 44 (dem u) (dem w) H) (fun L I => zF (zZ Try.prog false 43 L I) (fun M N => zF (jX Try.prog BinOp.neq 43 F M N) (fun P Q => some ([d,u,x,y,D,w,z,A,B,C,f,g,c,b,i,j,dem d,dem w,K,F,dem u,dem w,L,M,P,t], Q)) ()) ()) ()) ()) ()) := by
 rw [yQ slices_Equal.d6 slices_Equal.ff6 slices_Equal.k6 slices_Equal.g6]
 refine congrArg JE ?_
 refine tP Try.f75 6 0 (v := d) ?_
 refine tP Try.f75 6 1 (v := w) ?_
 refine tD Try.f75 6 2 (fun K E => ?_)
 refine tD Try.f75 6 3 (fun F H => ?_)
 refine tP Try.f75 6 4 (v := u) ?_
 refine tP Try.f75 6 5 (v := w) ?_
 refine tD Try.f75 6 6 (fun L I => ?_)
 refine tD Try.f75 6 7 (fun M N => ?_)
 refine tD Try.f75 6 8 (fun P Q => ?_)
 kernel_rfl
theorem slices_Equal.r7  : jv Try.prog ⟨false, false, false⟩ (zQ Try.prog O) (reg Try.f75 7) (reg Try.f75 7).toList ([d,u,x,y,D,w,z,A,B,C,f,g,c,b,i,j,k,l,m,n,o,p,q,r,s,t]) S =
  ( some ([d,u,x,y,Value.bool false,w,z,A,B,C,f,g,c,b,i,j,k,l,m,n,o,p,q,r,s,t], S)) := by
 kernel_rfl
theorem slices_Equal.r8  : jv Try.prog ⟨false, false, false⟩ (zQ Try.prog O) (reg Try.f75 8) (reg Try.f75 8).toList ([d,u,x,y,D,w,z,A,B,C,f,g,c,b,i,j,k,l,m,n,o,p,q,r,s,t]) S =
  (zF (jX Try.prog BinOp.add 3 b (Value.int IntKind.i64 1) S) (fun J E => some ([d,u,x,y,D,w,z,A,B,C,f,g,c,dem J,i,j,k,l,m,n,o,p,q,r,s,J], E)) ()) := by
 kernel_rfl
theorem slices_Equal.r9  : jv Try.prog ⟨false, false, false⟩ (zQ Try.prog O) (reg Try.f75 9) (reg Try.f75 9).toList ([d,u,x,y,D,w,z,A,B,C,f,g,c,b,i,j,k,l,m,n,o,p,q,r,s,t]) S =
  ( some ([d,u,x,y,Value.bool true,w,z,A,B,C,f,g,c,b,i,j,k,l,m,n,o,p,q,r,s,t], S)) := by
 kernel_rfl
theorem slices_Equal.rs : type_of% (And.intro @slices_Equal.r0 (And.intro @slices_Equal.r1 (And.intro @slices_Equal.r2 (And.intro @slices_Equal.r3 (And.intro @slices_Equal.r4 (And.intro @slices_Equal.r5 (And.intro @slices_Equal.r6 (And.intro @slices_Equal.r7 (And.intro @slices_Equal.r8 (@slices_Equal.r9)))))))))) := And.intro @slices_Equal.r0 (And.intro @slices_Equal.r1 (And.intro @slices_Equal.r2 (And.intro @slices_Equal.r3 (And.intro @slices_Equal.r4 (And.intro @slices_Equal.r5 (And.intro @slices_Equal.r6 (And.intro @slices_Equal.r7 (And.intro @slices_Equal.r8 (@slices_Equal.r9)))))))))
theorem slices_Equal.runs {d u : Value} {S E : zi} {e : AEx} {T : List Value} (h : zA Try.prog O false slices_Equal.code ([d,u,undef,undef,undef,undef,undef,undef,undef,undef,undef,undef,undef,undef,undef,undef,undef,undef,undef,undef,undef,undef,undef,undef,undef,undef]) S = some (e, T, E)) (he : e = .normal ∨ e = .ret) : zQ Try.prog O 75 [d, u] S = some (T.getD 4 undef, E) :=
 yB rfl rfl Try.func75 (by decide) slices_Equal.body (by exact h) he (wV (a := T.getD 4 undef) ((show zG Try.prog T E Try.f75.results.toList = zG Try.prog T E [(ResultVar.tmp 4)] from by kernel_rfl).trans (by simp only [zG])) (by kernel_rfl))
end Go.Proofs.Ytfjogganfjkckaa
namespace Go.Proofs.Ytfjogganfjkckaa
open Go.Abs
abbrev jr.id : FuncId := 70
noncomputable def jr.jP : Code := (Code.seq (Code.region 3 (reg Try.f70 3) false) (Code.seq (Code.cond (Operand.tmp 10) Code.skip (Code.exit 0)) (Code.seq (Code.block 1 (Code.seq (Code.region 4 (reg Try.f70 4) false) (Code.seq (Code.seq (Code.region 5 (reg Try.f70 5) false) (Code.cond (Operand.tmp 16) (Code.seq (Code.region 6 (reg Try.f70 6) false) Code.ret) Code.skip)) (Code.region 7 (reg Try.f70 7) false)))) (Code.region 8 (reg Try.f70 8) false))))
noncomputable def jr.code : Code := (Code.seq (Code.region 0 (reg Try.f70 0) false) (Code.seq (Code.region 1 (reg Try.f70 1) false) (Code.seq (Code.seq (Code.region 2 (reg Try.f70 2) false) (Code.block 0 (Code.loop jr.jP))) (Code.seq (Code.region 9 (reg Try.f70 9) false) Code.ret))))
theorem jr.body : Try.f70.body = some jr.code := by kernel_rfl
theorem jr.eta {T : List Value} (h : T.length = 24) : T = [T.getD 0 undef,T.getD 1 undef,T.getD 2 undef,T.getD 3 undef,T.getD 4 undef,T.getD 5 undef,T.getD 6 undef,T.getD 7 undef,T.getD 8 undef,T.getD 9 undef,T.getD 10 undef,T.getD 11 undef,T.getD 12 undef,T.getD 13 undef,T.getD 14 undef,T.getD 15 undef,T.getD 16 undef,T.getD 17 undef,T.getD 18 undef,T.getD 19 undef,T.getD 20 undef,T.getD 21 undef,T.getD 22 undef,T.getD 23 undef] := (qG T 24 h).trans (by kernel_rfl)
variable (r v B s w t z x y u b c d f g i j k l m n o p q : Value) (S : zi)
theorem jr.r0  : jv Try.prog ⟨false, false, false⟩ (zQ Try.prog O) (reg Try.f70 0) (reg Try.f70 0).toList ([r,v,B,s,w,t,z,x,y,u,b,c,d,f,g,i,j,k,l,m,n,o,p,q]) S =
  ( some ([r,v,Value.bool false,s,w,t,z,x,y,u,b,c,d,f,g,i,j,k,l,m,n,o,p,q], S)) := by
 kernel_rfl
theorem jr.r1  : jv Try.prog ⟨false, false, false⟩ (zQ Try.prog O) (reg Try.f70 1) (reg Try.f70 1).toList ([r,v,B,s,w,t,z,x,y,u,b,c,d,f,g,i,j,k,l,m,n,o,p,q]) S =
  (zF (xY Try.prog 126 none S) (fun E A => some ([r,v,B,E,w,t,dem E,x,y,u,b,c,d,f,g,i,j,k,l,m,n,o,p,q], A)) ()) := by
 kernel_rfl
theorem jr.r2  : jv Try.prog ⟨false, false, false⟩ (zQ Try.prog O) (reg Try.f70 2) (reg Try.f70 2).toList ([r,v,B,s,w,t,z,x,y,u,b,c,d,f,g,i,j,k,l,m,n,o,p,q]) S =
  (zF (ZM Try.prog 44 (dem r) S) (fun C A => some ([r,v,B,s,w,t,z,dem r,C,Value.int IntKind.i64 0,b,c,d,f,g,i,j,k,l,m,n,o,p,q], A)) ()) := by
 kernel_rfl
theorem jr.r3  : jv Try.prog ⟨false, false, false⟩ (zQ Try.prog O) (reg Try.f70 3) (reg Try.f70 3).toList ([r,v,B,s,w,t,z,x,y,u,b,c,d,f,g,i,j,k,l,m,n,o,p,q]) S =
  (zF (jX Try.prog BinOp.lss 3 u y S) (fun E A => some ([r,v,B,s,w,t,z,x,y,u,E,c,d,f,g,i,j,k,l,m,n,o,p,q], A)) ()) := by
 kernel_rfl
theorem jr.r4  : jv Try.prog ⟨false, false, false⟩ (zQ Try.prog O) (reg Try.f70 4) (reg Try.f70 4).toList ([r,v,B,s,w,t,z,x,y,u,b,c,d,f,g,i,j,k,l,m,n,o,p,q]) S =
  (zF (jB Try.prog 44 x u S) (fun E A => zF (zZ Try.prog false 43 E A) (fun C F => zF (yJ Try.prog 43 F) (fun D G => zF (wU Try.prog 43 D (dem C) G) (fun H I => some ([r,v,B,s,w,D,z,x,y,u,b,E,C,f,g,i,j,k,l,m,n,o,p,q], I)) ()) ()) ()) ()) := by
 kernel_rfl
theorem jr.r5  : jv Try.prog ⟨false, false, false⟩ (zQ Try.prog O) (reg Try.f70 5) (reg Try.f70 5).toList ([r,v,B,s,w,t,z,x,y,u,b,c,d,f,g,i,j,k,l,m,n,o,p,q]) S =
  (zF (zo Try.prog 43 t 0 S) (fun C A => zF (zZ Try.prog false 3 C A) (fun D F => zF (xJ Try.prog false 126 (dem s) D false F) (fun H G => some ([r,v,B,s,w,t,z,x,y,u,b,c,d,dem s,C,D,H,k,l,m,n,o,p,q], G)) ()) ()) ()) := by
 kernel_rfl
theorem jr.r6  : jv Try.prog ⟨false, false, false⟩ (zQ Try.prog O) (reg Try.f70 6) (reg Try.f70 6).toList ([r,v,B,s,w,t,z,x,y,u,b,c,d,f,g,i,j,k,l,m,n,o,p,q]) S =
  ( some ([r,v,Value.bool false,s,w,t,z,x,y,u,b,c,d,f,g,i,j,k,l,m,n,o,p,q], S)) := by
 kernel_rfl
theorem jr.r7  : jv Try.prog ⟨false, false, false⟩ (zQ Try.prog O) (reg Try.f70 7) (reg Try.f70 7).toList ([r,v,B,s,w,t,z,x,y,u,b,c,d,f,g,i,j,k,l,m,n,o,p,q]) S =
  (zF (zo Try.prog 43 t 0 S) (fun C A => zF (zZ Try.prog false 3 C A) (fun D F => zF (yL Try.prog 126 (dem s) D (Value.bool true) F) (fun H G => some ([r,v,B,s,w,t,z,x,y,u,b,c,d,f,g,i,j,dem s,C,D,n,o,p,q], G)) ()) ()) ()) := by
 kernel_rfl
theorem jr.r8  : jv Try.prog ⟨false, false, false⟩ (zQ Try.prog O) (reg Try.f70 8) (reg Try.f70 8).toList ([r,v,B,s,w,t,z,x,y,u,b,c,d,f,g,i,j,k,l,m,n,o,p,q]) S =
  (zF (jX Try.prog BinOp.add 3 u (Value.int IntKind.i64 1) S) (fun E A => some ([r,v,B,s,w,t,z,x,y,dem E,b,c,d,f,g,i,j,k,l,m,E,o,p,q], A)) ()) := by
 kernel_rfl
theorem jr.r9  : jv Try.prog ⟨false, false, false⟩ (zQ Try.prog O) (reg Try.f70 9) (reg Try.f70 9).toList ([r,v,B,s,w,t,z,x,y,u,b,c,d,f,g,i,j,k,l,m,n,o,p,q]) S =
  (zF (ZM Try.prog 44 (dem r) S) (fun C A => zF (jX Try.prog BinOp.leq 3 C (Value.int IntKind.i64 3) A) (fun D F => some ([r,v,D,s,w,t,z,x,y,u,b,c,d,f,g,i,j,k,l,m,n,dem r,C,dem D], F)) ()) ()) := by
 kernel_rfl
theorem jr.rs : type_of% (And.intro @jr.r0 (And.intro @jr.r1 (And.intro @jr.r2 (And.intro @jr.r3 (And.intro @jr.r4 (And.intro @jr.r5 (And.intro @jr.r6 (And.intro @jr.r7 (And.intro @jr.r8 (@jr.r9)))))))))) := And.intro @jr.r0 (And.intro @jr.r1 (And.intro @jr.r2 (And.intro @jr.r3 (And.intro @jr.r4 (And.intro @jr.r5 (And.intro @jr.r6 (And.intro @jr.r7 (And.intro @jr.r8 (@jr.r9)))))))))
theorem jr.runs {r : Value} {S A : zi} {e : AEx} {T : List Value} (h : zA Try.prog O false jr.code ([r,undef,undef,undef,undef,undef,undef,undef,undef,undef,undef,undef,undef,undef,undef,undef,undef,undef,undef,undef,undef,undef,undef,undef]) zi.empty = some (e, T, A)) (he : e = .normal ∨ e = .ret) (hca : [r].all (jH 16) = true) (hcv : jH 16 (T.getD 2 undef) = true) : zQ Try.prog O 70 [r] S = some (T.getD 2 undef, S) :=
 wZ rfl rfl Try.func70 (by decide) jr.body (by exact h) he (wV (a := T.getD 2 undef) ((show zG Try.prog T A Try.f70.results.toList = zG Try.prog T A [(ResultVar.tmp 2)] from by kernel_rfl).trans (by simp only [zG])) (by kernel_rfl)) hca hcv
end Go.Proofs.Ytfjogganfjkckaa
namespace Go.Proofs.Ytfjogganfjkckaa
open Go.Abs
abbrev jK.id : FuncId := 62
noncomputable def jK.jP : Code := (Code.seq (Code.region 5 (reg Try.f62 5) false) (Code.seq (Code.cond (Operand.tmp 23) Code.skip (Code.exit 0)) (Code.seq (Code.block 1 (Code.seq (Code.region 6 (reg Try.f62 6) false) (Code.seq (Code.region 7 (reg Try.f62 7) false) (Code.seq (Code.seq (Code.region 8 (reg Try.f62 8) false) (Code.cond (Operand.tmp 32) (Code.seq (Code.region 9 (reg Try.f62 9) false) Code.ret) Code.skip)) (Code.region 10 (reg Try.f62 10) false))))) (Code.region 11 (reg Try.f62 11) false))))
noncomputable def jK.code : Code := (Code.seq (Code.region 0 (reg Try.f62 0) false) (Code.seq (Code.seq (Code.region 1 (reg Try.f62 1) false) (Code.cond (Operand.tmp 12) (Code.seq (Code.region 2 (reg Try.f62 2) false) Code.ret) Code.skip)) (Code.seq (Code.region 3 (reg Try.f62 3) false) (Code.seq (Code.seq (Code.region 4 (reg Try.f62 4) false) (Code.block 0 (Code.loop jK.jP))) (Code.seq (Code.region 12 (reg Try.f62 12) false) Code.ret)))))
theorem jK.body : Try.f62.body = some jK.code := by kernel_rfl
theorem jK.eta {T : List Value} (h : T.length = 39) : T = [T.getD 0 undef,T.getD 1 undef,T.getD 2 undef,T.getD 3 undef,T.getD 4 undef,T.getD 5 undef,T.getD 6 undef,T.getD 7 undef,T.getD 8 undef,T.getD 9 undef,T.getD 10 undef,T.getD 11 undef,T.getD 12 undef,T.getD 13 undef,T.getD 14 undef,T.getD 15 undef,T.getD 16 undef,T.getD 17 undef,T.getD 18 undef,T.getD 19 undef,T.getD 20 undef,T.getD 21 undef,T.getD 22 undef,T.getD 23 undef,T.getD 24 undef,T.getD 25 undef,T.getD 26 undef,T.getD 27 undef,T.getD 28 undef,T.getD 29 undef,T.getD 30 undef,T.getD 31 undef,T.getD 32 undef,T.getD 33 undef,T.getD 34 undef,T.getD 35 undef,T.getD 36 undef,T.getD 37 undef,T.getD 38 undef] := (qG T 39 h).trans (by kernel_rfl)
variable (F J N P H M K L I G d f g i j k l m n o b c a p q r s t u v w x y z A B C D E : Value) (S : zi)
theorem jK.r0  : jv Try.prog ⟨false, false, false⟩ (zQ Try.prog O) (reg Try.f62 0) (reg Try.f62 0).toList ([F,J,N,P,H,M,K,L,I,G,d,f,g,i,j,k,l,m,n,o,b,c,a,p,q,r,s,t,u,v,w,x,y,z,A,B,C,D,E]) S =
  ( some ([F,J,Value.slice none 0 0,Value.int IntKind.i64 0,H,M,K,L,I,G,d,f,g,i,j,k,l,m,n,o,b,c,a,p,q,r,s,t,u,v,w,x,y,z,A,B,C,D,E], S)) := by
 kernel_rfl
theorem jK.r1  : jv Try.prog ⟨false, false, false⟩ (zQ Try.prog O) (reg Try.f62 1) (reg Try.f62 1).toList ([F,J,N,P,H,M,K,L,I,G,d,f,g,i,j,k,l,m,n,o,b,c,a,p,q,r,s,t,u,v,w,x,y,z,A,B,C,D,E]) S =
  (zF ((zQ Try.prog O) 70 [(dem (dem F))] S) (fun R Q => zF (aUn Try.prog UnOp.not R Q) (fun U X => some ([F,J,N,P,H,M,K,L,I,G,dem F,R,U,i,j,k,l,m,n,o,b,c,a,p,q,r,s,t,u,v,w,x,y,z,A,B,C,D,E], X)) ()) ()) := by
 kernel_rfl
theorem jK.r2  : jv Try.prog ⟨false, false, false⟩ (zQ Try.prog O) (reg Try.f62 2) (reg Try.f62 2).toList ([F,J,N,P,H,M,K,L,I,G,d,f,g,i,j,k,l,m,n,o,b,c,a,p,q,r,s,t,u,v,w,x,y,z,A,B,C,D,E]) S =
  ( some ([F,J,Value.slice none 0 0,Value.int IntKind.i64 61,H,M,K,L,I,G,d,f,g,i,j,k,l,m,n,o,b,c,a,p,q,r,s,t,u,v,w,x,y,z,A,B,C,D,E], S)) := by
 kernel_rfl
theorem jK.r3  : jv Try.prog ⟨false, false, false⟩ (zQ Try.prog O) (reg Try.f62 3) (reg Try.f62 3).toList ([F,J,N,P,H,M,K,L,I,G,d,f,g,i,j,k,l,m,n,o,b,c,a,p,q,r,s,t,u,v,w,x,y,z,A,B,C,D,E]) S =
  (zF (ZM Try.prog 44 (dem F) S) (fun R Q => zF (jR Try.prog 24 1 [(0, R)] Q) (fun U X => zF ((zQ Try.prog O) 63 [(dem U)] X) (fun W Y => zF (zS W 0 Y) (fun v5 Z => zF (zS (zV 0 W) 1 Z) (fun v6 S5 => some ([F,J,N,P,v5,v6,K,L,I,G,d,f,g,zV 1 (zV 0 W),dem F,R,U,dem W,dem v5,dem v6,b,c,a,p,q,r,s,t,u,v,w,x,y,z,A,B,C,D,E], S5)) ()) ()) ()) ()) ()) := by
 kernel_rfl
theorem jK.r4  : jv Try.prog ⟨false, false, false⟩ (zQ Try.prog O) (reg Try.f62 4) (reg Try.f62 4).toList ([F,J,N,P,H,M,K,L,I,G,d,f,g,i,j,k,l,m,n,o,b,c,a,p,q,r,s,t,u,v,w,x,y,z,A,B,C,D,E]) S =
  (zF (ZM Try.prog 44 (dem F) S) (fun R Q => some ([F,J,N,P,H,M,K,L,I,G,d,f,g,i,j,k,l,m,n,o,dem F,R,Value.int IntKind.i64 0,p,q,r,s,t,u,v,w,x,y,z,A,B,C,D,E], Q)) ()) := by
 kernel_rfl
theorem jK.r5  : jv Try.prog ⟨false, false, false⟩ (zQ Try.prog O) (reg Try.f62 5) (reg Try.f62 5).toList ([F,J,N,P,H,M,K,L,I,G,d,f,g,i,j,k,l,m,n,o,b,c,a,p,q,r,s,t,u,v,w,x,y,z,A,B,C,D,E]) S =
  (zF (jX Try.prog BinOp.lss 3 a c S) (fun V Q => some ([F,J,N,P,H,M,K,L,I,G,d,f,g,i,j,k,l,m,n,o,b,c,a,V,q,r,s,t,u,v,w,x,y,z,A,B,C,D,E], Q)) ()) := by
 kernel_rfl
theorem jK.r6  : jv Try.prog ⟨false, false, false⟩ (zQ Try.prog O) (reg Try.f62 6) (reg Try.f62 6).toList ([F,J,N,P,H,M,K,L,I,G,d,f,g,i,j,k,l,m,n,o,b,c,a,p,q,r,s,t,u,v,w,x,y,z,A,B,C,D,E]) S =
  (zF (jB Try.prog 44 b a S) (fun V Q => zF (zZ Try.prog false 43 V Q) (fun R X => zF (yJ Try.prog 43 X) (fun U Y => zF (wU Try.prog 43 U (dem R) Y) (fun W Z => some ([F,J,N,P,H,M,K,U,I,G,d,f,g,i,j,k,l,m,n,o,b,c,a,p,V,R,s,t,u,v,w,x,y,z,A,B,C,D,E], Z)) ()) ()) ()) ()) := by
 kernel_rfl
theorem jK.r7  : jv Try.prog ⟨false, false, false⟩ (zQ Try.prog O) (reg Try.f62 7) (reg Try.f62 7).toList ([F,J,N,P,H,M,K,L,I,G,d,f,g,i,j,k,l,m,n,o,b,c,a,p,q,r,s,t,u,v,w,x,y,z,A,B,C,D,E]) S =
  (zF (zZ Try.prog false 43 L S) (fun V Q => zF ((zQ Try.prog O) 71 [(dem V)] Q) (fun R X => zF (zS R 0 X) (fun W Y => zF (zS (zV 0 R) 1 Y) (fun v4 Z => some ([F,J,N,P,H,M,K,L,W,v4,d,f,g,i,j,k,l,m,n,o,b,c,a,p,q,r,zV 1 (zV 0 R),V,dem R,dem W,dem v4,x,y,z,A,B,C,D,E], Z)) ()) ()) ()) ()) := by
 kernel_rfl
theorem jK.r8  : jv Try.prog ⟨false, false, false⟩ (zQ Try.prog O) (reg Try.f62 8) (reg Try.f62 8).toList ([F,J,N,P,H,M,K,L,I,G,d,f,g,i,j,k,l,m,n,o,b,c,a,p,q,r,s,t,u,v,w,x,y,z,A,B,C,D,E]) S =
  (zF (jX Try.prog BinOp.neq 64 (dem G) (Value.int IntKind.i64 0) S) (fun R Q => some ([F,J,N,P,H,M,K,L,I,G,d,f,g,i,j,k,l,m,n,o,b,c,a,p,q,r,s,t,u,v,w,dem G,R,z,A,B,C,D,E], Q)) ()) := by
 kernel_rfl
theorem jK.r9  : jv Try.prog ⟨false, false, false⟩ (zQ Try.prog O) (reg Try.f62 9) (reg Try.f62 9).toList ([F,J,N,P,H,M,K,L,I,G,d,f,g,i,j,k,l,m,n,o,b,c,a,p,q,r,s,t,u,v,w,x,y,z,A,B,C,D,E]) S =
  ( some ([F,J,Value.slice none 0 0,G,H,M,K,L,I,dem G,d,f,g,i,j,k,l,m,n,o,b,c,a,p,q,r,s,t,u,v,w,x,y,dem G,A,B,C,D,E], S)) := by
 kernel_rfl
theorem jK.r10  : jv Try.prog ⟨false, false, false⟩ (zQ Try.prog O) (reg Try.f62 10) (reg Try.f62 10).toList ([F,J,N,P,H,M,K,L,I,G,d,f,g,i,j,k,l,m,n,o,b,c,a,p,q,r,s,t,u,v,w,x,y,z,A,B,C,D,E]) S =
  (zF (yj Try.prog 33 33 H (dem I) S) (fun U Q => some ([F,J,N,P,U,M,K,L,I,G,d,f,g,i,j,k,l,m,n,o,b,c,a,p,q,r,s,t,u,v,w,x,y,z,dem H,dem I,dem U,D,E], Q)) ()) := by
 kernel_rfl
theorem jK.r11  : jv Try.prog ⟨false, false, false⟩ (zQ Try.prog O) (reg Try.f62 11) (reg Try.f62 11).toList ([F,J,N,P,H,M,K,L,I,G,d,f,g,i,j,k,l,m,n,o,b,c,a,p,q,r,s,t,u,v,w,x,y,z,A,B,C,D,E]) S =
  (zF (jX Try.prog BinOp.add 3 a (Value.int IntKind.i64 1) S) (fun V Q => some ([F,J,N,P,H,M,K,L,I,G,d,f,g,i,j,k,l,m,n,o,b,c,dem V,p,q,r,s,t,u,v,w,x,y,z,A,B,C,V,E], Q)) ()) := by
 kernel_rfl
theorem jK.r12  : jv Try.prog ⟨false, false, false⟩ (zQ Try.prog O) (reg Try.f62 12) (reg Try.f62 12).toList ([F,J,N,P,H,M,K,L,I,G,d,f,g,i,j,k,l,m,n,o,b,c,a,p,q,r,s,t,u,v,w,x,y,z,A,B,C,D,E]) S =
  ( some ([F,J,H,Value.int IntKind.i64 0,dem H,M,K,L,I,G,d,f,g,i,j,k,l,m,n,o,b,c,a,p,q,r,s,t,u,v,w,x,y,z,A,B,C,D,dem H], S)) := by
 kernel_rfl
theorem jK.rs : type_of% (And.intro @jK.r0 (And.intro @jK.r1 (And.intro @jK.r2 (And.intro @jK.r3 (And.intro @jK.r4 (And.intro @jK.r5 (And.intro @jK.r6 (And.intro @jK.r7 (And.intro @jK.r8 (And.intro @jK.r9 (And.intro @jK.r10 (And.intro @jK.r11 (@jK.r12))))))))))))) := And.intro @jK.r0 (And.intro @jK.r1 (And.intro @jK.r2 (And.intro @jK.r3 (And.intro @jK.r4 (And.intro @jK.r5 (And.intro @jK.r6 (And.intro @jK.r7 (And.intro @jK.r8 (And.intro @jK.r9 (And.intro @jK.r10 (And.intro @jK.r11 (@jK.r12))))))))))))
theorem jK.runs {F : Value} {S Q : zi} {e : AEx} {T : List Value} (h : zA Try.prog O false jK.code ([F,undef,undef,undef,undef,undef,undef,undef,undef,undef,undef,undef,undef,undef,undef,undef,undef,undef,undef,undef,undef,undef,undef,undef,undef,undef,undef,undef,undef,undef,undef,undef,undef,undef,undef,undef,undef,undef,undef]) zi.empty = some (e, T, Q)) (he : e = .normal ∨ e = .ret)  (h0 : jY (T.getD 2 undef) = true) (h1 : jY (T.getD 3 undef) = true) (hca : [F].all (jH 16) = true) (hcv : jH 16 (Value.tuple #[T.getD 2 undef, T.getD 3 undef]) = true) : zQ Try.prog O 62 [F] S = some (Value.tuple #[T.getD 2 undef, T.getD 3 undef], S) :=
 wZ rfl rfl Try.func62 (by decide) jK.body (by exact h) he ((ql ((show zG Try.prog T Q Try.f62.results.toList = zG Try.prog T Q [(ResultVar.tmp 2), (ResultVar.tmp 3)] from by kernel_rfl).trans (by simp only [zG])) (by kernel_rfl) (by simp only [List.all_cons, List.all_nil, h0, h1, Bool.and_true])).trans rfl) hca hcv
end Go.Proofs.Ytfjogganfjkckaa
namespace Go.Proofs.Ytfjogganfjkckaa
open Go.Abs
abbrev zn.id : FuncId := 50
noncomputable def zn.jP : Code := (Code.seq (Code.region 10 (reg Try.f50 10) false) (Code.seq (Code.cond (Operand.tmp 30) Code.skip (Code.exit 2)) (Code.seq (Code.block 3 (Code.seq (Code.region 11 (reg Try.f50 11) false) (Code.seq (Code.region 12 (reg Try.f50 12) false) (Code.cond (Operand.tmp 37) (Code.seq (Code.region 13 (reg Try.f50 13) false) Code.ret) Code.skip)))) (Code.region 14 (reg Try.f50 14) false))))
noncomputable def zn.ZY : Code := (Code.seq (Code.region 5 (reg Try.f50 5) false) (Code.seq (Code.cond (Operand.tmp 18) Code.skip (Code.exit 0)) (Code.seq (Code.block 1 (Code.seq (Code.region 6 (reg Try.f50 6) false) (Code.seq (Code.seq (Code.region 7 (reg Try.f50 7) false) (Code.cond (Operand.tmp 24) (Code.seq (Code.region 8 (reg Try.f50 8) false) Code.ret) Code.skip)) (Code.seq (Code.seq (Code.region 9 (reg Try.f50 9) false) (Code.block 2 (Code.loop zn.jP))) (Code.region 15 (reg Try.f50 15) false))))) (Code.region 16 (reg Try.f50 16) false))))
noncomputable def zn.code : Code := (Code.seq (Code.region 0 (reg Try.f50 0) false) (Code.seq (Code.seq (Code.region 1 (reg Try.f50 1) false) (Code.cond (Operand.tmp 11) (Code.seq (Code.region 2 (reg Try.f50 2) false) Code.ret) Code.skip)) (Code.seq (Code.region 3 (reg Try.f50 3) false) (Code.seq (Code.seq (Code.region 4 (reg Try.f50 4) false) (Code.block 0 (Code.loop zn.ZY))) (Code.seq (Code.region 17 (reg Try.f50 17) false) Code.ret)))))
theorem zn.body : Try.f50.body = some zn.code := by kernel_rfl
theorem zn.eta {T : List Value} (h : T.length = 51) : T = [T.getD 0 undef,T.getD 1 undef,T.getD 2 undef,T.getD 3 undef,T.getD 4 undef,T.getD 5 undef,T.getD 6 undef,T.getD 7 undef,T.getD 8 undef,T.getD 9 undef,T.getD 10 undef,T.getD 11 undef,T.getD 12 undef,T.getD 13 undef,T.getD 14 undef,T.getD 15 undef,T.getD 16 undef,T.getD 17 undef,T.getD 18 undef,T.getD 19 undef,T.getD 20 undef,T.getD 21 undef,T.getD 22 undef,T.getD 23 undef,T.getD 24 undef,T.getD 25 undef,T.getD 26 undef,T.getD 27 undef,T.getD 28 undef,T.getD 29 undef,T.getD 30 undef,T.getD 31 undef,T.getD 32 undef,T.getD 33 undef,T.getD 34 undef,T.getD 35 undef,T.getD 36 undef,T.getD 37 undef,T.getD 38 undef,T.getD 39 undef,T.getD 40 undef,T.getD 41 undef,T.getD 42 undef,T.getD 43 undef,T.getD 44 undef,T.getD 45 undef,T.getD 46 undef,T.getD 47 undef,T.getD 48 undef,T.getD 49 undef,T.getD 50 undef] := (qG T 51 h).trans (by kernel_rfl)
variable (U Y x2 x3 W X V Z x8 x9 i j k l m c d a n o p q r s t u v f g b w x y z A B C D E F G H I J K L M N P Q R : Value) (S : zi)
theorem zn.r0  : jv Try.prog ⟨false, false, false⟩ (zQ Try.prog O) (reg Try.f50 0) (reg Try.f50 0).toList ([U,Y,x2,x3,W,X,V,Z,x8,x9,i,j,k,l,m,c,d,a,n,o,p,q,r,s,t,u,v,f,g,b,w,x,y,z,A,B,C,D,E,F,G,H,I,J,K,L,M,N,P,Q,R]) S =
  ( some ([U,Y,Value.slice none 0 0,Value.int IntKind.i64 0,W,X,V,Z,x8,x9,i,j,k,l,m,c,d,a,n,o,p,q,r,s,t,u,v,f,g,b,w,x,y,z,A,B,C,D,E,F,G,H,I,J,K,L,M,N,P,Q,R], S)) := by
 kernel_rfl
theorem zn.r1  : jv Try.prog ⟨false, false, false⟩ (zQ Try.prog O) (reg Try.f50 1) (reg Try.f50 1).toList ([U,Y,x2,x3,W,X,V,Z,x8,x9,i,j,k,l,m,c,d,a,n,o,p,q,r,s,t,u,v,f,g,b,w,x,y,z,A,B,C,D,E,F,G,H,I,J,K,L,M,N,P,Q,R]) S =
  (zF (ZM Try.prog 44 (dem U) S) (fun v1 S1 => zF (jX Try.prog BinOp.gtr 3 v1 (Value.int IntKind.i64 3) S1) (fun v2 S2 => some ([U,Y,x2,x3,W,X,V,Z,x8,dem U,v1,v2,k,l,m,c,d,a,n,o,p,q,r,s,t,u,v,f,g,b,w,x,y,z,A,B,C,D,E,F,G,H,I,J,K,L,M,N,P,Q,R], S2)) ()) ()) := by
 kernel_rfl
theorem zn.r2  : jv Try.prog ⟨false, false, false⟩ (zQ Try.prog O) (reg Try.f50 2) (reg Try.f50 2).toList ([U,Y,x2,x3,W,X,V,Z,x8,x9,i,j,k,l,m,c,d,a,n,o,p,q,r,s,t,u,v,f,g,b,w,x,y,z,A,B,C,D,E,F,G,H,I,J,K,L,M,N,P,Q,R]) S =
  ( some ([U,Y,Value.slice none 0 0,Value.int IntKind.i64 61,W,X,V,Z,x8,x9,i,j,k,l,m,c,d,a,n,o,p,q,r,s,t,u,v,f,g,b,w,x,y,z,A,B,C,D,E,F,G,H,I,J,K,L,M,N,P,Q,R], S)) := by
 kernel_rfl
theorem zn.r3  : jv Try.prog ⟨false, false, false⟩ (zQ Try.prog O) (reg Try.f50 3) (reg Try.f50 3).toList ([U,Y,x2,x3,W,X,V,Z,x8,x9,i,j,k,l,m,c,d,a,n,o,p,q,r,s,t,u,v,f,g,b,w,x,y,z,A,B,C,D,E,F,G,H,I,J,K,L,M,N,P,Q,R]) S =
  (zF (ZM Try.prog 44 (dem U) S) (fun v1 S1 => zF (jR Try.prog 24 1 [(0, v1)] S1) (fun v2 S2 => some ([U,Y,x2,x3,v2,X,V,Z,x8,x9,i,j,dem U,v1,dem v2,c,d,a,n,o,p,q,r,s,t,u,v,f,g,b,w,x,y,z,A,B,C,D,E,F,G,H,I,J,K,L,M,N,P,Q,R], S2)) ()) ()) := by
 kernel_rfl
theorem zn.r4  : jv Try.prog ⟨false, false, false⟩ (zQ Try.prog O) (reg Try.f50 4) (reg Try.f50 4).toList ([U,Y,x2,x3,W,X,V,Z,x8,x9,i,j,k,l,m,c,d,a,n,o,p,q,r,s,t,u,v,f,g,b,w,x,y,z,A,B,C,D,E,F,G,H,I,J,K,L,M,N,P,Q,R]) S =
  (zF (ZM Try.prog 44 (dem U) S) (fun v1 S1 => some ([U,Y,x2,x3,W,X,V,Z,x8,x9,i,j,k,l,m,dem U,v1,Value.int IntKind.i64 0,n,o,p,q,r,s,t,u,v,f,g,b,w,x,y,z,A,B,C,D,E,F,G,H,I,J,K,L,M,N,P,Q,R], S1)) ()) := by
 kernel_rfl
theorem zn.r5  : jv Try.prog ⟨false, false, false⟩ (zQ Try.prog O) (reg Try.f50 5) (reg Try.f50 5).toList ([U,Y,x2,x3,W,X,V,Z,x8,x9,i,j,k,l,m,c,d,a,n,o,p,q,r,s,t,u,v,f,g,b,w,x,y,z,A,B,C,D,E,F,G,H,I,J,K,L,M,N,P,Q,R]) S =
  (zF (jX Try.prog BinOp.lss 3 a d S) (fun v0 S1 => some ([U,Y,x2,x3,W,X,V,Z,x8,x9,i,j,k,l,m,c,d,a,v0,o,p,q,r,s,t,u,v,f,g,b,w,x,y,z,A,B,C,D,E,F,G,H,I,J,K,L,M,N,P,Q,R], S1)) ()) := by
 kernel_rfl
theorem zn.r6  : jv Try.prog ⟨false, false, false⟩ (zQ Try.prog O) (reg Try.f50 6) (reg Try.f50 6).toList ([U,Y,x2,x3,W,X,V,Z,x8,x9,i,j,k,l,m,c,d,a,n,o,p,q,r,s,t,u,v,f,g,b,w,x,y,z,A,B,C,D,E,F,G,H,I,J,K,L,M,N,P,Q,R]) S =
  (zF (jB Try.prog 44 c (dem a) S) (fun v1 S1 => zF (zZ Try.prog false 43 v1 S1) (fun v2 S2 => zF (yJ Try.prog 43 S2) (fun v3 S3 => zF (wU Try.prog 43 v3 (dem v2) S3) (fun v5 S4 => some ([U,Y,x2,x3,W,a,v3,Z,x8,x9,i,j,k,l,m,c,d,dem a,n,dem a,v1,v2,r,s,t,u,v,f,g,b,w,x,y,z,A,B,C,D,E,F,G,H,I,J,K,L,M,N,P,Q,R], S4)) ()) ()) ()) ()) := by
 kernel_rfl
theorem zn.r7  : jv Try.prog ⟨false, false, false⟩ (zQ Try.prog O) (reg Try.f50 7) (reg Try.f50 7).toList ([U,Y,x2,x3,W,X,V,Z,x8,x9,i,j,k,l,m,c,d,a,n,o,p,q,r,s,t,u,v,f,g,b,w,x,y,z,A,B,C,D,E,F,G,H,I,J,K,L,M,N,P,Q,R]) S =
  (zF (zZ Try.prog false 43 V S) (fun v0 S1 => zF ((zQ Try.prog O) 48 [(dem v0)] S1) (fun v1 S2 => zF (aUn Try.prog UnOp.not v1 S2) (fun v2 S3 => some ([U,Y,x2,x3,W,X,V,Z,x8,x9,i,j,k,l,m,c,d,a,n,o,p,q,v0,v1,v2,u,v,f,g,b,w,x,y,z,A,B,C,D,E,F,G,H,I,J,K,L,M,N,P,Q,R], S3)) ()) ()) ()) := by
 kernel_rfl
theorem zn.r8  : jv Try.prog ⟨false, false, false⟩ (zQ Try.prog O) (reg Try.f50 8) (reg Try.f50 8).toList ([U,Y,x2,x3,W,X,V,Z,x8,x9,i,j,k,l,m,c,d,a,n,o,p,q,r,s,t,u,v,f,g,b,w,x,y,z,A,B,C,D,E,F,G,H,I,J,K,L,M,N,P,Q,R]) S =
  ( some ([U,Y,Value.slice none 0 0,Value.int IntKind.i64 61,W,X,V,Z,x8,x9,i,j,k,l,m,c,d,a,n,o,p,q,r,s,t,u,v,f,g,b,w,x,y,z,A,B,C,D,E,F,G,H,I,J,K,L,M,N,P,Q,R], S)) := by
 kernel_rfl
theorem zn.r9  : jv Try.prog ⟨false, false, false⟩ (zQ Try.prog O) (reg Try.f50 9) (reg Try.f50 9).toList ([U,Y,x2,x3,W,X,V,Z,x8,x9,i,j,k,l,m,c,d,a,n,o,p,q,r,s,t,u,v,f,g,b,w,x,y,z,A,B,C,D,E,F,G,H,I,J,K,L,M,N,P,Q,R]) S =
  (zF (Zm Try.prog false 44 (dem U) none (some (dem X)) S) (fun v2 S1 => zF (ZM Try.prog 44 v2 S1) (fun v3 S2 => some ([U,Y,x2,x3,W,X,V,Z,x8,x9,i,j,k,l,m,c,d,a,n,o,p,q,r,s,t,dem U,dem X,v2,v3,Value.int IntKind.i64 0,w,x,y,z,A,B,C,D,E,F,G,H,I,J,K,L,M,N,P,Q,R], S2)) ()) ()) := by
 kernel_rfl
theorem zn.r10  : jv Try.prog ⟨false, false, false⟩ (zQ Try.prog O) (reg Try.f50 10) (reg Try.f50 10).toList ([U,Y,x2,x3,W,X,V,Z,x8,x9,i,j,k,l,m,c,d,a,n,o,p,q,r,s,t,u,v,f,g,b,w,x,y,z,A,B,C,D,E,F,G,H,I,J,K,L,M,N,P,Q,R]) S =
  (zF (jX Try.prog BinOp.lss 3 b g S) (fun v0 S1 => some ([U,Y,x2,x3,W,X,V,Z,x8,x9,i,j,k,l,m,c,d,a,n,o,p,q,r,s,t,u,v,f,g,b,v0,x,y,z,A,B,C,D,E,F,G,H,I,J,K,L,M,N,P,Q,R], S1)) ()) := by
 kernel_rfl
theorem zn.r11  : jv Try.prog ⟨false, false, false⟩ (zQ Try.prog O) (reg Try.f50 11) (reg Try.f50 11).toList ([U,Y,x2,x3,W,X,V,Z,x8,x9,i,j,k,l,m,c,d,a,n,o,p,q,r,s,t,u,v,f,g,b,w,x,y,z,A,B,C,D,E,F,G,H,I,J,K,L,M,N,P,Q,R]) S =
  (zF (jB Try.prog 44 f b S) (fun v0 S1 => zF (zZ Try.prog false 43 v0 S1) (fun v1 S2 => zF (yJ Try.prog 43 S2) (fun v2 S3 => zF (wU Try.prog 43 v2 (dem v1) S3) (fun v3 S4 => some ([U,Y,x2,x3,W,X,V,Z,v2,x9,i,j,k,l,m,c,d,a,n,o,p,q,r,s,t,u,v,f,g,b,w,v0,v1,z,A,B,C,D,E,F,G,H,I,J,K,L,M,N,P,Q,R], S4)) ()) ()) ()) ()) := by
 kernel_rfl
theorem zn.r12  : jv Try.prog ⟨false, false, false⟩ (zQ Try.prog O) (reg Try.f50 12) (reg Try.f50 12).toList ([U,Y,x2,x3,W,X,V,Z,x8,x9,i,j,k,l,m,c,d,a,n,o,p,q,r,s,t,u,v,f,g,b,w,x,y,z,A,B,C,D,E,F,G,H,I,J,K,L,M,N,P,Q,R]) S =
  (zF (zo Try.prog 43 x8 0 S) (fun v0 S1 => zF (zZ Try.prog false 3 v0 S1) (fun v1 S2 => zF (zo Try.prog 43 V 0 S2) (fun v2 S3 => zF (zZ Try.prog false 3 v2 S3) (fun v3 S4 => zF (jX Try.prog BinOp.eql 3 v1 v3 S4) (fun v4 S5 => some ([U,Y,x2,x3,W,X,V,Z,x8,x9,i,j,k,l,m,c,d,a,n,o,p,q,r,s,t,u,v,f,g,b,w,x,y,v0,v1,v2,v3,v4,E,F,G,H,I,J,K,L,M,N,P,Q,R], S5)) ()) ()) ()) ()) ()) := by
 kernel_rfl
theorem zn.r13  : jv Try.prog ⟨false, false, false⟩ (zQ Try.prog O) (reg Try.f50 13) (reg Try.f50 13).toList ([U,Y,x2,x3,W,X,V,Z,x8,x9,i,j,k,l,m,c,d,a,n,o,p,q,r,s,t,u,v,f,g,b,w,x,y,z,A,B,C,D,E,F,G,H,I,J,K,L,M,N,P,Q,R]) S =
  ( some ([U,Y,Value.slice none 0 0,Value.int IntKind.i64 61,W,X,V,Z,x8,x9,i,j,k,l,m,c,d,a,n,o,p,q,r,s,t,u,v,f,g,b,w,x,y,z,A,B,C,D,E,F,G,H,I,J,K,L,M,N,P,Q,R], S)) := by
 kernel_rfl
theorem zn.r14  : jv Try.prog ⟨false, false, false⟩ (zQ Try.prog O) (reg Try.f50 14) (reg Try.f50 14).toList ([U,Y,x2,x3,W,X,V,Z,x8,x9,i,j,k,l,m,c,d,a,n,o,p,q,r,s,t,u,v,f,g,b,w,x,y,z,A,B,C,D,E,F,G,H,I,J,K,L,M,N,P,Q,R]) S =
  (zF (jX Try.prog BinOp.add 3 b (Value.int IntKind.i64 1) S) (fun v0 S1 => some ([U,Y,x2,x3,W,X,V,Z,x8,x9,i,j,k,l,m,c,d,a,n,o,p,q,r,s,t,u,v,f,g,dem v0,w,x,y,z,A,B,C,D,v0,F,G,H,I,J,K,L,M,N,P,Q,R], S1)) ()) := by
 kernel_rfl
theorem zn.r15  : jv Try.prog ⟨false, false, false⟩ (zQ Try.prog O) (reg Try.f50 15) (reg Try.f50 15).toList ([U,Y,x2,x3,W,X,V,Z,x8,x9,i,j,k,l,m,c,d,a,n,o,p,q,r,s,t,u,v,f,g,b,w,x,y,z,A,B,C,D,E,F,G,H,I,J,K,L,M,N,P,Q,R]) S =
  (zF (zo Try.prog 43 V 0 S) (fun v1 S1 => zF (zZ Try.prog false 3 v1 S1) (fun v2 S2 => zF (zo Try.prog 43 V 1 S2) (fun v3 S3 => zF (zZ Try.prog false 3 v3 S3) (fun v4 S4 => zF (jR Try.prog 24 2 [(0, v2), (1, v4)] S4) (fun v5 S5 => zF (yj Try.prog 24 24 W v5 S5) (fun v6 S6 => some ([U,Y,x2,x3,v6,X,V,Z,x8,x9,i,j,k,l,m,c,d,a,n,o,p,q,r,s,t,u,v,f,g,b,w,x,y,z,A,B,C,D,E,dem W,v1,v2,v3,v4,v5,dem v6,M,N,P,Q,R], S6)) ()) ()) ()) ()) ()) ()) := by
 kernel_rfl
theorem zn.r16  : jv Try.prog ⟨false, false, false⟩ (zQ Try.prog O) (reg Try.f50 16) (reg Try.f50 16).toList ([U,Y,x2,x3,W,X,V,Z,x8,x9,i,j,k,l,m,c,d,a,n,o,p,q,r,s,t,u,v,f,g,b,w,x,y,z,A,B,C,D,E,F,G,H,I,J,K,L,M,N,P,Q,R]) S =
  (zF (jX Try.prog BinOp.add 3 a (Value.int IntKind.i64 1) S) (fun v0 S1 => some ([U,Y,x2,x3,W,X,V,Z,x8,x9,i,j,k,l,m,c,d,dem v0,n,o,p,q,r,s,t,u,v,f,g,b,w,x,y,z,A,B,C,D,E,F,G,H,I,J,K,L,v0,N,P,Q,R], S1)) ()) := by
 kernel_rfl
theorem zn.r17  : jv Try.prog ⟨false, false, false⟩ (zQ Try.prog O) (reg Try.f50 17) (reg Try.f50 17).toList ([U,Y,x2,x3,W,X,V,Z,x8,x9,i,j,k,l,m,c,d,a,n,o,p,q,r,s,t,u,v,f,g,b,w,x,y,z,A,B,C,D,E,F,G,H,I,J,K,L,M,N,P,Q,R]) S =
  (zF ((zQ Try.prog O) 35 [(dem (dem W))] S) (fun v1 S1 => zF (zS v1 0 S1) (fun v2 S2 => zF (zS (zV 0 v1) 1 S2) (fun v3 S3 => some ([U,Y,v2,v3,W,X,V,Z,x8,x9,i,j,k,l,m,c,d,a,n,o,p,q,r,s,t,u,v,f,g,b,w,x,y,z,A,B,C,D,E,F,G,H,I,J,K,L,M,dem W,zV 1 (zV 0 v1),dem v2,dem v3], S3)) ()) ()) ()) := by
 kernel_rfl
theorem zn.rs : type_of% (And.intro @zn.r0 (And.intro @zn.r1 (And.intro @zn.r2 (And.intro @zn.r3 (And.intro @zn.r4 (And.intro @zn.r5 (And.intro @zn.r6 (And.intro @zn.r7 (And.intro @zn.r8 (And.intro @zn.r9 (And.intro @zn.r10 (And.intro @zn.r11 (And.intro @zn.r12 (And.intro @zn.r13 (And.intro @zn.r14 (And.intro @zn.r15 (And.intro @zn.r16 (@zn.r17)))))))))))))))))) := And.intro @zn.r0 (And.intro @zn.r1 (And.intro @zn.r2 (And.intro @zn.r3 (And.intro @zn.r4 (And.intro @zn.r5 (And.intro @zn.r6 (And.intro @zn.r7 (And.intro @zn.r8 (And.intro @zn.r9 (And.intro @zn.r10 (And.intro @zn.r11 (And.intro @zn.r12 (And.intro @zn.r13 (And.intro @zn.r14 (And.intro @zn.r15 (And.intro @zn.r16 (@zn.r17)))))))))))))))))
theorem zn.runs {U : Value} {S S1 : zi} {e : AEx} {T : List Value} (h : zA Try.prog O false zn.code ([U,undef,undef,undef,undef,undef,undef,undef,undef,undef,undef,undef,undef,undef,undef,undef,undef,undef,undef,undef,undef,undef,undef,undef,undef,undef,undef,undef,undef,undef,undef,undef,undef,undef,undef,undef,undef,undef,undef,undef,undef,undef,undef,undef,undef,undef,undef,undef,undef,undef,undef]) zi.empty = some (e, T, S1)) (he : e = .normal ∨ e = .ret)  (h0 : jY (T.getD 2 undef) = true) (h1 : jY (T.getD 3 undef) = true) (hca : [U].all (jH 16) = true) (hcv : jH 16 (Value.tuple #[T.getD 2 undef, T.getD 3 undef]) = true) : zQ Try.prog O 50 [U] S = some (Value.tuple #[T.getD 2 undef, T.getD 3 undef], S) :=
 wZ rfl rfl Try.func50 (by decide) zn.body (by exact h) he ((ql ((show zG Try.prog T S1 Try.f50.results.toList = zG Try.prog T S1 [(ResultVar.tmp 2), (ResultVar.tmp 3)] from by kernel_rfl).trans (by simp only [zG])) (by kernel_rfl) (by simp only [List.all_cons, List.all_nil, h0, h1, Bool.and_true])).trans rfl) hca hcv
end Go.Proofs.Ytfjogganfjkckaa
namespace Go.Proofs.Ytfjogganfjkckaa
open Go.Abs
abbrev yA.id : FuncId := 71
noncomputable def yA.code : Code := (Code.seq (Code.region 0 (reg Try.f71 0) false) (Code.seq (Code.seq (Code.region 1 (reg Try.f71 1) false) (Code.cond (Operand.tmp 8) (Code.seq (Code.region 2 (reg Try.f71 2) false) Code.ret) Code.skip)) (Code.seq (Code.region 3 (reg Try.f71 3) false) (Code.seq (Code.region 4 (reg Try.f71 4) false) Code.ret))))
theorem yA.body : Try.f71.body = some yA.code := by kernel_rfl
variable (a m u v n o p q r s b c d f g i j k l : Value) (S : zi)
theorem yA.r0  : jv Try.prog ⟨false, false, false⟩ (zQ Try.prog O) (reg Try.f71 0) (reg Try.f71 0).toList ([a,m,u,v,n,o,p,q,r,s,b,c,d,f,g,i,j,k,l]) S =
  (zF (Jo (dem a) S) (fun w t => some ([a,w,Value.slice none 0 0,Value.int IntKind.i64 0,n,o,p,q,r,s,b,c,d,f,g,i,j,k,l], t)) ()) := by
 kernel_rfl
theorem yA.r1  : jv Try.prog ⟨false, false, false⟩ (zQ Try.prog O) (reg Try.f71 1) (reg Try.f71 1).toList ([a,m,u,v,n,o,p,q,r,s,b,c,d,f,g,i,j,k,l]) S =
  (zF (zZ Try.prog false 43 m S) (fun w t => zF ((zQ Try.prog O) 68 [(dem w)] t) (fun x A => zF (aUn Try.prog UnOp.not x A) (fun y B => some ([a,m,u,v,n,o,w,x,y,s,b,c,d,f,g,i,j,k,l], B)) ()) ()) ()) := by
 kernel_rfl
theorem yA.r2  : jv Try.prog ⟨false, false, false⟩ (zQ Try.prog O) (reg Try.f71 2) (reg Try.f71 2).toList ([a,m,u,v,n,o,p,q,r,s,b,c,d,f,g,i,j,k,l]) S =
  ( some ([a,m,Value.slice none 0 0,Value.int IntKind.i64 61,n,o,p,q,r,s,b,c,d,f,g,i,j,k,l], S)) := by
 kernel_rfl
theorem yA.r3  : jv Try.prog ⟨false, false, false⟩ (zQ Try.prog O) (reg Try.f71 3) (reg Try.f71 3).toList ([a,m,u,v,n,o,p,q,r,s,b,c,d,f,g,i,j,k,l]) S =
  (zF (zo Try.prog 43 m 0 S) (fun w t => zF (zZ Try.prog false 3 w t) (fun x A => zF (zo Try.prog 43 m 1 A) (fun y B => zF (zZ Try.prog false 3 y B) (fun C G => zF (jR Try.prog 24 2 [(0, x), (1, C)] G) (fun D H => zF ((zQ Try.prog O) 63 [(dem D)] H) (fun z I => zF (zS z 0 I) (fun E J => zF (zS (zV 0 z) 1 J) (fun F K => some ([a,m,u,v,E,F,p,q,r,zV 1 (zV 0 z),w,x,y,C,D,dem z,dem E,dem F,l], K)) ()) ()) ()) ()) ()) ()) ()) ()) := by
 kernel_rfl
theorem yA.r4  : jv Try.prog ⟨false, false, false⟩ (zQ Try.prog O) (reg Try.f71 4) (reg Try.f71 4).toList ([a,m,u,v,n,o,p,q,r,s,b,c,d,f,g,i,j,k,l]) S =
  ( some ([a,m,n,Value.int IntKind.i64 0,dem n,o,p,q,r,s,b,c,d,f,g,i,j,k,dem n], S)) := by
 kernel_rfl
theorem yA.rs : type_of% (And.intro @yA.r0 (And.intro @yA.r1 (And.intro @yA.r2 (And.intro @yA.r3 (@yA.r4))))) := And.intro @yA.r0 (And.intro @yA.r1 (And.intro @yA.r2 (And.intro @yA.r3 (@yA.r4))))
theorem yA.runs {a : Value} {S t : zi} {e : AEx} {T : List Value} (h : zA Try.prog O false yA.code ([a,undef,undef,undef,undef,undef,undef,undef,undef,undef,undef,undef,undef,undef,undef,undef,undef,undef,undef]) zi.empty = some (e, T, t)) (he : e = .normal ∨ e = .ret)  (h0 : jY (T.getD 2 undef) = true) (h1 : jY (T.getD 3 undef) = true) (hca : [a].all (jH 16) = true) (hcv : jH 16 (Value.tuple #[T.getD 2 undef, T.getD 3 undef]) = true) : zQ Try.prog O 71 [a] S = some (Value.tuple #[T.getD 2 undef, T.getD 3 undef], S) :=
 wZ rfl rfl Try.func71 (by decide) yA.body (by exact h) he ((ql ((show zG Try.prog T t Try.f71.results.toList = zG Try.prog T t [(ResultVar.tmp 2), (ResultVar.tmp 3)] from by kernel_rfl).trans (by simp only [zG])) (by kernel_rfl) (by simp only [List.all_cons, List.all_nil, h0, h1, Bool.and_true])).trans rfl) hca hcv
end Go.Proofs.Ytfjogganfjkckaa
namespace Go.Proofs.Ytfjogganfjkckaa
open Go.Abs
abbrev jm.id : FuncId := 36
noncomputable def jm.code : Code := (Code.seq (Code.region 0 (reg Try.f36 0) false) (Code.seq (Code.seq (Code.region 1 (reg Try.f36 1) false) (Code.cond (Operand.tmp 6) (Code.seq (Code.region 2 (reg Try.f36 2) false) Code.ret) Code.skip)) (Code.seq (Code.region 3 (reg Try.f36 3) false) Code.ret)))
theorem jm.body : Try.f36.body = some jm.code := by kernel_rfl
variable (a i r s k l m n o p b c d f g : Value) (S : zi)
theorem jm.r0  : jv Try.prog ⟨false, false, false⟩ (zQ Try.prog O) (reg Try.f36 0) (reg Try.f36 0).toList ([a,i,r,s,k,l,m,n,o,p,b,c,d,f,g]) S =
  (zF (Jo (dem a) S) (fun q j => some ([a,q,Value.slice none 0 0,Value.int IntKind.i64 0,k,l,m,n,o,p,b,c,d,f,g], j)) ()) := by
 kernel_rfl
theorem jm.r1  : jv Try.prog ⟨false, false, false⟩ (zQ Try.prog O) (reg Try.f36 1) (reg Try.f36 1).toList ([a,i,r,s,k,l,m,n,o,p,b,c,d,f,g]) S =
  (zF (zZ Try.prog false 43 i S) (fun q j => zF ((zQ Try.prog O) 48 [(dem q)] j) (fun t v => zF (aUn Try.prog UnOp.not t v) (fun u w => some ([a,i,r,s,q,t,u,n,o,p,b,c,d,f,g], w)) ()) ()) ()) := by
 kernel_rfl
theorem jm.r2  : jv Try.prog ⟨false, false, false⟩ (zQ Try.prog O) (reg Try.f36 2) (reg Try.f36 2).toList ([a,i,r,s,k,l,m,n,o,p,b,c,d,f,g]) S =
  ( some ([a,i,Value.slice none 0 0,Value.int IntKind.i64 61,k,l,m,n,o,p,b,c,d,f,g], S)) := by
 kernel_rfl
theorem jm.r3  : jv Try.prog ⟨false, false, false⟩ (zQ Try.prog O) (reg Try.f36 3) (reg Try.f36 3).toList ([a,i,r,s,k,l,m,n,o,p,b,c,d,f,g]) S =
  (zF (zo Try.prog 43 i 0 S) (fun q j => zF (zZ Try.prog false 3 q j) (fun t v => zF (zo Try.prog 43 i 1 v) (fun u w => zF (zZ Try.prog false 3 u w) (fun y C => zF (jR Try.prog 24 2 [(0, t), (1, y)] C) (fun z D => zF ((zQ Try.prog O) 35 [(dem z)] D) (fun x E => zF (zS x 0 E) (fun A F => zF (zS (zV 0 x) 1 F) (fun B G => some ([a,i,A,B,k,l,m,q,t,u,y,z,zV 1 (zV 0 x),dem A,dem B], G)) ()) ()) ()) ()) ()) ()) ()) ()) := by
 kernel_rfl
theorem jm.rs : type_of% (And.intro @jm.r0 (And.intro @jm.r1 (And.intro @jm.r2 (@jm.r3)))) := And.intro @jm.r0 (And.intro @jm.r1 (And.intro @jm.r2 (@jm.r3)))
theorem jm.runs {a : Value} {S j : zi} {e : AEx} {T : List Value} (h : zA Try.prog O false jm.code ([a,undef,undef,undef,undef,undef,undef,undef,undef,undef,undef,undef,undef,undef,undef]) zi.empty = some (e, T, j)) (he : e = .normal ∨ e = .ret)  (h0 : jY (T.getD 2 undef) = true) (h1 : jY (T.getD 3 undef) = true) (hca : [a].all (jH 16) = true) (hcv : jH 16 (Value.tuple #[T.getD 2 undef, T.getD 3 undef]) = true) : zQ Try.prog O 36 [a] S = some (Value.tuple #[T.getD 2 undef, T.getD 3 undef], S) :=
 wZ rfl rfl Try.func36 (by decide) jm.body (by exact h) he ((ql ((show zG Try.prog T j Try.f36.results.toList = zG Try.prog T j [(ResultVar.tmp 2), (ResultVar.tmp 3)] from by kernel_rfl).trans (by simp only [zG])) (by kernel_rfl) (by simp only [List.all_cons, List.all_nil, h0, h1, Bool.and_true])).trans rfl) hca hcv
end Go.Proofs.Ytfjogganfjkckaa
namespace Go.Proofs.Ytfjogganfjkckaa
open Go.Abs
abbrev wK.id : FuncId := 64
noncomputable def wK.code : Code := (Code.seq (Code.region 0 (reg Try.f64 0) false) (Code.seq (Code.region 1 (reg Try.f64 1) false) (Code.seq (Code.seq (Code.region 2 (reg Try.f64 2) false) (Code.cond (Operand.tmp 16) (Code.seq (Code.region 3 (reg Try.f64 3) false) Code.ret) Code.skip)) (Code.seq (Code.region 4 (reg Try.f64 4) true) (Code.seq (Code.region 5 (reg Try.f64 5) true) Code.ret)))))
theorem wK.body : Try.f64.body = some wK.code := by kernel_rfl
variable (c E C H I b z D A F d f g i j k l m n o p q r s t u w x y : Value) (S : zi)
theorem wK.r0  : jv Try.prog ⟨false, false, false⟩ (zQ Try.prog O) (reg Try.f64 0) (reg Try.f64 0).toList ([c,E,C,H,I,b,z,D,A,F,d,f,g,i,j,k,l,m,n,o,p,q,r,s,t,u,w,x,y]) S =
  (zF (yJ Try.prog 43 S) (fun J a => some ([c,E,J,Value.slice none 0 0,Value.bool false,b,z,D,A,F,d,f,g,i,j,k,l,m,n,o,p,q,r,s,t,u,w,x,y], a)) ()) := by
 kernel_rfl
theorem wK.r1  : jv Try.prog ⟨false, false, false⟩ (zQ Try.prog O) (reg Try.f64 1) (reg Try.f64 1).toList ([c,E,C,H,I,b,z,D,A,F,d,f,g,i,j,k,l,m,n,o,p,q,r,s,t,u,w,x,y]) S =
  (zF ((zQ Try.prog O) 55 [(dem (dem c)), (Value.int IntKind.i64 2)] S) (fun B a => zF (zS B 0 a) (fun N K => zF (zS (zV 0 B) 1 K) (fun G L => zF (zS (zV 1 (zV 0 B)) 2 L) (fun P Q => some ([c,E,C,H,I,N,G,P,A,zV 2 (zV 1 (zV 0 B)),dem c,dem B,dem N,dem G,dem P,k,l,m,n,o,p,q,r,s,t,u,w,x,y], Q)) ()) ()) ()) ()) := by
 kernel_rfl
theorem wK.r2  : jv Try.prog ⟨false, false, false⟩ (zQ Try.prog O) (reg Try.f64 2) (reg Try.f64 2).toList ([c,E,C,H,I,b,z,D,A,F,d,f,g,i,j,k,l,m,n,o,p,q,r,s,t,u,w,x,y]) S =
  (zF (jX Try.prog BinOp.neq 64 (dem D) (Value.int IntKind.i64 0) S) (fun B a => some ([c,E,C,H,I,b,z,D,A,F,d,f,g,i,j,dem D,B,m,n,o,p,q,r,s,t,u,w,x,y], a)) ()) := by
 kernel_rfl
theorem wK.r3  : jv Try.prog ⟨false, false, false⟩ (zQ Try.prog O) (reg Try.f64 3) (reg Try.f64 3).toList ([c,E,C,H,I,b,z,D,A,F,d,f,g,i,j,k,l,m,n,o,p,q,r,s,t,u,w,x,y]) S =
  (zF (yu Try.prog 43 [] S) (fun J a => zF (wU Try.prog 43 C (dem J) a) (fun B K => some ([c,E,C,Value.slice none 0 0,Value.bool false,b,z,D,A,F,d,f,g,i,j,k,l,J,n,o,p,q,r,s,t,u,w,x,y], K)) ()) ()) := by
 kernel_rfl
theorem wK.d4 : kD Try.prog (reg Try.f64 4) = true := by kernel_rfl
theorem wK.ff4 : fixed Try.prog (reg Try.f64 4) = false := by kernel_rfl
theorem wK.k4 : checked Try.prog (reg Try.f64 4) = [0, 1, 2, 3, 4, 5, 6] := by kernel_rfl
theorem wK.g4 : again Try.prog (reg Try.f64 4) = [(2, 7), (5, 7)] := by kernel_rfl
theorem wK.r4  : zA Try.prog O false (.region 4 (reg Try.f64 4) true) ([c,E,C,H,I,b,z,D,A,F,d,f,g,i,j,k,l,m,n,o,p,q,r,s,t,u,w,x,y]) S =
  JE (okK b ( zF (jB Try.prog 24 (dem b) (Value.int IntKind.i64 0) S) (fun B a => okK B ( zF (zZ Try.prog false 3 B a) (fun M K => okK M ( okK b ( zF (jB Try.prog 24 (dem b) (Value.int IntKind.i64 1) K) (fun G L => okK G ( zF (zZ Try.prog false 3 G L) (fun P Q => okK P ( zF (yu Try.prog 43 [(0, (dem M)), (1, (dem P))] Q) (fun R W => okK R ( zF (yJ Try.prog 43 W) (fun V U => zF (wU Try.prog 43 V (dem R) U) (fun Y X => ckK (ku B a U && (ku G L U && (true))) (some ([c,E,C,H,I,b,z,D,V,F,d,f,g,i,j,k,l,m,dem b,B,M,dem b,G,P,R,u,w,x,y], X)) ()) ()) ()) ()) ()) ()) ()) ()) ()) ()) ()) ()) ()) ()) ()) := by
 rw [yQ wK.d4 wK.ff4 wK.k4 wK.g4]
 refine congrArg JE ?_
 refine uPC Try.f64 4 0 (v := b) (pe := undef) ?_
 refine uDC Try.f64 4 1 (pe := undef) (fun B a => ?_)
 refine uDC Try.f64 4 2 (pe := B) (fun M K => ?_)
 refine uPC Try.f64 4 3 (v := b) (pe := undef) ?_
 refine uDC Try.f64 4 4 (pe := undef) (fun G L => ?_)
 refine uDC Try.f64 4 5 (pe := G) (fun P Q => ?_)
 refine uDC Try.f64 4 6 (pe := undef) (fun R W => ?_)
 refine uD Try.f64 4 7 (pe := undef) (fun V U => ?_)
 refine uD Try.f64 4 8 (pe := undef) (fun Y X => ?_)
 kernel_rfl
theorem wK.d5 : kD Try.prog (reg Try.f64 5) = true := by kernel_rfl
theorem wK.ff5 : fixed Try.prog (reg Try.f64 5) = false := by kernel_rfl
theorem wK.k5 : checked Try.prog (reg Try.f64 5) = [0, 1, 1] := by kernel_rfl
theorem wK.g5 : again Try.prog (reg Try.f64 5) = [(0, 3)] := by kernel_rfl
theorem wK.r5  : zA Try.prog O false (.region 5 (reg Try.f64 5) true) ([c,E,C,H,I,b,z,D,A,F,d,f,g,i,j,k,l,m,n,o,p,q,r,s,t,u,w,x,y]) S =
  JE (zF (zZ Try.prog false 43 A S) (fun J a => okK J ( okK z ( zF (zZ Try.prog false 43 A a) (fun M K => zF ((zQ Try.prog O) 68 [(dem M)] K) (fun N L => zF (wU Try.prog 43 C (dem J) L) (fun G Q => ckK (ku A S L && (true)) (some ([c,E,C,z,N,b,dem z,D,A,F,d,f,g,i,j,k,l,m,n,o,p,q,r,s,t,J,dem z,M,dem N], Q)) ()) ()) ()) ()) ()) ()) ()) := by
 rw [yQ wK.d5 wK.ff5 wK.k5 wK.g5]
 refine congrArg JE ?_
 refine uDC Try.f64 5 0 (pe := A) (fun J a => ?_)
 refine uPC Try.f64 5 1 (v := z) (pe := undef) ?_
 refine uD Try.f64 5 2 (pe := A) (fun M K => ?_)
 refine uD Try.f64 5 3 (pe := undef) (fun N L => ?_)
 refine uD Try.f64 5 4 (pe := undef) (fun G Q => ?_)
 refine uP Try.f64 5 5 (v := z) (pe := undef) ?_
 refine uP Try.f64 5 6 (v := N) (pe := undef) ?_
 kernel_rfl
theorem wK.rs : type_of% (And.intro @wK.r0 (And.intro @wK.r1 (And.intro @wK.r2 (And.intro @wK.r3 (And.intro @wK.r4 (@wK.r5)))))) := And.intro @wK.r0 (And.intro @wK.r1 (And.intro @wK.r2 (And.intro @wK.r3 (And.intro @wK.r4 (@wK.r5)))))
theorem wK.runs {c : Value} {S a : zi} {e : AEx} {T : List Value} (h : zA Try.prog O false wK.code ([c,undef,undef,undef,undef,undef,undef,undef,undef,undef,undef,undef,undef,undef,undef,undef,undef,undef,undef,undef,undef,undef,undef,undef,undef,undef,undef,undef,undef]) zi.empty = some (e, T, a)) (he : e = .normal ∨ e = .ret) {w0 : Value} (c0 : zZ Try.prog false 43 (T.getD 2 undef) a = some (w0, a)) (h0 : jY (w0) = true) (h1 : jY (T.getD 3 undef) = true) (h2 : jY (T.getD 4 undef) = true) (hca : [c].all (jH 16) = true) (hcv : jH 16 (Value.tuple #[w0, T.getD 3 undef, T.getD 4 undef]) = true) : zQ Try.prog O 64 [c] S = some (Value.tuple #[w0, T.getD 3 undef, T.getD 4 undef], S) :=
 wZ rfl rfl Try.func64 (by decide) wK.body (by exact h) he ((ql ((show zG Try.prog T a Try.f64.results.toList = zG Try.prog T a [(ResultVar.cell 2 43), (ResultVar.tmp 3), (ResultVar.tmp 4)] from by kernel_rfl).trans (by simp only [zG, c0])) (by kernel_rfl) (by simp only [List.all_cons, List.all_nil, h0, h1, h2, Bool.and_true])).trans rfl) hca hcv
end Go.Proofs.Ytfjogganfjkckaa
namespace Go.Proofs.Ytfjogganfjkckaa
open Go.Abs
abbrev yD.id : FuncId := 56
noncomputable def yD.code : Code := (Code.seq (Code.region 0 (reg Try.f56 0) false) (Code.seq (Code.region 1 (reg Try.f56 1) false) (Code.seq (Code.seq (Code.region 2 (reg Try.f56 2) false) (Code.cond (Operand.tmp 19) (Code.seq (Code.region 3 (reg Try.f56 3) false) Code.ret) Code.skip)) (Code.seq (Code.region 4 (reg Try.f56 4) false) Code.ret))))
theorem yD.body : Try.f56.body = some yD.code := by kernel_rfl
variable (a u t C w x s y z A d f g i k l m n o p q r : Value) (S : zi)
theorem yD.r0  : jv Try.prog ⟨false, false, false⟩ (zQ Try.prog O) (reg Try.f56 0) (reg Try.f56 0).toList ([a,u,t,C,w,x,s,y,z,A,d,f,g,i,k,l,m,n,o,p,q,r]) S =
  (zF (yJ Try.prog 43 S) (fun D b => some ([a,u,D,Value.int IntKind.i64 0,w,x,s,y,z,A,d,f,g,i,k,l,m,n,o,p,q,r], b)) ()) := by
 kernel_rfl
theorem yD.r1  : jv Try.prog ⟨false, false, false⟩ (zQ Try.prog O) (reg Try.f56 1) (reg Try.f56 1).toList ([a,u,t,C,w,x,s,y,z,A,d,f,g,i,k,l,m,n,o,p,q,r]) S =
  (zF ((zQ Try.prog O) 64 [(dem (dem a))] S) (fun c b => zF (zS c 0 b) (fun E B => zF (zS (zV 0 c) 1 B) (fun F I => zF (zS (zV 1 (zV 0 c)) 2 I) (fun G J => zF (yJ Try.prog 43 J) (fun H K => zF (wU Try.prog 43 H (dem E) K) (fun M L => some ([a,u,t,C,H,F,G,zV 2 (zV 1 (zV 0 c)),dem a,dem c,E,dem F,dem G,i,k,l,m,n,o,p,q,r], L)) ()) ()) ()) ()) ()) ()) := by
 kernel_rfl
theorem yD.r2  : jv Try.prog ⟨false, false, false⟩ (zQ Try.prog O) (reg Try.f56 2) (reg Try.f56 2).toList ([a,u,t,C,w,x,s,y,z,A,d,f,g,i,k,l,m,n,o,p,q,r]) S =
  (zF (aUn Try.prog UnOp.not (dem s) S) (fun c b => gdK (dem c) false (ret x) b (fun E B => gdK (dem c) false (ZM Try.prog 33 (dem E)) B (fun F I => gdK (dem c) false (jX Try.prog BinOp.gtr 3 F (Value.int IntKind.i64 0)) I (fun G J => zF (wP (dem c) (Value.bool true) G J) (fun H K => some ([a,u,t,C,w,x,s,y,z,A,d,f,g,dem s,c,dem c,dem E,F,G,H,q,r], K)) ()) ()) ()) ()) ()) := by
 refine sP Try.f56 2 0 (v := s) ?_
 refine sD Try.f56 2 1 (fun c b => ?_)
 refine sP Try.f56 2 2 (v := c) ?_
 refine sG Try.f56 2 3 (j := 2) (fun E B => ?_)
 refine sG Try.f56 2 4 (j := 2) (fun F I => ?_)
 refine sG Try.f56 2 5 (j := 2) (fun G J => ?_)
 refine sD Try.f56 2 6 (fun H K => ?_)
 kernel_rfl
theorem yD.r3  : jv Try.prog ⟨false, false, false⟩ (zQ Try.prog O) (reg Try.f56 3) (reg Try.f56 3).toList ([a,u,t,C,w,x,s,y,z,A,d,f,g,i,k,l,m,n,o,p,q,r]) S =
  (zF (yu Try.prog 43 [] S) (fun D b => zF (wU Try.prog 43 t (dem D) b) (fun c B => some ([a,u,t,Value.int IntKind.i64 61,w,x,s,y,z,A,d,f,g,i,k,l,m,n,o,p,D,r], B)) ()) ()) := by
 kernel_rfl
theorem yD.r4  : jv Try.prog ⟨false, false, false⟩ (zQ Try.prog O) (reg Try.f56 4) (reg Try.f56 4).toList ([a,u,t,C,w,x,s,y,z,A,d,f,g,i,k,l,m,n,o,p,q,r]) S =
  (zF (zZ Try.prog false 43 w S) (fun D b => zF (wU Try.prog 43 t (dem D) b) (fun c B => some ([a,u,t,Value.int IntKind.i64 0,w,x,s,y,z,A,d,f,g,i,k,l,m,n,o,p,q,D], B)) ()) ()) := by
 kernel_rfl
theorem yD.rs : type_of% (And.intro @yD.r0 (And.intro @yD.r1 (And.intro @yD.r2 (And.intro @yD.r3 (@yD.r4))))) := And.intro @yD.r0 (And.intro @yD.r1 (And.intro @yD.r2 (And.intro @yD.r3 (@yD.r4))))
theorem yD.runs {a : Value} {S b : zi} {e : AEx} {T : List Value} (h : zA Try.prog O false yD.code ([a,undef,undef,undef,undef,undef,undef,undef,undef,undef,undef,undef,undef,undef,undef,undef,undef,undef,undef,undef,undef,undef]) zi.empty = some (e, T, b)) (he : e = .normal ∨ e = .ret) {w0 : Value} (c0 : zZ Try.prog false 43 (T.getD 2 undef) b = some (w0, b)) (h0 : jY (w0) = true) (h1 : jY (T.getD 3 undef) = true) (hca : [a].all (jH 16) = true) (hcv : jH 16 (Value.tuple #[w0, T.getD 3 undef]) = true) : zQ Try.prog O 56 [a] S = some (Value.tuple #[w0, T.getD 3 undef], S) :=
 wZ rfl rfl Try.func56 (by decide) yD.body (by exact h) he ((ql ((show zG Try.prog T b Try.f56.results.toList = zG Try.prog T b [(ResultVar.cell 2 43), (ResultVar.tmp 3)] from by kernel_rfl).trans (by simp only [zG, c0])) (by kernel_rfl) (by simp only [List.all_cons, List.all_nil, h0, h1, Bool.and_true])).trans rfl) hca hcv
end Go.Proofs.Ytfjogganfjkckaa
namespace Go.Proofs.Ytfjogganfjkckaa
open Go.Abs
abbrev yX.id : FuncId := 68
noncomputable def yX.code : Code := (Code.seq (Code.region 0 (reg Try.f68 0) false) (Code.seq (Code.region 1 (reg Try.f68 1) false) Code.ret))
theorem yX.body : Try.f68.body = some yX.code := by kernel_rfl
variable (c i Y J K L M N P Q l m n o p q r s t u w : Value) (S : zi)
theorem yX.r0  : jv Try.prog ⟨false, false, false⟩ (zQ Try.prog O) (reg Try.f68 0) (reg Try.f68 0).toList ([c,i,Y,J,K,L,M,N,P,Q,l,m,n,o,p,q,r,s,t,u,w]) S =
  (zF (Jo (dem c) S) (fun x d => some ([c,x,Value.bool false,J,K,L,M,N,P,Q,l,m,n,o,p,q,r,s,t,u,w], d)) ()) := by
 kernel_rfl
theorem yX.r1  : jv Try.prog ⟨false, false, false⟩ (zQ Try.prog O) (reg Try.f68 1) (reg Try.f68 1).toList ([c,i,Y,J,K,L,M,N,P,Q,l,m,n,o,p,q,r,s,t,u,w]) S =
  (zF (zo Try.prog 43 i 0 S) (fun x d => zF (zZ Try.prog false 3 x d) (fun R Z => zF (jX Try.prog BinOp.geq 3 R (Value.int IntKind.i64 1) Z) (fun f S3 => gdK (dem f) true (zo Try.prog 43 i 0) S3 (fun U S4 => gdK (dem f) true (zZ Try.prog false 3 U) S4 (fun V S5 => gdK (dem f) true (jX Try.prog BinOp.leq 3 V (Value.int IntKind.i64 1000000)) S5 (fun W S6 => zF (wP (dem f) W (Value.bool false) S6) (fun g S7 => gdK (dem g) true (zo Try.prog 43 i 1) S7 (fun X S8 => gdK (dem g) true (zZ Try.prog false 3 X) S8 (fun y S9 => gdK (dem g) true (jX Try.prog BinOp.geq 3 y (Value.int IntKind.i64 0)) S9 (fun z D => zF (wP (dem g) z (Value.bool false) D) (fun b E => gdK (dem b) true (zo Try.prog 43 i 1) E (fun A F => gdK (dem b) true (zZ Try.prog false 3 A) F (fun B G => gdK (dem b) true (jX Try.prog BinOp.leq 3 B (Value.int IntKind.i64 1000)) G (fun C H => zF (wP (dem b) C (Value.bool false) H) (fun k I => some ([c,i,k,x,R,f,dem f,U,V,W,g,dem g,X,y,z,b,dem b,A,B,C,dem k], I)) ()) ()) ()) ()) ()) ()) ()) ()) ()) ()) ()) ()) ()) ()) ()) := by
 refine sD Try.f68 1 0 (fun x d => ?_)
 refine sD Try.f68 1 1 (fun R Z => ?_)
 refine sD Try.f68 1 2 (fun f S3 => ?_)
 refine sP Try.f68 1 3 (v := f) ?_
 refine sG Try.f68 1 4 (j := 3) (fun U S4 => ?_)
 refine sG Try.f68 1 5 (j := 3) (fun V S5 => ?_)
 refine sG Try.f68 1 6 (j := 3) (fun W S6 => ?_)
 refine sD Try.f68 1 7 (fun g S7 => ?_)
 refine sP Try.f68 1 8 (v := g) ?_
 refine sG Try.f68 1 9 (j := 8) (fun X S8 => ?_)
 refine sG Try.f68 1 10 (j := 8) (fun y S9 => ?_)
 refine sG Try.f68 1 11 (j := 8) (fun z D => ?_)
 refine sD Try.f68 1 12 (fun b E => ?_)
 refine sP Try.f68 1 13 (v := b) ?_
 refine sG Try.f68 1 14 (j := 13) (fun A F => ?_)
 refine sG Try.f68 1 15 (j := 13) (fun B G => ?_)
 refine sG Try.f68 1 16 (j := 13) (fun C H => ?_)
 refine sD Try.f68 1 17 (fun k I => ?_)
 refine sP Try.f68 1 18 (v := k) ?_
 kernel_rfl
theorem yX.rs : type_of% (And.intro @yX.r0 (@yX.r1)) := And.intro @yX.r0 (@yX.r1)
theorem yX.runs {c : Value} {S d : zi} {e : AEx} {T : List Value} (h : zA Try.prog O false yX.code ([c,undef,undef,undef,undef,undef,undef,undef,undef,undef,undef,undef,undef,undef,undef,undef,undef,undef,undef,undef,undef]) zi.empty = some (e, T, d)) (he : e = .normal ∨ e = .ret) (hca : [c].all (jH 16) = true) (hcv : jH 16 (T.getD 2 undef) = true) : zQ Try.prog O 68 [c] S = some (T.getD 2 undef, S) :=
 wZ rfl rfl Try.func68 (by decide) yX.body (by exact h) he (wV (a := T.getD 2 undef) ((show zG Try.prog T d Try.f68.results.toList = zG Try.prog T d [(ResultVar.tmp 2)] from by kernel_rfl).trans (by simp only [zG])) (by kernel_rfl)) hca hcv
end Go.Proofs.Ytfjogganfjkckaa
namespace Go.Proofs.Ytfjogganfjkckaa
open Go.Abs
abbrev jh.id : FuncId := 48
noncomputable def jh.code : Code := (Code.seq (Code.region 0 (reg Try.f48 0) false) (Code.seq (Code.region 1 (reg Try.f48 1) false) Code.ret))
theorem jh.body : Try.f48.body = some jh.code := by kernel_rfl
variable (c i Y J K L M N P Q l m n o p q r s t u w : Value) (S : zi)
theorem jh.r0  : jv Try.prog ⟨false, false, false⟩ (zQ Try.prog O) (reg Try.f48 0) (reg Try.f48 0).toList ([c,i,Y,J,K,L,M,N,P,Q,l,m,n,o,p,q,r,s,t,u,w]) S =
  (zF (Jo (dem c) S) (fun x d => some ([c,x,Value.bool false,J,K,L,M,N,P,Q,l,m,n,o,p,q,r,s,t,u,w], d)) ()) := by
 kernel_rfl
theorem jh.r1  : jv Try.prog ⟨false, false, false⟩ (zQ Try.prog O) (reg Try.f48 1) (reg Try.f48 1).toList ([c,i,Y,J,K,L,M,N,P,Q,l,m,n,o,p,q,r,s,t,u,w]) S =
  (zF (zo Try.prog 43 i 0 S) (fun x d => zF (zZ Try.prog false 3 x d) (fun R Z => zF (jX Try.prog BinOp.gtr 3 R (Value.int IntKind.i64 0) Z) (fun f S3 => gdK (dem f) true (zo Try.prog 43 i 0) S3 (fun U S4 => gdK (dem f) true (zZ Try.prog false 3 U) S4 (fun V S5 => gdK (dem f) true (jX Try.prog BinOp.leq 3 V (Value.int IntKind.i64 1000000)) S5 (fun W S6 => zF (wP (dem f) W (Value.bool false) S6) (fun g S7 => gdK (dem g) true (zo Try.prog 43 i 1) S7 (fun X S8 => gdK (dem g) true (zZ Try.prog false 3 X) S8 (fun y S9 => gdK (dem g) true (jX Try.prog BinOp.geq 3 y (Value.int IntKind.i64 0)) S9 (fun z D => zF (wP (dem g) z (Value.bool false) D) (fun b E => gdK (dem b) true (zo Try.prog 43 i 1) E (fun A F => gdK (dem b) true (zZ Try.prog false 3 A) F (fun B G => gdK (dem b) true (jX Try.prog BinOp.leq 3 B (Value.int IntKind.i64 1000)) G (fun C H => zF (wP (dem b) C (Value.bool false) H) (fun k I => some ([c,i,k,x,R,f,dem f,U,V,W,g,dem g,X,y,z,b,dem b,A,B,C,dem k], I)) ()) ()) ()) ()) ()) ()) ()) ()) ()) ()) ()) ()) ()) ()) ()) := by
 refine sD Try.f48 1 0 (fun x d => ?_)
 refine sD Try.f48 1 1 (fun R Z => ?_)
 refine sD Try.f48 1 2 (fun f S3 => ?_)
 refine sP Try.f48 1 3 (v := f) ?_
 refine sG Try.f48 1 4 (j := 3) (fun U S4 => ?_)
 refine sG Try.f48 1 5 (j := 3) (fun V S5 => ?_)
 refine sG Try.f48 1 6 (j := 3) (fun W S6 => ?_)
 refine sD Try.f48 1 7 (fun g S7 => ?_)
 refine sP Try.f48 1 8 (v := g) ?_
 refine sG Try.f48 1 9 (j := 8) (fun X S8 => ?_)
 refine sG Try.f48 1 10 (j := 8) (fun y S9 => ?_)
 refine sG Try.f48 1 11 (j := 8) (fun z D => ?_)
 refine sD Try.f48 1 12 (fun b E => ?_)
 refine sP Try.f48 1 13 (v := b) ?_
 refine sG Try.f48 1 14 (j := 13) (fun A F => ?_)
 refine sG Try.f48 1 15 (j := 13) (fun B G => ?_)
 refine sG Try.f48 1 16 (j := 13) (fun C H => ?_)
 refine sD Try.f48 1 17 (fun k I => ?_)
 refine sP Try.f48 1 18 (v := k) ?_
 kernel_rfl
theorem jh.rs : type_of% (And.intro @jh.r0 (@jh.r1)) := And.intro @jh.r0 (@jh.r1)
theorem jh.runs {c : Value} {S d : zi} {e : AEx} {T : List Value} (h : zA Try.prog O false jh.code ([c,undef,undef,undef,undef,undef,undef,undef,undef,undef,undef,undef,undef,undef,undef,undef,undef,undef,undef,undef,undef]) zi.empty = some (e, T, d)) (he : e = .normal ∨ e = .ret) (hca : [c].all (jH 16) = true) (hcv : jH 16 (T.getD 2 undef) = true) : zQ Try.prog O 48 [c] S = some (T.getD 2 undef, S) :=
 wZ rfl rfl Try.func48 (by decide) jh.body (by exact h) he (wV (a := T.getD 2 undef) ((show zG Try.prog T d Try.f48.results.toList = zG Try.prog T d [(ResultVar.tmp 2)] from by kernel_rfl).trans (by simp only [zG])) (by kernel_rfl)) hca hcv
end Go.Proofs.Ytfjogganfjkckaa
namespace Go.Proofs.Ytfjogganfjkckaa
open Go.Abs
theorem ajB {t : TypeId} {a b : List UInt8} {S : zi} : Jd Try.prog .eql t (.string ⟨a.toArray⟩) (.string ⟨b.toArray⟩) S = some (.bool (decide (a = b)), S) := by rw [acX]
end Go.Proofs.Ytfjogganfjkckaa
namespace Go.Proofs.Ytfjogganfjkckaa
open Go.Abs
structure TxV where
 id : Int
 fee : Int
 deriving DecidableEq
def fT (t : TxV) : List Value := [.int .i64 t.id, .int .i64 t.fee]
abbrev tv (t : TxV) : Value := .agg [Value.int .i64 t.id, .int .i64 t.fee].toArray
structure TxV.Ok (t : TxV) : Prop where
 id : -9223372036854775808 ≤ t.id ∧ t.id < 9223372036854775808
 fee : -9223372036854775808 ≤ t.fee ∧ t.fee < 9223372036854775808
def y7 (t : TxV) : Bool := decide (1 ≤ t.id) && decide (t.id ≤ 1000000) && decide (0 ≤ t.fee) && decide (t.fee ≤ 1000)
theorem kL {t : TxV} : y7 t = true ↔ 1 ≤ t.id ∧ t.id ≤ 1000000 ∧ 0 ≤ t.fee ∧ t.fee ≤ 1000 := by
 simp [y7, and_assoc]
abbrev mem1 (t : TxV) : zi := zi.empty.push (.cells [Value.int .i64 t.id, .int .i64 t.fee] (.own []) 0)
theorem box1 (t : TxV) : Jo (tv t) zi.empty = some (.pointer (some ⟨0, 0, none⟩), mem1 t) := rfl
theorem vP (t : TxV) : (mem1 t).get 0 = some (.cells [Value.int .i64 t.id, .int .i64 t.fee] (.own []) 0) := rfl
theorem yX.v (t : TxV) (S : zi) : zQ Try.prog O yX.id [tv t] S = some (.bool (y7 t), S) := by
 obtain ⟨T, hTe⟩ : ∃ T, T = (tv t :: undef :: undef :: undef :: undef :: undef :: undef :: undef :: undef :: undef :: undef :: undef :: undef :: undef :: undef :: undef :: undef :: undef :: undef :: undef :: undef :: []) := ⟨_, rfl⟩
 have hr : zA Try.prog O false yX.code T zi.empty = zA Try.prog O false yX.code T zi.empty := rfl
 have l0 := qp (t := 3) (o := 0 + 0) (vP t) Zr rfl
 have l1 := qp (t := 3) (o := 0 + 1) (vP t) Zr rfl
 by_cases h1 : 1 ≤ t.id <;> by_cases h2 : t.id ≤ 1000000 <;> by_cases h3 : 0 ≤ t.fee <;> by_cases h4 : t.fee ≤ 1000
 all_goals
  conv at hr =>
   rhs
   rw [hTe]
   simp only [yX.code, yX.rs, zSs, reduceIte, Nat.reduceEqDiff, Int.reduceEq, Int.reduceLT, Int.reduceLE, box1, kF, Zn, l0, l1, h1, h2, h3, h4]
  rw [hTe] at hr
  simp only [y7, h1, h2, h3, h4, decide_true, decide_false, Bool.and_true, Bool.and_false, Bool.false_and]
  exact yX.runs hr (.inr rfl) rfl rfl
theorem jh.v (t : TxV) (S : zi) : zQ Try.prog O jh.id [tv t] S = some (.bool (y7 t), S) := by
 obtain ⟨T, hTe⟩ : ∃ T, T = (tv t :: undef :: undef :: undef :: undef :: undef :: undef :: undef :: undef :: undef :: undef :: undef :: undef :: undef :: undef :: undef :: undef :: undef :: undef :: undef :: undef :: []) := ⟨_, rfl⟩
 have hr : zA Try.prog O false jh.code T zi.empty = zA Try.prog O false jh.code T zi.empty := rfl
 have l0 := qp (t := 3) (o := 0 + 0) (vP t) Zr rfl
 have l1 := qp (t := 3) (o := 0 + 1) (vP t) Zr rfl
 have h0 : decide (1 ≤ t.id) = decide (0 < t.id) := decide_eq_decide.mpr (by omega)
 unfold y7
 rw [h0]
 by_cases h1 : 0 < t.id <;> by_cases h2 : t.id ≤ 1000000 <;> by_cases h3 : 0 ≤ t.fee <;> by_cases h4 : t.fee ≤ 1000
 all_goals
  conv at hr =>
   rhs
   rw [hTe]
   simp only [jh.code, jh.rs, zSs, reduceIte, Nat.reduceEqDiff, Int.reduceEq, Int.reduceLT, Int.reduceLE, box1, kF, Zn, l0, l1, h1, h2, h3, h4]
  rw [hTe] at hr
  simp only [h1, h2, h3, h4, decide_true, decide_false, Bool.and_true, Bool.and_false, Bool.false_and]
  exact jh.runs hr (.inr rfl) rfl rfl
end Go.Proofs.Ytfjogganfjkckaa
namespace Go.Proofs.Ytfjogganfjkckaa
open Go.Abs
def txB (t : TxV) : List UInt8 := encs [t.id, t.fee]
def ai4 (t : TxV) : Value := if y7 t then .tuple #[by_ 2 (txB t), .int .i64 0] else .tuple #[.slice none 0 0, .int .i64 61]
theorem abg {t : TxV} (h : y7 t = true) : (txB t).length ≤ 20 := by
 obtain ⟨h1, h2, h3, h4⟩ := kL.mp h
 have := ZB (l := [t.id, t.fee]) (by intro n hn; simp at hn; rcases hn with rfl | rfl <;> omega)
 exact this
theorem aaR (x y : Int) : sv 2 1 2 [.int .i64 x, .int .i64 y] = iz 2 [x, y] := rfl
theorem yA.v (t : TxV) (S : zi) : zQ Try.prog O yA.id [tv t] S = some (ai4 t, S) := by
 obtain ⟨T, hTe⟩ : ∃ T, T = (tv t :: undef :: undef :: undef :: undef :: undef :: undef :: undef :: undef :: undef :: undef :: undef :: undef :: undef :: undef :: undef :: undef :: undef :: undef :: []) := ⟨_, rfl⟩
 have hr : zA Try.prog O false yA.code T zi.empty = zA Try.prog O false yA.code T zi.empty := rfl
 have l0 := qp (t := 3) (o := 0 + 0) (vP t) Zr rfl
 have l1 := qp (t := 3) (o := 0 + 1) (vP t) Zr rfl
 have lt := Qg (vP t)
 unfold ai4
 by_cases h : y7 t = true
 ·
  have hh := kL.mp h
  have c1 := fun S => jk.v (l := [t.id, t.fee]) Okl.read (by decide) (by simp; omega) S
  conv at hr =>
   rhs
   rw [hTe]
   simp only [yA.code, yA.rs, zSs, reduceIte, Nat.reduceEqDiff, Int.reduceEq, Int.reduceLT, Int.reduceLE, box1, lt, xP, yX.v, h, kF, Zn, l0, l1, Yx, aaR, c1, Ja (l := [t.id, t.fee]) (by simp) (by simp; omega) (by simp)]
  rw [hTe] at hr
  rw [if_pos h]
  exact yA.runs hr (.inr rfl) (by simp only [List.getD_cons_succ, List.getD_cons_zero, wB, wo, jM, jU, jZ]) rfl rfl (yP (all2 (qL (k := 2) (Nat.le_refl 2)) rfl))
 ·
  rw [Bool.not_eq_true] at h
  conv at hr =>
   rhs
   rw [hTe]
   simp only [yA.code, yA.rs, zSs, reduceIte, Nat.reduceEqDiff, Int.reduceEq, Int.reduceLT, Int.reduceLE, box1, lt, xP, yX.v, h]
  rw [hTe] at hr
  rw [if_neg (by rw [h]; decide)]
  exact yA.runs hr (.inr rfl) rfl rfl rfl rfl
theorem jm.v (t : TxV) (S : zi) : zQ Try.prog O jm.id [tv t] S = some (ai4 t, S) := by
 obtain ⟨T, hTe⟩ : ∃ T, T = (tv t :: undef :: undef :: undef :: undef :: undef :: undef :: undef :: undef :: undef :: undef :: undef :: undef :: undef :: undef :: []) := ⟨_, rfl⟩
 have hr : zA Try.prog O false jm.code T zi.empty = zA Try.prog O false jm.code T zi.empty := rfl
 have l0 := qp (t := 3) (o := 0 + 0) (vP t) Zr rfl
 have l1 := qp (t := 3) (o := 0 + 1) (vP t) Zr rfl
 have lt := Qg (vP t)
 unfold ai4
 by_cases h : y7 t = true
 ·
  have hh := kL.mp h
  have c1 := fun S => zu.v (l := [t.id, t.fee]) Okl.read (by decide) (by simp; omega) S
  conv at hr =>
   rhs
   rw [hTe]
   simp only [jm.code, jm.rs, zSs, reduceIte, Nat.reduceEqDiff, Int.reduceEq, Int.reduceLT, Int.reduceLE, box1, lt, xP, jh.v, h, kF, Zn, l0, l1, Yx, aaR, c1, Ja (l := [t.id, t.fee]) (by simp) (by simp; omega) (by simp)]
  rw [hTe] at hr
  rw [if_pos h]
  exact jm.runs hr (.inr rfl) (by simp only [List.getD_cons_succ, List.getD_cons_zero, wB, wo, jM, jU, jZ]) rfl rfl (yP (all2 (qL (k := 2) (Nat.le_refl 2)) rfl))
 ·
  rw [Bool.not_eq_true] at h
  conv at hr =>
   rhs
   rw [hTe]
   simp only [jm.code, jm.rs, zSs, reduceIte, Nat.reduceEqDiff, Int.reduceEq, Int.reduceLT, Int.reduceLE, box1, lt, xP, jh.v, h]
  rw [hTe] at hr
  rw [if_neg (by rw [h]; decide)]
  exact jm.runs hr (.inr rfl) rfl rfl rfl rfl
theorem Jl (S : zi) : yJ Try.prog 43 S = some (.pointer (some ⟨S.next, 0, none⟩), S.push (.cells (fT ⟨0, 0⟩) (.own []) 0)) := by kernel_rfl
theorem Ky (S : zi) (t : TxV) : ∃ S2, wU Try.prog 43 (.pointer (some ⟨S.next, 0, none⟩)) (tv t) (S.push (.cells (fT ⟨0, 0⟩) (.own []) 0)) = some (undef, S2) ∧ S2.get S.next = some (.cells (fT t) (.own []) 0) ∧ Ext S S2 ∧ S.next < S2.next :=
 QO S (by rw [qm, List.toList_toArray]; rfl) vY rfl rfl
theorem acF {S S0 : zi} {q : Nat} {u : TxV} (t : TxV) (hg : S.get q = some (.cells (fT u) (.own []) 0)) (hE : Ext S0 S) (hq : S0.next ≤ q) : ∃ S2, wU Try.prog 43 (.pointer (some ⟨q, 0, none⟩)) (tv t) S = some (undef, S2) ∧ S2.get q = some (.cells (fT t) (.own []) 0) ∧ Ext S0 S2 ∧ S2.next = S.next ∧ ∀ k, k ≠ q → S2.get k = S.get k :=
 aaA hg vY rfl rfl (by simp [fT]) hE hq
theorem ajM {R : Type} {a b : Int} (r : Option R) (p : vC r) : okK (.agg [Value.int .i64 a, .int .i64 b].toArray) r p = r := Wj rfl r p
theorem Yv {S : zi} {q : Nat} {t : TxV} (h : S.get q = some (.cells (fT t) (.own []) 0)) : zZ Try.prog false 43 (.pointer (some ⟨q, 0, none⟩)) S = some (tv t, S) := Qg h
theorem QH {S : zi} {q : Nat} {t : TxV} (h : S.get q = some (.cells (fT t) (.own []) 0)) : zZ Try.prog false 3 (.pointer (some ⟨q, 0 + 0, none⟩)) S = some (.int .i64 t.id, S) := qp (t := 3) (o := 0 + 0) h Zr rfl
theorem ajx {S : zi} {q : Nat} {t : TxV} (h : S.get q = some (.cells (fT t) (.own []) 0)) : zZ Try.prog false 3 (.pointer (some ⟨q, 0 + 1, none⟩)) S = some (.int .i64 t.fee, S) := qp (t := 3) (o := 0 + 1) h Zr rfl
theorem akv (k : Nat) (hk : k ≤ 2) (a b : Int) (h : k ≠ 0) (S : zi) : jB Try.prog 24 (iz k [a, b]) (.int .i64 0) S = some (EP [.int .i64 a], S) := aa1 ⟨hk, fun h0 => absurd h0 h⟩ (by decide) (by simp)
theorem akx (k : Nat) (hk : k ≤ 2) (a b : Int) (h : k ≠ 0) (S : zi) : jB Try.prog 24 (iz k [a, b]) (.int .i64 1) S = some (EP [.int .i64 b], S) := aa1 ⟨hk, fun h0 => absurd h0 h⟩ (by decide) (by simp)
def agq (l : List UInt8) : Value := match yV 2 l with
 | some ([a, b], r) => .tuple #[tv ⟨a, b⟩, by_ 2 r, .bool (y7 ⟨a, b⟩)]
 | _ => .tuple #[tv ⟨0, 0⟩, .slice none 0 0, .bool false]
theorem Vr (l : List UInt8) : yV 2 l = none ∨ ∃ a b r, yV 2 l = some ([a, b], r) ∧ r.length ≤ l.length := by
 cases h : yV 2 l with
 | none => exact .inl rfl
 | some ar =>
  obtain ⟨a, r⟩ := ar
  obtain ⟨h1, h2⟩ := JV h
  match a, h1 with
  | [x, y], _ => exact .inr ⟨x, y, r, rfl, h2⟩
theorem wK.v {k : Nat} {l : List UInt8} (hk : Okl k l) (k2 : k ≠ 2) (hl : l.length ≤ 140737488355328) (S : zi) : zQ Try.prog O wK.id [by_ k l] S = some (agq l, S) := by
 obtain ⟨T, hTe⟩ : ∃ T, T = (by_ k l :: undef :: undef :: undef :: undef :: undef :: undef :: undef :: undef :: undef :: undef :: undef :: undef :: undef :: undef :: undef :: undef :: undef :: undef :: undef :: undef :: undef :: undef :: undef :: undef :: undef :: undef :: undef :: undef :: []) := ⟨_, rfl⟩
 have hr : zA Try.prog O false wK.code T zi.empty = zA Try.prog O false wK.code T zi.empty := rfl
 have c1 := fun S => zC.v (many := 2) hk k2 hl S
 have a1 := Jl zi.empty
 have g1 : (zi.empty.push (.cells (fT ⟨0, 0⟩) (.own []) 0)).get 0 = some (.cells (fT ⟨0, 0⟩) (.own []) 0) := by kernel_rfl
 have n1 : (zi.empty.push (.cells (fT ⟨0, 0⟩) (.own []) 0)).next = 1 := by kernel_rfl
 rw [show zi.empty.next = 0 from rfl] at a1
 have r1 : Jt 0 (if k = 0 then 0 else 2) 2 l = _ := Z4 (m := 2) (by decide) (by decide)
 rw [r1] at c1
 unfold agq
 generalize hS1 : zi.empty.push (.cells (fT ⟨0, 0⟩) (.own []) 0) = S1 at a1 g1 n1
 rcases Vr l with h | ⟨a, b, r, h, hlr⟩
 ·
  rw [h] at c1 ⊢
  obtain ⟨S2, p1, p2, p3, p4⟩ := acF ⟨0, 0⟩ g1 (Ext.refl zi.empty |>.trans (hS1 ▸ Ext.push _ _)) (Nat.zero_le _)
  conv at hr =>
   rhs
   rw [hTe]
   simp only [wK.code, wK.rs, zSs, reduceIte, Nat.reduceEqDiff, Int.reduceEq, Int.reduceLT, Int.reduceLE, if_neg k2, a1, c1, jO, p1]
  rw [hTe] at hr
  exact wK.runs hr (.inr rfl) (Yv p2) rfl rfl rfl (all1 (qL (k := k) hk.le)) rfl
 ·
  rw [h] at c1 ⊢
  have e0 := akv 1 (by decide) a b (by decide)
  have e1 := akx 1 (by decide) a b (by decide)
  have c2 : ∀ S, zQ Try.prog O 68 [.agg [Value.int .i64 a, .int .i64 b].toArray] S = some (.bool (y7 ⟨a, b⟩), S) := fun S => yX.v ⟨a, b⟩ S
  obtain ⟨S2, p1, p2, p3, p4⟩ := Ky S1 ⟨a, b⟩
  have g2 : S2.get 0 = some (.cells (fT ⟨0, 0⟩) (.own []) 0) := by rw [p3.get 0 (by omega), g1]
  obtain ⟨S3, q1, q2, q3, q4, q5⟩ := acF ⟨a, b⟩ g2 (Ext.trans (hS1 ▸ Ext.push _ _ : Ext zi.empty S1) p3) (Nat.zero_le _)
  conv at hr =>
   rhs
   rw [hTe]
   simp only [wK.code, wK.rs, zSs, reduceIte, Nat.reduceEqDiff, Int.reduceEq, Int.reduceLT, Int.reduceLE, if_neg k2, a1, c1, e0, e1, kN, XP (kJ) (kJ), Jl, p1, Yv p2, q1, c2, yO p2, ajM]
  rw [hTe] at hr
  exact wK.runs hr (.inr rfl) (Yv q2) rfl (by simp only [List.getD_cons_succ, List.getD_cons_zero, wB, wo, jM, jU, jZ]) rfl (all1 (qL (k := k) hk.le)) (yP (akw rfl (qL (k := 2) (Nat.le_refl 2)) rfl))
noncomputable def afv (l : List UInt8) : Option TxV := rd (fun t => y7 t = true) txB l
theorem ae5 {a b : TxV} {r s : List UInt8} (ha : y7 a = true) (hb : y7 b = true) (h : txB a ++ r = txB b ++ s) : a = b ∧ r = s := by
 obtain ⟨a1, a2, a3, a4⟩ := kL.mp ha
 obtain ⟨b1, b2, b3, b4⟩ := kL.mp hb
 obtain ⟨h1, h2⟩ := JF (a := [a.id, a.fee]) (c := [b.id, b.fee]) rfl (by simp [Few]; omega) (by simp [Few]; omega) h
 refine ⟨?_, h2⟩
 cases a; cases b
 simp at h1
 rw [h1.1, h1.2]
theorem WU (l : List UInt8) (t : TxV) : afv l = some t ↔ y7 t = true ∧ l = txB t :=
 aey (fun x y hx hy h => (ae5 (r := []) (s := []) hx hy (by simpa using h)).1) l t
theorem V3 {l : List UInt8} (h : ∀ t, ¬ (y7 t = true ∧ l = txB t)) : afv l = none := by
 cases hr : afv l with
 | none => rfl
 | some t => exact absurd ((WU l t).mp hr) (h t)
noncomputable def agJ (l : List UInt8) : Value := match afv l with
 | some t => .tuple #[tv t, .int .i64 0]
 | none => .tuple #[tv ⟨0, 0⟩, .int .i64 61]
theorem aib {l r : List UInt8} {a b : Int} (h : yV 2 l = some ([a, b], r)) : afv l = if y7 ⟨a, b⟩ = true ∧ r = [] then some ⟨a, b⟩ else none := by
 obtain ⟨_, h2, h3⟩ := (yS _ _ _ _).mp h
 split
 ·
  rename_i hc
  exact (WU _ _).mpr ⟨hc.1, by rw [h2, hc.2, List.append_nil]; rfl⟩
 ·
  rename_i hc
  refine V3 fun t ht => hc ?_
  obtain ⟨b1, b2, b3, b4⟩ := kL.mp ht.1
  have h4 : encs [t.id, t.fee] ++ [] = encs [a, b] ++ r := by rw [List.append_nil, ← h2]; exact ht.2.symm
  obtain ⟨h5, h6⟩ := JF (a := [t.id, t.fee]) (c := [a, b]) rfl (by simp [Few]; omega) h3 h4
  simp at h5
  rw [← h5.1, ← h5.2]
  exact ⟨ht.1, h6.symm⟩
theorem aaf {l : List UInt8} (h : yV 2 l = none) : afv l = none := by
 refine V3 fun t ht => ?_
 obtain ⟨b1, b2, b3, b4⟩ := kL.mp ht.1
 have := (yS 2 l [t.id, t.fee] []).mpr ⟨rfl, by rw [List.append_nil]; exact ht.2, by simp [Few]; omega⟩
 rw [h] at this
 cases this
theorem yD.v {k : Nat} {l : List UInt8} (hk : Okl k l) (k2 : k ≠ 2) (hl : l.length ≤ 140737488355328) (S : zi) : zQ Try.prog O yD.id [by_ k l] S = some (agJ l, S) := by
 obtain ⟨T, hTe⟩ : ∃ T, T = (by_ k l :: undef :: undef :: undef :: undef :: undef :: undef :: undef :: undef :: undef :: undef :: undef :: undef :: undef :: undef :: undef :: undef :: undef :: undef :: undef :: undef :: undef :: []) := ⟨_, rfl⟩
 have hr : zA Try.prog O false yD.code T zi.empty = zA Try.prog O false yD.code T zi.empty := rfl
 have c1 := fun S => wK.v hk k2 hl S
 have a1 := Jl zi.empty
 have g1 : (zi.empty.push (.cells (fT ⟨0, 0⟩) (.own []) 0)).get 0 = some (.cells (fT ⟨0, 0⟩) (.own []) 0) := by kernel_rfl
 have n1 : (zi.empty.push (.cells (fT ⟨0, 0⟩) (.own []) 0)).next = 1 := by kernel_rfl
 rw [show zi.empty.next = 0 from rfl] at a1
 have hE1 : Ext zi.empty (zi.empty.push (.cells (fT ⟨0, 0⟩) (.own []) 0)) := Ext.push _ _
 generalize zi.empty.push (.cells (fT ⟨0, 0⟩) (.own []) 0) = S1 at a1 g1 n1 hE1
 unfold agq at c1
 unfold agJ
 rcases Vr l with h | ⟨a, b, r, h, hlr⟩
 ·
  rw [h] at c1
  rw [aaf h]
  obtain ⟨S2, p1, p2, p3, p4⟩ := Ky S1 ⟨0, 0⟩
  have g2 : S2.get 0 = some (.cells (fT ⟨0, 0⟩) (.own []) 0) := by rw [p3.get 0 (by omega), g1]
  obtain ⟨S3, q1, q2, q3, q4, q5⟩ := acF ⟨0, 0⟩ g2 (Ext.trans hE1 p3) (Nat.zero_le _)
  conv at hr =>
   rhs
   rw [hTe]
   simp only [yD.code, yD.rs, zSs, reduceIte, Nat.reduceEqDiff, Int.reduceEq, Int.reduceLT, Int.reduceLE, if_neg k2, a1, c1, Jl, p1, jO, q1]
  rw [hTe] at hr
  exact yD.runs hr (.inr rfl) (Yv q2) rfl rfl (all1 (qL (k := k) hk.le)) rfl
 ·
  rw [h] at c1
  rw [aib h]
  by_cases hok : y7 ⟨a, b⟩ = true
  ·
   obtain ⟨S2, p1, p2, p3, p4⟩ := Ky S1 ⟨a, b⟩
   have g2 : S2.get 0 = some (.cells (fT ⟨0, 0⟩) (.own []) 0) := by rw [p3.get 0 (by omega), g1]
   by_cases h0 : r = []
   ·
    subst h0
    obtain ⟨S3, q1, q2, q3, q4, q5⟩ := acF ⟨a, b⟩ g2 (Ext.trans hE1 p3) (Nat.zero_le _)
    conv at hr =>
     rhs
     rw [hTe]
     simp only [yD.code, yD.rs, zSs, reduceIte, Nat.reduceEqDiff, Int.reduceEq, Int.reduceLT, Int.reduceLE, if_neg k2, a1, c1, Jl, p1, hok, J7 Okl.read, goInt, List.length_nil, Int.ofNat_zero, Int.natCast_zero, Int.lt_irrefl, Yv p2, q1]
    rw [if_pos ⟨hok, rfl⟩]
    rw [hTe] at hr
    exact yD.runs hr (.inr rfl) (Yv q2) rfl rfl (all1 (qL (k := k) hk.le)) rfl
   ·
    have hp : (0 : Int) < (r.length : Int) := by have := List.length_pos_iff.mpr h0; omega
    obtain ⟨S3, q1, q2, q3, q4, q5⟩ := acF ⟨0, 0⟩ g2 (Ext.trans hE1 p3) (Nat.zero_le _)
    conv at hr =>
     rhs
     rw [hTe]
     simp only [yD.code, yD.rs, zSs, reduceIte, Nat.reduceEqDiff, Int.reduceEq, Int.reduceLT, Int.reduceLE, if_neg k2, a1, c1, Jl, p1, hok, J7 Okl.read, goInt, decide_eq_true hp, jO, q1]
    rw [if_neg (fun h => h0 h.2)]
    rw [hTe] at hr
    exact yD.runs hr (.inr rfl) (Yv q2) rfl rfl (all1 (qL (k := k) hk.le)) rfl
  ·
   rw [if_neg (fun h => hok h.1)]
   rw [Bool.not_eq_true] at hok
   obtain ⟨S2, p1, p2, p3, p4⟩ := Ky S1 ⟨a, b⟩
   have g2 : S2.get 0 = some (.cells (fT ⟨0, 0⟩) (.own []) 0) := by rw [p3.get 0 (by omega), g1]
   obtain ⟨S3, q1, q2, q3, q4, q5⟩ := acF ⟨0, 0⟩ g2 (Ext.trans hE1 p3) (Nat.zero_le _)
   conv at hr =>
    rhs
    rw [hTe]
    simp only [yD.code, yD.rs, zSs, reduceIte, Nat.reduceEqDiff, Int.reduceEq, Int.reduceLT, Int.reduceLE, if_neg k2, a1, c1, Jl, p1, hok, jO, q1]
   rw [hTe] at hr
   exact yD.runs hr (.inr rfl) (Yv q2) rfl rfl (all1 (qL (k := k) hk.le)) rfl
end Go.Proofs.Ytfjogganfjkckaa
namespace Go.Proofs.Ytfjogganfjkckaa
open Go.Abs
abbrev tl (k : Nat) (l : List TxV) : Value := vs fT 2 k l
theorem aef (t : TxV) : (fT t).length = 2 := rfl
theorem ajZ (t : TxV) : (fT t).all (·.oneCell') = true := rfl
theorem Zz {k : Nat} {l : List TxV} {S : zi} (h : Okl k l) : ZM Try.prog 44 (tl k l) S = some (.int .i64 l.length, S) := ae7 ZV h
theorem YW {k : Nat} {l pre suf : List TxV} {t : TxV} {S : zi} (h : Okl k l) (hl : l = pre ++ t :: suf) : jB Try.prog 44 (tl k l) (.int .i64 pre.length) S = some (EP [.int .i64 t.id, .int .i64 t.fee], S) := by
 have h1 : (pre.length : Int) < (l.length : Int) := by rw [hl]; simp; omega
 rw [aio ZV vY aef h (by omega) h1, acg hl]; rfl
theorem ag4 {k : Nat} {l : List TxV} {S : zi} {lo hi : Option Value} {i j : Int} (h : Okl k l) (hlo : vM 0 lo = some i) (hhi : vM l.length hi = some j) (h0 : 0 ≤ i) (hij : i ≤ j) (hj : j ≤ l.length) : Zu Try.prog 44 (tl k l) lo hi S = some (tl (if k = 2 then 1 else k) ((l.drop i.toNat).take (j.toNat - i.toNat)), S) := abH ZV vY aef h hlo hhi h0 hij hj
theorem aij {k : Nat} {l : List TxV} {t : TxV} {S : zi} (h : Okl k l) (hk : k ≠ 1) (hl : l.length ≤ 8796093022000) : yj Try.prog 44 44 (tl k l) (tl 2 [t]) S = some (tl 2 (l ++ [t]), S) := by
 rw [QX ZV vY afX rfl ag7 (by omega) ZV aef ajZ h hk Okl.own (by simp; omega) (by simp; omega), if_neg (fun h => by have := h.2; simp at this)]
theorem abQ {α : Type} (g : α → Int) (v : Value) (l : List α) (k : Int) : KI (l.map fun t => (g t, v)) k = if k ∈ l.map g then some v else none := by
 induction l with
 | nil => rfl
 | cons t l ih =>
  simp only [List.map_cons, KI, ih, List.mem_cons]
  by_cases h : g t = k
  ·
   simp [h]
  ·
   have h' : ¬ k = g t := fun e => h e.symm
   simp [h, h']
abbrev kI : Int → Value := fun n => .int .i64 n
def unl (l : List TxV) : Bool := decide ((l.map TxV.id).Nodup) && decide (l.length ≤ 3)
theorem jr.round {k : Nat} {l : List TxV} (hk : Okl k l) (hl : l.length ≤ 8796093022208) {q : Nat} : ∀ (suf pre : List TxV) {T : List Value} {S : zi} {r : St}, qI (zA Try.prog O false jr.jP) T S = r → T.length = 24 →
  T.getD 0 undef = tl k l → T.getD 3 undef = .map (some q) → T.getD 7 undef = tl k l → T.getD 8 undef = .int .i64 l.length → T.getD 9 undef = .int .i64 pre.length → l = pre ++ suf →
  MapAt kI S q (pre.map fun t => (t.id, .bool true)) → q < S.next → (pre.map TxV.id).Nodup →
  ∃ e T' S', r = some (e, T', S') ∧ if (l.map TxV.id).Nodup then e = .exit 0 ∧ T'.length = 24 ∧ T'.getD 0 undef = tl k l else e = .ret ∧ T'.getD 2 undef = .bool false := by
 intro suf
 induction suf with
 | nil =>
  intro pre T S r hL hT h0 h3 h7 h8 h9 hpre hm hq hn
  have hTe := jr.eta hT
  rw [h0, h3, h7, h8, h9] at hTe
  have hr : zA Try.prog O false jr.jP T S = zA Try.prog O false jr.jP T S := rfl
  have d1 : ¬ (pre.length : Int) < (l.length : Int) := by rw [hpre]; simp
  conv at hr =>
   rhs
   rw [hTe]
   simp only [jr.jP, jr.code, jr.rs, zSs, reduceIte, Nat.reduceEqDiff, Int.reduceEq, Int.reduceLT, Int.reduceLE, d1]
  refine ⟨_, _, _, hL.symm.trans (wz hr (by simp)), ?_⟩
  rw [if_pos (by rw [hpre, List.append_nil]; exact hn)]
  exact ⟨rfl, rfl, rfl⟩
 | cons t suf ih =>
  intro pre T S r hL hT h0 h3 h7 h8 h9 hpre hm hq hn
  have hTe := jr.eta hT
  rw [h0, h3, h7, h8, h9] at hTe
  have hr : zA Try.prog O false jr.jP T S = zA Try.prog O false jr.jP T S := rfl
  have d1 : (pre.length : Int) < (l.length : Int) := by rw [hpre]; simp; omega
  have e1 := fun S => YW (S := S) hk hpre
  have wi : IntKind.i64.wrap ((pre.length : Int) + 1) = ((pre ++ [t]).length : Int) := by rw [wrap_i64 (by omega) (by omega)]; simp
  obtain ⟨S2, p1, p2, p3, p4⟩ := Ky S t
  have hm2 : MapAt kI S2 q (pre.map fun t => (t.id, .bool true)) := hm.keep (p3.get q hq)
  have m1 : xJ Try.prog false 126 (.map (some q)) (.int .i64 t.id) false S2 = _ := afn QW hm2 YS aaE ahu rfl t.id
  rw [abQ] at m1
  by_cases ht : t.id ∈ pre.map TxV.id
  ·
   rw [if_pos ht] at m1
   conv at hr =>
    rhs
    rw [hTe]
    simp only [jr.jP, jr.code, jr.rs, zSs, reduceIte, Nat.reduceEqDiff, Int.reduceEq, Int.reduceLT, Int.reduceLE, d1, e1, kH, Jl, p1, kF, QH p2, m1, Option.getD_some]
   refine ⟨_, _, _, hL.symm.trans (wz hr (by simp)), ?_⟩
   rw [if_neg (by rw [hpre]; simp only [List.map_append, List.map_cons, List.nodup_append]; intro h; exact h.2.2 _ ht _ (by simp) rfl)]
   exact ⟨rfl, rfl⟩
  ·
   rw [if_neg ht] at m1
   obtain ⟨S3, u1, u2, u3, u4, u5⟩ := aaX QW hm2 YS aaE t.id (.bool true)
   have u1' : yL Try.prog 126 (.map (some q)) (.int .i64 t.id) (.bool true) S2 = some (undef, S3) := u1
   rw [Xx (by rw [abQ, if_neg ht])] at u2
   conv at hr =>
    rhs
    rw [hTe]
    simp only [jr.jP, jr.code, jr.rs, zSs, reduceIte, Nat.reduceEqDiff, Int.reduceEq, Int.reduceLT, Int.reduceLE, d1, e1, kH, Jl, p1, kF, QH p2, m1, Option.getD_none, u1', wi]
   refine ih (pre ++ [t]) ((yR hr).symm.trans hL) rfl rfl rfl rfl rfl rfl (by simp [hpre]) (by simpa using u2) (by omega) ?_
   simp only [List.map_append, List.map_cons, List.map_nil, List.nodup_append]
   exact ⟨hn, by simp, fun a ha b hb => by simp at hb; subst hb; exact fun h => ht (h ▸ ha)⟩
theorem jr.v {k : Nat} {l : List TxV} (hk : Okl k l) (k2 : k ≠ 2) (hl : l.length ≤ 8796093022208) (S : zi) : zQ Try.prog O jr.id [tl k l] S = some (.bool (unl l), S) := by
 obtain ⟨T, hTe⟩ : ∃ T, T = (tl k l :: undef :: undef :: undef :: undef :: undef :: undef :: undef :: undef :: undef :: undef :: undef :: undef :: undef :: undef :: undef :: undef :: undef :: undef :: undef :: undef :: undef :: undef :: undef :: []) := ⟨_, rfl⟩
 have hr : zA Try.prog O false jr.code T zi.empty = zA Try.prog O false jr.code T zi.empty := rfl
 obtain ⟨S1, m1, m2, m3, m4, m5⟩ := aa6 (P := Try.prog) (t := 126) kI zi.empty
 conv at hr =>
  rhs
  rw [hTe]
  simp only [jr.code, jr.rs, zSs, reduceIte, Nat.reduceEqDiff, Int.reduceEq, Int.reduceLT, Int.reduceLE, m1, if_neg k2, Zz hk]
 generalize hL : qI (zA Try.prog O false jr.jP) _ _ = r at hr
 obtain ⟨e, T', S', rfl, g⟩ := jr.round hk hl l [] hL rfl rfl rfl rfl rfl rfl rfl m2 (by omega) List.nodup_nil
 unfold unl
 by_cases h : (l.map TxV.id).Nodup
 ·
  rw [if_pos h] at g
  obtain ⟨rfl, g2, g3⟩ := g
  have hTe' := jr.eta g2
  rw [g3] at hTe'
  have d3 : decide ((l.length : Int) ≤ 3) = decide (l.length ≤ 3) := decide_eq_decide.mpr (by omega)
  conv at hr =>
   rhs
   rw [hTe']
   simp only [jr.code, jr.rs, zSs, reduceIte, Nat.reduceEqDiff, Int.reduceEq, Int.reduceLT, Int.reduceLE, if_neg k2, Zz hk, d3]
  rw [hTe] at hr
  rw [decide_eq_true h, Bool.true_and]
  exact jr.runs hr (.inr rfl) (all1 (Zx hk.le fun _ _ => rfl)) rfl
 ·
  rw [if_neg h] at g
  obtain ⟨rfl, g2⟩ := g
  conv at hr =>
   rhs
   simp only [zSs, reduceIte, Nat.reduceEqDiff, Int.reduceEq, Int.reduceLT, Int.reduceLE]
  rw [hTe] at hr
  rw [decide_eq_false h, Bool.false_and]
  have hrun := jr.runs (S := S) hr (.inr rfl) (all1 (Zx hk.le fun _ _ => rfl)) (by rw [g2]; rfl)
  rw [g2] at hrun
  exact hrun
def vX (l : List TxV) : Bool := unl l && l.all y7
def flat (l : List TxV) : List Int := l.flatMap fun t => [t.id, t.fee]
def aaI (l : List TxV) : List UInt8 := encs ((l.length : Int) :: flat l)
def ahE (l : List TxV) : Value := if vX l then .tuple #[by_ 2 (aaI l), .int .i64 0] else .tuple #[.slice none 0 0, .int .i64 61]
theorem Qc (a b : List TxV) : flat (a ++ b) = flat a ++ flat b := by simp [flat]
theorem Yk (l : List TxV) : (flat l).length = 2 * l.length := by
 induction l with
 | nil => rfl
 | cons t l ih => rw [show flat (t :: l) = [t.id, t.fee] ++ flat l from rfl, List.length_append, ih]; simp; omega
theorem X3 {l : List TxV} (h : ∀ t ∈ l, y7 t = true) : ∀ n ∈ flat l, 0 ≤ n ∧ n ≤ 1000000 := by
 intro n hn
 simp only [flat, List.mem_flatMap] at hn
 obtain ⟨t, h1, h2⟩ := hn
 obtain ⟨b1, b2, b3, b4⟩ := kL.mp (h t h1)
 simp at h2
 omega
theorem vG (l : List TxV) : aaI l = encs [(l.length : Int)] ++ encs (flat l) := vJ [(l.length : Int)] (flat l)
theorem Ym {l : List TxV} (h : ∀ t ∈ l, y7 t = true) : (encs (flat l)).length ≤ 20 * l.length := by
 have h1 := ZB (l := flat l) (fun n hn => by have := X3 h n hn; omega)
 rw [Yk] at h1
 omega
theorem jK.round {k : Nat} {l : List TxV} (hk : Okl k l) (hl : l.length ≤ 3) {A : List UInt8} (hA : A.length ≤ 100) : ∀ (suf pre : List TxV) {T : List Value} {S : zi} {r : St}, qI (zA Try.prog O false jK.jP) T S = r → T.length = 39 →
  T.getD 4 undef = by_ 2 (A ++ encs (flat pre)) → T.getD 20 undef = tl k l → T.getD 21 undef = .int .i64 l.length → T.getD 22 undef = .int .i64 pre.length → l = pre ++ suf → (∀ t ∈ pre, y7 t = true) →
  ∃ e T' S', r = some (e, T', S') ∧ if l.all y7 = true then e = .exit 0 ∧ T'.length = 39 ∧ T'.getD 4 undef = by_ 2 (A ++ encs (flat l)) else e = .ret ∧ T'.getD 2 undef = .slice none 0 0 ∧ T'.getD 3 undef = .int .i64 61 := by
 intro suf
 induction suf with
 | nil =>
  intro pre T S r hL hT h4 h20 h21 h22 hpre hp
  have hTe := jK.eta hT
  rw [h4, h20, h21, h22] at hTe
  have hr : zA Try.prog O false jK.jP T S = zA Try.prog O false jK.jP T S := rfl
  have d1 : ¬ (pre.length : Int) < (l.length : Int) := by rw [hpre]; simp
  conv at hr =>
   rhs
   rw [hTe]
   simp only [jK.jP, jK.code, jK.rs, zSs, reduceIte, Nat.reduceEqDiff, Int.reduceEq, Int.reduceLT, Int.reduceLE, d1]
  refine ⟨_, _, _, hL.symm.trans (wz hr (by simp)), ?_⟩
  rw [List.append_nil] at hpre
  rw [hpre, if_pos (List.all_eq_true.mpr hp)]
  exact ⟨rfl, rfl, rfl⟩
 | cons t suf ih =>
  intro pre T S r hL hT h4 h20 h21 h22 hpre hp
  have hTe := jK.eta hT
  rw [h4, h20, h21, h22] at hTe
  have hr : zA Try.prog O false jK.jP T S = zA Try.prog O false jK.jP T S := rfl
  have d1 : (pre.length : Int) < (l.length : Int) := by rw [hpre]; simp; omega
  have e1 := fun S => YW (S := S) hk hpre
  have wi : IntKind.i64.wrap ((pre.length : Int) + 1) = ((pre ++ [t]).length : Int) := by rw [wrap_i64 (by omega) (by omega)]; simp
  obtain ⟨S2, p1, p2, p3, p4⟩ := Ky S t
  have c1 : ∀ S, zQ Try.prog O 71 [.agg [Value.int .i64 t.id, .int .i64 t.fee].toArray] S = some (ai4 t, S) := fun S => yA.v t S
  unfold ai4 at c1
  by_cases ht : y7 t = true
  ·
   rw [if_pos ht] at c1
   have hb := abg ht
   have hf := Ym hp
   have hpl : pre.length ≤ 3 := by omega
   have ap : ∀ S, yj Try.prog 33 33 (by_ 2 (A ++ encs (flat pre))) (by_ 1 (txB t)) S = some (by_ 2 (A ++ encs (flat (pre ++ [t]))), S) := fun S => by
    rw [xE Okl.own (by decide) Okl.read (by simp; omega), Qc, vJ, ← List.append_assoc]; rfl
   conv at hr =>
    rhs
    rw [hTe]
    simp only [jK.jP, jK.code, jK.rs, zSs, reduceIte, Nat.reduceEqDiff, Int.reduceEq, Int.reduceLT, Int.reduceLE, d1, e1, kH, Jl, p1, Yv p2, c1, ap, wi]
   exact ih (pre ++ [t]) ((yR hr).symm.trans hL) rfl rfl rfl rfl rfl (by simp [hpre]) (fun x hx => by rcases List.mem_append.1 hx with h | h; { exact hp x h }; { simp at h; rw [h]; exact ht })
  ·
   rw [if_neg ht] at c1
   conv at hr =>
    rhs
    rw [hTe]
    simp only [jK.jP, jK.code, jK.rs, zSs, reduceIte, Nat.reduceEqDiff, Int.reduceEq, Int.reduceLT, Int.reduceLE, d1, e1, kH, Jl, p1, Yv p2, c1]
   refine ⟨_, _, _, hL.symm.trans (wz hr (by simp)), ?_⟩
   rw [if_neg (by rw [hpre]; simp [ht])]
   exact ⟨rfl, rfl, rfl⟩
theorem jK.v {k : Nat} {l : List TxV} (hk : Okl k l) (k2 : k ≠ 2) (hl : l.length ≤ 8796093022208) (S : zi) : zQ Try.prog O jK.id [tl k l] S = some (ahE l, S) := by
 obtain ⟨T, hTe⟩ : ∃ T, T = (tl k l :: undef :: undef :: undef :: undef :: undef :: undef :: undef :: undef :: undef :: undef :: undef :: undef :: undef :: undef :: undef :: undef :: undef :: undef :: undef :: undef :: undef :: undef :: undef :: undef :: undef :: undef :: undef :: undef :: undef :: undef :: undef :: undef :: undef :: undef :: undef :: undef :: undef :: undef :: []) := ⟨_, rfl⟩
 have hr : zA Try.prog O false jK.code T zi.empty = zA Try.prog O false jK.code T zi.empty := rfl
 have c1 := fun S => jr.v hk k2 hl S
 have cl : jH 16 (tl k l) = true := Zx hk.le fun _ _ => rfl
 unfold ahE vX
 by_cases hu : unl l = true
 ·
  have h3 : l.length ≤ 3 := by unfold unl at hu; simp at hu; exact hu.2
  have c2 := fun S => jk.v (l := [(l.length : Int)]) Okl.read (by decide) (by simp; omega) S
  have hA : (encs [(l.length : Int)]).length ≤ 100 := by
   have := ZB (l := [(l.length : Int)]) (by simp; omega)
   simp at this; omega
  conv at hr =>
   rhs
   rw [hTe]
   simp only [jK.code, jK.rs, zSs, reduceIte, Nat.reduceEqDiff, Int.reduceEq, Int.reduceLT, Int.reduceLE, if_neg k2, c1, hu, Zz hk, YC, ai8, c2, Ja (l := [(l.length : Int)]) (by simp) (by intro n hn; simp at hn; omega) (by simp)]
  generalize hL : qI (zA Try.prog O false jK.jP) _ _ = r at hr
  obtain ⟨e, T', S', rfl, g⟩ := jK.round hk h3 hA l [] hL rfl (by rw [show flat [] = [] from rfl, show encs [] = [] from rfl, List.append_nil]; rfl) rfl rfl rfl rfl (fun t h => by cases h)
  by_cases ha : l.all y7 = true
  ·
   rw [if_pos ha] at g
   obtain ⟨rfl, g2, g3⟩ := g
   have hTe' := jK.eta g2
   rw [g3] at hTe'
   conv at hr =>
    rhs
    rw [hTe']
    simp only [jK.code, jK.rs, zSs, reduceIte, Nat.reduceEqDiff, Int.reduceEq, Int.reduceLT, Int.reduceLE]
   rw [hTe] at hr
   rw [if_pos (by rw [hu, ha]; rfl), vG]
   exact jK.runs hr (.inr rfl) (by simp only [List.getD_cons_succ, List.getD_cons_zero, wB, wo, jM, jU, jZ]) rfl (all1 cl) (yP (all2 (qL (k := 2) (Nat.le_refl 2)) rfl))
  ·
   rw [if_neg ha] at g
   obtain ⟨rfl, g2, g3⟩ := g
   conv at hr =>
    rhs
    simp only [zSs, reduceIte, Nat.reduceEqDiff, Int.reduceEq, Int.reduceLT, Int.reduceLE]
   rw [hTe] at hr
   rw [if_neg (by rw [hu, Bool.true_and]; exact ha)]
   have hrun := jK.runs (S := S) hr (.inr rfl) (by rw [g2]; rfl) (by rw [g3]; rfl) (all1 cl) (by rw [g2, g3]; rfl)
   rw [g2, g3] at hrun
   exact hrun
 ·
  rw [Bool.not_eq_true] at hu
  conv at hr =>
   rhs
   rw [hTe]
   simp only [jK.code, jK.rs, zSs, reduceIte, Nat.reduceEqDiff, Int.reduceEq, Int.reduceLT, Int.reduceLE, if_neg k2, c1, hu]
  rw [hTe] at hr
  rw [if_neg (by rw [hu]; simp)]
  exact jK.runs hr (.inr rfl) rfl rfl (all1 cl) rfl
def good (l : List TxV) : Prop := (l.map TxV.id).Nodup ∧ ∀ t ∈ l, y7 t = true
theorem xU {l : List TxV} : vX l = true ↔ good l ∧ l.length ≤ 3 := by
 unfold vX unl good
 simp [and_assoc, and_comm, and_left_comm]
theorem zn.inner {k : Nat} {l : List TxV} (hk : Okl k l) (hl : l.length ≤ 3) {t : TxV} {q : Nat} :
  ∀ (suf pre : List TxV) {T : List Value} {S : zi} {r : St}, qI (zA Try.prog O false zn.jP) T S = r → T.length = 51 → T.getD 6 undef = .pointer (some ⟨q, 0, none⟩) → T.getD 27 undef = tl k l → T.getD 28 undef = .int .i64 l.length → T.getD 29 undef = .int .i64 pre.length → l = pre ++ suf →
  S.get q = some (.cells (fT t) (.own []) 0) → q < S.next →
  ∃ e T' S', r = some (e, T', S') ∧ Ext S S' ∧ if t.id ∈ suf.map TxV.id then e = .ret ∧ T'.getD 2 undef = .slice none 0 0 ∧ T'.getD 3 undef = .int .i64 61 else e = .exit 2 ∧ T'.length = 51 ∧
   T'.getD 0 undef = T.getD 0 undef ∧ T'.getD 4 undef = T.getD 4 undef ∧ T'.getD 6 undef = T.getD 6 undef ∧ T'.getD 15 undef = T.getD 15 undef ∧ T'.getD 16 undef = T.getD 16 undef ∧ T'.getD 17 undef = T.getD 17 undef := by
 intro suf
 induction suf with
 | nil =>
  intro pre T S r hL hT h6 h27 h28 h29 hpre hg hq
  have hTe := zn.eta hT
  rw [h27, h28, h29] at hTe
  have hr : zA Try.prog O false zn.jP T S = zA Try.prog O false zn.jP T S := rfl
  have d1 : ¬ (pre.length : Int) < (l.length : Int) := by rw [hpre]; simp
  conv at hr =>
   rhs
   rw [hTe]
   simp only [zn.jP, zn.code, zn.rs, zSs, reduceIte, Nat.reduceEqDiff, Int.reduceEq, Int.reduceLT, Int.reduceLE, d1]
  refine ⟨_, _, _, hL.symm.trans (wz hr (by simp)), Ext.refl _, ?_⟩
  rw [if_neg (by simp)]
  exact ⟨rfl, rfl, rfl, rfl, rfl, rfl, rfl, rfl⟩
 | cons u suf ih =>
  intro pre T S r hL hT h6 h27 h28 h29 hpre hg hq
  have hTe := zn.eta hT
  rw [h6, h27, h28, h29] at hTe
  have hr : zA Try.prog O false zn.jP T S = zA Try.prog O false zn.jP T S := rfl
  have d1 : (pre.length : Int) < (l.length : Int) := by rw [hpre]; simp; omega
  have e1 := fun S => YW (S := S) hk hpre
  have wi : IntKind.i64.wrap ((pre.length : Int) + 1) = ((pre ++ [u]).length : Int) := by rw [wrap_i64 (by omega) (by omega)]; simp
  obtain ⟨S2, p1, p2, p3, p4⟩ := Ky S u
  have g2 : S2.get q = some (.cells (fT t) (.own []) 0) := (p3.get q hq).trans hg
  by_cases ht : u.id = t.id
  ·
   conv at hr =>
    rhs
    rw [hTe]
    simp only [zn.jP, zn.code, zn.rs, zSs, reduceIte, Nat.reduceEqDiff, Int.reduceEq, Int.reduceLT, Int.reduceLE, d1, e1, kH, Jl, p1, kF, QH p2, QH g2, decide_eq_true ht]
   refine ⟨_, _, _, hL.symm.trans (wz hr (by simp)), p3, ?_⟩
   rw [if_pos (by simp [ht])]
   exact ⟨rfl, rfl, rfl⟩
  ·
   conv at hr =>
    rhs
    rw [hTe]
    simp only [zn.jP, zn.code, zn.rs, zSs, reduceIte, Nat.reduceEqDiff, Int.reduceEq, Int.reduceLT, Int.reduceLE, d1, e1, kH, Jl, p1, kF, QH p2, QH g2, decide_eq_false ht, wi]
   obtain ⟨e, T', S', i1, i2, i3⟩ := ih (pre ++ [u]) ((yR hr).symm.trans hL) rfl rfl rfl rfl rfl (by simp [hpre]) g2 (by omega)
   refine ⟨e, T', S', i1, p3.trans i2, ?_⟩
   have hm : t.id ∈ (u :: suf).map TxV.id ↔ t.id ∈ suf.map TxV.id := by
    simp only [List.map_cons, List.mem_cons]
    exact ⟨fun h => h.resolve_left (fun e => ht e.symm), .inr⟩
   by_cases hc : t.id ∈ suf.map TxV.id
   ·
    rw [if_pos hc] at i3
    rw [if_pos (hm.mpr hc)]
    exact i3
   ·
    rw [if_neg hc] at i3
    rw [if_neg (fun h => hc (hm.mp h))]
    obtain ⟨j1, j2, j3, j4, j5, j6, j7, j8⟩ := i3
    exact ⟨j1, j2, j3, j4, j5.trans h6.symm, j6, j7, j8⟩
theorem zn.round {k : Nat} {l : List TxV} (hk : Okl k l) (k2 : k ≠ 2) (hl : l.length ≤ 3) {n : Int} : ∀ (suf pre : List TxV) {T : List Value} {S : zi} {r : St}, qI (zA Try.prog O false zn.ZY) T S = r → T.length = 51 →
  T.getD 0 undef = tl k l → T.getD 4 undef = iz 2 (n :: flat pre) → T.getD 15 undef = tl k l → T.getD 16 undef = .int .i64 l.length → T.getD 17 undef = .int .i64 pre.length → l = pre ++ suf → good pre →
  ∃ e T' S', r = some (e, T', S') ∧ ((good l ∧ e = .exit 0 ∧ T'.length = 51 ∧ T'.getD 4 undef = iz 2 (n :: flat l)) ∨ (¬ good l ∧ e = .ret ∧ T'.getD 2 undef = .slice none 0 0 ∧ T'.getD 3 undef = .int .i64 61)) := by
 intro suf
 induction suf with
 | nil =>
  intro pre T S r hL hT h0 h4 h15 h16 h17 hpre hp
  have hTe := zn.eta hT
  rw [h0, h4, h15, h16, h17] at hTe
  have hr : zA Try.prog O false zn.ZY T S = zA Try.prog O false zn.ZY T S := rfl
  have d1 : ¬ (pre.length : Int) < (l.length : Int) := by rw [hpre]; simp
  conv at hr =>
   rhs
   rw [hTe]
   simp only [zn.ZY, zn.code, zn.rs, zSs, reduceIte, Nat.reduceEqDiff, Int.reduceEq, Int.reduceLT, Int.reduceLE, d1]
  refine ⟨_, _, _, hL.symm.trans (wz hr (by simp)), .inl ?_⟩
  rw [List.append_nil] at hpre
  rw [hpre]
  exact ⟨hp, rfl, rfl, rfl⟩
 | cons t suf ih =>
  intro pre T S r hL hT h0 h4 h15 h16 h17 hpre hp
  have hTe := zn.eta hT
  rw [h0, h4, h15, h16, h17] at hTe
  have hr : zA Try.prog O false zn.ZY T S = zA Try.prog O false zn.ZY T S := rfl
  have d1 : (pre.length : Int) < (l.length : Int) := by rw [hpre]; simp; omega
  have e1 := fun S => YW (S := S) hk hpre
  have wi : IntKind.i64.wrap ((pre.length : Int) + 1) = ((pre ++ [t]).length : Int) := by rw [wrap_i64 (by omega) (by omega)]; simp
  obtain ⟨S2, p1, p2, p3, p4⟩ := Ky S t
  have c1 : ∀ S, zQ Try.prog O 48 [.agg [Value.int .i64 t.id, .int .i64 t.fee].toArray] S = some (.bool (y7 t), S) := fun S => jh.v t S
  by_cases ht : y7 t = true
  ·
   have sl : ∀ S, Zu Try.prog 44 (tl k l) none (some (.int .i64 pre.length)) S = some (tl k pre, S) := fun S => by
    rw [ag4 hk rfl rfl (by omega) (by omega) (by omega), if_neg k2, hpre]
    simp
   have hkp : Okl k pre := ⟨hk.le, fun h => by have := hk.nil h; rw [hpre] at this; simp at this⟩
   conv at hr =>
    rhs
    rw [hTe]
    simp only [zn.ZY, zn.code, zn.rs, zSs, reduceIte, Nat.reduceEqDiff, Int.reduceEq, Int.reduceLT, Int.reduceLE, d1, e1, kH, Jl, p1, Yv p2, c1, ht, if_neg k2, sl, Zz hkp]
   generalize hL2 : qI (zA Try.prog O false zn.jP) _ _ = r2 at hr
   obtain ⟨e, T', S', rfl, g1, g⟩ := zn.inner (t := t) hkp (by rw [hpre] at hl; simp at hl; omega) pre [] hL2 rfl rfl rfl rfl rfl rfl p2 p4
   by_cases hin : t.id ∈ pre.map TxV.id
   ·
    rw [if_pos hin] at g
    obtain ⟨rfl, g2, g3⟩ := g
    conv at hr =>
     rhs
     simp only [zSs, reduceIte, Nat.reduceEqDiff, Int.reduceEq, Int.reduceLT, Int.reduceLE]
    refine ⟨_, _, _, hL.symm.trans (wz hr (by simp)), .inr ⟨?_, rfl, g2, g3⟩⟩
    intro hgd
    have := hgd.1
    rw [hpre] at this
    simp only [List.map_append, List.map_cons, List.nodup_append] at this
    exact this.2.2 _ hin _ (by simp) rfl
   ·
    rw [if_neg hin] at g
    obtain ⟨rfl, g2, f0, f4, f6, f15, f16, f17⟩ := g
    have hTe' := zn.eta g2
    rw [f0, f4, f6, f15, f16, f17] at hTe'
    simp only [List.getD_cons_succ, List.getD_cons_zero] at hTe'
    have g3 : S'.get S.next = some (.cells (fT t) (.own []) 0) := (g1.get _ p4).trans p2
    have ap : ∀ S, yj Try.prog 24 24 (iz 2 (n :: flat pre)) (iz 2 [t.id, t.fee]) S = some (iz 2 (n :: flat (pre ++ [t])), S) := fun S => by
     rw [Q5 Okl.own (by decide) Okl.own (by simp [Yk]; omega), Qc]; rfl
    conv at hr =>
     rhs
     rw [hTe']
     simp only [zn.code, zn.rs, zSs, reduceIte, Nat.reduceEqDiff, Int.reduceEq, Int.reduceLT, Int.reduceLE, kF, Zn, QH g3, ajx g3, Yx, aaR, ap, wi]
    refine ih (pre ++ [t]) ((yR hr).symm.trans hL) rfl rfl rfl rfl rfl rfl (by simp [hpre]) ?_
    refine ⟨?_, fun x hx => by rcases List.mem_append.1 hx with h | h; { exact hp.2 x h }; { simp at h; rw [h]; exact ht }⟩
    simp only [List.map_append, List.map_cons, List.map_nil, List.nodup_append]
    exact ⟨hp.1, by simp, fun a ha b hb => by simp at hb; subst hb; exact fun h => hin (h ▸ ha)⟩
  ·
   have ht' := ht
   rw [Bool.not_eq_true] at ht'
   conv at hr =>
    rhs
    rw [hTe]
    simp only [zn.ZY, zn.code, zn.rs, zSs, reduceIte, Nat.reduceEqDiff, Int.reduceEq, Int.reduceLT, Int.reduceLE, d1, e1, kH, Jl, p1, Yv p2, c1, ht']
   refine ⟨_, _, _, hL.symm.trans (wz hr (by simp)), .inr ⟨?_, rfl, rfl, rfl⟩⟩
   intro hgd
   exact ht (hgd.2 t (by rw [hpre]; simp))
theorem zn.v {k : Nat} {l : List TxV} (hk : Okl k l) (k2 : k ≠ 2) (hl : l.length ≤ 8796093022208) (S : zi) : zQ Try.prog O zn.id [tl k l] S = some (ahE l, S) := by
 obtain ⟨T, hTe⟩ : ∃ T, T = (tl k l :: undef :: undef :: undef :: undef :: undef :: undef :: undef :: undef :: undef :: undef :: undef :: undef :: undef :: undef :: undef :: undef :: undef :: undef :: undef :: undef :: undef :: undef :: undef :: undef :: undef :: undef :: undef :: undef :: undef :: undef :: undef :: undef :: undef :: undef :: undef :: undef :: undef :: undef :: undef :: undef :: undef :: undef :: undef :: undef :: undef :: undef :: undef :: undef :: undef :: undef :: []) := ⟨_, rfl⟩
 have hr : zA Try.prog O false zn.code T zi.empty = zA Try.prog O false zn.code T zi.empty := rfl
 have cl : jH 16 (tl k l) = true := Zx hk.le fun _ _ => rfl
 unfold ahE
 by_cases h3 : l.length ≤ 3
 ·
  have d3 : ¬ (3 : Int) < (l.length : Int) := by omega
  conv at hr =>
   rhs
   rw [hTe]
   simp only [zn.code, zn.rs, zSs, reduceIte, Nat.reduceEqDiff, Int.reduceEq, Int.reduceLT, Int.reduceLE, if_neg k2, Zz hk, d3, YC, ai8]
  generalize hL : qI (zA Try.prog O false zn.ZY) _ _ = r at hr
  obtain ⟨e, T', S', rfl, ⟨g0, rfl, g2, g3⟩ | ⟨g0, rfl, g2, g3⟩⟩ := zn.round hk k2 h3 l [] hL rfl rfl rfl rfl rfl rfl rfl ⟨List.nodup_nil, fun t h => by cases h⟩
  ·
   have hTe' := zn.eta g2
   rw [g3] at hTe'
   have few := X3 g0.2
   have c2 := fun S => zu.v (l := (l.length : Int) :: flat l) Okl.read (by decide) (by intro n hn; rcases List.mem_cons.1 hn with rfl | hn; { omega }; { have := few n hn; omega }) S
   have n2 := Ja (k := 2) (l := (l.length : Int) :: flat l) (by simp [Yk]; omega) (by intro n hn; rcases List.mem_cons.1 hn with rfl | hn; { omega }; { have := few n hn; omega }) (by simp)
   conv at hr =>
    rhs
    rw [hTe']
    simp only [zn.code, zn.rs, zSs, reduceIte, Nat.reduceEqDiff, Int.reduceEq, Int.reduceLT, Int.reduceLE, c2, n2]
   rw [hTe] at hr
   rw [if_pos (xU.mpr ⟨g0, h3⟩)]
   exact zn.runs hr (.inr rfl) (by simp only [List.getD_cons_succ, List.getD_cons_zero, wB, wo, jM, jU, jZ]) rfl (all1 cl) (yP (all2 (qL (k := 2) (Nat.le_refl 2)) rfl))
  ·
   conv at hr =>
    rhs
    simp only [zSs, reduceIte, Nat.reduceEqDiff, Int.reduceEq, Int.reduceLT, Int.reduceLE]
   rw [hTe] at hr
   rw [if_neg (fun h => g0 (xU.mp h).1)]
   have hrun := zn.runs (S := S) hr (.inr rfl) (by rw [g2]; rfl) (by rw [g3]; rfl) (all1 cl) (by rw [g2, g3]; rfl)
   rw [g2, g3] at hrun
   exact hrun
 ·
  have d3 : (3 : Int) < (l.length : Int) := by omega
  conv at hr =>
   rhs
   rw [hTe]
   simp only [zn.code, zn.rs, zSs, reduceIte, Nat.reduceEqDiff, Int.reduceEq, Int.reduceLT, Int.reduceLE, if_neg k2, Zz hk, d3]
  rw [hTe] at hr
  rw [if_neg (fun h => h3 (xU.mp h).2)]
  exact zn.runs hr (.inr rfl) rfl rfl (all1 cl) rfl
end Go.Proofs.Ytfjogganfjkckaa
namespace Go.Abs
variable {P : Program} {t : TypeId} {xs ys : Array Value} {d : Nat}
theorem YF (P : Program) : qy P program = some P := rfl
def FEq (P : Program) (d : Nat) (xs ys : Array Value) : List Field → List Bool → Prop
 | [], [] => True
 | f :: fs, b :: bs => (f.name ≠ "_" ∧ ∃ v w, qy P (part f.type xs f.offset) = some v ∧ qy P (part f.type ys f.offset) = some w ∧ qy P (Op.equalIn d f.type v w) = some b) ∧ FEq P d xs ys fs bs
 | _, _ => False
theorem ae1 {fs : List Field} (hu : P.underlying t = some (.struct fs.toArray)) (hs : P.stoodInHeld t = false) {bs : List Bool} (h : FEq P d xs ys fs bs) : qy P (Op.equalIn (d + 1) t (.agg xs) (.agg ys)) = some (bs.all id) := by
 rw [Op.equalIn]
 simp only [qA, xW hu, Option.bind_some, YF, hs, Bool.false_eq_true, if_false, List.forIn_toArray]
 clear hu hs
 induction fs generalizing bs with
 | nil =>
  cases bs with
  | nil => rfl
  | cons b bs => exact absurd h id
 | cons f fs ih =>
  cases bs with
  | nil => exact absurd h id
  | cons b bs =>
   obtain ⟨⟨h1, v, w, h2, h3, h4⟩, h5⟩ := h
   rw [List.forIn_cons]
   simp only [qA, if_pos h1, h2, h3, h4, Option.bind_some]
   cases b with
   | true =>
    simp only [Bool.not_true, Bool.false_eq_true, if_false, wS, Option.bind_some, List.all_cons, id, Bool.true_and]
    exact ih h5
   | false =>
    simp only [Bool.not_false, if_true, wS, Option.bind_some, List.all_cons, id, Bool.false_and]
theorem adx {fs : List Field} {S : zi} (hu : P.underlying t = some (.struct fs.toArray)) (hs : P.stoodInHeld t = false) (hg : P.eqGuardType P.depth t = false) {bs : List Bool} (h : FEq P 9999 xs ys fs bs)
  (gx : ground (.agg xs) = true) (gy : ground (.agg ys) = true) : jX P .eql t (.agg xs) (.agg ys) S = some (.bool (bs.all id), S) ∧ jX P .neq t (.agg xs) (.agg ys) S = some (.bool (!bs.all id), S) := by
 rw [abP, abP]
 have e : qy P (Op.equal t (.agg xs) (.agg ys)) = some (bs.all id) := ae1 hu hs h
 have g : qy P (eqGuard .eql t (.tmp 0) (.tmp 0) (.agg xs) (.agg ys)) = some () := by
  unfold eqGuard
  simp only [Bool.not_true, Bool.false_eq_true, if_false, qA, YF, Option.bind_some, hg, Bool.not_false, if_true]
  rfl
 have g' : qy P (eqGuard .neq t (.tmp 0) (.tmp 0) (.agg xs) (.agg ys)) = some () := by
  unfold eqGuard
  simp only [Bool.not_true, Bool.false_eq_true, if_false, qA, YF, Option.bind_some, hg, Bool.not_false, if_true]
  rfl
 have ha : [Value.agg xs, .agg ys].all ground = true := by simp [gx, gy]
 constructor
 ·
  unfold Jd xw
  simp only [hu]
  show qg P [Value.agg xs, .agg ys] _ S = _
  refine wW ha ?_ rfl
  simp only [qA, g, Option.bind_some]
  unfold binOp
  simp only [qA, e, Option.bind_some, wS]
 ·
  unfold Jd xw
  simp only [hu]
  show qg P [Value.agg xs, .agg ys] _ S = _
  refine wW ha ?_ rfl
  simp only [qA, g', Option.bind_some]
  unfold binOp
  simp only [qA, e, Option.bind_some, wS]
end Go.Abs
namespace Go.Proofs.Ytfjogganfjkckaa
open Go.Abs
theorem TxV.ext_iff' {t u : TxV} : t = u ↔ t.id = u.id ∧ t.fee = u.fee := by cases t; cases u; simp
theorem agk (t u : TxV) (S : zi) : jX Try.prog .eql 43 (tv t) (tv u) S = some (.bool (decide (t = u)), S) ∧ jX Try.prog .neq 43 (tv t) (tv u) S = some (.bool (!decide (t = u)), S) := by
 have h := adx (S := S) (xs := #[Value.int .i64 t.id, .int .i64 t.fee]) (ys := #[Value.int .i64 u.id, .int .i64 u.fee]) (bs := [t.id == u.id, t.fee == u.fee]) agV (by kernel_rfl) (by kernel_rfl)
  ⟨⟨by decide, .int .i64 t.id, .int .i64 u.id, by kernel_rfl, by kernel_rfl, by kernel_rfl⟩, ⟨by decide, .int .i64 t.fee, .int .i64 u.fee, by kernel_rfl, by kernel_rfl, by kernel_rfl⟩, trivial⟩ rfl rfl
 have e : [t.id == u.id, t.fee == u.fee].all id = decide (t = u) := by
  rw [Bool.eq_iff_iff]
  simp [TxV.ext_iff']
 rw [e] at h
 exact h
theorem zx.round {k j : Nat} {a b : List TxV} (hk : Okl k a) (hj : Okl j b) (k2 : k ≠ 2) (j2 : j ≠ 2) (hab : a.length = b.length) (hlen : a.length ≤ 17592186044416) {S : zi} : ∀ (sa sb pa pb : List TxV) {T : List Value} {r : St}, qI (zA Try.prog O false zx.jP) T S = r → T.length = 26 →
  T.getD 0 undef = tl k a → T.getD 1 undef = tl j b → T.getD 12 undef = .int .i64 a.length → T.getD 13 undef = .int .i64 pa.length → a = pa ++ sa → b = pb ++ sb → pa.length = pb.length → pa = pb →
  ∃ e T', r = some (e, T', S) ∧ if a = b then e = .exit 0 ∧ T'.length = 26 else e = .ret ∧ T'.getD 4 undef = .bool false := by
 intro sa
 induction sa with
 | nil =>
  intro sb pa pb T r hL hT h0 h1 h12 h13 ha hb hp hpp
  have hTe := zx.eta hT
  rw [h0, h1, h12, h13] at hTe
  have hr : zA Try.prog O false zx.jP T S = zA Try.prog O false zx.jP T S := rfl
  have hd : ¬ (pa.length : Int) < (a.length : Int) := by rw [ha]; simp
  conv at hr =>
   rhs
   rw [hTe]
   simp only [zx.jP, zx.code, zx.rs, zSs, reduceIte, Nat.reduceEqDiff, Int.reduceEq, Int.reduceLT, Int.reduceLE, hd]
  have hsb : sb = [] := by rw [ha, hb] at hab; simp [hp] at hab; exact hab
  refine ⟨_, _, hL.symm.trans (wz hr (by simp)), ?_⟩
  rw [if_pos (by rw [ha, hb, hsb, hpp])]
  exact ⟨rfl, rfl⟩
 | cons x sa ih =>
  intro sb pa pb T r hL hT h0 h1 h12 h13 ha hb hp hpp
  have hTe := zx.eta hT
  rw [h0, h1, h12, h13] at hTe
  have hr : zA Try.prog O false zx.jP T S = zA Try.prog O false zx.jP T S := rfl
  have hd : (pa.length : Int) < (a.length : Int) := by rw [ha]; simp; omega
  cases sb with
  | nil => rw [ha, hb] at hab; simp [hp] at hab
  | cons y sb =>
   have e1 := fun S => YW (S := S) hk ha
   have e2 : ∀ S, jB Try.prog 44 (tl j b) (.int .i64 pa.length) S = some (EP [.int .i64 y.id, .int .i64 y.fee], S) := fun S => by rw [hp]; exact YW hj hb
   have wi : IntKind.i64.wrap ((pa.length : Int) + 1) = ((pa ++ [x]).length : Int) := by rw [wrap_i64 (by omega) (by omega)]; simp
   have q : ∀ S, jX Try.prog .neq 43 (.agg [Value.int .i64 x.id, .int .i64 x.fee].toArray) (.agg [Value.int .i64 y.id, .int .i64 y.fee].toArray) S = some (.bool (!decide (x = y)), S) := fun S => (agk x y S).2
   by_cases hxy : x = y
   ·
    conv at hr =>
     rhs
     rw [hTe]
     simp only [zx.jP, zx.code, zx.rs, zSs, reduceIte, Nat.reduceEqDiff, Int.reduceEq, Int.reduceLT, Int.reduceLE, hd, if_neg k2, if_neg j2, e1, e2, kH, q, decide_eq_true hxy, wi]
    subst hxy
    exact ih sb (pa ++ [x]) (pb ++ [x]) ((yR hr).symm.trans hL) rfl rfl rfl rfl rfl (by simp [ha]) (by simp [hb]) (by simp [hp]) (by rw [hpp])
   ·
    conv at hr =>
     rhs
     rw [hTe]
     simp only [zx.jP, zx.code, zx.rs, zSs, reduceIte, Nat.reduceEqDiff, Int.reduceEq, Int.reduceLT, Int.reduceLE, hd, if_neg k2, if_neg j2, e1, e2, kH, q, decide_eq_false hxy]
    refine ⟨_, _, hL.symm.trans (wz hr (by simp)), ?_⟩
    rw [if_neg (by rw [ha, hb, hpp]; simp [hxy])]
    exact ⟨rfl, rfl⟩
theorem zx.v {k j : Nat} {a b : List TxV} (hk : Okl k a) (hj : Okl j b) (k2 : k ≠ 2) (j2 : j ≠ 2) (hlen : a.length ≤ 17592186044416) (S : zi) : zQ Try.prog O zx.id [tl k a, tl j b] S = some (.bool (decide (a = b)), S) := by
 obtain ⟨T, hTe⟩ : ∃ T, T = (tl k a :: tl j b :: undef :: undef :: undef :: undef :: undef :: undef :: undef :: undef :: undef :: undef :: undef :: undef :: undef :: undef :: undef :: undef :: undef :: undef :: undef :: undef :: undef :: undef :: undef :: undef :: []) := ⟨_, rfl⟩
 have hr : zA Try.prog O false zx.code T S = zA Try.prog O false zx.code T S := rfl
 by_cases hab : a.length = b.length
 ·
  have d1 : ¬ (a.length : Int) ≠ (b.length : Int) := by omega
  conv at hr =>
   rhs
   rw [hTe]
   simp only [zx.code, zx.rs, zSs, reduceIte, Nat.reduceEqDiff, Int.reduceEq, Int.reduceLT, Int.reduceLE, if_neg k2, if_neg j2, Zz hk, Zz hj, hab]
  rw [← hab] at hr
  generalize hL : qI (zA Try.prog O false zx.jP) _ _ = r at hr
  obtain ⟨e, T', rfl, g⟩ := zx.round hk hj k2 j2 hab hlen a b [] [] hL rfl rfl rfl rfl rfl rfl rfl rfl rfl
  by_cases h : a = b
  ·
   rw [if_pos h] at g
   obtain ⟨rfl, g2⟩ := g
   have hTe' := zx.eta g2
   conv at hr =>
    rhs
    rw [hTe']
    simp only [zx.code, zx.rs, zSs, reduceIte, Nat.reduceEqDiff, Int.reduceEq, Int.reduceLT, Int.reduceLE]
   rw [hTe] at hr
   rw [decide_eq_true h]
   exact zx.runs hr (.inr rfl)
  ·
   rw [if_neg h] at g
   obtain ⟨rfl, g2⟩ := g
   conv at hr =>
    rhs
    simp only [zSs, reduceIte, Nat.reduceEqDiff, Int.reduceEq, Int.reduceLT, Int.reduceLE]
   rw [hTe] at hr
   have hrun := zx.runs hr (.inr rfl)
   rw [g2] at hrun
   rw [decide_eq_false h]
   exact hrun
 ·
  have d1 : ¬ (a.length : Int) = (b.length : Int) := by omega
  conv at hr =>
   rhs
   rw [hTe]
   simp only [zx.code, zx.rs, zSs, reduceIte, Nat.reduceEqDiff, Int.reduceEq, Int.reduceLT, Int.reduceLE, if_neg k2, if_neg j2, Zz hk, Zz hj, d1]
  rw [hTe] at hr
  rw [decide_eq_false (fun h : a = b => hab (by rw [h]))]
  exact zx.runs hr (.inr rfl)
theorem slices_Equal.round {k j : Nat} {a b : List TxV} (hk : Okl k a) (hj : Okl j b) (k2 : k ≠ 2) (j2 : j ≠ 2) (hab : a.length = b.length) (hlen : a.length ≤ 17592186044416) {S : zi} : ∀ (sa sb pa pb : List TxV) {T : List Value} {r : St}, qI (zA Try.prog O false slices_Equal.jP) T S = r → T.length = 26 →
  T.getD 0 undef = tl k a → T.getD 1 undef = tl j b → T.getD 12 undef = .int .i64 a.length → T.getD 13 undef = .int .i64 pa.length → a = pa ++ sa → b = pb ++ sb → pa.length = pb.length → pa = pb →
  ∃ e T', r = some (e, T', S) ∧ if a = b then e = .exit 0 ∧ T'.length = 26 else e = .ret ∧ T'.getD 4 undef = .bool false := by
 intro sa
 induction sa with
 | nil =>
  intro sb pa pb T r hL hT h0 h1 h12 h13 ha hb hp hpp
  have hTe := slices_Equal.eta hT
  rw [h0, h1, h12, h13] at hTe
  have hr : zA Try.prog O false slices_Equal.jP T S = zA Try.prog O false slices_Equal.jP T S := rfl
  have hd : ¬ (pa.length : Int) < (a.length : Int) := by rw [ha]; simp
  conv at hr =>
   rhs
   rw [hTe]
   simp only [slices_Equal.jP, slices_Equal.code, slices_Equal.rs, zSs, reduceIte, Nat.reduceEqDiff, Int.reduceEq, Int.reduceLT, Int.reduceLE, hd]
  have hsb : sb = [] := by rw [ha, hb] at hab; simp [hp] at hab; exact hab
  refine ⟨_, _, hL.symm.trans (wz hr (by simp)), ?_⟩
  rw [if_pos (by rw [ha, hb, hsb, hpp])]
  exact ⟨rfl, rfl⟩
 | cons x sa ih =>
  intro sb pa pb T r hL hT h0 h1 h12 h13 ha hb hp hpp
  have hTe := slices_Equal.eta hT
  rw [h0, h1, h12, h13] at hTe
  have hr : zA Try.prog O false slices_Equal.jP T S = zA Try.prog O false slices_Equal.jP T S := rfl
  have hd : (pa.length : Int) < (a.length : Int) := by rw [ha]; simp; omega
  cases sb with
  | nil => rw [ha, hb] at hab; simp [hp] at hab
  | cons y sb =>
   have e1 := fun S => YW (S := S) hk ha
   have e2 : ∀ S, jB Try.prog 44 (tl j b) (.int .i64 pa.length) S = some (EP [.int .i64 y.id, .int .i64 y.fee], S) := fun S => by rw [hp]; exact YW hj hb
   have wi : IntKind.i64.wrap ((pa.length : Int) + 1) = ((pa ++ [x]).length : Int) := by rw [wrap_i64 (by omega) (by omega)]; simp
   have q : ∀ S, jX Try.prog .neq 43 (.agg [Value.int .i64 x.id, .int .i64 x.fee].toArray) (.agg [Value.int .i64 y.id, .int .i64 y.fee].toArray) S = some (.bool (!decide (x = y)), S) := fun S => (agk x y S).2
   by_cases hxy : x = y
   ·
    conv at hr =>
     rhs
     rw [hTe]
     simp only [slices_Equal.jP, slices_Equal.code, slices_Equal.rs, zSs, reduceIte, Nat.reduceEqDiff, Int.reduceEq, Int.reduceLT, Int.reduceLE, hd, if_neg k2, if_neg j2, e1, e2, kH, q, decide_eq_true hxy, wi]
    subst hxy
    exact ih sb (pa ++ [x]) (pb ++ [x]) ((yR hr).symm.trans hL) rfl rfl rfl rfl rfl (by simp [ha]) (by simp [hb]) (by simp [hp]) (by rw [hpp])
   ·
    conv at hr =>
     rhs
     rw [hTe]
     simp only [slices_Equal.jP, slices_Equal.code, slices_Equal.rs, zSs, reduceIte, Nat.reduceEqDiff, Int.reduceEq, Int.reduceLT, Int.reduceLE, hd, if_neg k2, if_neg j2, e1, e2, kH, q, decide_eq_false hxy]
    refine ⟨_, _, hL.symm.trans (wz hr (by simp)), ?_⟩
    rw [if_neg (by rw [ha, hb, hpp]; simp [hxy])]
    exact ⟨rfl, rfl⟩
theorem slices_Equal.v {k j : Nat} {a b : List TxV} (hk : Okl k a) (hj : Okl j b) (k2 : k ≠ 2) (j2 : j ≠ 2) (hlen : a.length ≤ 17592186044416) (S : zi) : zQ Try.prog O slices_Equal.id [tl k a, tl j b] S = some (.bool (decide (a = b)), S) := by
 obtain ⟨T, hTe⟩ : ∃ T, T = (tl k a :: tl j b :: undef :: undef :: undef :: undef :: undef :: undef :: undef :: undef :: undef :: undef :: undef :: undef :: undef :: undef :: undef :: undef :: undef :: undef :: undef :: undef :: undef :: undef :: undef :: undef :: []) := ⟨_, rfl⟩
 have hr : zA Try.prog O false slices_Equal.code T S = zA Try.prog O false slices_Equal.code T S := rfl
 by_cases hab : a.length = b.length
 ·
  have d1 : ¬ (a.length : Int) ≠ (b.length : Int) := by omega
  conv at hr =>
   rhs
   rw [hTe]
   simp only [slices_Equal.code, slices_Equal.rs, zSs, reduceIte, Nat.reduceEqDiff, Int.reduceEq, Int.reduceLT, Int.reduceLE, if_neg k2, if_neg j2, Zz hk, Zz hj, hab]
  rw [← hab] at hr
  generalize hL : qI (zA Try.prog O false slices_Equal.jP) _ _ = r at hr
  obtain ⟨e, T', rfl, g⟩ := slices_Equal.round hk hj k2 j2 hab hlen a b [] [] hL rfl rfl rfl rfl rfl rfl rfl rfl rfl
  by_cases h : a = b
  ·
   rw [if_pos h] at g
   obtain ⟨rfl, g2⟩ := g
   have hTe' := slices_Equal.eta g2
   conv at hr =>
    rhs
    rw [hTe']
    simp only [slices_Equal.code, slices_Equal.rs, zSs, reduceIte, Nat.reduceEqDiff, Int.reduceEq, Int.reduceLT, Int.reduceLE]
   rw [hTe] at hr
   rw [decide_eq_true h]
   exact slices_Equal.runs hr (.inr rfl)
  ·
   rw [if_neg h] at g
   obtain ⟨rfl, g2⟩ := g
   conv at hr =>
    rhs
    simp only [zSs, reduceIte, Nat.reduceEqDiff, Int.reduceEq, Int.reduceLT, Int.reduceLE]
   rw [hTe] at hr
   have hrun := slices_Equal.runs hr (.inr rfl)
   rw [g2] at hrun
   rw [decide_eq_false h]
   exact hrun
 ·
  have d1 : ¬ (a.length : Int) = (b.length : Int) := by omega
  conv at hr =>
   rhs
   rw [hTe]
   simp only [slices_Equal.code, slices_Equal.rs, zSs, reduceIte, Nat.reduceEqDiff, Int.reduceEq, Int.reduceLT, Int.reduceLE, if_neg k2, if_neg j2, Zz hk, Zz hj, d1]
  rw [hTe] at hr
  rw [decide_eq_false (fun h : a = b => hab (by rw [h]))]
  exact slices_Equal.runs hr (.inr rfl)
theorem agF : ∀ {a b : List TxV}, flat a = flat b → a = b := by
 intro a
 induction a with
 | nil => intro b h; cases b with
  | nil => rfl
  | cons u b => simp [flat] at h
 | cons t a ih =>
  intro b h
  cases b with
  | nil => simp [flat] at h
  | cons u b =>
   have h' : [t.id, t.fee] ++ flat a = [u.id, u.fee] ++ flat b := h
   simp at h'
   rw [ih h'.2.2, TxV.ext_iff'.mpr ⟨h'.1, h'.2.1⟩]
theorem ahL {l : List TxV} (h : ∀ t ∈ l, y7 t = true) : ∀ n ∈ flat l, Few n := fun n hn => by have := X3 h n hn; unfold Few; omega
theorem aeN {a b : List TxV} {r s : List UInt8} (la : a.length ≤ 1000) (lb : b.length ≤ 1000) (ha : ∀ t ∈ a, y7 t = true) (hb : ∀ t ∈ b, y7 t = true) (h : aaI a ++ r = aaI b ++ s) : a = b ∧ r = s := by
 rw [vG, vG, List.append_assoc, List.append_assoc] at h
 obtain ⟨h1, h2⟩ := JF (a := [(a.length : Int)]) (c := [(b.length : Int)]) rfl (by simp [Few]; omega) (by simp [Few]; omega) h
 simp at h1
 obtain ⟨h3, h4⟩ := JF (by rw [Yk, Yk]; omega) (ahL ha) (ahL hb) h2
 exact ⟨agF h3, h4⟩
theorem acp {a b : List TxV} {r s : List UInt8} (ha : vX a = true) (hb : vX b = true) (h : aaI a ++ r = aaI b ++ s) : a = b ∧ r = s := by
 obtain ⟨h1, h2⟩ := xU.mp ha
 obtain ⟨h3, h4⟩ := xU.mp hb
 exact aeN (by omega) (by omega) h1.2 h3.2 h
noncomputable def Zq (l : List UInt8) : Option (List TxV) := rd (fun t => vX t = true) aaI l
theorem ZU (l : List UInt8) (t : List TxV) : Zq l = some t ↔ vX t = true ∧ l = aaI t :=
 aey (fun x y hx hy h => (acp (r := []) (s := []) hx hy (by simpa using h)).1) l t
theorem ac0 {l : List UInt8} (h : ∀ t, ¬ (vX t = true ∧ l = aaI t)) : Zq l = none := by
 cases hr : Zq l with
 | none => rfl
 | some t => exact absurd ((ZU l t).mp hr) (h t)
noncomputable def abN (k : Nat) (l : List UInt8) : Value := match Zq l with
 | some t => .tuple #[tl (if t = [] then k else 2) t, .int .i64 0]
 | none => .tuple #[.slice none 0 0, .int .i64 61]
def Wn : Nat → List UInt8 → Option (List TxV × List UInt8)
 | 0, l => some ([], l)
 | m + 1, l => match yV 2 l with
  | some ([a, b], r) => if y7 ⟨a, b⟩ then (match Wn m r with
   | some (x, y) => some (⟨a, b⟩ :: x, y)
   | none => none) else none
  | _ => none
theorem Xc : ∀ (m : Nat) (l : List UInt8) (a : List TxV) (b : List UInt8), Wn m l = some (a, b) ↔ a.length = m ∧ (∀ t ∈ a, y7 t = true) ∧ l = encs (flat a) ++ b := by
 intro m
 induction m with
 | zero =>
  intro l a b
  constructor
  ·
   intro h; cases h; exact ⟨rfl, (fun t h => by cases h), rfl⟩
  ·
   rintro ⟨h1, h2, h3⟩
   have : a = [] := List.length_eq_zero_iff.mp h1
   subst this
   rw [h3]; rfl
 | succ m ih =>
  intro l a b
  rw [Wn]
  constructor
  ·
   intro h
   rcases Vr l with hn | ⟨x, y, r, hn, hlr⟩
   ·
    rw [hn] at h; cases h
   ·
    rw [hn] at h
    dsimp only at h
    split at h
    ·
     rename_i hok
     cases hr : Wn m r with
     | none => rw [hr] at h; cases h
     | some ab =>
      obtain ⟨a', b'⟩ := ab
      rw [hr] at h
      obtain ⟨h1, h2, h3⟩ := (ih r a' b').mp hr
      cases h
      obtain ⟨f1, f2, f3⟩ := (yS _ _ _ _).mp hn
      refine ⟨by simp [h1], fun t ht => ?_, ?_⟩
      ·
       rcases List.mem_cons.1 ht with rfl | ht
       ·
        exact hok
       ·
        exact h2 t ht
      ·
       rw [f2, h3, show flat (⟨x, y⟩ :: a') = [x, y] ++ flat a' from rfl, vJ, List.append_assoc]
    ·
     cases h
  ·
   rintro ⟨h1, h2, h3⟩
   cases a with
   | nil => simp at h1
   | cons t a =>
    have ht := h2 t (by simp)
    obtain ⟨b1, b2, b3, b4⟩ := kL.mp ht
    have hn := (yS 2 l [t.id, t.fee] (encs (flat a) ++ b)).mpr ⟨rfl, by rw [h3, show flat (t :: a) = [t.id, t.fee] ++ flat a from rfl, vJ, List.append_assoc], by simp [Few]; omega⟩
    rw [hn]
    dsimp only
    rw [if_pos ht, (ih (encs (flat a) ++ b) a b).mpr ⟨by simpa using h1, fun u hu => h2 u (by simp [hu]), rfl⟩]
theorem ai0 (l : List UInt8) : yV 1 l = none ∨ ∃ a r, yV 1 l = some ([a], r) ∧ r.length ≤ l.length := by
 cases h : yV 1 l with
 | none => exact .inl rfl
 | some ar =>
  obtain ⟨a, r⟩ := ar
  obtain ⟨h1, h2⟩ := JV h
  match a, h1 with
  | [x], _ => exact .inr ⟨x, r, rfl, h2⟩
theorem JM {l r : List UInt8} {n : Int} (h : yV 1 l = some ([n], r)) (t : List TxV) : Zq l = some t ↔ 0 ≤ n ∧ n ≤ 3 ∧ Wn n.toNat r = some (t, []) ∧ unl t = true := by
 obtain ⟨_, h2, h3⟩ := (yS _ _ _ _).mp h
 rw [ZU, Xc]
 constructor
 ·
  rintro ⟨g1, g2⟩
  obtain ⟨h5, h6⟩ := xU.mp g1
  rw [vG, h2] at g2
  obtain ⟨h7, h8⟩ := JF (a := [n]) (c := [(t.length : Int)]) rfl h3 (by simp [Few]; omega) g2
  simp at h7
  refine ⟨by omega, by omega, ⟨by omega, h5.2, by simpa using h8⟩, ?_⟩
  unfold vX at g1
  simp at g1
  exact g1.1
 ·
  rintro ⟨g1, g2, ⟨g3, g4, g5⟩, g6⟩
  refine ⟨?_, ?_⟩
  ·
   unfold vX
   rw [g6, Bool.true_and, List.all_eq_true]
   exact g4
  ·
   have : n = (t.length : Int) := by omega
   rw [h2, g5, List.append_nil, vG, this]
theorem Vw {l : List UInt8} (h : yV 1 l = none) : Zq l = none := by
 refine ac0 fun t ht => ?_
 obtain ⟨h5, h6⟩ := xU.mp ht.1
 have := (yS 1 l [(t.length : Int)] (encs (flat t))).mpr ⟨rfl, by rw [ht.2, vG], by simp [Few]; omega⟩
 rw [h] at this
 cases this
end Go.Proofs.Ytfjogganfjkckaa
namespace Go.Proofs.Ytfjogganfjkckaa
open Go.Abs
theorem ahY (t : TxV) (S : zi) : jR Try.prog 44 1 [(0, tv t)] S = some (tl 2 [t], S) := by kernel_rfl
theorem aks (k : Nat) (hk : k ≤ 2) (a : Int) (h : k ≠ 0) (S : zi) : jB Try.prog 24 (iz k [a]) (.int .i64 0) S = some (EP [.int .i64 a], S) := aa1 ⟨hk, fun h0 => absurd h0 h⟩ (by decide) (by simp)
theorem aem {k : Nat} (hk : k ≤ 2) (l : List TxV) : Okl (if l = [] then k else 2) l := ⟨by split <;> omega, fun h => by split at h <;> first | assumption | omega⟩
theorem zH.round {n : Int} (hn : n ≤ 3) : ∀ (m : Nat) (i : Int) (rest : List UInt8) (out : List TxV) {T : List Value} {S : zi} {r : St}, qI (zA Try.prog O false zH.jP) T S = r → T.length = 59 →
  T.getD 5 undef = by_ 2 rest → T.getD 7 undef = tl (if out = [] then 0 else 2) out → T.getD 33 undef = .int .i64 n → T.getD 34 undef = .int .i64 i → 0 ≤ i → n = i + m → out.length ≤ 3 - m → rest.length ≤ 140737488355328 →
  ∃ e T' S', r = some (e, T', S') ∧ match Wn m rest with
   | some (ts, r') => e = .exit 0 ∧ T'.length = 59 ∧ T'.getD 5 undef = by_ 2 r' ∧ T'.getD 7 undef = tl (if out ++ ts = [] then 0 else 2) (out ++ ts)
   | none => e = .ret ∧ T'.getD 2 undef = .slice none 0 0 ∧ T'.getD 3 undef = .int .i64 61 := by
 intro m
 induction m with
 | zero =>
  intro i rest out T S r hL hT h5 h7 h33 h34 hi hm ho hl
  have hTe := zH.eta hT
  rw [h5, h7, h33, h34] at hTe
  have hr : zA Try.prog O false zH.jP T S = zA Try.prog O false zH.jP T S := rfl
  have d1 : ¬ i < n := by omega
  conv at hr =>
   rhs
   rw [hTe]
   simp only [zH.jP, zH.code, zH.rs, zSs, reduceIte, Nat.reduceEqDiff, Int.reduceEq, Int.reduceLT, Int.reduceLE, d1]
  refine ⟨_, _, _, hL.symm.trans (wz hr (by simp)), ?_⟩
  rw [Wn]
  exact ⟨rfl, rfl, rfl, by rw [List.append_nil]; rfl⟩
 | succ m ih =>
  intro i rest out T S r hL hT h5 h7 h33 h34 hi hm ho hl
  have hTe := zH.eta hT
  rw [h5, h7, h33, h34] at hTe
  have hr : zA Try.prog O false zH.jP T S = zA Try.prog O false zH.jP T S := rfl
  have d1 : i < n := by omega
  have c1 := fun S => wK.v (k := 1) (l := rest) Okl.read (by decide) hl S
  unfold agq at c1
  rw [Wn]
  rcases Vr rest with h | ⟨a, b, q, h, hlr⟩
  ·
   rw [h] at c1
   rw [h]
   obtain ⟨S2, p1, p2, p3, p4⟩ := Ky S ⟨0, 0⟩
   conv at hr =>
    rhs
    rw [hTe]
    simp only [zH.jP, zH.code, zH.rs, zSs, reduceIte, Nat.reduceEqDiff, Int.reduceEq, Int.reduceLT, Int.reduceLE, d1, c1, Jl, p1]
   exact ⟨_, _, _, hL.symm.trans (wz hr (by simp)), rfl, rfl, rfl⟩
  ·
   rw [h] at c1
   rw [h]
   obtain ⟨S2, p1, p2, p3, p4⟩ := Ky S ⟨a, b⟩
   by_cases hok : y7 ⟨a, b⟩ = true
   ·
    have wi : IntKind.i64.wrap (i + 1) = i + 1 := wrap_i64 (by omega) (by omega)
    have ap : ∀ S, yj Try.prog 44 44 (tl (if out = [] then 0 else 2) out) (tl 2 [⟨a, b⟩]) S = some (tl 2 (out ++ [⟨a, b⟩]), S) := fun S => aij ⟨by split <;> omega, fun h => by split at h <;> first | assumption | omega⟩ (by split <;> omega) (by omega)
    have c2 : ∀ S, jR Try.prog 44 1 [(0, .agg [Value.int .i64 a, .int .i64 b].toArray)] S = some (tl 2 [⟨a, b⟩], S) := fun S => ahY ⟨a, b⟩ S
    have c3 : zZ Try.prog false 43 (.pointer (some ⟨S.next, 0, none⟩)) S2 = some (.agg [Value.int .i64 a, .int .i64 b].toArray, S2) := Yv p2
    conv at hr =>
     rhs
     rw [hTe]
     simp only [zH.jP, zH.code, zH.rs, zSs, reduceIte, Nat.reduceEqDiff, Int.reduceEq, Int.reduceLT, Int.reduceLE, d1, c1, Jl, p1, hok, c3, c2, ap, wi]
    obtain ⟨e, T', S', j1, j2⟩ := ih (i + 1) q (out ++ [⟨a, b⟩]) ((yR hr).symm.trans hL) rfl rfl (by rw [show (if out ++ [TxV.mk a b] = [] then 0 else 2) = 2 from if_neg (by simp)]; rfl) rfl rfl (by omega) (by omega) (by simp; omega) (by omega)
    refine ⟨e, T', S', j1, ?_⟩
    dsimp only
    rw [if_pos hok]
    cases hq : Wn m q with
    | none => rw [hq] at j2; exact j2
    | some tr =>
     obtain ⟨ts, r'⟩ := tr
     rw [hq] at j2
     dsimp only at j2 ⊢
     rw [List.append_assoc] at j2
     exact j2
   ·
    dsimp only
    rw [if_neg hok]
    rw [Bool.not_eq_true] at hok
    conv at hr =>
     rhs
     rw [hTe]
     simp only [zH.jP, zH.code, zH.rs, zSs, reduceIte, Nat.reduceEqDiff, Int.reduceEq, Int.reduceLT, Int.reduceLE, d1, c1, Jl, p1, hok]
    exact ⟨_, _, _, hL.symm.trans (wz hr (by simp)), rfl, rfl, rfl⟩
theorem zH.v {k : Nat} {l : List UInt8} (hk : Okl k l) (k2 : k ≠ 2) (hl : l.length ≤ 140737488355328) (S : zi) : zQ Try.prog O zH.id [by_ k l] S = some (abN 0 l, S) := by
 obtain ⟨T, hTe⟩ : ∃ T, T = (by_ k l :: undef :: undef :: undef :: undef :: undef :: undef :: undef :: undef :: undef :: undef :: undef :: undef :: undef :: undef :: undef :: undef :: undef :: undef :: undef :: undef :: undef :: undef :: undef :: undef :: undef :: undef :: undef :: undef :: undef :: undef :: undef :: undef :: undef :: undef :: undef :: undef :: undef :: undef :: undef :: undef :: undef :: undef :: undef :: undef :: undef :: undef :: undef :: undef :: undef :: undef :: undef :: undef :: undef :: undef :: undef :: undef :: undef :: undef :: []) := ⟨_, rfl⟩
 have hr : zA Try.prog O false zH.code T zi.empty = zA Try.prog O false zH.code T zi.empty := rfl
 have c1 := fun S => zC.v (many := 1) hk k2 hl S
 have r1 : Jt 0 (if k = 0 then 0 else 2) 1 l = _ := Z4 (m := 1) (by decide) (by decide)
 rw [r1] at c1
 have cl : [by_ k l].all (jH 16) = true := all1 (qL (k := k) hk.le)
 unfold abN
 rcases ai0 l with h | ⟨n, rest, h, hlr⟩
 ·
  rw [h] at c1
  rw [Vw h]
  conv at hr =>
   rhs
   rw [hTe]
   simp only [zH.code, zH.rs, zSs, reduceIte, Nat.reduceEqDiff, Int.reduceEq, Int.reduceLT, Int.reduceLE, if_neg k2, c1]
  rw [hTe] at hr
  exact zH.runs hr (.inr rfl) rfl rfl cl rfl
 ·
  rw [h] at c1
  have e0 := aks 1 (by decide) n (by decide)
  by_cases h0 : n < 0
  ·
   have hno : Zq l = none := by
    cases hx : Zq l with
    | none => rfl
    | some t => have := (JM h t).mp hx; omega
   rw [hno]
   conv at hr =>
    rhs
    rw [hTe]
    simp only [zH.code, zH.rs, zSs, reduceIte, Nat.reduceEqDiff, Int.reduceEq, Int.reduceLT, Int.reduceLE, if_neg k2, c1, e0, kN, h0]
   rw [hTe] at hr
   exact zH.runs hr (.inr rfl) rfl rfl cl rfl
  ·
   by_cases h3 : 3 < n
   ·
    have hno : Zq l = none := by
     cases hx : Zq l with
     | none => rfl
     | some t => have := (JM h t).mp hx; omega
    rw [hno]
    conv at hr =>
     rhs
     rw [hTe]
     simp only [zH.code, zH.rs, zSs, reduceIte, Nat.reduceEqDiff, Int.reduceEq, Int.reduceLT, Int.reduceLE, if_neg k2, c1, e0, kN, h0, h3]
    rw [hTe] at hr
    exact zH.runs hr (.inr rfl) rfl rfl cl rfl
   ·
    conv at hr =>
     rhs
     rw [hTe]
     simp only [zH.code, zH.rs, zSs, reduceIte, Nat.reduceEqDiff, Int.reduceEq, Int.reduceLT, Int.reduceLE, if_neg k2, c1, e0, kN, h0, h3]
    generalize hL : qI (zA Try.prog O false zH.jP) _ _ = r at hr
    obtain ⟨e, T', S', rfl, g⟩ := zH.round (n := n) (by omega) n.toNat 0 rest [] hL rfl rfl rfl rfl rfl (by omega) (by omega) (by simp) (by omega)
    cases hts : Wn n.toNat rest with
    | none =>
     rw [hts] at g
     obtain ⟨rfl, g2, g3⟩ := g
     have hno : Zq l = none := by
      cases hx : Zq l with
      | none => rfl
      | some t => have := (JM h t).mp hx; rw [hts] at this; simp at this
     rw [hno]
     conv at hr =>
      rhs
      simp only [zSs, reduceIte, Nat.reduceEqDiff, Int.reduceEq, Int.reduceLT, Int.reduceLE]
     rw [hTe] at hr
     have hrun := zH.runs (S := S) hr (.inr rfl) (by rw [g2]; rfl) (by rw [g3]; rfl) cl (by rw [g2, g3]; rfl)
     rw [g2, g3] at hrun
     exact hrun
    | some tr =>
     obtain ⟨ts, r'⟩ := tr
     rw [hts] at g
     obtain ⟨rfl, g2, g3, g4⟩ := g
     rw [List.nil_append] at g4
     have hTe' := zH.eta g2
     rw [g3, g4] at hTe'
     by_cases hr0 : r' = []
     ·
      subst hr0
      have hts3 : ts.length ≤ 3 := by have := (Xc _ _ _ _).mp hts; omega
      have c3 := fun S => jr.v (aem (by decide) ts).dem (QD (if ts = [] then 0 else 2)) (by omega) S
      by_cases hu : unl ts = true
      ·
       have hyes : Zq l = some ts := (JM h ts).mpr ⟨by omega, by omega, hts, hu⟩
       rw [hyes]
       conv at hr =>
        rhs
        rw [hTe']
        simp only [zH.code, zH.rs, zSs, reduceIte, Nat.reduceEqDiff, Int.reduceEq, Int.reduceLT, Int.reduceLE, J7 Okl.read, goInt, List.length_nil, Int.natCast_zero, Int.lt_irrefl, ahn, c3, hu]
       rw [hTe] at hr
       exact zH.runs hr (.inr rfl) (by simp only [List.getD_cons_succ, List.getD_cons_zero, wB, wo, jM, jU, jZ]) rfl cl (yP (all2 (Zx (aem (by decide) ts).le fun _ _ => rfl) rfl))
      ·
       have hno : Zq l = none := by
        cases hx : Zq l with
        | none => rfl
        | some t => have := (JM h t).mp hx; rw [hts] at this; simp at this; rw [this.2.2.1] at hu; exact absurd this.2.2.2 hu
       rw [hno]
       rw [Bool.not_eq_true] at hu
       conv at hr =>
        rhs
        rw [hTe']
        simp only [zH.code, zH.rs, zSs, reduceIte, Nat.reduceEqDiff, Int.reduceEq, Int.reduceLT, Int.reduceLE, J7 Okl.read, goInt, List.length_nil, Int.natCast_zero, Int.lt_irrefl, ahn, c3, hu]
       rw [hTe] at hr
       exact zH.runs hr (.inr rfl) rfl rfl cl rfl
     ·
      have hp : (0 : Int) < (r'.length : Int) := by have := List.length_pos_iff.mpr hr0; omega
      have hno : Zq l = none := by
       cases hx : Zq l with
       | none => rfl
       | some t => have := (JM h t).mp hx; rw [hts] at this; simp at this; exact absurd this.2.2.1.2 hr0
      rw [hno]
      conv at hr =>
       rhs
       rw [hTe']
       simp only [zH.code, zH.rs, zSs, reduceIte, Nat.reduceEqDiff, Int.reduceEq, Int.reduceLT, Int.reduceLE, J7 Okl.read, goInt, decide_eq_true hp]
      rw [hTe] at hr
      exact zH.runs hr (.inr rfl) rfl rfl cl rfl
end Go.Proofs.Ytfjogganfjkckaa
namespace Go.Proofs.Ytfjogganfjkckaa
open Go.Abs
theorem J5 {k : Nat} {l : List Int} {i : Int} {x : Int} {m : Nat} (h : Okl k l) (hi : i = (m : Int)) (hx : l[m]? = some x) (S : zi) : jB Try.prog 24 (iz k l) (.int .i64 i) S = some (EP [.int .i64 x], S) := by
 obtain ⟨h1, h2⟩ := List.getElem?_eq_some_iff.mp hx
 subst hi
 rw [aa1 h (by omega) (by omega)]
 simp [← h2]
end Go.Proofs.Ytfjogganfjkckaa
namespace Go.Proofs.Ytfjogganfjkckaa
open Go.Abs
theorem Y1 {l : List TxV} (h : vX l = true) : (aaI l).length ≤ 100 := by
 obtain ⟨h1, h2⟩ := xU.mp h
 have h3 := Ym h1.2
 have h4 := ZB (l := [(l.length : Int)]) (by simp; omega)
 rw [vG, List.length_append]
 simp at h4
 omega
theorem adD (l : List UInt8) : ∃ t e, agJ l = .tuple #[tv t, .int .i64 e] ∧ ((e = 0 ∧ afv l = some t) ∨ (e = 61 ∧ afv l = none ∧ t = ⟨0, 0⟩)) := by
 unfold agJ
 cases h : afv l with
 | none => exact ⟨⟨0, 0⟩, 61, rfl, .inr ⟨rfl, rfl, rfl⟩⟩
 | some t => exact ⟨t, 0, rfl, .inl ⟨rfl, rfl⟩⟩
theorem aaY {j : Nat} (hj : j ≤ 2) (l : List UInt8) : ∃ k t e, Okl k t ∧ List.length t ≤ 3 ∧ abN j l = .tuple #[tl k t, .int .i64 e] ∧ ((e = 0 ∧ Zq l = some t) ∨ (e = 61 ∧ Zq l = none ∧ t = [])) := by
 unfold abN
 cases h : Zq l with
 | none => exact ⟨0, [], 61, Okl.none, by simp, rfl, .inr ⟨rfl, rfl, rfl⟩⟩
 | some t => exact ⟨_, t, 0, aem hj t, (xU.mp ((ZU l t).mp h).1).2, rfl, .inl ⟨rfl, rfl⟩⟩
end Go.Proofs.Ytfjogganfjkckaa
namespace Go.Proofs.Ytfjogganfjkckaa
open Go.Abs
structure xu where
 slot : Int
 miner : Int
 variant : Int
 parent : Int
 k : Nat
 txs : List TxV
def fBk (b : xu) : List Value := [.int .i64 b.slot, .int .i64 b.miner, .int .i64 b.variant, .int .i64 b.parent, tl b.k b.txs]
abbrev bv (b : xu) : Value := .agg [Value.int .i64 b.slot, .int .i64 b.miner, .int .i64 b.variant, .int .i64 b.parent, tl b.k b.txs].toArray
structure xu.Ok (b : xu) : Prop where
 okl : Okl b.k b.txs
 ne : b.k ≠ 2
 len : b.txs.length * 16 ≤ 140737488351232
 par : b.parent < 9223372036854775808
def headB (b : xu) : Bool := btw b.slot 1 4095 && btw b.miner 0 6 && btw b.variant 0 255 && (decide (b.parent = 0) || (kR b.parent && decide (b.parent / 65536 < b.slot)))
def jI (b : xu) : Bool := headB b && vX b.txs
def nameOf (b : xu) : Int := if jI b = true then b.slot * 65536 + b.miner * 256 + b.variant else 0
theorem Zw {b : xu} : headB b = true ↔ (1 ≤ b.slot ∧ b.slot ≤ 4095) ∧ (0 ≤ b.miner ∧ b.miner ≤ 6) ∧ (0 ≤ b.variant ∧ b.variant ≤ 255) ∧ (b.parent = 0 ∨ (kR b.parent = true ∧ b.parent / 65536 < b.slot)) := by
 simp [headB, QL, and_assoc]
theorem yx {b : xu} {d : Nat} (h : b.k ≤ 2) : jH (d + 6) (bv b) = true := by
 have h1 : jH (d + 5) (tl b.k b.txs) = true := Zx (d := d + 1) h fun _ _ => rfl
 refine aaq ?_
 simp only [List.all_cons, List.all_nil, h1, Bool.and_true]
 rfl
abbrev aj1 (b : xu) : zi := zi.empty.push (.cells (fBk b) (.own []) 0)
theorem Jb (b : xu) : Jo (bv b) zi.empty = some (.pointer (some ⟨0, 0, none⟩), aj1 b) := rfl
theorem yM (b : xu) : (aj1 b).get 0 = some (.cells (fBk b) (.own []) 0) := rfl
theorem XI {S : zi} {q : Nat} {b : xu} (h : S.get q = some (.cells (fBk b) (.own []) 0)) : zZ Try.prog false 3 (.pointer (some ⟨q, 0 + 0, none⟩)) S = some (.int .i64 b.slot, S) := qp (t := 3) (o := 0 + 0) h Zr rfl
theorem Vs {S : zi} {q : Nat} {b : xu} (h : S.get q = some (.cells (fBk b) (.own []) 0)) : zZ Try.prog false 3 (.pointer (some ⟨q, 0 + 1, none⟩)) S = some (.int .i64 b.miner, S) := qp (t := 3) (o := 0 + 1) h Zr rfl
theorem Xt {S : zi} {q : Nat} {b : xu} (h : S.get q = some (.cells (fBk b) (.own []) 0)) : zZ Try.prog false 3 (.pointer (some ⟨q, 0 + 2, none⟩)) S = some (.int .i64 b.variant, S) := qp (t := 3) (o := 0 + 2) h Zr rfl
theorem aaD {S : zi} {q : Nat} {b : xu} (h : S.get q = some (.cells (fBk b) (.own []) 0)) : zZ Try.prog false 3 (.pointer (some ⟨q, 0 + 3, none⟩)) S = some (.int .i64 b.parent, S) := qp (t := 3) (o := 0 + 3) h Zr rfl
theorem VP {S : zi} {q : Nat} {b : xu} (h : S.get q = some (.cells (fBk b) (.own []) 0)) (hk : b.k ≠ 2) : zZ Try.prog false 44 (.pointer (some ⟨q, 0 + 4, none⟩)) S = some (tl b.k b.txs, S) := by
 rw [Y2 (o := 0 + 4) (v := tl b.k b.txs) h acG rfl (fun l h => by unfold tl vs sv at h; split at h <;> cases h), Xj, if_neg hk]
theorem V4 {S : zi} {q : Nat} {b : xu} (h : S.get q = some (.cells (fBk b) (.own []) 0)) (hk : b.k ≠ 2) : zZ Try.prog false 46 (.pointer (some ⟨q, 0, none⟩)) S = some (bv b, S) := by
 rw [VH h, xP, xP, xP, xP, abr, if_neg hk]
theorem jg.v {b : xu} (hb : b.Ok) (S : zi) : zQ Try.prog O jg.id [bv b] S = some (.bool (jI b), S) := by
 obtain ⟨T, hTe⟩ : ∃ T, T = (bv b :: undef :: undef :: undef :: undef :: undef :: undef :: undef :: undef :: undef :: undef :: undef :: undef :: undef :: undef :: undef :: undef :: undef :: undef :: undef :: undef :: undef :: undef :: undef :: undef :: undef :: undef :: undef :: undef :: undef :: undef :: undef :: undef :: undef :: undef :: undef :: undef :: undef :: undef :: undef :: undef :: undef :: undef :: undef :: undef :: undef :: []) := ⟨_, rfl⟩
 have hr : zA Try.prog O false jg.code T zi.empty = zA Try.prog O false jg.code T zi.empty := rfl
 have l0 := XI (yM b)
 have l1 := Vs (yM b)
 have l2 := Xt (yM b)
 have l3 := aaD (yM b)
 have l4 := VP (yM b) hb.ne
 have c1 := fun S => jK.v hb.okl hb.ne (by have := hb.len; omega) S
 unfold ahE at c1
 cases h1 : btw b.slot 1 4095
 ·
  have e : jI b = false := by simp [jI, headB, h1]
  rw [e]
  conv at hr =>
   rhs
   rw [hTe]
   simp only [jg.code, jg.rs, zSs, reduceIte, Nat.reduceEqDiff, Int.reduceEq, Int.reduceLT, Int.reduceLE, Jb, jE, jC, jD, jG, jF, l0, l1, l2, l3, l4, if_neg hb.ne, jJ.v, h1]
  rw [hTe] at hr
  exact jg.runs hr (.inr rfl) (all1 (yx hb.okl.le)) rfl
 ·
  cases h2 : btw b.miner 0 6
  ·
   have e : jI b = false := by simp [jI, headB, h1, h2]
   rw [e]
   conv at hr =>
    rhs
    rw [hTe]
    simp only [jg.code, jg.rs, zSs, reduceIte, Nat.reduceEqDiff, Int.reduceEq, Int.reduceLT, Int.reduceLE, Jb, jE, jC, jD, jG, jF, l0, l1, l2, l3, l4, if_neg hb.ne, jJ.v, h1, h2]
   rw [hTe] at hr
   exact jg.runs hr (.inr rfl) (all1 (yx hb.okl.le)) rfl
  ·
   cases h3 : btw b.variant 0 255
   ·
    have e : jI b = false := by simp [jI, headB, h1, h2, h3]
    rw [e]
    conv at hr =>
     rhs
     rw [hTe]
     simp only [jg.code, jg.rs, zSs, reduceIte, Nat.reduceEqDiff, Int.reduceEq, Int.reduceLT, Int.reduceLE, Jb, jE, jC, jD, jG, jF, l0, l1, l2, l3, l4, if_neg hb.ne, jJ.v, h1, h2, h3]
    rw [hTe] at hr
    exact jg.runs hr (.inr rfl) (all1 (yx hb.okl.le)) rfl
   ·
    by_cases h4 : b.parent = 0
    ·
     by_cases h7 : vX b.txs = true
     ·
      rw [if_pos h7] at c1
      have e : jI b = true := by simp [jI, headB, h1, h2, h3, h4, h7]
      rw [e]
      conv at hr =>
       rhs
       rw [hTe]
       simp only [jg.code, jg.rs, zSs, reduceIte, Nat.reduceEqDiff, Int.reduceEq, Int.reduceLT, Int.reduceLE, Jb, jE, jC, jD, jG, jF, l0, l1, l2, l3, l4, if_neg hb.ne, jJ.v, h1, h2, h3, decide_eq_true h4, c1]
      rw [hTe] at hr
      exact jg.runs hr (.inr rfl) (all1 (yx hb.okl.le)) rfl
     ·
      rw [if_neg h7] at c1
      have e : jI b = false := by simp [jI, h7]
      rw [e]
      conv at hr =>
       rhs
       rw [hTe]
       simp only [jg.code, jg.rs, zSs, reduceIte, Nat.reduceEqDiff, Int.reduceEq, Int.reduceLT, Int.reduceLE, Jb, jE, jC, jD, jG, jF, l0, l1, l2, l3, l4, if_neg hb.ne, jJ.v, h1, h2, h3, decide_eq_true h4, c1]
      rw [hTe] at hr
      exact jg.runs hr (.inr rfl) (all1 (yx hb.okl.le)) rfl
    ·
     cases h5 : kR b.parent
     ·
      have e : jI b = false := by simp [jI, headB, h1, h2, h3, h4, h5]
      rw [e]
      conv at hr =>
       rhs
       rw [hTe]
       simp only [jg.code, jg.rs, zSs, reduceIte, Nat.reduceEqDiff, Int.reduceEq, Int.reduceLT, Int.reduceLE, Jb, jE, jC, jD, jG, jF, l0, l1, l2, l3, l4, if_neg hb.ne, jJ.v, h1, h2, h3, decide_eq_false h4, wC.v, h5]
      rw [hTe] at hr
      exact jg.runs hr (.inr rfl) (all1 (yx hb.okl.le)) rfl
     ·
      have hn := xG.mp h5
      have q1 : IntKind.i64.wrap (b.parent.tdiv 65536) = b.parent / 65536 := by rw [W9 (by omega), wrap_i64 (by omega) (by omega)]
      by_cases h6 : b.parent / 65536 < b.slot
      ·
       have h6' : ¬ b.slot ≤ b.parent / 65536 := by omega
       by_cases h7 : vX b.txs = true
       ·
        rw [if_pos h7] at c1
        have e : jI b = true := by simp [jI, headB, h1, h2, h3, h4, h5, h6, h7]
        rw [e]
        conv at hr =>
         rhs
         rw [hTe]
         simp only [jg.code, jg.rs, zSs, reduceIte, Nat.reduceEqDiff, Int.reduceEq, Int.reduceLT, Int.reduceLE, Jb, jE, jC, jD, jG, jF, l0, l1, l2, l3, l4, if_neg hb.ne, jJ.v, h1, h2, h3, decide_eq_false h4, wC.v, h5, kY _ _ _ YV, q1, decide_eq_false h6', c1]
        rw [hTe] at hr
        exact jg.runs hr (.inr rfl) (all1 (yx hb.okl.le)) rfl
       ·
        rw [if_neg h7] at c1
        have e : jI b = false := by simp [jI, h7]
        rw [e]
        conv at hr =>
         rhs
         rw [hTe]
         simp only [jg.code, jg.rs, zSs, reduceIte, Nat.reduceEqDiff, Int.reduceEq, Int.reduceLT, Int.reduceLE, Jb, jE, jC, jD, jG, jF, l0, l1, l2, l3, l4, if_neg hb.ne, jJ.v, h1, h2, h3, decide_eq_false h4, wC.v, h5, kY _ _ _ YV, q1, decide_eq_false h6', c1]
        rw [hTe] at hr
        exact jg.runs hr (.inr rfl) (all1 (yx hb.okl.le)) rfl
      ·
       have h6' : b.slot ≤ b.parent / 65536 := by omega
       have e : jI b = false := by simp [jI, headB, h1, h2, h3, h4, h5, h6]
       rw [e]
       conv at hr =>
        rhs
        rw [hTe]
        simp only [jg.code, jg.rs, zSs, reduceIte, Nat.reduceEqDiff, Int.reduceEq, Int.reduceLT, Int.reduceLE, Jb, jE, jC, jD, jG, jF, l0, l1, l2, l3, l4, if_neg hb.ne, jJ.v, h1, h2, h3, decide_eq_false h4, wC.v, h5, kY _ _ _ YV, q1, decide_eq_true h6']
       rw [hTe] at hr
       exact jg.runs hr (.inr rfl) (all1 (yx hb.okl.le)) rfl
theorem zq.v {b : xu} (hb : b.Ok) (S : zi) : zQ Try.prog O zq.id [bv b] S = some (.bool (jI b), S) := by
 obtain ⟨T, hTe⟩ : ∃ T, T = (bv b :: undef :: undef :: undef :: undef :: undef :: undef :: undef :: undef :: undef :: undef :: undef :: undef :: undef :: undef :: undef :: undef :: undef :: undef :: undef :: undef :: undef :: undef :: undef :: undef :: undef :: undef :: undef :: undef :: undef :: undef :: undef :: undef :: undef :: undef :: undef :: undef :: undef :: undef :: undef :: undef :: undef :: undef :: undef :: undef :: undef :: undef :: undef :: undef :: undef :: undef :: undef :: undef :: undef :: undef :: undef :: undef :: undef :: undef :: undef :: undef :: undef :: undef :: []) := ⟨_, rfl⟩
 have hr : zA Try.prog O false zq.code T zi.empty = zA Try.prog O false zq.code T zi.empty := rfl
 have l0 := XI (yM b)
 have l1 := Vs (yM b)
 have l2 := Xt (yM b)
 have l3 := aaD (yM b)
 have l4 := VP (yM b) hb.ne
 have c1 := fun S => zn.v hb.okl hb.ne (by have := hb.len; omega) S
 unfold ahE at c1
 by_cases h1 : b.slot < 1
 ·
  have e : jI b = false := by
   cases h : jI b with
    | false => rfl
    | true => simp only [jI, Bool.and_eq_true, Zw] at h; omega
  rw [e]
  conv at hr =>
   rhs
   rw [hTe]
   simp only [zq.code, zq.rs, zSs, reduceIte, Nat.reduceEqDiff, Int.reduceEq, Int.reduceLT, Int.reduceLE, Jb, jE, jC, jD, jG, jF, l0, l1, l2, l3, l4, if_neg hb.ne, decide_eq_true h1]
  rw [hTe] at hr
  exact zq.runs hr (.inr rfl) (all1 (yx hb.okl.le)) rfl
 ·
  by_cases h2 : 4095 < b.slot
  ·
   have e : jI b = false := by
    cases h : jI b with
     | false => rfl
     | true => simp only [jI, Bool.and_eq_true, Zw] at h; omega
   rw [e]
   conv at hr =>
    rhs
    rw [hTe]
    simp only [zq.code, zq.rs, zSs, reduceIte, Nat.reduceEqDiff, Int.reduceEq, Int.reduceLT, Int.reduceLE, Jb, jE, jC, jD, jG, jF, l0, l1, l2, l3, l4, if_neg hb.ne, decide_eq_false h1, decide_eq_true h2]
   rw [hTe] at hr
   exact zq.runs hr (.inr rfl) (all1 (yx hb.okl.le)) rfl
  ·
   by_cases h3 : b.miner < 0
   ·
    have e : jI b = false := by
     cases h : jI b with
      | false => rfl
      | true => simp only [jI, Bool.and_eq_true, Zw] at h; omega
    rw [e]
    conv at hr =>
     rhs
     rw [hTe]
     simp only [zq.code, zq.rs, zSs, reduceIte, Nat.reduceEqDiff, Int.reduceEq, Int.reduceLT, Int.reduceLE, Jb, jE, jC, jD, jG, jF, l0, l1, l2, l3, l4, if_neg hb.ne, decide_eq_false h1, decide_eq_false h2, decide_eq_true h3]
    rw [hTe] at hr
    exact zq.runs hr (.inr rfl) (all1 (yx hb.okl.le)) rfl
   ·
    by_cases h4 : 6 < b.miner
    ·
     have e : jI b = false := by
      cases h : jI b with
       | false => rfl
       | true => simp only [jI, Bool.and_eq_true, Zw] at h; omega
     rw [e]
     conv at hr =>
      rhs
      rw [hTe]
      simp only [zq.code, zq.rs, zSs, reduceIte, Nat.reduceEqDiff, Int.reduceEq, Int.reduceLT, Int.reduceLE, Jb, jE, jC, jD, jG, jF, l0, l1, l2, l3, l4, if_neg hb.ne, decide_eq_false h1, decide_eq_false h2, decide_eq_false h3, decide_eq_true h4]
     rw [hTe] at hr
     exact zq.runs hr (.inr rfl) (all1 (yx hb.okl.le)) rfl
    ·
     by_cases h5 : b.variant < 0
     ·
      have e : jI b = false := by
       cases h : jI b with
        | false => rfl
        | true => simp only [jI, Bool.and_eq_true, Zw] at h; omega
      rw [e]
      conv at hr =>
       rhs
       rw [hTe]
       simp only [zq.code, zq.rs, zSs, reduceIte, Nat.reduceEqDiff, Int.reduceEq, Int.reduceLT, Int.reduceLE, Jb, jE, jC, jD, jG, jF, l0, l1, l2, l3, l4, if_neg hb.ne, decide_eq_false h1, decide_eq_false h2, decide_eq_false h3, decide_eq_false h4, decide_eq_true h5]
      rw [hTe] at hr
      exact zq.runs hr (.inr rfl) (all1 (yx hb.okl.le)) rfl
     ·
      by_cases h6 : 255 < b.variant
      ·
       have e : jI b = false := by
        cases h : jI b with
         | false => rfl
         | true => simp only [jI, Bool.and_eq_true, Zw] at h; omega
       rw [e]
       conv at hr =>
        rhs
        rw [hTe]
        simp only [zq.code, zq.rs, zSs, reduceIte, Nat.reduceEqDiff, Int.reduceEq, Int.reduceLT, Int.reduceLE, Jb, jE, jC, jD, jG, jF, l0, l1, l2, l3, l4, if_neg hb.ne, decide_eq_false h1, decide_eq_false h2, decide_eq_false h3, decide_eq_false h4, decide_eq_false h5, decide_eq_true h6]
       rw [hTe] at hr
       exact zq.runs hr (.inr rfl) (all1 (yx hb.okl.le)) rfl
      ·
       by_cases h7 : vX b.txs = true
       ·
        rw [if_pos h7] at c1
        have hh : headB b = (decide (b.parent = 0) || (kR b.parent && decide (b.parent / 65536 < b.slot))) := by
         have a1 := QL.mpr (show 1 ≤ b.slot ∧ b.slot ≤ 4095 by omega)
         have a2 := QL.mpr (show 0 ≤ b.miner ∧ b.miner ≤ 6 by omega)
         have a3 := QL.mpr (show 0 ≤ b.variant ∧ b.variant ≤ 255 by omega)
         simp [headB, a1, a2, a3]
        by_cases h8 : b.parent = 0
        ·
         have e : jI b = true := by simp [jI, hh, h8, h7]
         rw [e]
         conv at hr =>
          rhs
          rw [hTe]
          simp only [zq.code, zq.rs, zSs, reduceIte, Nat.reduceEqDiff, Int.reduceEq, Int.reduceLT, Int.reduceLE, Jb, jE, jC, jD, jG, jF, l0, l1, l2, l3, l4, if_neg hb.ne, decide_eq_false h1, decide_eq_false h2, decide_eq_false h3, decide_eq_false h4, decide_eq_false h5, decide_eq_false h6, c1, decide_eq_true h8]
         rw [hTe] at hr
         exact zq.runs hr (.inr rfl) (all1 (yx hb.okl.le)) rfl
        ·
         have c2 := fun S => zW.v b.parent hb.par S
         unfold aam at c2
         by_cases h9 : b.parent < 0
         ·
          rw [if_pos h9] at c2
          have hn : kR b.parent = false := by
           cases h : kR b.parent with
           | false => rfl
           | true => have := xG.mp h; omega
          have e : jI b = false := by simp [jI, hh, h8, hn]
          rw [e]
          conv at hr =>
           rhs
           rw [hTe]
           simp only [zq.code, zq.rs, zSs, reduceIte, Nat.reduceEqDiff, Int.reduceEq, Int.reduceLT, Int.reduceLE, Jb, jE, jC, jD, jG, jF, l0, l1, l2, l3, l4, if_neg hb.ne, decide_eq_false h1, decide_eq_false h2, decide_eq_false h3, decide_eq_false h4, decide_eq_false h5, decide_eq_false h6, c1, decide_eq_false h8, c2]
          rw [hTe] at hr
          exact zq.runs hr (.inr rfl) (all1 (yx hb.okl.le)) rfl
         ·
          rw [if_neg h9] at c2
          cases hn : kR b.parent
          ·
           rw [hn] at c2
           have e : jI b = false := by simp [jI, hh, h8, hn]
           rw [e]
           conv at hr =>
            rhs
            rw [hTe]
            simp only [zq.code, zq.rs, zSs, reduceIte, Nat.reduceEqDiff, Int.reduceEq, Int.reduceLT, Int.reduceLE, Jb, jE, jC, jD, jG, jF, l0, l1, l2, l3, l4, if_neg hb.ne, decide_eq_false h1, decide_eq_false h2, decide_eq_false h3, decide_eq_false h4, decide_eq_false h5, decide_eq_false h6, c1, decide_eq_false h8, c2]
           rw [hTe] at hr
           exact zq.runs hr (.inr rfl) (all1 (yx hb.okl.le)) rfl
          ·
           rw [hn] at c2
           have e : jI b = decide (b.parent / 65536 < b.slot) := by simp [jI, hh, h8, hn, h7]
           rw [e]
           conv at hr =>
            rhs
            rw [hTe]
            simp only [zq.code, zq.rs, zSs, reduceIte, Nat.reduceEqDiff, Int.reduceEq, Int.reduceLT, Int.reduceLE, Jb, jE, jC, jD, jG, jF, l0, l1, l2, l3, l4, if_neg hb.ne, decide_eq_false h1, decide_eq_false h2, decide_eq_false h3, decide_eq_false h4, decide_eq_false h5, decide_eq_false h6, c1, decide_eq_false h8, c2]
           rw [hTe] at hr
           exact zq.runs hr (.inr rfl) (all1 (yx hb.okl.le)) rfl
       ·
        rw [if_neg h7] at c1
        have e : jI b = false := by simp [jI, h7]
        rw [e]
        conv at hr =>
         rhs
         rw [hTe]
         simp only [zq.code, zq.rs, zSs, reduceIte, Nat.reduceEqDiff, Int.reduceEq, Int.reduceLT, Int.reduceLE, Jb, jE, jC, jD, jG, jF, l0, l1, l2, l3, l4, if_neg hb.ne, decide_eq_false h1, decide_eq_false h2, decide_eq_false h3, decide_eq_false h4, decide_eq_false h5, decide_eq_false h6, c1]
        rw [hTe] at hr
        exact zq.runs hr (.inr rfl) (all1 (yx hb.okl.le)) rfl
theorem wH.v {b : xu} (hb : b.Ok) (S : zi) : zQ Try.prog O wH.id [bv b] S = some (.int .i64 (nameOf b), S) := by
 obtain ⟨T, hTe⟩ : ∃ T, T = (bv b :: undef :: undef :: undef :: undef :: undef :: undef :: undef :: undef :: undef :: undef :: undef :: undef :: undef :: undef :: undef :: []) := ⟨_, rfl⟩
 have hr : zA Try.prog O false wH.code T zi.empty = zA Try.prog O false wH.code T zi.empty := rfl
 have l0 := XI (yM b)
 have l1 := Vs (yM b)
 have l2 := Xt (yM b)
 have lb := V4 (yM b) hb.ne
 have c1 := fun S => jg.v hb S
 unfold nameOf
 cases hR : jI b
 ·
  rw [hR] at c1
  conv at hr =>
   rhs
   rw [hTe]
   simp only [wH.code, wH.rs, zSs, reduceIte, Nat.reduceEqDiff, Int.reduceEq, Int.reduceLT, Int.reduceLE, Jb, lb, c1]
  rw [hTe] at hr
  exact wH.runs hr (.inr rfl) (all1 (yx hb.okl.le)) rfl
 ·
  rw [hR] at c1
  have hh := hR
  simp only [jI, Bool.and_eq_true, Zw] at hh
  obtain ⟨⟨h1, h2, h3, _⟩, _⟩ := hh
  have w1 : IntKind.i64.wrap (b.slot * 65536) = b.slot * 65536 := wrap_i64 (by omega) (by omega)
  have w2 : IntKind.i64.wrap (b.miner * 256) = b.miner * 256 := wrap_i64 (by omega) (by omega)
  have w3 : IntKind.i64.wrap (b.slot * 65536 + b.miner * 256) = b.slot * 65536 + b.miner * 256 := wrap_i64 (by omega) (by omega)
  have w4 : IntKind.i64.wrap (b.slot * 65536 + b.miner * 256 + b.variant) = b.slot * 65536 + b.miner * 256 + b.variant := wrap_i64 (by omega) (by omega)
  conv at hr =>
   rhs
   rw [hTe]
   simp only [wH.code, wH.rs, zSs, reduceIte, Nat.reduceEqDiff, Int.reduceEq, Int.reduceLT, Int.reduceLE, Jb, lb, c1, jE, jC, jD, l0, l1, l2, w1, w2, w3, w4]
  rw [hTe] at hr
  exact wH.runs hr (.inr rfl) (all1 (yx hb.okl.le)) rfl
end Go.Proofs.Ytfjogganfjkckaa
namespace Go.Proofs.Ytfjogganfjkckaa
open Go.Abs
def Zp (a b : xu) : Bool := decide (a.slot = b.slot) && (decide (a.miner = b.miner) && (decide (a.variant = b.variant) && (decide (a.parent = b.parent) && decide (a.txs = b.txs))))
abbrev aiB (a b : xu) : zi := (aj1 a).push (.cells (fBk b) (.own []) 0)
theorem Kz (a b : xu) : Jo (bv b) (aj1 a) = some (.pointer (some ⟨1, 0, none⟩), aiB a b) := by kernel_rfl
theorem ZG (a b : xu) : (aiB a b).get 0 = some (.cells (fBk a) (.own []) 0) := by kernel_rfl
theorem ZF (a b : xu) : (aiB a b).get 1 = some (.cells (fBk b) (.own []) 0) := by kernel_rfl
theorem wE.v {a b : xu} (ha : a.Ok) (hb : b.Ok) (S : zi) : zQ Try.prog O wE.id [bv a, bv b] S = some (.bool (Zp a b), S) := by
 obtain ⟨T, hTe⟩ : ∃ T, T = (bv a :: bv b :: undef :: undef :: undef :: undef :: undef :: undef :: undef :: undef :: undef :: undef :: undef :: undef :: undef :: undef :: undef :: undef :: undef :: undef :: undef :: undef :: undef :: undef :: undef :: undef :: undef :: undef :: undef :: undef :: undef :: undef :: undef :: undef :: undef :: undef :: undef :: undef :: []) := ⟨_, rfl⟩
 have hr : zA Try.prog O false wE.code T zi.empty = zA Try.prog O false wE.code T zi.empty := rfl
 have l0 := XI (ZG a b)
 have m0 := XI (ZF a b)
 have l1 := Vs (ZG a b)
 have m1 := Vs (ZF a b)
 have l2 := Xt (ZG a b)
 have m2 := Xt (ZF a b)
 have l3 := aaD (ZG a b)
 have m3 := aaD (ZF a b)
 have l4 := VP (ZG a b) ha.ne
 have m4 := VP (ZF a b) hb.ne
 have c1 := fun S => slices_Equal.v ha.okl hb.okl ha.ne hb.ne (by have := ha.len; omega) S
 have cc : [bv a, bv b].all (jH 16) = true := all2 (yx ha.okl.le) (yx hb.okl.le)
 unfold Zp
 by_cases h1 : a.slot = b.slot
 ·
  have e1 := decide_eq_true h1
  by_cases h2 : a.miner = b.miner
  ·
   have e2 := decide_eq_true h2
   by_cases h3 : a.variant = b.variant
   ·
    have e3 := decide_eq_true h3
    by_cases h4 : a.parent = b.parent
    ·
     have e4 := decide_eq_true h4
     conv at hr =>
      rhs
      rw [hTe]
      simp only [wE.code, wE.rs, zSs, reduceIte, Nat.reduceEqDiff, Int.reduceEq, Int.reduceLT, Int.reduceLE, Jb, Kz, jE, jC, jD, jG, jF, l0, l1, l2, l3, l4, m0, m1, m2, m3, m4, if_neg ha.ne, if_neg hb.ne, e1, e2, e3, e4, c1]
     rw [hTe] at hr
     rw [e1, Bool.true_and, e2, Bool.true_and, e3, Bool.true_and, e4, Bool.true_and]
     exact wE.runs hr (.inr rfl) cc rfl
    ·
     have e4 := decide_eq_false h4
     conv at hr =>
      rhs
      rw [hTe]
      simp only [wE.code, wE.rs, zSs, reduceIte, Nat.reduceEqDiff, Int.reduceEq, Int.reduceLT, Int.reduceLE, Jb, Kz, jE, jC, jD, jG, jF, l0, l1, l2, l3, l4, m0, m1, m2, m3, m4, if_neg ha.ne, if_neg hb.ne, e1, e2, e3, e4]
     rw [hTe] at hr
     rw [e1, Bool.true_and, e2, Bool.true_and, e3, Bool.true_and, e4, Bool.false_and]
     exact wE.runs hr (.inr rfl) cc rfl
   ·
    have e3 := decide_eq_false h3
    conv at hr =>
     rhs
     rw [hTe]
     simp only [wE.code, wE.rs, zSs, reduceIte, Nat.reduceEqDiff, Int.reduceEq, Int.reduceLT, Int.reduceLE, Jb, Kz, jE, jC, jD, jG, jF, l0, l1, l2, l3, l4, m0, m1, m2, m3, m4, if_neg ha.ne, if_neg hb.ne, e1, e2, e3]
    rw [hTe] at hr
    rw [e1, Bool.true_and, e2, Bool.true_and, e3, Bool.false_and]
    exact wE.runs hr (.inr rfl) cc rfl
  ·
   have e2 := decide_eq_false h2
   conv at hr =>
    rhs
    rw [hTe]
    simp only [wE.code, wE.rs, zSs, reduceIte, Nat.reduceEqDiff, Int.reduceEq, Int.reduceLT, Int.reduceLE, Jb, Kz, jE, jC, jD, jG, jF, l0, l1, l2, l3, l4, m0, m1, m2, m3, m4, if_neg ha.ne, if_neg hb.ne, e1, e2]
   rw [hTe] at hr
   rw [e1, Bool.true_and, e2, Bool.false_and]
   exact wE.runs hr (.inr rfl) cc rfl
 ·
  have e1 := decide_eq_false h1
  conv at hr =>
   rhs
   rw [hTe]
   simp only [wE.code, wE.rs, zSs, reduceIte, Nat.reduceEqDiff, Int.reduceEq, Int.reduceLT, Int.reduceLE, Jb, Kz, jE, jC, jD, jG, jF, l0, l1, l2, l3, l4, m0, m1, m2, m3, m4, if_neg ha.ne, if_neg hb.ne, e1]
  rw [hTe] at hr
  rw [e1, Bool.false_and]
  exact wE.runs hr (.inr rfl) cc rfl
theorem ji.v {a b : xu} (ha : a.Ok) (hb : b.Ok) (S : zi) : zQ Try.prog O ji.id [bv a, bv b] S = some (.bool (Zp a b), S) := by
 obtain ⟨T, hTe⟩ : ∃ T, T = (bv a :: bv b :: undef :: undef :: undef :: undef :: undef :: undef :: undef :: undef :: undef :: undef :: undef :: undef :: undef :: undef :: undef :: undef :: undef :: undef :: undef :: undef :: undef :: undef :: undef :: undef :: undef :: undef :: undef :: undef :: undef :: undef :: undef :: undef :: undef :: undef :: undef :: undef :: []) := ⟨_, rfl⟩
 have hr : zA Try.prog O false ji.code T zi.empty = zA Try.prog O false ji.code T zi.empty := rfl
 have l0 := XI (ZG a b)
 have m0 := XI (ZF a b)
 have l1 := Vs (ZG a b)
 have m1 := Vs (ZF a b)
 have l2 := Xt (ZG a b)
 have m2 := Xt (ZF a b)
 have l3 := aaD (ZG a b)
 have m3 := aaD (ZF a b)
 have l4 := VP (ZG a b) ha.ne
 have m4 := VP (ZF a b) hb.ne
 have c1 := fun S => zx.v ha.okl hb.okl ha.ne hb.ne (by have := ha.len; omega) S
 have cc : [bv a, bv b].all (jH 16) = true := all2 (yx ha.okl.le) (yx hb.okl.le)
 unfold Zp
 by_cases h1 : a.slot = b.slot
 ·
  have e1 := decide_eq_true h1
  by_cases h2 : a.miner = b.miner
  ·
   have e2 := decide_eq_true h2
   by_cases h3 : a.variant = b.variant
   ·
    have e3 := decide_eq_true h3
    by_cases h4 : a.parent = b.parent
    ·
     have e4 := decide_eq_true h4
     conv at hr =>
      rhs
      rw [hTe]
      simp only [ji.code, ji.rs, zSs, reduceIte, Nat.reduceEqDiff, Int.reduceEq, Int.reduceLT, Int.reduceLE, Jb, Kz, jE, jC, jD, jG, jF, l0, l1, l2, l3, l4, m0, m1, m2, m3, m4, if_neg ha.ne, if_neg hb.ne, e1, e2, e3, e4, c1]
     rw [hTe] at hr
     rw [e1, Bool.true_and, e2, Bool.true_and, e3, Bool.true_and, e4, Bool.true_and]
     exact ji.runs hr (.inr rfl) cc rfl
    ·
     have e4 := decide_eq_false h4
     conv at hr =>
      rhs
      rw [hTe]
      simp only [ji.code, ji.rs, zSs, reduceIte, Nat.reduceEqDiff, Int.reduceEq, Int.reduceLT, Int.reduceLE, Jb, Kz, jE, jC, jD, jG, jF, l0, l1, l2, l3, l4, m0, m1, m2, m3, m4, if_neg ha.ne, if_neg hb.ne, e1, e2, e3, e4]
     rw [hTe] at hr
     rw [e1, Bool.true_and, e2, Bool.true_and, e3, Bool.true_and, e4, Bool.false_and]
     exact ji.runs hr (.inr rfl) cc rfl
   ·
    have e3 := decide_eq_false h3
    conv at hr =>
     rhs
     rw [hTe]
     simp only [ji.code, ji.rs, zSs, reduceIte, Nat.reduceEqDiff, Int.reduceEq, Int.reduceLT, Int.reduceLE, Jb, Kz, jE, jC, jD, jG, jF, l0, l1, l2, l3, l4, m0, m1, m2, m3, m4, if_neg ha.ne, if_neg hb.ne, e1, e2, e3]
    rw [hTe] at hr
    rw [e1, Bool.true_and, e2, Bool.true_and, e3, Bool.false_and]
    exact ji.runs hr (.inr rfl) cc rfl
  ·
   have e2 := decide_eq_false h2
   conv at hr =>
    rhs
    rw [hTe]
    simp only [ji.code, ji.rs, zSs, reduceIte, Nat.reduceEqDiff, Int.reduceEq, Int.reduceLT, Int.reduceLE, Jb, Kz, jE, jC, jD, jG, jF, l0, l1, l2, l3, l4, m0, m1, m2, m3, m4, if_neg ha.ne, if_neg hb.ne, e1, e2]
   rw [hTe] at hr
   rw [e1, Bool.true_and, e2, Bool.false_and]
   exact ji.runs hr (.inr rfl) cc rfl
 ·
  have e1 := decide_eq_false h1
  conv at hr =>
   rhs
   rw [hTe]
   simp only [ji.code, ji.rs, zSs, reduceIte, Nat.reduceEqDiff, Int.reduceEq, Int.reduceLT, Int.reduceLE, Jb, Kz, jE, jC, jD, jG, jF, l0, l1, l2, l3, l4, m0, m1, m2, m3, m4, if_neg ha.ne, if_neg hb.ne, e1]
  rw [hTe] at hr
  rw [e1, Bool.false_and]
  exact ji.runs hr (.inr rfl) cc rfl
def Ku (b : xu) : List UInt8 := encs [b.slot, b.miner, b.variant, b.parent] ++ aaI b.txs
def aaO (b : xu) : Value := if jI b then .tuple #[by_ 2 (Ku b), .int .i64 0] else .tuple #[.slice none 0 0, .int .i64 71]
theorem JW {b : xu} (h : headB b = true) : ∀ n ∈ [b.slot, b.miner, b.variant, b.parent], 0 ≤ n ∧ n ≤ 268435455 := by
 obtain ⟨h1, h2, h3, h4⟩ := Zw.mp h
 have h5 : 0 ≤ b.parent ∧ b.parent ≤ 268435455 := by
  rcases h4 with h4 | ⟨h4, _⟩
  ·
   omega
  ·
   have := xG.mp h4; omega
 intro n hn
 simp only [List.mem_cons, List.not_mem_nil, or_false] at hn
 rcases hn with rfl | rfl | rfl | rfl <;> omega
theorem bs4 (a b c d : Int) (S : zi) : jR Try.prog 24 4 [(0, .int .i64 a), (1, .int .i64 b), (2, .int .i64 c), (3, .int .i64 d)] S = some (iz 2 [a, b, c, d], S) := by kernel_rfl
theorem Y6 {b : xu} (h : headB b = true) : (encs [b.slot, b.miner, b.variant, b.parent]).length ≤ 40 := by
 have h1 := JW h
 have := ZB (l := [b.slot, b.miner, b.variant, b.parent]) (fun n hn => by have := h1 n hn; omega)
 exact this
theorem jT.v {b : xu} (hb : b.Ok) (S : zi) : zQ Try.prog O jT.id [bv b] S = some (aaO b, S) := by
 obtain ⟨T, hTe⟩ : ∃ T, T = (bv b :: undef :: undef :: undef :: undef :: undef :: undef :: undef :: undef :: undef :: undef :: undef :: undef :: undef :: undef :: undef :: undef :: undef :: undef :: undef :: undef :: undef :: undef :: undef :: undef :: undef :: undef :: undef :: undef :: undef :: undef :: undef :: undef :: []) := ⟨_, rfl⟩
 have hr : zA Try.prog O false jT.code T zi.empty = zA Try.prog O false jT.code T zi.empty := rfl
 have l0 := XI (yM b)
 have l1 := Vs (yM b)
 have l2 := Xt (yM b)
 have l3 := aaD (yM b)
 have l4 := VP (yM b) hb.ne
 have lb := V4 (yM b) hb.ne
 have c1 := fun S => jg.v hb S
 unfold aaO
 cases hR : jI b
 ·
  rw [hR] at c1
  conv at hr =>
   rhs
   rw [hTe]
   simp only [jT.code, jT.rs, zSs, reduceIte, Nat.reduceEqDiff, Int.reduceEq, Int.reduceLT, Int.reduceLE, Jb, lb, c1]
  rw [hTe] at hr
  exact jT.runs hr (.inr rfl) rfl rfl (all1 (yx hb.okl.le)) rfl
 ·
  rw [hR] at c1
  have hh : headB b = true ∧ vX b.txs = true := by simpa [jI] using hR
  have few := JW hh.1
  have c2 := fun S => jk.v (l := [b.slot, b.miner, b.variant, b.parent]) Okl.read (by decide) (fun n hn => by have := few n hn; omega) S
  have n2 := Ja (k := 0) (l := [b.slot, b.miner, b.variant, b.parent]) (by simp) (fun n hn => by have := few n hn; omega) (by simp)
  have c3 := fun S => jK.v hb.okl hb.ne (by have := hb.len; omega) S
  have t3 : ahE b.txs = .tuple #[by_ 2 (aaI b.txs), .int .i64 0] := if_pos hh.2
  have ap : ∀ S, yj Try.prog 33 33 (by_ 2 (encs [b.slot, b.miner, b.variant, b.parent])) (by_ 1 (aaI b.txs)) S = some (by_ 2 (Ku b), S) := fun S => by
   rw [xE Okl.own (by decide) Okl.read (by have := Y6 hh.1; have := Y1 hh.2; omega)]; rfl
  conv at hr =>
   rhs
   rw [hTe]
   simp only [jT.code, jT.rs, zSs, reduceIte, Nat.reduceEqDiff, Int.reduceEq, Int.reduceLT, Int.reduceLE, Jb, lb, c1, jE, jC, jD, jG, jF, l0, l1, l2, l3, l4, if_neg hb.ne, bs4, c2, n2, c3, t3, ap]
  rw [hTe] at hr
  exact jT.runs hr (.inr rfl) (by simp only [List.getD_cons_succ, List.getD_cons_zero, wB, wo, jM, jU, jZ]) rfl (all1 (yx hb.okl.le)) (yP (all2 (qL (k := 2) (Nat.le_refl 2)) rfl))
theorem jc.v {b : xu} (hb : b.Ok) (S : zi) : zQ Try.prog O jc.id [bv b] S = some (aaO b, S) := by
 obtain ⟨T, hTe⟩ : ∃ T, T = (bv b :: undef :: undef :: undef :: undef :: undef :: undef :: undef :: undef :: undef :: undef :: undef :: undef :: undef :: undef :: undef :: undef :: undef :: undef :: undef :: undef :: undef :: undef :: undef :: undef :: undef :: undef :: undef :: undef :: undef :: undef :: undef :: undef :: []) := ⟨_, rfl⟩
 have hr : zA Try.prog O false jc.code T zi.empty = zA Try.prog O false jc.code T zi.empty := rfl
 have l0 := XI (yM b)
 have l1 := Vs (yM b)
 have l2 := Xt (yM b)
 have l3 := aaD (yM b)
 have l4 := VP (yM b) hb.ne
 have lb := V4 (yM b) hb.ne
 have c1 := fun S => zq.v hb S
 unfold aaO
 cases hR : jI b
 ·
  rw [hR] at c1
  conv at hr =>
   rhs
   rw [hTe]
   simp only [jc.code, jc.rs, zSs, reduceIte, Nat.reduceEqDiff, Int.reduceEq, Int.reduceLT, Int.reduceLE, Jb, lb, c1]
  rw [hTe] at hr
  exact jc.runs hr (.inr rfl) rfl rfl (all1 (yx hb.okl.le)) rfl
 ·
  rw [hR] at c1
  have hh : headB b = true ∧ vX b.txs = true := by simpa [jI] using hR
  have few := JW hh.1
  have c2 := fun S => zu.v (l := [b.slot, b.miner, b.variant, b.parent]) Okl.read (by decide) (fun n hn => by have := few n hn; omega) S
  have n2 := Ja (k := 2) (l := [b.slot, b.miner, b.variant, b.parent]) (by simp) (fun n hn => by have := few n hn; omega) (by simp)
  have c3 := fun S => zn.v hb.okl hb.ne (by have := hb.len; omega) S
  have t3 : ahE b.txs = .tuple #[by_ 2 (aaI b.txs), .int .i64 0] := if_pos hh.2
  have ap : ∀ S, yj Try.prog 33 33 (by_ 2 (encs [b.slot, b.miner, b.variant, b.parent])) (by_ 1 (aaI b.txs)) S = some (by_ 2 (Ku b), S) := fun S => by
   rw [xE Okl.own (by decide) Okl.read (by have := Y6 hh.1; have := Y1 hh.2; omega)]; rfl
  conv at hr =>
   rhs
   rw [hTe]
   simp only [jc.code, jc.rs, zSs, reduceIte, Nat.reduceEqDiff, Int.reduceEq, Int.reduceLT, Int.reduceLE, Jb, lb, c1, jE, jC, jD, jG, jF, l0, l1, l2, l3, l4, if_neg hb.ne, bs4, c2, n2, c3, t3, ap]
  rw [hTe] at hr
  exact jc.runs hr (.inr rfl) (by simp only [List.getD_cons_succ, List.getD_cons_zero, wB, wo, jM, jU, jZ]) rfl (all1 (yx hb.okl.le)) (yP (all2 (qL (k := 2) (Nat.le_refl 2)) rfl))
end Go.Proofs.Ytfjogganfjkckaa
namespace Go.Proofs.Ytfjogganfjkckaa
open Go.Abs
theorem ah0 {α : Type} {f : α → List Value} {e k : Nat} {l : List α} {d : Nat} : okq d (vs f e k l) = true := by unfold vs sv; cases d <;> split <;> rfl
theorem afL {R : Type} {a b c d : Int} {k : Nat} {l : List TxV} (r : Option R) (p : vC r) : okK (.agg [Value.int .i64 a, .int .i64 b, .int .i64 c, .int .i64 d, tl k l].toArray) r p = r := Wj (by
 show ([Value.int .i64 a, .int .i64 b, .int .i64 c, .int .i64 d, tl k l].toArray.toList.all (okq 2)) = true
 simp only [List.toList_toArray, List.all_cons, List.all_nil, ah0, Bool.and_true]
 rfl) r p
theorem ads (b : xu) : ∃ k x e, Okl k x ∧ List.length x ≤ 140 ∧ aaO b = .tuple #[by_ k x, .int .i64 e] ∧ ((e = 0 ∧ jI b = true ∧ x = Ku b ∧ k = 2) ∨ (e = 71 ∧ jI b = false ∧ x = [] ∧ k = 0)) := by
 unfold aaO
 by_cases h : jI b = true
 ·
  have hh : headB b = true ∧ vX b.txs = true := by simpa [jI] using h
  exact ⟨2, Ku b, 0, Okl.own, by unfold Ku; rw [List.length_append]; have := Y6 hh.1; have := Y1 hh.2; omega, by rw [if_pos h], .inl ⟨rfl, h, rfl, rfl⟩⟩
 ·
  exact ⟨0, [], 71, Okl.none, by simp, by rw [if_neg h]; rfl, .inr ⟨rfl, by simpa using h, rfl, rfl⟩⟩
end Go.Proofs.Ytfjogganfjkckaa
namespace Go.Proofs.Ytfjogganfjkckaa
open Go.Abs
abbrev bk0 : xu := ⟨0, 0, 0, 0, 0, []⟩
theorem adh (S : zi) : yJ Try.prog 46 S = some (.pointer (some ⟨S.next, 0, none⟩), S.push (.cells (fBk bk0) (.own []) 0)) := by kernel_rfl
theorem afF (b : xu) : (fBk b).all (·.oneCell') = true := by
 simp only [fBk, List.all_cons, List.all_nil, ad1, ahk, Bool.and_true]
theorem akg (S : zi) (b : xu) : ∃ S2, wU Try.prog 46 (.pointer (some ⟨S.next, 0, none⟩)) (bv b) (S.push (.cells (fBk bk0) (.own []) 0)) = some (undef, S2) ∧ S2.get S.next = some (.cells (fBk b) (.own []) 0) ∧ Ext S S2 ∧ S.next < S2.next :=
 QO S (by rw [qm, List.toList_toArray]; rfl) Zg rfl (afF b)
theorem acN {S S0 : zi} {q : Nat} {u : xu} (b : xu) (hg : S.get q = some (.cells (fBk u) (.own []) 0)) (hE : Ext S0 S) (hq : S0.next ≤ q) : ∃ S2, wU Try.prog 46 (.pointer (some ⟨q, 0, none⟩)) (bv b) S = some (undef, S2) ∧ S2.get q = some (.cells (fBk b) (.own []) 0) ∧ Ext S0 S2 ∧ S2.next = S.next ∧ ∀ k, k ≠ q → S2.get k = S.get k :=
 aaA hg Zg rfl (afF b) (by simp [fBk]) hE hq
theorem ab5 {x y : xu} {r s : List UInt8} (hx : jI x = true) (hy : jI y = true) (h : Ku x ++ r = Ku y ++ s) : (x.slot = y.slot ∧ x.miner = y.miner ∧ x.variant = y.variant ∧ x.parent = y.parent ∧ x.txs = y.txs) ∧ r = s := by
 have h1 : headB x = true ∧ vX x.txs = true := by simpa [jI] using hx
 have h2 : headB y = true ∧ vX y.txs = true := by simpa [jI] using hy
 have f1 := JW h1.1
 have f2 := JW h2.1
 unfold Ku at h
 rw [List.append_assoc, List.append_assoc] at h
 obtain ⟨e1, e2⟩ := JF (a := [x.slot, x.miner, x.variant, x.parent]) (c := [y.slot, y.miner, y.variant, y.parent]) rfl (fun n hn => by have := f1 n hn; unfold Few; omega) (fun n hn => by have := f2 n hn; unfold Few; omega) h
 obtain ⟨e3, e4⟩ := acp h1.2 h2.2 e2
 simp only [List.cons.injEq, and_true] at e1
 exact ⟨⟨e1.1, e1.2.1, e1.2.2.1, e1.2.2.2, e3⟩, e4⟩
noncomputable def afP (l : List UInt8) : Option xu := rd (fun b => jI b = true ∧ b.k = 0) Ku l
theorem aj9 {x y : xu} (h : x.slot = y.slot ∧ x.miner = y.miner ∧ x.variant = y.variant ∧ x.parent = y.parent ∧ x.txs = y.txs) (hk : x.k = y.k) : x = y := by
 cases x; cases y
 simp at h hk
 obtain ⟨rfl, rfl, rfl, rfl, rfl⟩ := h
 rw [hk]
theorem WX (l : List UInt8) (b : xu) : afP l = some b ↔ (jI b = true ∧ b.k = 0) ∧ l = Ku b :=
 aey (fun x y hx hy h => aj9 (ab5 (r := []) (s := []) hx.1 hy.1 (by rw [List.append_nil, List.append_nil]; exact h)).1 (hx.2.trans hy.2.symm)) l b
theorem QM {l : List UInt8} (h : ∀ b : xu, b.k = 0 → jI b = true → l ≠ Ku b) : afP l = none := by
 cases hr : afP l with
 | none => rfl
 | some b => obtain ⟨⟨h1, h2⟩, h3⟩ := (WX l b).mp hr; exact absurd h3 (h b h2 h1)
theorem aif (l : List UInt8) : yV 4 l = none ∨ ∃ a b c d r, yV 4 l = some ([a, b, c, d], r) ∧ r.length ≤ l.length := by
 cases h : yV 4 l with
 | none => exact .inl rfl
 | some ar =>
  obtain ⟨a, r⟩ := ar
  obtain ⟨h1, h2⟩ := JV h
  match a, h1 with
  | [x, y, z, w], _ => exact .inr ⟨x, y, z, w, r, rfl, h2⟩
theorem aa7 {l r : List UInt8} {b : xu} (hb : jI b = true) (h : l = Ku b ++ r) : yV 4 l = some ([b.slot, b.miner, b.variant, b.parent], aaI b.txs ++ r) := by
 have h1 : headB b = true ∧ vX b.txs = true := by simpa [jI] using hb
 have f1 := JW h1.1
 exact (yS _ _ _ _).mpr ⟨rfl, by rw [h, Ku, List.append_assoc], fun n hn => by have := f1 n hn; unfold Few; omega⟩
theorem acL {l : List UInt8} (h : yV 4 l = none) : afP l = none := QM fun b _ hb hl => by
 have := aa7 (l := l) (r := []) hb (by rw [List.append_nil]; exact hl)
 rw [h] at this; cases this
theorem adA {l r : List UInt8} {a b c d : Int} (h : yV 4 l = some ([a, b, c, d], r)) (h2 : Zq r = none) : afP l = none := QM fun x _ hb hl => by
 have := aa7 (l := l) (r := []) hb (by rw [List.append_nil]; exact hl)
 rw [h] at this
 simp only [Option.some.injEq, Prod.mk.injEq, List.append_nil] at this
 have h1 : headB x = true ∧ vX x.txs = true := by simpa [jI] using hb
 rw [(ZU r x.txs).mpr ⟨h1.2, this.2⟩] at h2
 cases h2
theorem ad6 {l r : List UInt8} {a b c d : Int} {ts : List TxV} (h : yV 4 l = some ([a, b, c, d], r)) (h2 : Zq r = some ts) : afP l = if jI ⟨a, b, c, d, 0, ts⟩ = true then some ⟨a, b, c, d, 0, ts⟩ else none := by
 obtain ⟨_, g2, _⟩ := (yS _ _ _ _).mp h
 obtain ⟨t1, t2⟩ := (ZU r ts).mp h2
 split
 ·
  rename_i hR
  exact (WX _ _).mpr ⟨⟨hR, rfl⟩, by rw [g2, t2]; rfl⟩
 ·
  rename_i hR
  refine QM fun x _ hb hl => hR ?_
  have := aa7 (l := l) (r := []) hb (by rw [List.append_nil]; exact hl)
  rw [h] at this
  simp only [Option.some.injEq, Prod.mk.injEq, List.append_nil, List.cons.injEq, and_true] at this
  have h1 : headB x = true ∧ vX x.txs = true := by simpa [jI] using hb
  have h3 := (ZU r x.txs).mpr ⟨h1.2, this.2⟩
  rw [h2] at h3
  injection h3 with h3
  obtain ⟨⟨i1, i2, i3, i4⟩, _⟩ := this
  rw [i1, i2, i3, i4, h3]
  exact hb
theorem aeL (a b c d : Int) (k j : Nat) (t : List TxV) : jI ⟨a, b, c, d, k, t⟩ = jI ⟨a, b, c, d, j, t⟩ := rfl
def aiU (l : List UInt8) (b : xu) (e : Int) : Prop := b.Ok ∧ b.txs.length ≤ 3 ∧ ((e = 0 ∧ afP l = some ⟨b.slot, b.miner, b.variant, b.parent, 0, b.txs⟩ ∧ jI b = true) ∨ (e = 71 ∧ afP l = none ∧ b = bk0))
theorem ok0 : bk0.Ok := ⟨Okl.none, by decide, by simp, by decide⟩
theorem jy.v {k : Nat} {l : List UInt8} (hk : Okl k l) (k2 : k ≠ 2) (hl : l.length ≤ 140737488355328) : ∃ b e, aiU l b e ∧ ∀ S, zQ Try.prog O jy.id [by_ k l] S = some (.tuple #[bv b, .int .i64 e], S) := by
 have a1 := adh zi.empty
 have g1 : (zi.empty.push (.cells (fBk bk0) (.own []) 0)).get 0 = some (.cells (fBk bk0) (.own []) 0) := by kernel_rfl
 have n1 : (zi.empty.push (.cells (fBk bk0) (.own []) 0)).next = 1 := by kernel_rfl
 rw [show zi.empty.next = 0 from rfl] at a1
 have hE1 : Ext zi.empty (zi.empty.push (.cells (fBk bk0) (.own []) 0)) := Ext.push _ _
 have cl : [by_ k l].all (jH 16) = true := all1 (qL (k := k) hk.le)
 obtain ⟨T, hTe⟩ : ∃ T, T = (by_ k l :: undef :: undef :: undef :: undef :: undef :: undef :: undef :: undef :: undef :: undef :: undef :: undef :: undef :: undef :: undef :: undef :: undef :: undef :: undef :: undef :: undef :: undef :: undef :: undef :: undef :: undef :: undef :: undef :: undef :: undef :: undef :: undef :: undef :: undef :: undef :: undef :: undef :: undef :: undef :: undef :: undef :: undef :: undef :: undef :: undef :: []) := ⟨_, rfl⟩
 have hr : zA Try.prog O false jy.code T zi.empty = zA Try.prog O false jy.code T zi.empty := rfl
 have c1 := fun S => zC.v (many := 4) hk k2 hl S
 have r1 : ∀ k0 k1, Jt k0 k1 4 l = _ := fun k0 k1 => Z4 (m := 4) (by decide) (by decide)
 rw [r1] at c1
 have z0 : ∀ S, yu Try.prog 46 [] S = some (bv bk0, S) := fun S => YT S
 generalize zi.empty.push (.cells (fBk bk0) (.own []) 0) = S1 at a1 g1 n1 hE1
 rcases aif l with h | ⟨a, b, c, d, r, h, hlr⟩
 ·
  rw [h] at c1
  obtain ⟨S3, q1, q2, q3, q4, q5⟩ := acN bk0 g1 hE1 (Nat.zero_le _)
  refine ⟨bk0, 71, ⟨ok0, by simp, .inr ⟨rfl, acL h, rfl⟩⟩, fun S => ?_⟩
  conv at hr =>
   rhs
   rw [hTe]
   simp only [jy.code, jy.rs, zSs, reduceIte, Nat.reduceEqDiff, Int.reduceEq, Int.reduceLT, Int.reduceLE, if_neg k2, a1, c1, z0, q1]
  rw [hTe] at hr
  exact jy.runs hr (.inr rfl) (V4 q2 (by decide)) rfl rfl cl rfl
 ·
  rw [h] at c1
  have i0 := fun S => J5 (k := 1) (i := 0) (m := 0) (l := [a, b, c, d]) Okl.read rfl rfl S
  have i1 := fun S => J5 (k := 1) (i := 1) (m := 1) (l := [a, b, c, d]) Okl.read rfl rfl S
  have i2 := fun S => J5 (k := 1) (i := 2) (m := 2) (l := [a, b, c, d]) Okl.read rfl rfl S
  have i3 := fun S => J5 (k := 1) (i := 3) (m := 3) (l := [a, b, c, d]) Okl.read rfl rfl S
  have few := ((yS _ _ _ _).mp h).2.2
  have fd : d ≤ 4611686018427387904 := (few d (by simp)).2
  obtain ⟨j, t, e, o1, o2, o3, o4⟩ := aaY (j := 0) (by decide) r
  have c2 := fun S => zH.v (k := 1) (l := r) Okl.read (by decide) (by omega) S
  rw [o3] at c2
  have hok : xu.Ok ⟨a, b, c, d, if j = 2 then 1 else j, t⟩ := ⟨o1.dem, QD j, by show t.length * 16 ≤ _; omega, by show d < _; omega⟩
  obtain ⟨S2, p1, p2, p3, p4⟩ := akg S1 ⟨a, b, c, d, if j = 2 then 1 else j, t⟩
  have g2 : S2.get 0 = some (.cells (fBk bk0) (.own []) 0) := by rw [p3.get 0 (by omega), g1]
  have bd := fun S => Jm (y0 := .int .i64 a) (y1 := .int .i64 b) (y2 := .int .i64 c) (y3 := .int .i64 d) (y4 := tl (if j = 2 then 1 else j) t) kJ kJ kJ kJ Qa S
  have c3 : ∀ S, zQ Try.prog O 45 [.agg [Value.int .i64 a, .int .i64 b, .int .i64 c, .int .i64 d, tl (if j = 2 then 1 else j) t].toArray] S = some (.bool (jI ⟨a, b, c, d, if j = 2 then 1 else j, t⟩), S) := fun S => jg.v hok S
  have lb : zZ Try.prog false 46 (.pointer (some ⟨S1.next, 0, none⟩)) S2 = some (.agg [Value.int .i64 a, .int .i64 b, .int .i64 c, .int .i64 d, tl (if j = 2 then 1 else j) t].toArray, S2) := V4 p2 (QD j)
  rcases o4 with ⟨rfl, hx⟩ | ⟨rfl, hx, rfl⟩
  ·
   cases hR : jI ⟨a, b, c, d, if j = 2 then 1 else j, t⟩
   ·
    rw [hR] at c3
    obtain ⟨S3, q1, q2, q3, q4, q5⟩ := acN bk0 g2 (Ext.trans hE1 p3) (Nat.zero_le _)
    refine ⟨bk0, 71, ⟨ok0, by simp, .inr ⟨rfl, ?_, rfl⟩⟩, fun S => ?_⟩
    ·
     rw [ad6 h hx, if_neg (by rw [aeL a b c d 0 (if j = 2 then 1 else j) t, hR]; decide)]
    conv at hr =>
     rhs
     rw [hTe]
     simp only [jy.code, jy.rs, zSs, reduceIte, Nat.reduceEqDiff, Int.reduceEq, Int.reduceLT, Int.reduceLE, if_neg k2, a1, c1, c2, i0, i1, i2, i3, kN, ahn, bd, afL, adh, p1, lb, c3, z0, q1]
    rw [hTe] at hr
    exact jy.runs hr (.inr rfl) (V4 q2 (by decide)) rfl rfl cl rfl
   ·
    rw [hR] at c3
    obtain ⟨S3, q1, q2, q3, q4, q5⟩ := acN ⟨a, b, c, d, if j = 2 then 1 else j, t⟩ g2 (Ext.trans hE1 p3) (Nat.zero_le _)
    refine ⟨⟨a, b, c, d, if j = 2 then 1 else j, t⟩, 0, ⟨hok, o2, .inl ⟨rfl, ?_, hR⟩⟩, fun S => ?_⟩
    ·
     rw [ad6 h hx, if_pos (by rw [aeL a b c d 0 (if j = 2 then 1 else j) t, hR])]
    conv at hr =>
     rhs
     rw [hTe]
     simp only [jy.code, jy.rs, zSs, reduceIte, Nat.reduceEqDiff, Int.reduceEq, Int.reduceLT, Int.reduceLE, if_neg k2, a1, c1, c2, i0, i1, i2, i3, kN, ahn, bd, afL, adh, p1, lb, c3, q1]
    rw [hTe] at hr
    exact jy.runs hr (.inr rfl) (V4 q2 (QD j)) rfl rfl cl (yP (all2 (yx (b := ⟨a, b, c, d, if j = 2 then 1 else j, t⟩) hok.okl.le) rfl))
  ·
   obtain ⟨S3, q1, q2, q3, q4, q5⟩ := acN bk0 g2 (Ext.trans hE1 p3) (Nat.zero_le _)
   refine ⟨bk0, 71, ⟨ok0, by simp, .inr ⟨rfl, adA h hx, rfl⟩⟩, fun S => ?_⟩
   conv at hr =>
    rhs
    rw [hTe]
    simp only [jy.code, jy.rs, zSs, reduceIte, Nat.reduceEqDiff, Int.reduceEq, Int.reduceLT, Int.reduceLE, if_neg k2, a1, c1, c2, i0, i1, i2, i3, kN, ahn, bd, afL, adh, p1, z0, q1]
   rw [hTe] at hr
   exact jy.runs hr (.inr rfl) (V4 q2 (by decide)) rfl rfl cl rfl
end Go.Proofs.Ytfjogganfjkckaa
namespace Go.Proofs.Ytfjogganfjkckaa
open Go.Abs
structure wM where
 kind : Int
 frm : Int
 index : Int
 view : Int
 value : Int
 prep : Int
 tx : TxV
 b : xu
def fM (m : wM) : List Value := [.int .i64 m.kind, .int .i64 m.frm, .int .i64 m.index, .int .i64 m.view, .int .i64 m.value, .int .i64 m.prep, .int .i64 m.tx.id, .int .i64 m.tx.fee, .int .i64 m.b.slot, .int .i64 m.b.miner, .int .i64 m.b.variant, .int .i64 m.b.parent, tl m.b.k m.b.txs]
abbrev mv (m : wM) : Value := .agg [Value.int .i64 m.kind, .int .i64 m.frm, .int .i64 m.index, .int .i64 m.view, .int .i64 m.value, .int .i64 m.prep, .int .i64 m.tx.id, .int .i64 m.tx.fee, .int .i64 m.b.slot, .int .i64 m.b.miner, .int .i64 m.b.variant, .int .i64 m.b.parent, tl m.b.k m.b.txs].toArray
def Big (n : Int) : Prop := -9223372036854775808 ≤ n ∧ n < 9223372036854775808
structure wM.Ok (m : wM) : Prop where
 b : m.b.Ok
 tx : m.tx.Ok
 kind : Big m.kind
 frm : Big m.frm
 index : Big m.index
 view : Big m.view
 value : Big m.value
 prep : Big m.prep
abbrev m0 : wM := ⟨0, 0, 0, 0, 0, 0, ⟨0, 0⟩, bk0⟩
theorem mk_eq {x y : wM} (h1 : x.kind = y.kind) (h2 : x.frm = y.frm) (h3 : x.index = y.index) (h4 : x.view = y.view) (h5 : x.value = y.value) (h6 : x.prep = y.prep) (h7 : x.tx = y.tx) (h8 : x.b = y.b) : x = y := by
 cases x; cases y; simp_all
theorem yw {m : wM} {d : Nat} (h : m.b.k ≤ 2) : jH (d + 6) (mv m) = true := by
 have h1 : jH (d + 5) (tl m.b.k m.b.txs) = true := Zx (d := d + 1) h fun _ _ => rfl
 refine aaq ?_
 simp only [List.all_cons, List.all_nil, h1, Bool.and_true]
 rfl
theorem ajK (m : wM) : (fM m).all (·.oneCell') = true := by
 simp only [fM, List.all_cons, List.all_nil, ad1, ahk, Bool.and_true]
section
variable {S : zi} {q e : Nat} {m : wM} {own : Own}
theorem wF (h : S.get q = some (.cells (fM m) own e)) : zZ Try.prog false 3 (.pointer (some ⟨q, 0 + 0, none⟩)) S = some (.int .i64 m.kind, S) := qp (t := 3) (o := 0 + 0) h Zr rfl
theorem wX (h : S.get q = some (.cells (fM m) own e)) : zZ Try.prog false 3 (.pointer (some ⟨q, 0 + 1, none⟩)) S = some (.int .i64 m.frm, S) := qp (t := 3) (o := 0 + 1) h Zr rfl
theorem yc (h : S.get q = some (.cells (fM m) own e)) : zZ Try.prog false 3 (.pointer (some ⟨q, 0 + 2, none⟩)) S = some (.int .i64 m.index, S) := qp (t := 3) (o := 0 + 2) h Zr rfl
theorem yC (h : S.get q = some (.cells (fM m) own e)) : zZ Try.prog false 3 (.pointer (some ⟨q, 0 + 3, none⟩)) S = some (.int .i64 m.view, S) := qp (t := 3) (o := 0 + 3) h Zr rfl
theorem wR (h : S.get q = some (.cells (fM m) own e)) : zZ Try.prog false 3 (.pointer (some ⟨q, 0 + 4, none⟩)) S = some (.int .i64 m.value, S) := qp (t := 3) (o := 0 + 4) h Zr rfl
theorem yH (h : S.get q = some (.cells (fM m) own e)) : zZ Try.prog false 3 (.pointer (some ⟨q, 0 + 5, none⟩)) S = some (.int .i64 m.prep, S) := qp (t := 3) (o := 0 + 5) h Zr rfl
theorem yK (h : S.get q = some (.cells (fM m) own e)) : zZ Try.prog false 43 (.pointer (some ⟨q, 0 + 6, none⟩)) S = some (tv m.tx, S) := (WR (o := 0 + 6) h X0 vY (by simp [fM])).trans (by simp [fM, xP])
theorem yF (h : S.get q = some (.cells (fM m) own e)) (hk : m.b.k ≠ 2) : zZ Try.prog false 46 (.pointer (some ⟨q, 0 + 8, none⟩)) S = some (bv m.b, S) := by
 rw [WR (o := 0 + 8) h Qm Zg (by simp [fM])]
 simp [fM, xP, abr, hk]
theorem vw (h : S.get q = some (.cells (fM m) own e)) (hk : m.b.k ≠ 2) : zZ Try.prog false 48 (.pointer (some ⟨q, 0, none⟩)) S = some (mv m, S) := by
 rw [adp h]
 simp only [xP, abr, if_neg hk]
end
abbrev YH (m : wM) : zi := zi.empty.push (.cells (fM m) (.own []) 0)
theorem xO (m : wM) : Jo (mv m) zi.empty = some (.pointer (some ⟨0, 0, none⟩), YH m) := rfl
theorem kZ (m : wM) : (YH m).get 0 = some (.cells (fM m) (.own []) 0) := rfl
abbrev abt (a b : wM) : zi := (YH a).push (.cells (fM b) (.own []) 0)
theorem V7 (a b : wM) : Jo (mv b) (YH a) = some (.pointer (some ⟨1, 0, none⟩), abt a b) := by kernel_rfl
theorem ae4 (a b : wM) : (abt a b).get 0 = some (.cells (fM a) (.own []) 0) := by kernel_rfl
theorem afg (a b : wM) : (abt a b).get 1 = some (.cells (fM b) (.own []) 0) := by kernel_rfl
theorem Xy (S : zi) : yJ Try.prog 48 S = some (.pointer (some ⟨S.next, 0, none⟩), S.push (.cells (fM m0) (.own []) 0)) := by kernel_rfl
def ZW (a b : wM) : Bool := decide (a.kind = b.kind) && (decide (a.frm = b.frm) && (decide (a.index = b.index) && (decide (a.view = b.view) && (decide (a.value = b.value) && (decide (a.prep = b.prep) && (decide (a.tx = b.tx) && Zp a.b b.b))))))
theorem wG.v {a b : wM} (ha : a.Ok) (hb : b.Ok) (S : zi) : zQ Try.prog O wG.id [mv a, mv b] S = some (.bool (ZW a b), S) := by
 obtain ⟨T, hTe⟩ : ∃ T, T = (mv a :: mv b :: undef :: undef :: undef :: undef :: undef :: undef :: undef :: undef :: undef :: undef :: undef :: undef :: undef :: undef :: undef :: undef :: undef :: undef :: undef :: undef :: undef :: undef :: undef :: undef :: undef :: undef :: undef :: undef :: undef :: undef :: undef :: undef :: undef :: undef :: undef :: undef :: undef :: undef :: undef :: undef :: undef :: undef :: undef :: undef :: undef :: undef :: undef :: undef :: undef :: undef :: undef :: undef :: undef :: undef :: undef :: undef :: undef :: undef :: undef :: []) := ⟨_, rfl⟩
 have hr : zA Try.prog O false wG.code T zi.empty = zA Try.prog O false wG.code T zi.empty := rfl
 have g0 := ae4 a b
 have g1 := afg a b
 have c1 := fun S => wE.v ha.b hb.b S
 have e1 := fun S => (agk a.tx b.tx S).1
 have hc : [mv a, mv b].all (jH 16) = true := all2 (yw ha.b.okl.le) (yw hb.b.okl.le)
 unfold ZW
 by_cases h1 : a.kind = b.kind
 ·
  by_cases h2 : a.frm = b.frm
  ·
   by_cases h3 : a.index = b.index
   ·
    by_cases h4 : a.view = b.view
    ·
     by_cases h5 : a.value = b.value
     ·
      by_cases h6 : a.prep = b.prep
      ·
       by_cases h7 : a.tx = b.tx
       ·
        rw [decide_eq_true h1, decide_eq_true h2, decide_eq_true h3, decide_eq_true h4, decide_eq_true h5, decide_eq_true h6, decide_eq_true h7]
        simp only [Bool.true_and]
        conv at hr =>
         rhs
         rw [hTe]
         simp only [wG.code, wG.rs, zSs, reduceIte, Nat.reduceEqDiff, Int.reduceEq, Int.reduceLT, Int.reduceLE, xO, V7, zB, zJ, zM, zO, zI, zU, zT, zN, wF g0, wF g1, wX g0, wX g1, yc g0, yc g1, yC g0, yC g1, wR g0, wR g1, yH g0, yH g1, yK g0, yK g1, yF g0 ha.b.ne, yF g1 hb.b.ne, decide_eq_true h1, decide_eq_true h2, decide_eq_true h3, decide_eq_true h4, decide_eq_true h5, decide_eq_true h6, decide_eq_true h7, e1, c1]
        rw [hTe] at hr
        exact wG.runs hr (.inr rfl) hc rfl
       ·
        rw [decide_eq_false h7]
        simp only [Bool.false_and, Bool.and_false]
        conv at hr =>
         rhs
         rw [hTe]
         simp only [wG.code, wG.rs, zSs, reduceIte, Nat.reduceEqDiff, Int.reduceEq, Int.reduceLT, Int.reduceLE, xO, V7, zB, zJ, zM, zO, zI, zU, zT, wF g0, wF g1, wX g0, wX g1, yc g0, yc g1, yC g0, yC g1, wR g0, wR g1, yH g0, yH g1, yK g0, yK g1, decide_eq_true h1, decide_eq_true h2, decide_eq_true h3, decide_eq_true h4, decide_eq_true h5, decide_eq_true h6, decide_eq_false h7, e1]
        rw [hTe] at hr
        exact wG.runs hr (.inr rfl) hc rfl
      ·
       rw [decide_eq_false h6]
       simp only [Bool.false_and, Bool.and_false]
       conv at hr =>
        rhs
        rw [hTe]
        simp only [wG.code, wG.rs, zSs, reduceIte, Nat.reduceEqDiff, Int.reduceEq, Int.reduceLT, Int.reduceLE, xO, V7, zB, zJ, zM, zO, zI, zU, wF g0, wF g1, wX g0, wX g1, yc g0, yc g1, yC g0, yC g1, wR g0, wR g1, yH g0, yH g1, decide_eq_true h1, decide_eq_true h2, decide_eq_true h3, decide_eq_true h4, decide_eq_true h5, decide_eq_false h6]
       rw [hTe] at hr
       exact wG.runs hr (.inr rfl) hc rfl
     ·
      rw [decide_eq_false h5]
      simp only [Bool.false_and, Bool.and_false]
      conv at hr =>
       rhs
       rw [hTe]
       simp only [wG.code, wG.rs, zSs, reduceIte, Nat.reduceEqDiff, Int.reduceEq, Int.reduceLT, Int.reduceLE, xO, V7, zB, zJ, zM, zO, zI, wF g0, wF g1, wX g0, wX g1, yc g0, yc g1, yC g0, yC g1, wR g0, wR g1, decide_eq_true h1, decide_eq_true h2, decide_eq_true h3, decide_eq_true h4, decide_eq_false h5]
      rw [hTe] at hr
      exact wG.runs hr (.inr rfl) hc rfl
    ·
     rw [decide_eq_false h4]
     simp only [Bool.false_and, Bool.and_false]
     conv at hr =>
      rhs
      rw [hTe]
      simp only [wG.code, wG.rs, zSs, reduceIte, Nat.reduceEqDiff, Int.reduceEq, Int.reduceLT, Int.reduceLE, xO, V7, zB, zJ, zM, zO, wF g0, wF g1, wX g0, wX g1, yc g0, yc g1, yC g0, yC g1, decide_eq_true h1, decide_eq_true h2, decide_eq_true h3, decide_eq_false h4]
     rw [hTe] at hr
     exact wG.runs hr (.inr rfl) hc rfl
   ·
    rw [decide_eq_false h3]
    simp only [Bool.false_and, Bool.and_false]
    conv at hr =>
     rhs
     rw [hTe]
     simp only [wG.code, wG.rs, zSs, reduceIte, Nat.reduceEqDiff, Int.reduceEq, Int.reduceLT, Int.reduceLE, xO, V7, zB, zJ, zM, wF g0, wF g1, wX g0, wX g1, yc g0, yc g1, decide_eq_true h1, decide_eq_true h2, decide_eq_false h3]
    rw [hTe] at hr
    exact wG.runs hr (.inr rfl) hc rfl
  ·
   rw [decide_eq_false h2]
   simp only [Bool.false_and, Bool.and_false]
   conv at hr =>
    rhs
    rw [hTe]
    simp only [wG.code, wG.rs, zSs, reduceIte, Nat.reduceEqDiff, Int.reduceEq, Int.reduceLT, Int.reduceLE, xO, V7, zB, zJ, wF g0, wF g1, wX g0, wX g1, decide_eq_true h1, decide_eq_false h2]
   rw [hTe] at hr
   exact wG.runs hr (.inr rfl) hc rfl
 ·
  rw [decide_eq_false h1]
  simp only [Bool.false_and]
  conv at hr =>
   rhs
   rw [hTe]
   simp only [wG.code, wG.rs, zSs, reduceIte, Nat.reduceEqDiff, Int.reduceEq, Int.reduceLT, Int.reduceLE, xO, V7, zB, wF g0, wF g1, decide_eq_false h1]
  rw [hTe] at hr
  exact wG.runs hr (.inr rfl) hc rfl
end Go.Proofs.Ytfjogganfjkckaa
