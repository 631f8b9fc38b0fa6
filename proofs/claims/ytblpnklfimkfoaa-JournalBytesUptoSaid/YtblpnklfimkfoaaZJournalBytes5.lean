/-
The law JournalBytes returns true for every input that holds together at most 1048576 values and letters (each counted as often as it is reached), and leaves it as it was. Condition: that bound, the second form's (UptoSaid); nothing else. Part 5 of 6 of the texts (put together by a program: own names are short, what isn't needed is left out).
-/
import Derived.Test.YtblpnklfimkfoaaZJournalBytes4
import Derived.Test.YtblpnklfimkfoaaChecked
import Derived.KernelRfl
set_option linter.unusedVariables false
set_option linter.unusedSimpArgs false
set_option maxRecDepth 100000
namespace Go.Proofs.Ytblpnklfimkfoaa
open Go.Abs
abbrev jG.id : FuncId := 33
noncomputable def jG.code : Code := (Code.seq (Code.region 0 (reg Try.f33 0) false) (Code.seq (Code.seq (Code.region 1 (reg Try.f33 1) false) (Code.cond (Operand.tmp 6) (Code.seq (Code.region 2 (reg Try.f33 2) false) Code.ret) Code.skip)) (Code.seq (Code.region 3 (reg Try.f33 3) false) Code.ret)))
theorem jG.body : Try.f33.body = some jG.code := by kernel_rfl
variable (a f o p i j k l m n b c d : Value) (S : zi)
theorem jG.r0  : jl Try.prog ⟨false, false, false⟩ (jc Try.prog O) (reg Try.f33 0) (reg Try.f33 0).toList ([a,f,o,p,i,j,k,l,m,n,b,c,d]) S =
  ( some ([a,f,Value.slice none 0 0,Value.int IntKind.i64 0,i,j,k,l,m,n,b,c,d], S)) := by
 kernel_rfl
theorem jG.r1  : jl Try.prog ⟨false, false, false⟩ (jc Try.prog O) (reg Try.f33 1) (reg Try.f33 1).toList ([a,f,o,p,i,j,k,l,m,n,b,c,d]) S =
  (zW (qM Try.prog 26 (dem a) S) (fun q g => zW (jJ Try.prog BinOp.gtr 3 q (Value.int IntKind.i64 4096) g) (fun r s => some ([a,f,o,p,dem a,q,r,l,m,n,b,c,d], s)) ()) ()) := by
 kernel_rfl
theorem jG.r2  : jl Try.prog ⟨false, false, false⟩ (jc Try.prog O) (reg Try.f33 2) (reg Try.f33 2).toList ([a,f,o,p,i,j,k,l,m,n,b,c,d]) S =
  ( some ([a,f,Value.slice none 0 0,Value.int IntKind.i64 11,i,j,k,l,m,n,b,c,d], S)) := by
 kernel_rfl
theorem jG.r3  : jl Try.prog ⟨false, false, false⟩ (jc Try.prog O) (reg Try.f33 3) (reg Try.f33 3).toList ([a,f,o,p,i,j,k,l,m,n,b,c,d]) S =
  (zW (qM Try.prog 26 (dem a) S) (fun q g => zW (jK Try.prog false false 3 75 q g) (fun r s => zW ((jc Try.prog O) 45 [(dem r)] s) (fun t v => zW (jB Try.prog 26 26 t (dem a) v) (fun u w => some ([a,f,u,Value.int IntKind.i64 0,i,j,k,dem a,q,r,dem t,dem a,dem u], w)) ()) ()) ()) ()) := by
 kernel_rfl
theorem jG.runs {a : Value} {S g : zi} {e : AEx} {T : List Value} (h : zI Try.prog O false jG.code ([a,undef,undef,undef,undef,undef,undef,undef,undef,undef,undef,undef,undef]) S = some (e, T, g)) (he : e = .normal ∨ e = .ret)  (h0 : ji (T.getD 2 undef) = true) (h1 : ji (T.getD 3 undef) = true) : jc Try.prog O 33 [a] S = some (Value.tuple #[T.getD 2 undef, T.getD 3 undef], g) :=
 jU rfl rfl Try.func33 (by decide) jG.body (by exact h) he ((wu ((show zV Try.prog T g Try.f33.results.toList = zV Try.prog T g [(ResultVar.tmp 2), (ResultVar.tmp 3)] from by kernel_rfl).trans (by simp only [zV])) (by kernel_rfl) (by simp only [List.all_cons, List.all_nil, h0, h1, Bool.and_true])).trans rfl)
end Go.Proofs.Ytblpnklfimkfoaa
namespace Go.Proofs.Ytblpnklfimkfoaa
open Go.Abs
abbrev zY.id : FuncId := 36
noncomputable def zY.code : Code := (Code.seq (Code.region 0 (reg Try.f36 0) false) (Code.seq (Code.seq (Code.region 1 (reg Try.f36 1) false) (Code.cond (Operand.tmp 6) (Code.seq (Code.region 2 (reg Try.f36 2) false) Code.ret) Code.skip)) (Code.seq (Code.region 3 (reg Try.f36 3) false) Code.ret)))
theorem zY.body : Try.f36.body = some zY.code := by kernel_rfl
variable (a f o p i j k l m n b c d : Value) (S : zi)
theorem zY.r0  : jl Try.prog ⟨false, false, false⟩ (jc Try.prog O) (reg Try.f36 0) (reg Try.f36 0).toList ([a,f,o,p,i,j,k,l,m,n,b,c,d]) S =
  ( some ([a,f,Value.slice none 0 0,Value.int IntKind.i64 0,i,j,k,l,m,n,b,c,d], S)) := by
 kernel_rfl
theorem zY.r1  : jl Try.prog ⟨false, false, false⟩ (jc Try.prog O) (reg Try.f36 1) (reg Try.f36 1).toList ([a,f,o,p,i,j,k,l,m,n,b,c,d]) S =
  (zW (qM Try.prog 26 (dem a) S) (fun q g => zW (jJ Try.prog BinOp.gtr 3 q (Value.int IntKind.i64 4096) g) (fun r s => some ([a,f,o,p,dem a,q,r,l,m,n,b,c,d], s)) ()) ()) := by
 kernel_rfl
theorem zY.r2  : jl Try.prog ⟨false, false, false⟩ (jc Try.prog O) (reg Try.f36 2) (reg Try.f36 2).toList ([a,f,o,p,i,j,k,l,m,n,b,c,d]) S =
  ( some ([a,f,Value.slice none 0 0,Value.int IntKind.i64 11,i,j,k,l,m,n,b,c,d], S)) := by
 kernel_rfl
theorem zY.r3  : jl Try.prog ⟨false, false, false⟩ (jc Try.prog O) (reg Try.f36 3) (reg Try.f36 3).toList ([a,f,o,p,i,j,k,l,m,n,b,c,d]) S =
  (zW (qM Try.prog 26 (dem a) S) (fun q g => zW (jK Try.prog false false 3 75 q g) (fun r s => zW ((jc Try.prog O) 46 [(dem r)] s) (fun t v => zW (jB Try.prog 26 26 t (dem a) v) (fun u w => some ([a,f,u,Value.int IntKind.i64 0,i,j,k,dem a,q,r,dem t,dem a,dem u], w)) ()) ()) ()) ()) := by
 kernel_rfl
theorem zY.runs {a : Value} {S g : zi} {e : AEx} {T : List Value} (h : zI Try.prog O false zY.code ([a,undef,undef,undef,undef,undef,undef,undef,undef,undef,undef,undef,undef]) S = some (e, T, g)) (he : e = .normal ∨ e = .ret)  (h0 : ji (T.getD 2 undef) = true) (h1 : ji (T.getD 3 undef) = true) : jc Try.prog O 36 [a] S = some (Value.tuple #[T.getD 2 undef, T.getD 3 undef], g) :=
 jU rfl rfl Try.func36 (by decide) zY.body (by exact h) he ((wu ((show zV Try.prog T g Try.f36.results.toList = zV Try.prog T g [(ResultVar.tmp 2), (ResultVar.tmp 3)] from by kernel_rfl).trans (by simp only [zV])) (by kernel_rfl) (by simp only [List.all_cons, List.all_nil, h0, h1, Bool.and_true])).trans rfl)
end Go.Proofs.Ytblpnklfimkfoaa
namespace Go.Proofs.Ytblpnklfimkfoaa
open Go.Abs
abbrev zX.id : FuncId := 28
noncomputable def zX.code : Code := (Code.seq (Code.region 0 (reg Try.f28 0) false) (Code.seq (Code.region 1 (reg Try.f28 1) false) (Code.seq (Code.seq (Code.region 2 (reg Try.f28 2) false) (Code.cond (Operand.tmp 26) (Code.seq (Code.region 3 (reg Try.f28 3) false) Code.ret) Code.skip)) (Code.seq (Code.region 4 (reg Try.f28 4) true) Code.ret))))
theorem zX.body : Try.f28.body = some zX.code := by kernel_rfl
variable (c L Q R U a b I M N d f g i k l m n o p q r s t u w x y z A B C D E F : Value) (S : zi)
theorem zX.r0  : jl Try.prog ⟨false, false, false⟩ (jc Try.prog O) (reg Try.f28 0) (reg Try.f28 0).toList ([c,L,Q,R,U,a,b,I,M,N,d,f,g,i,k,l,m,n,o,p,q,r,s,t,u,w,x,y,z,A,B,C,D,E,F]) S =
  ( some ([c,L,Value.slice none 0 0,Value.slice none 0 0,Value.int IntKind.i64 0,a,b,I,M,N,d,f,g,i,k,l,m,n,o,p,q,r,s,t,u,w,x,y,z,A,B,C,D,E,F], S)) := by
 kernel_rfl
theorem zX.r1  : jl Try.prog ⟨false, false, false⟩ (jc Try.prog O) (reg Try.f28 1) (reg Try.f28 1).toList ([c,L,Q,R,U,a,b,I,M,N,d,f,g,i,k,l,m,n,o,p,q,r,s,t,u,w,x,y,z,A,B,C,D,E,F]) S =
  (zW ((jc Try.prog O) 42 [(dem (dem c))] S) (fun G J => zW (zL G 0 J) (fun K V => zW (zL (zQ 0 G) 1 V) (fun Y W => zW (zL (zQ 1 (zQ 0 G)) 2 W) (fun H X => some ([c,L,Q,R,U,K,Y,H,zQ 2 (zQ 1 (zQ 0 G)),dem c,dem G,dem K,dem Y,dem H,k,l,m,n,o,p,q,r,s,t,u,w,x,y,z,A,B,C,D,E,F], X)) ()) ()) ()) ()) := by
 kernel_rfl
theorem zX.r2  : jl Try.prog ⟨false, false, false⟩ (jc Try.prog O) (reg Try.f28 2) (reg Try.f28 2).toList ([c,L,Q,R,U,a,b,I,M,N,d,f,g,i,k,l,m,n,o,p,q,r,s,t,u,w,x,y,z,A,B,C,D,E,F]) S =
  (zW (jJ Try.prog BinOp.neq 29 (dem I) (Value.int IntKind.i64 0) S) (fun G J => gdK (dem G) false (ret a) J (fun K V => gdK (dem G) false (jJ Try.prog BinOp.gtr 75 (dem K) (Value.int IntKind.u64 4096)) V (fun Y W => zW (wZ (dem G) (Value.bool true) Y W) (fun H X => gdK (dem H) false (ret a) X (fun P S5 => gdK (dem H) false (ret b) S5 (fun v8 S6 => gdK (dem H) false (qM Try.prog 26 (dem v8)) S6 (fun v9 S7 => gdK (dem H) false (jK Try.prog false false 3 75 v9) S7 (fun Z S8 => gdK (dem H) false (jJ Try.prog BinOp.gtr 75 (dem P) Z) S8 (fun a0 S9 => zW (wZ (dem H) (Value.bool true) a0 S9) (fun a1 a2 => some ([c,L,Q,R,U,a,b,I,M,N,d,f,g,i,dem I,G,dem G,dem K,Y,H,dem H,dem P,dem v8,v9,Z,a0,a1,y,z,A,B,C,D,E,F], a2)) ()) ()) ()) ()) ()) ()) ()) ()) ()) ()) := by
 refine sP Try.f28 2 0 (v := I) ?_
 refine sD Try.f28 2 1 (fun G J => ?_)
 refine sP Try.f28 2 2 (v := G) ?_
 refine sG Try.f28 2 3 (j := 2) (fun K V => ?_)
 refine sG Try.f28 2 4 (j := 2) (fun Y W => ?_)
 refine sD Try.f28 2 5 (fun H X => ?_)
 refine sP Try.f28 2 6 (v := H) ?_
 refine sG Try.f28 2 7 (j := 6) (fun P S5 => ?_)
 refine sG Try.f28 2 8 (j := 6) (fun v8 S6 => ?_)
 refine sG Try.f28 2 9 (j := 6) (fun v9 S7 => ?_)
 refine sG Try.f28 2 10 (j := 6) (fun Z S8 => ?_)
 refine sG Try.f28 2 11 (j := 6) (fun a0 S9 => ?_)
 refine sD Try.f28 2 12 (fun a1 a2 => ?_)
 kernel_rfl
theorem zX.r3  : jl Try.prog ⟨false, false, false⟩ (jc Try.prog O) (reg Try.f28 3) (reg Try.f28 3).toList ([c,L,Q,R,U,a,b,I,M,N,d,f,g,i,k,l,m,n,o,p,q,r,s,t,u,w,x,y,z,A,B,C,D,E,F]) S =
  ( some ([c,L,Value.slice none 0 0,Value.slice none 0 0,Value.int IntKind.i64 11,a,b,I,M,N,d,f,g,i,k,l,m,n,o,p,q,r,s,t,u,w,x,y,z,A,B,C,D,E,F], S)) := by
 kernel_rfl
theorem zX.d4 : qI Try.prog (reg Try.f28 4) = true := by kernel_rfl
theorem zX.ff4 : fixed Try.prog (reg Try.f28 4) = false := by kernel_rfl
theorem zX.k4 : checked Try.prog (reg Try.f28 4) = [4, 5, 6] := by kernel_rfl
theorem zX.g4 : again Try.prog (reg Try.f28 4) = [] := by kernel_rfl
theorem zX.r4  : zI Try.prog O false (.region 4 (reg Try.f28 4) true) ([c,L,Q,R,U,a,b,I,M,N,d,f,g,i,k,l,m,n,o,p,q,r,s,t,u,w,x,y,z,A,B,C,D,E,F]) S =
  WW (zW (wz Try.prog true 26 (dem b) none (some (dem a)) S) (fun v2 J => zW ((jc Try.prog O) 43 [(dem v2)] J) (fun K V => okK b ( okK a ( zW (wz Try.prog true 26 (dem b) (some (dem a)) none V) (fun v6 W => okK v6 ( zW ((jc Try.prog O) 43 [(dem v6)] W) (fun P X => some ([c,L,K,P,Value.int IntKind.i64 0,a,b,I,M,N,d,f,g,i,k,l,m,n,o,p,q,r,s,t,u,w,x,dem b,dem a,v2,dem K,dem b,dem a,v6,dem P], X)) ()) ()) ()) ()) ()) ()) ()) := by
 rw [yj zX.d4 zX.ff4 zX.k4 zX.g4]
 refine congrArg WW ?_
 refine tP Try.f28 4 0 (v := b) ?_
 refine tP Try.f28 4 1 (v := a) ?_
 refine tD Try.f28 4 2 (fun v2 J => ?_)
 refine tD Try.f28 4 3 (fun K V => ?_)
 refine tPC Try.f28 4 4 (v := b) ?_
 refine tPC Try.f28 4 5 (v := a) ?_
 refine tDC Try.f28 4 6 (fun v6 W => ?_)
 refine tD Try.f28 4 7 (fun P X => ?_)
 refine tP Try.f28 4 8 (v := K) ?_
 refine tP Try.f28 4 9 (v := P) ?_
 refine tP Try.f28 4 10 (v := (Value.int IntKind.i64 0)) ?_
 kernel_rfl
theorem zX.runs {c : Value} {S J : zi} {e : AEx} {T : List Value} (h : zI Try.prog O false zX.code ([c,undef,undef,undef,undef,undef,undef,undef,undef,undef,undef,undef,undef,undef,undef,undef,undef,undef,undef,undef,undef,undef,undef,undef,undef,undef,undef,undef,undef,undef,undef,undef,undef,undef,undef]) S = some (e, T, J)) (he : e = .normal ∨ e = .ret)  (h0 : ji (T.getD 2 undef) = true) (h1 : ji (T.getD 3 undef) = true) (h2 : ji (T.getD 4 undef) = true) : jc Try.prog O 28 [c] S = some (Value.tuple #[T.getD 2 undef, T.getD 3 undef, T.getD 4 undef], J) :=
 jU rfl rfl Try.func28 (by decide) zX.body (by exact h) he ((wu ((show zV Try.prog T J Try.f28.results.toList = zV Try.prog T J [(ResultVar.tmp 2), (ResultVar.tmp 3), (ResultVar.tmp 4)] from by kernel_rfl).trans (by simp only [zV])) (by kernel_rfl) (by simp only [List.all_cons, List.all_nil, h0, h1, h2, Bool.and_true])).trans rfl)
end Go.Proofs.Ytblpnklfimkfoaa
namespace Go.Proofs.Ytblpnklfimkfoaa
open Go.Abs
abbrev zy.id : FuncId := 47
noncomputable def zy.code : Code := (Code.seq (Code.region 0 (reg Try.f47 0) false) (Code.seq (Code.region 1 (reg Try.f47 1) false) (Code.seq (Code.seq (Code.region 2 (reg Try.f47 2) false) (Code.cond (Operand.tmp 26) (Code.seq (Code.region 3 (reg Try.f47 3) false) Code.ret) Code.skip)) (Code.seq (Code.region 4 (reg Try.f47 4) true) Code.ret))))
theorem zy.body : Try.f47.body = some zy.code := by kernel_rfl
variable (d I L M N b c G J K f g i k l m n o p q r s t u w x y z A B C D E : Value) (S : zi)
theorem zy.r0  : jl Try.prog ⟨false, false, false⟩ (jc Try.prog O) (reg Try.f47 0) (reg Try.f47 0).toList ([d,I,L,M,N,b,c,G,J,K,f,g,i,k,l,m,n,o,p,q,r,s,t,u,w,x,y,z,A,B,C,D,E]) S =
  ( some ([d,I,Value.slice none 0 0,Value.slice none 0 0,Value.int IntKind.i64 0,b,c,G,J,K,f,g,i,k,l,m,n,o,p,q,r,s,t,u,w,x,y,z,A,B,C,D,E], S)) := by
 kernel_rfl
theorem zy.r1  : jl Try.prog ⟨false, false, false⟩ (jc Try.prog O) (reg Try.f47 1) (reg Try.f47 1).toList ([d,I,L,M,N,b,c,G,J,K,f,g,i,k,l,m,n,o,p,q,r,s,t,u,w,x,y,z,A,B,C,D,E]) S =
  (zW ((jc Try.prog O) 49 [(dem (dem d))] S) (fun F H => zW (zL F 0 H) (fun Q P => zW (zL (zQ 0 F) 1 P) (fun R W => zW (zL (zQ 1 (zQ 0 F)) 2 W) (fun a X => some ([d,I,L,M,N,Q,R,a,zQ 2 (zQ 1 (zQ 0 F)),dem d,dem F,dem Q,dem R,dem a,l,m,n,o,p,q,r,s,t,u,w,x,y,z,A,B,C,D,E], X)) ()) ()) ()) ()) := by
 kernel_rfl
theorem zy.r2  : jl Try.prog ⟨false, false, false⟩ (jc Try.prog O) (reg Try.f47 2) (reg Try.f47 2).toList ([d,I,L,M,N,b,c,G,J,K,f,g,i,k,l,m,n,o,p,q,r,s,t,u,w,x,y,z,A,B,C,D,E]) S =
  (zW (jJ Try.prog BinOp.neq 3 (dem G) (Value.int IntKind.i64 0) S) (fun F H => gdK (dem F) false (ret b) H (fun Q P => gdK (dem F) false (jJ Try.prog BinOp.gtr 75 (dem Q) (Value.int IntKind.u64 4096)) P (fun R W => zW (wZ (dem F) (Value.bool true) R W) (fun a X => gdK (dem a) false (ret b) X (fun v7 S5 => gdK (dem a) false (jK Try.prog false false 75 3 (dem v7)) S5 (fun v8 S6 => gdK (dem a) false (ret c) S6 (fun v9 S7 => gdK (dem a) false (qM Try.prog 26 (dem v9)) S7 (fun U S8 => gdK (dem a) false (jJ Try.prog BinOp.gtr 3 v8 U) S8 (fun V S9 => zW (wZ (dem a) (Value.bool true) V S9) (fun Z a0 => some ([d,I,L,M,N,b,c,G,J,K,f,g,i,k,dem G,F,dem F,dem Q,R,a,dem a,dem v7,v8,dem v9,U,V,Z,z,A,B,C,D,E], a0)) ()) ()) ()) ()) ()) ()) ()) ()) ()) ()) := by
 refine sP Try.f47 2 0 (v := G) ?_
 refine sD Try.f47 2 1 (fun F H => ?_)
 refine sP Try.f47 2 2 (v := F) ?_
 refine sG Try.f47 2 3 (j := 2) (fun Q P => ?_)
 refine sG Try.f47 2 4 (j := 2) (fun R W => ?_)
 refine sD Try.f47 2 5 (fun a X => ?_)
 refine sP Try.f47 2 6 (v := a) ?_
 refine sG Try.f47 2 7 (j := 6) (fun v7 S5 => ?_)
 refine sG Try.f47 2 8 (j := 6) (fun v8 S6 => ?_)
 refine sG Try.f47 2 9 (j := 6) (fun v9 S7 => ?_)
 refine sG Try.f47 2 10 (j := 6) (fun U S8 => ?_)
 refine sG Try.f47 2 11 (j := 6) (fun V S9 => ?_)
 refine sD Try.f47 2 12 (fun Z a0 => ?_)
 kernel_rfl
theorem zy.r3  : jl Try.prog ⟨false, false, false⟩ (jc Try.prog O) (reg Try.f47 3) (reg Try.f47 3).toList ([d,I,L,M,N,b,c,G,J,K,f,g,i,k,l,m,n,o,p,q,r,s,t,u,w,x,y,z,A,B,C,D,E]) S =
  ( some ([d,I,Value.slice none 0 0,Value.slice none 0 0,Value.int IntKind.i64 11,b,c,G,J,K,f,g,i,k,l,m,n,o,p,q,r,s,t,u,w,x,y,z,A,B,C,D,E], S)) := by
 kernel_rfl
theorem zy.d4 : qI Try.prog (reg Try.f47 4) = true := by kernel_rfl
theorem zy.ff4 : fixed Try.prog (reg Try.f47 4) = false := by kernel_rfl
theorem zy.k4 : checked Try.prog (reg Try.f47 4) = [] := by kernel_rfl
theorem zy.g4 : again Try.prog (reg Try.f47 4) = [] := by kernel_rfl
theorem zy.r4  : zI Try.prog O false (.region 4 (reg Try.f47 4) true) ([d,I,L,M,N,b,c,G,J,K,f,g,i,k,l,m,n,o,p,q,r,s,t,u,w,x,y,z,A,B,C,D,E]) S =
  WW (zW (wz Try.prog false 26 (dem c) none (some (dem b)) S) (fun Y H => zW (wz Try.prog false 26 (dem c) (some (dem b)) none H) (fun a P => some ([d,I,Y,a,Value.int IntKind.i64 0,b,c,G,J,K,f,g,i,k,l,m,n,o,p,q,r,s,t,u,w,x,y,dem c,dem b,dem Y,dem c,dem b,dem a], P)) ()) ()) := by
 rw [yj zy.d4 zy.ff4 zy.k4 zy.g4]
 refine congrArg WW ?_
 refine tP Try.f47 4 0 (v := c) ?_
 refine tP Try.f47 4 1 (v := b) ?_
 refine tD Try.f47 4 2 (fun Y H => ?_)
 refine tP Try.f47 4 3 (v := c) ?_
 refine tP Try.f47 4 4 (v := b) ?_
 refine tD Try.f47 4 5 (fun a P => ?_)
 refine tP Try.f47 4 6 (v := Y) ?_
 refine tP Try.f47 4 7 (v := a) ?_
 refine tP Try.f47 4 8 (v := (Value.int IntKind.i64 0)) ?_
 kernel_rfl
theorem zy.runs {d : Value} {S H : zi} {e : AEx} {T : List Value} (h : zI Try.prog O false zy.code ([d,undef,undef,undef,undef,undef,undef,undef,undef,undef,undef,undef,undef,undef,undef,undef,undef,undef,undef,undef,undef,undef,undef,undef,undef,undef,undef,undef,undef,undef,undef,undef,undef]) S = some (e, T, H)) (he : e = .normal ∨ e = .ret)  (h0 : ji (T.getD 2 undef) = true) (h1 : ji (T.getD 3 undef) = true) (h2 : ji (T.getD 4 undef) = true) : jc Try.prog O 47 [d] S = some (Value.tuple #[T.getD 2 undef, T.getD 3 undef, T.getD 4 undef], H) :=
 jU rfl rfl Try.func47 (by decide) zy.body (by exact h) he ((wu ((show zV Try.prog T H Try.f47.results.toList = zV Try.prog T H [(ResultVar.tmp 2), (ResultVar.tmp 3), (ResultVar.tmp 4)] from by kernel_rfl).trans (by simp only [zV])) (by kernel_rfl) (by simp only [List.all_cons, List.all_nil, h0, h1, h2, Bool.and_true])).trans rfl)
end Go.Proofs.Ytblpnklfimkfoaa
namespace Go.Proofs.Ytblpnklfimkfoaa
open Go.Abs
abbrev zn.id : FuncId := 49
noncomputable def zn.jh : Code := (Code.seq (Code.seq (Code.region 4 (reg Try.f49 4) false) (Code.cond (Operand.tmp 17) Code.skip (Code.exit 0))) (Code.seq (Code.block 1 (Code.seq (Code.region 6 (reg Try.f49 6) false) (Code.seq (Code.seq (Code.region 7 (reg Try.f49 7) false) (Code.cond (Operand.tmp 31) (Code.seq (Code.region 8 (reg Try.f49 8) false) Code.ret) Code.skip)) (Code.seq (Code.region 9 (reg Try.f49 9) false) (Code.seq (Code.region 10 (reg Try.f49 10) false) (Code.seq (Code.region 11 (reg Try.f49 11) false) (Code.cond (Operand.tmp 43) (Code.seq (Code.region 12 (reg Try.f49 12) false) (Code.seq (Code.seq (Code.region 13 (reg Try.f49 13) false) (Code.cond (Operand.tmp 50) (Code.seq (Code.region 14 (reg Try.f49 14) false) Code.ret) Code.skip)) (Code.seq (Code.region 15 (reg Try.f49 15) false) Code.ret))) Code.skip))))))) (Code.region 5 (reg Try.f49 5) false)))
noncomputable def zn.code : Code := (Code.seq (Code.region 0 (reg Try.f49 0) false) (Code.seq (Code.region 1 (reg Try.f49 1) false) (Code.seq (Code.region 2 (reg Try.f49 2) false) (Code.seq (Code.seq (Code.region 3 (reg Try.f49 3) false) (Code.block 0 (Code.loop zn.jh))) (Code.seq (Code.region 16 (reg Try.f49 16) false) Code.ret)))))
theorem zn.body : Try.f49.body = some zn.code := by kernel_rfl
theorem zn.eta {T : List Value} (h : T.length = 58) : T = [T.getD 0 undef,T.getD 1 undef,T.getD 2 undef,T.getD 3 undef,T.getD 4 undef,T.getD 5 undef,T.getD 6 undef,T.getD 7 undef,T.getD 8 undef,T.getD 9 undef,T.getD 10 undef,T.getD 11 undef,T.getD 12 undef,T.getD 13 undef,T.getD 14 undef,T.getD 15 undef,T.getD 16 undef,T.getD 17 undef,T.getD 18 undef,T.getD 19 undef,T.getD 20 undef,T.getD 21 undef,T.getD 22 undef,T.getD 23 undef,T.getD 24 undef,T.getD 25 undef,T.getD 26 undef,T.getD 27 undef,T.getD 28 undef,T.getD 29 undef,T.getD 30 undef,T.getD 31 undef,T.getD 32 undef,T.getD 33 undef,T.getD 34 undef,T.getD 35 undef,T.getD 36 undef,T.getD 37 undef,T.getD 38 undef,T.getD 39 undef,T.getD 40 undef,T.getD 41 undef,T.getD 42 undef,T.getD 43 undef,T.getD 44 undef,T.getD 45 undef,T.getD 46 undef,T.getD 47 undef,T.getD 48 undef,T.getD 49 undef,T.getD 50 undef,T.getD 51 undef,T.getD 52 undef,T.getD 53 undef,T.getD 54 undef,T.getD 55 undef,T.getD 56 undef,T.getD 57 undef] := (wV T 58 h).trans (by kernel_rfl)
theorem zn.list {T : List Value} (h : T.length = 58) : ∃ x0 x1 x2 x3 x4 x5 x6 x7 x8 x9 a b c d f g i k l m n o p q r s t u w x y z A B C D E F G H I J K L M N P Q R U V W X Y Z a0 a1 a2, T = [x0,x1,x2,x3,x4,x5,x6,x7,x8,x9,a,b,c,d,f,g,i,k,l,m,n,o,p,q,r,s,t,u,w,x,y,z,A,B,C,D,E,F,G,H,I,J,K,L,M,N,P,Q,R,U,V,W,X,Y,Z,a0,a1,a2] := ⟨_, _, _, _, _, _, _, _, _, _, _, _, _, _, _, _, _, _, _, _, _, _, _, _, _, _, _, _, _, _, _, _, _, _, _, _, _, _, _, _, _, _, _, _, _, _, _, _, _, _, _, _, _, _, _, _, _, _, zn.eta h⟩
variable (x0 x1 x2 x3 x4 x5 x6 x7 x8 x9 a b c d f g i k l m n o p q r s t u w x y z A B C D E F G H I J K L M N P Q R U V W X Y Z a0 a1 a2 : Value) (S : zi)
theorem zn.r0  : jl Try.prog ⟨false, false, false⟩ (jc Try.prog O) (reg Try.f49 0) (reg Try.f49 0).toList ([x0,x1,x2,x3,x4,x5,x6,x7,x8,x9,a,b,c,d,f,g,i,k,l,m,n,o,p,q,r,s,t,u,w,x,y,z,A,B,C,D,E,F,G,H,I,J,K,L,M,N,P,Q,R,U,V,W,X,Y,Z,a0,a1,a2]) S =
  ( some ([x0,x1,Value.int IntKind.u64 0,Value.slice none 0 0,Value.int IntKind.i64 0,x5,x6,x7,x8,x9,a,b,c,d,f,g,i,k,l,m,n,o,p,q,r,s,t,u,w,x,y,z,A,B,C,D,E,F,G,H,I,J,K,L,M,N,P,Q,R,U,V,W,X,Y,Z,a0,a1,a2], S)) := by
 kernel_rfl
theorem zn.r1  : jl Try.prog ⟨false, false, false⟩ (jc Try.prog O) (reg Try.f49 1) (reg Try.f49 1).toList ([x0,x1,x2,x3,x4,x5,x6,x7,x8,x9,a,b,c,d,f,g,i,k,l,m,n,o,p,q,r,s,t,u,w,x,y,z,A,B,C,D,E,F,G,H,I,J,K,L,M,N,P,Q,R,U,V,W,X,Y,Z,a0,a1,a2]) S =
  ( some ([x0,x1,x2,x3,x4,Value.int IntKind.u64 0,x6,x7,x8,x9,a,b,c,d,f,g,i,k,l,m,n,o,p,q,r,s,t,u,w,x,y,z,A,B,C,D,E,F,G,H,I,J,K,L,M,N,P,Q,R,U,V,W,X,Y,Z,a0,a1,a2], S)) := by
 kernel_rfl
theorem zn.r2  : jl Try.prog ⟨false, false, false⟩ (jc Try.prog O) (reg Try.f49 2) (reg Try.f49 2).toList ([x0,x1,x2,x3,x4,x5,x6,x7,x8,x9,a,b,c,d,f,g,i,k,l,m,n,o,p,q,r,s,t,u,w,x,y,z,A,B,C,D,E,F,G,H,I,J,K,L,M,N,P,Q,R,U,V,W,X,Y,Z,a0,a1,a2]) S =
  ( some ([x0,x1,x2,x3,x4,x5,Value.int IntKind.u64 1,x7,x8,x9,a,b,c,d,f,g,i,k,l,m,n,o,p,q,r,s,t,u,w,x,y,z,A,B,C,D,E,F,G,H,I,J,K,L,M,N,P,Q,R,U,V,W,X,Y,Z,a0,a1,a2], S)) := by
 kernel_rfl
theorem zn.r3  : jl Try.prog ⟨false, false, false⟩ (jc Try.prog O) (reg Try.f49 3) (reg Try.f49 3).toList ([x0,x1,x2,x3,x4,x5,x6,x7,x8,x9,a,b,c,d,f,g,i,k,l,m,n,o,p,q,r,s,t,u,w,x,y,z,A,B,C,D,E,F,G,H,I,J,K,L,M,N,P,Q,R,U,V,W,X,Y,Z,a0,a1,a2]) S =
  ( some ([x0,x1,x2,x3,x4,x5,x6,Value.int IntKind.i64 0,x8,x9,a,b,c,d,f,g,i,k,l,m,n,o,p,q,r,s,t,u,w,x,y,z,A,B,C,D,E,F,G,H,I,J,K,L,M,N,P,Q,R,U,V,W,X,Y,Z,a0,a1,a2], S)) := by
 kernel_rfl
theorem zn.r4  : jl Try.prog ⟨false, false, false⟩ (jc Try.prog O) (reg Try.f49 4) (reg Try.f49 4).toList ([x0,x1,x2,x3,x4,x5,x6,x7,x8,x9,a,b,c,d,f,g,i,k,l,m,n,o,p,q,r,s,t,u,w,x,y,z,A,B,C,D,E,F,G,H,I,J,K,L,M,N,P,Q,R,U,V,W,X,Y,Z,a0,a1,a2]) S =
  (zW (qM Try.prog 26 (dem x0) S) (fun v2 S1 => zW (jJ Try.prog BinOp.lss 3 (dem x7) v2 S1) (fun v3 S2 => gdK (dem v3) true (ret x7) S2 (fun v5 S3 => gdK (dem v3) true (jJ Try.prog BinOp.lss 3 (dem v5) (Value.int IntKind.i64 10)) S3 (fun v6 S4 => zW (wZ (dem v3) v6 (Value.bool false) S4) (fun v7 S5 => some ([x0,x1,x2,x3,x4,x5,x6,x7,x8,x9,dem x7,dem x0,v2,v3,dem v3,dem v5,v6,v7,l,m,n,o,p,q,r,s,t,u,w,x,y,z,A,B,C,D,E,F,G,H,I,J,K,L,M,N,P,Q,R,U,V,W,X,Y,Z,a0,a1,a2], S5)) ()) ()) ()) ()) ()) := by
 refine sP Try.f49 4 0 (v := x7) ?_
 refine sP Try.f49 4 1 (v := x0) ?_
 refine sD Try.f49 4 2 (fun v2 S1 => ?_)
 refine sD Try.f49 4 3 (fun v3 S2 => ?_)
 refine sP Try.f49 4 4 (v := v3) ?_
 refine sG Try.f49 4 5 (j := 4) (fun v5 S3 => ?_)
 refine sG Try.f49 4 6 (j := 4) (fun v6 S4 => ?_)
 refine sD Try.f49 4 7 (fun v7 S5 => ?_)
 kernel_rfl
theorem zn.r6  : jl Try.prog ⟨false, false, false⟩ (jc Try.prog O) (reg Try.f49 6) (reg Try.f49 6).toList ([x0,x1,x2,x3,x4,x5,x6,x7,x8,x9,a,b,c,d,f,g,i,k,l,m,n,o,p,q,r,s,t,u,w,x,y,z,A,B,C,D,E,F,G,H,I,J,K,L,M,N,P,Q,R,U,V,W,X,Y,Z,a0,a1,a2]) S =
  (zW (jk Try.prog 26 (dem x0) (dem x7) S) (fun v2 S1 => zW (jw Try.prog false 5 v2 S1) (fun v3 S2 => zW (jJ Try.prog BinOp.rem 5 v3 (Value.int IntKind.u8 128) S2) (fun v4 S3 => zW (jK Try.prog false false 5 75 v4 S3) (fun v5 S4 => some ([x0,x1,x2,x3,x4,x5,x6,x7,v5,x9,a,b,c,d,f,g,i,k,l,m,dem x0,dem x7,v2,v3,v4,dem v5,t,u,w,x,y,z,A,B,C,D,E,F,G,H,I,J,K,L,M,N,P,Q,R,U,V,W,X,Y,Z,a0,a1,a2], S4)) ()) ()) ()) ()) := by
 kernel_rfl
theorem zn.r7  : jl Try.prog ⟨false, false, false⟩ (jc Try.prog O) (reg Try.f49 7) (reg Try.f49 7).toList ([x0,x1,x2,x3,x4,x5,x6,x7,x8,x9,a,b,c,d,f,g,i,k,l,m,n,o,p,q,r,s,t,u,w,x,y,z,A,B,C,D,E,F,G,H,I,J,K,L,M,N,P,Q,R,U,V,W,X,Y,Z,a0,a1,a2]) S =
  (zW (jJ Try.prog BinOp.eql 3 (dem x7) (Value.int IntKind.i64 9) S) (fun v1 S1 => gdK (dem v1) true (ret x8) S1 (fun v3 S2 => gdK (dem v1) true (jJ Try.prog BinOp.gtr 75 (dem v3) (Value.int IntKind.u64 1)) S2 (fun v4 S3 => zW (wZ (dem v1) v4 (Value.bool false) S3) (fun v5 S4 => some ([x0,x1,x2,x3,x4,x5,x6,x7,x8,x9,a,b,c,d,f,g,i,k,l,m,n,o,p,q,r,s,dem x7,v1,dem v1,dem v3,v4,v5,A,B,C,D,E,F,G,H,I,J,K,L,M,N,P,Q,R,U,V,W,X,Y,Z,a0,a1,a2], S4)) ()) ()) ()) ()) := by
 refine sP Try.f49 7 0 (v := x7) ?_
 refine sD Try.f49 7 1 (fun v1 S1 => ?_)
 refine sP Try.f49 7 2 (v := v1) ?_
 refine sG Try.f49 7 3 (j := 2) (fun v3 S2 => ?_)
 refine sG Try.f49 7 4 (j := 2) (fun v4 S3 => ?_)
 refine sD Try.f49 7 5 (fun v5 S4 => ?_)
 kernel_rfl
theorem zn.r8  : jl Try.prog ⟨false, false, false⟩ (jc Try.prog O) (reg Try.f49 8) (reg Try.f49 8).toList ([x0,x1,x2,x3,x4,x5,x6,x7,x8,x9,a,b,c,d,f,g,i,k,l,m,n,o,p,q,r,s,t,u,w,x,y,z,A,B,C,D,E,F,G,H,I,J,K,L,M,N,P,Q,R,U,V,W,X,Y,Z,a0,a1,a2]) S =
  ( some ([x0,x1,Value.int IntKind.u64 0,Value.slice none 0 0,Value.int IntKind.i64 11,x5,x6,x7,x8,x9,a,b,c,d,f,g,i,k,l,m,n,o,p,q,r,s,t,u,w,x,y,z,A,B,C,D,E,F,G,H,I,J,K,L,M,N,P,Q,R,U,V,W,X,Y,Z,a0,a1,a2], S)) := by
 kernel_rfl
theorem zn.r9  : jl Try.prog ⟨false, false, false⟩ (jc Try.prog O) (reg Try.f49 9) (reg Try.f49 9).toList ([x0,x1,x2,x3,x4,x5,x6,x7,x8,x9,a,b,c,d,f,g,i,k,l,m,n,o,p,q,r,s,t,u,w,x,y,z,A,B,C,D,E,F,G,H,I,J,K,L,M,N,P,Q,R,U,V,W,X,Y,Z,a0,a1,a2]) S =
  (zW (jJ Try.prog BinOp.mul 75 (dem x8) (dem x6) S) (fun v3 S1 => zW (jJ Try.prog BinOp.add 75 (dem x5) v3 S1) (fun v4 S2 => some ([x0,x1,x2,x3,x4,v4,x6,x7,x8,x9,a,b,c,d,f,g,i,k,l,m,n,o,p,q,r,s,t,u,w,x,y,z,dem x5,dem x8,dem x6,v3,dem v4,F,G,H,I,J,K,L,M,N,P,Q,R,U,V,W,X,Y,Z,a0,a1,a2], S2)) ()) ()) := by
 kernel_rfl
theorem zn.r10  : jl Try.prog ⟨false, false, false⟩ (jc Try.prog O) (reg Try.f49 10) (reg Try.f49 10).toList ([x0,x1,x2,x3,x4,x5,x6,x7,x8,x9,a,b,c,d,f,g,i,k,l,m,n,o,p,q,r,s,t,u,w,x,y,z,A,B,C,D,E,F,G,H,I,J,K,L,M,N,P,Q,R,U,V,W,X,Y,Z,a0,a1,a2]) S =
  (zW (jJ Try.prog BinOp.mul 75 (dem x6) (Value.int IntKind.u64 128) S) (fun v1 S1 => some ([x0,x1,x2,x3,x4,x5,v1,x7,x8,x9,a,b,c,d,f,g,i,k,l,m,n,o,p,q,r,s,t,u,w,x,y,z,A,B,C,D,E,dem x6,dem v1,H,I,J,K,L,M,N,P,Q,R,U,V,W,X,Y,Z,a0,a1,a2], S1)) ()) := by
 kernel_rfl
theorem zn.r11  : jl Try.prog ⟨false, false, false⟩ (jc Try.prog O) (reg Try.f49 11) (reg Try.f49 11).toList ([x0,x1,x2,x3,x4,x5,x6,x7,x8,x9,a,b,c,d,f,g,i,k,l,m,n,o,p,q,r,s,t,u,w,x,y,z,A,B,C,D,E,F,G,H,I,J,K,L,M,N,P,Q,R,U,V,W,X,Y,Z,a0,a1,a2]) S =
  (zW (jk Try.prog 26 (dem x0) (dem x7) S) (fun v2 S1 => zW (jw Try.prog false 5 v2 S1) (fun v3 S2 => zW (jJ Try.prog BinOp.lss 5 v3 (Value.int IntKind.u8 128) S2) (fun v4 S3 => some ([x0,x1,x2,x3,x4,x5,x6,x7,x8,x9,a,b,c,d,f,g,i,k,l,m,n,o,p,q,r,s,t,u,w,x,y,z,A,B,C,D,E,F,G,dem x0,dem x7,v2,v3,v4,M,N,P,Q,R,U,V,W,X,Y,Z,a0,a1,a2], S3)) ()) ()) ()) := by
 kernel_rfl
theorem zn.r12  : jl Try.prog ⟨false, false, false⟩ (jc Try.prog O) (reg Try.f49 12) (reg Try.f49 12).toList ([x0,x1,x2,x3,x4,x5,x6,x7,x8,x9,a,b,c,d,f,g,i,k,l,m,n,o,p,q,r,s,t,u,w,x,y,z,A,B,C,D,E,F,G,H,I,J,K,L,M,N,P,Q,R,U,V,W,X,Y,Z,a0,a1,a2]) S =
  (zW ((jc Try.prog O) 46 [(dem (dem x5))] S) (fun v1 S1 => some ([x0,x1,x2,x3,x4,x5,x6,x7,x8,v1,a,b,c,d,f,g,i,k,l,m,n,o,p,q,r,s,t,u,w,x,y,z,A,B,C,D,E,F,G,H,I,J,K,L,dem x5,dem v1,P,Q,R,U,V,W,X,Y,Z,a0,a1,a2], S1)) ()) := by
 kernel_rfl
theorem zn.r13  : jl Try.prog ⟨false, false, false⟩ (jc Try.prog O) (reg Try.f49 13) (reg Try.f49 13).toList ([x0,x1,x2,x3,x4,x5,x6,x7,x8,x9,a,b,c,d,f,g,i,k,l,m,n,o,p,q,r,s,t,u,w,x,y,z,A,B,C,D,E,F,G,H,I,J,K,L,M,N,P,Q,R,U,V,W,X,Y,Z,a0,a1,a2]) S =
  (zW (qM Try.prog 26 (dem x9) S) (fun v1 S1 => zW (jJ Try.prog BinOp.add 3 (dem x7) (Value.int IntKind.i64 1) S1) (fun v3 S2 => zW (jJ Try.prog BinOp.neq 3 v1 v3 S2) (fun v4 S3 => some ([x0,x1,x2,x3,x4,x5,x6,x7,x8,x9,a,b,c,d,f,g,i,k,l,m,n,o,p,q,r,s,t,u,w,x,y,z,A,B,C,D,E,F,G,H,I,J,K,L,M,N,dem x9,v1,dem x7,v3,v4,W,X,Y,Z,a0,a1,a2], S3)) ()) ()) ()) := by
 kernel_rfl
theorem zn.r14  : jl Try.prog ⟨false, false, false⟩ (jc Try.prog O) (reg Try.f49 14) (reg Try.f49 14).toList ([x0,x1,x2,x3,x4,x5,x6,x7,x8,x9,a,b,c,d,f,g,i,k,l,m,n,o,p,q,r,s,t,u,w,x,y,z,A,B,C,D,E,F,G,H,I,J,K,L,M,N,P,Q,R,U,V,W,X,Y,Z,a0,a1,a2]) S =
  ( some ([x0,x1,Value.int IntKind.u64 0,Value.slice none 0 0,Value.int IntKind.i64 11,x5,x6,x7,x8,x9,a,b,c,d,f,g,i,k,l,m,n,o,p,q,r,s,t,u,w,x,y,z,A,B,C,D,E,F,G,H,I,J,K,L,M,N,P,Q,R,U,V,W,X,Y,Z,a0,a1,a2], S)) := by
 kernel_rfl
theorem zn.r15  : jl Try.prog ⟨false, false, false⟩ (jc Try.prog O) (reg Try.f49 15) (reg Try.f49 15).toList ([x0,x1,x2,x3,x4,x5,x6,x7,x8,x9,a,b,c,d,f,g,i,k,l,m,n,o,p,q,r,s,t,u,w,x,y,z,A,B,C,D,E,F,G,H,I,J,K,L,M,N,P,Q,R,U,V,W,X,Y,Z,a0,a1,a2]) S =
  (zW (jg Try.prog 26 0 [] S) (fun v1 S1 => zW (jJ Try.prog BinOp.add 3 (dem x7) (Value.int IntKind.i64 1) S1) (fun v4 S2 => zW (wz Try.prog false 26 (dem x0) (some v4) none S2) (fun v5 S3 => zW (jB Try.prog 26 26 v1 v5 S3) (fun v6 S4 => some ([x0,x1,x5,v6,Value.int IntKind.i64 0,dem x5,x6,x7,x8,x9,a,b,c,d,f,g,i,k,l,m,n,o,p,q,r,s,t,u,w,x,y,z,A,B,C,D,E,F,G,H,I,J,K,L,M,N,P,Q,R,U,V,dem x5,dem v1,dem x0,dem x7,v4,v5,dem v6], S4)) ()) ()) ()) ()) := by
 kernel_rfl
theorem zn.r5  : jl Try.prog ⟨false, false, false⟩ (jc Try.prog O) (reg Try.f49 5) (reg Try.f49 5).toList ([x0,x1,x2,x3,x4,x5,x6,x7,x8,x9,a,b,c,d,f,g,i,k,l,m,n,o,p,q,r,s,t,u,w,x,y,z,A,B,C,D,E,F,G,H,I,J,K,L,M,N,P,Q,R,U,V,W,X,Y,Z,a0,a1,a2]) S =
  (zW (jJ Try.prog BinOp.add 3 (dem x7) (Value.int IntKind.i64 1) S) (fun v1 S1 => some ([x0,x1,x2,x3,x4,x5,x6,v1,x8,x9,a,b,c,d,f,g,i,k,dem x7,dem v1,n,o,p,q,r,s,t,u,w,x,y,z,A,B,C,D,E,F,G,H,I,J,K,L,M,N,P,Q,R,U,V,W,X,Y,Z,a0,a1,a2], S1)) ()) := by
 kernel_rfl
theorem zn.r16  : jl Try.prog ⟨false, false, false⟩ (jc Try.prog O) (reg Try.f49 16) (reg Try.f49 16).toList ([x0,x1,x2,x3,x4,x5,x6,x7,x8,x9,a,b,c,d,f,g,i,k,l,m,n,o,p,q,r,s,t,u,w,x,y,z,A,B,C,D,E,F,G,H,I,J,K,L,M,N,P,Q,R,U,V,W,X,Y,Z,a0,a1,a2]) S =
  ( some ([x0,x1,Value.int IntKind.u64 0,Value.slice none 0 0,Value.int IntKind.i64 11,x5,x6,x7,x8,x9,a,b,c,d,f,g,i,k,l,m,n,o,p,q,r,s,t,u,w,x,y,z,A,B,C,D,E,F,G,H,I,J,K,L,M,N,P,Q,R,U,V,W,X,Y,Z,a0,a1,a2], S)) := by
 kernel_rfl
theorem zn.runs {x0 : Value} {S S1 : zi} {e : AEx} {T : List Value} (h : zI Try.prog O false zn.code ([x0,undef,undef,undef,undef,undef,undef,undef,undef,undef,undef,undef,undef,undef,undef,undef,undef,undef,undef,undef,undef,undef,undef,undef,undef,undef,undef,undef,undef,undef,undef,undef,undef,undef,undef,undef,undef,undef,undef,undef,undef,undef,undef,undef,undef,undef,undef,undef,undef,undef,undef,undef,undef,undef,undef,undef,undef,undef]) S = some (e, T, S1)) (he : e = .normal ∨ e = .ret)  (h0 : ji (T.getD 2 undef) = true) (h1 : ji (T.getD 3 undef) = true) (h2 : ji (T.getD 4 undef) = true) : jc Try.prog O 49 [x0] S = some (Value.tuple #[T.getD 2 undef, T.getD 3 undef, T.getD 4 undef], S1) :=
 jU rfl rfl Try.func49 (by decide) zn.body (by exact h) he ((wu ((show zV Try.prog T S1 Try.f49.results.toList = zV Try.prog T S1 [(ResultVar.tmp 2), (ResultVar.tmp 3), (ResultVar.tmp 4)] from by kernel_rfl).trans (by simp only [zV])) (by kernel_rfl) (by simp only [List.all_cons, List.all_nil, h0, h1, h2, Bool.and_true])).trans rfl)
end Go.Proofs.Ytblpnklfimkfoaa
namespace Go.Proofs.Ytblpnklfimkfoaa
open Go.Abs
abbrev slices_Clone.id : FuncId := 43
noncomputable def slices_Clone.code : Code := (Code.seq (Code.region 0 (reg Try.f43 0) false) (Code.seq (Code.seq (Code.region 1 (reg Try.f43 1) false) (Code.cond (Operand.tmp 4) (Code.seq (Code.region 2 (reg Try.f43 2) false) Code.ret) Code.skip)) (Code.seq (Code.region 3 (reg Try.f43 3) false) Code.ret)))
theorem slices_Clone.body : Try.f43.body = some slices_Clone.code := by kernel_rfl
variable (b c l f g i j k : Value) (S : zi)
theorem slices_Clone.r0  : jl Try.prog ⟨false, false, false⟩ (jc Try.prog O) (reg Try.f43 0) (reg Try.f43 0).toList ([b,c,l,f,g,i,j,k]) S =
  ( some ([b,c,Value.slice none 0 0,f,g,i,j,k], S)) := by
 kernel_rfl
theorem slices_Clone.r1  : jl Try.prog ⟨false, false, false⟩ (jc Try.prog O) (reg Try.f43 1) (reg Try.f43 1).toList ([b,c,l,f,g,i,j,k]) S =
  (zW (jJ Try.prog BinOp.eql 26 (dem b) (Value.slice none 0 0) S) (fun o d => some ([b,c,l,dem b,o,i,j,k], d)) ()) := by
 kernel_rfl
theorem slices_Clone.r2  : jl Try.prog ⟨false, false, false⟩ (jc Try.prog O) (reg Try.f43 2) (reg Try.f43 2).toList ([b,c,l,f,g,i,j,k]) S =
  ( some ([b,c,Value.slice none 0 0,f,g,i,j,k], S)) := by
 kernel_rfl
theorem slices_Clone.r3  : jl Try.prog ⟨false, false, false⟩ (jc Try.prog O) (reg Try.f43 3) (reg Try.f43 3).toList ([b,c,l,f,g,i,j,k]) S =
  (zW (jg Try.prog 26 0 [] S) (fun m d => zW (jB Try.prog 26 26 m (dem b) d) (fun n p => some ([b,c,n,f,g,dem m,dem b,dem n], p)) ()) ()) := by
 kernel_rfl
theorem slices_Clone.runs {b : Value} {S d : zi} {e : AEx} {T : List Value} (h : zI Try.prog O false slices_Clone.code ([b,undef,undef,undef,undef,undef,undef,undef]) S = some (e, T, d)) (he : e = .normal ∨ e = .ret) : jc Try.prog O 43 [b] S = some (T.getD 2 undef, d) :=
 jU rfl rfl Try.func43 (by decide) slices_Clone.body (by exact h) he (qW (a := T.getD 2 undef) ((show zV Try.prog T d Try.f43.results.toList = zV Try.prog T d [(ResultVar.tmp 2)] from by kernel_rfl).trans (by simp only [zV])) (by kernel_rfl))
end Go.Proofs.Ytblpnklfimkfoaa
namespace Go.Proofs.Ytblpnklfimkfoaa
open Go.Abs
abbrev zM.id : FuncId := 42
noncomputable def zM.jh : Code := (Code.seq (Code.region 3 (reg Try.f42 3) false) (Code.seq (Code.cond (Operand.tmp 11) Code.skip (Code.exit 0)) (Code.seq (Code.block 1 (Code.seq (Code.region 4 (reg Try.f42 4) false) (Code.seq (Code.seq (Code.region 5 (reg Try.f42 5) false) (Code.cond (Operand.tmp 28) (Code.exit 0) Code.skip)) (Code.seq (Code.region 6 (reg Try.f42 6) false) (Code.seq (Code.region 7 (reg Try.f42 7) false) (Code.cond (Operand.tmp 38) (Code.seq (Code.region 8 (reg Try.f42 8) false) Code.ret) Code.skip)))))) (Code.region 9 (reg Try.f42 9) false))))
noncomputable def zM.code : Code := (Code.seq (Code.region 0 (reg Try.f42 0) false) (Code.seq (Code.region 1 (reg Try.f42 1) false) (Code.seq (Code.seq (Code.region 2 (reg Try.f42 2) false) (Code.block 0 (Code.loop zM.jh))) (Code.seq (Code.region 10 (reg Try.f42 10) false) Code.ret))))
theorem zM.body : Try.f42.body = some zM.code := by kernel_rfl
theorem zM.eta {T : List Value} (h : T.length = 46) : T = [T.getD 0 undef,T.getD 1 undef,T.getD 2 undef,T.getD 3 undef,T.getD 4 undef,T.getD 5 undef,T.getD 6 undef,T.getD 7 undef,T.getD 8 undef,T.getD 9 undef,T.getD 10 undef,T.getD 11 undef,T.getD 12 undef,T.getD 13 undef,T.getD 14 undef,T.getD 15 undef,T.getD 16 undef,T.getD 17 undef,T.getD 18 undef,T.getD 19 undef,T.getD 20 undef,T.getD 21 undef,T.getD 22 undef,T.getD 23 undef,T.getD 24 undef,T.getD 25 undef,T.getD 26 undef,T.getD 27 undef,T.getD 28 undef,T.getD 29 undef,T.getD 30 undef,T.getD 31 undef,T.getD 32 undef,T.getD 33 undef,T.getD 34 undef,T.getD 35 undef,T.getD 36 undef,T.getD 37 undef,T.getD 38 undef,T.getD 39 undef,T.getD 40 undef,T.getD 41 undef,T.getD 42 undef,T.getD 43 undef,T.getD 44 undef,T.getD 45 undef] := (wV T 46 h).trans (by kernel_rfl)
theorem zM.list {T : List Value} (h : T.length = 46) : ∃ P V Y Z x4 U Q R W X a b c d f g i k l m n o p q r s t u w x y z A B C D E F G H I J K L M N, T = [P,V,Y,Z,x4,U,Q,R,W,X,a,b,c,d,f,g,i,k,l,m,n,o,p,q,r,s,t,u,w,x,y,z,A,B,C,D,E,F,G,H,I,J,K,L,M,N] := ⟨_, _, _, _, _, _, _, _, _, _, _, _, _, _, _, _, _, _, _, _, _, _, _, _, _, _, _, _, _, _, _, _, _, _, _, _, _, _, _, _, _, _, _, _, _, _, zM.eta h⟩
variable (P V Y Z x4 U Q R W X a b c d f g i k l m n o p q r s t u w x y z A B C D E F G H I J K L M N : Value) (S : zi)
theorem zM.r0  : jl Try.prog ⟨false, false, false⟩ (jc Try.prog O) (reg Try.f42 0) (reg Try.f42 0).toList ([P,V,Y,Z,x4,U,Q,R,W,X,a,b,c,d,f,g,i,k,l,m,n,o,p,q,r,s,t,u,w,x,y,z,A,B,C,D,E,F,G,H,I,J,K,L,M,N]) S =
  ( some ([P,V,Value.int IntKind.u64 0,Value.slice none 0 0,Value.int IntKind.i64 0,U,Q,R,W,X,a,b,c,d,f,g,i,k,l,m,n,o,p,q,r,s,t,u,w,x,y,z,A,B,C,D,E,F,G,H,I,J,K,L,M,N], S)) := by
 kernel_rfl
theorem zM.r1  : jl Try.prog ⟨false, false, false⟩ (jc Try.prog O) (reg Try.f42 1) (reg Try.f42 1).toList ([P,V,Y,Z,x4,U,Q,R,W,X,a,b,c,d,f,g,i,k,l,m,n,o,p,q,r,s,t,u,w,x,y,z,A,B,C,D,E,F,G,H,I,J,K,L,M,N]) S =
  ( some ([P,V,Y,Z,x4,Value.int IntKind.u64 0,Q,R,W,X,a,b,c,d,f,g,i,k,l,m,n,o,p,q,r,s,t,u,w,x,y,z,A,B,C,D,E,F,G,H,I,J,K,L,M,N], S)) := by
 kernel_rfl
theorem zM.r2  : jl Try.prog ⟨false, false, false⟩ (jc Try.prog O) (reg Try.f42 2) (reg Try.f42 2).toList ([P,V,Y,Z,x4,U,Q,R,W,X,a,b,c,d,f,g,i,k,l,m,n,o,p,q,r,s,t,u,w,x,y,z,A,B,C,D,E,F,G,H,I,J,K,L,M,N]) S =
  (zW (qM Try.prog 26 (dem P) S) (fun v1 S1 => some ([P,V,Y,Z,x4,U,Q,R,dem P,v1,Value.int IntKind.i64 0,b,c,d,f,g,i,k,l,m,n,o,p,q,r,s,t,u,w,x,y,z,A,B,C,D,E,F,G,H,I,J,K,L,M,N], S1)) ()) := by
 kernel_rfl
theorem zM.r3  : jl Try.prog ⟨false, false, false⟩ (jc Try.prog O) (reg Try.f42 3) (reg Try.f42 3).toList ([P,V,Y,Z,x4,U,Q,R,W,X,a,b,c,d,f,g,i,k,l,m,n,o,p,q,r,s,t,u,w,x,y,z,A,B,C,D,E,F,G,H,I,J,K,L,M,N]) S =
  (zW (jJ Try.prog BinOp.lss 3 a X S) (fun v0 S1 => some ([P,V,Y,Z,x4,U,Q,R,W,X,a,v0,c,d,f,g,i,k,l,m,n,o,p,q,r,s,t,u,w,x,y,z,A,B,C,D,E,F,G,H,I,J,K,L,M,N], S1)) ()) := by
 kernel_rfl
theorem zM.r4  : jl Try.prog ⟨false, false, false⟩ (jc Try.prog O) (reg Try.f42 4) (reg Try.f42 4).toList ([P,V,Y,Z,x4,U,Q,R,W,X,a,b,c,d,f,g,i,k,l,m,n,o,p,q,r,s,t,u,w,x,y,z,A,B,C,D,E,F,G,H,I,J,K,L,M,N]) S =
  (zW (jk Try.prog 26 W (dem a) S) (fun v1 S1 => zW (jw Try.prog false 5 v1 S1) (fun v2 S2 => some ([P,V,Y,Z,x4,U,a,v2,W,X,dem a,b,dem a,v1,dem v2,g,i,k,l,m,n,o,p,q,r,s,t,u,w,x,y,z,A,B,C,D,E,F,G,H,I,J,K,L,M,N], S2)) ()) ()) := by
 kernel_rfl
theorem zM.r5  : jl Try.prog ⟨false, false, false⟩ (jc Try.prog O) (reg Try.f42 5) (reg Try.f42 5).toList ([P,V,Y,Z,x4,U,Q,R,W,X,a,b,c,d,f,g,i,k,l,m,n,o,p,q,r,s,t,u,w,x,y,z,A,B,C,D,E,F,G,H,I,J,K,L,M,N]) S =
  (zW (jJ Try.prog BinOp.eql 3 (dem Q) (Value.int IntKind.i64 9) S) (fun v1 S1 => gdK (dem v1) true (ret R) S1 (fun v3 S2 => gdK (dem v1) true (jJ Try.prog BinOp.gtr 5 (dem v3) (Value.int IntKind.u8 1)) S2 (fun v4 S3 => zW (wZ (dem v1) v4 (Value.bool false) S3) (fun v5 S4 => gdK (dem v5) false (ret Q) S4 (fun v7 S5 => gdK (dem v5) false (jJ Try.prog BinOp.gtr 3 (dem v7) (Value.int IntKind.i64 0)) S5 (fun v8 S6 => gdK (dem v5) false (ret v8) S6 (fun v9 S7 => gdK (dem v9) true (ret R) S7 (fun a0 S8 => gdK (dem v9) true (jJ Try.prog BinOp.eql 5 (dem a0) (Value.int IntKind.u8 0)) S8 (fun a1 S9 => gdK (dem v5) false (wZ (dem v9) a1 (Value.bool false)) S9 (fun a2 a3 => zW (wZ (dem v5) (Value.bool true) a2 a3) (fun a4 a5 => some ([P,V,Y,Z,x4,U,Q,R,W,X,a,b,c,d,f,dem Q,v1,dem v1,dem v3,v4,v5,dem v5,dem v7,v8,dem v9,dem a0,a1,a2,a4,x,y,z,A,B,C,D,E,F,G,H,I,J,K,L,M,N], a5)) ()) ()) ()) ()) ()) ()) ()) ()) ()) ()) ()) := by
 refine sP Try.f42 5 0 (v := Q) ?_
 refine sD Try.f42 5 1 (fun v1 S1 => ?_)
 refine sP Try.f42 5 2 (v := v1) ?_
 refine sG Try.f42 5 3 (j := 2) (fun v3 S2 => ?_)
 refine sG Try.f42 5 4 (j := 2) (fun v4 S3 => ?_)
 refine sD Try.f42 5 5 (fun v5 S4 => ?_)
 refine sP Try.f42 5 6 (v := v5) ?_
 refine sG Try.f42 5 7 (j := 6) (fun v7 S5 => ?_)
 refine sG Try.f42 5 8 (j := 6) (fun v8 S6 => ?_)
 refine sG Try.f42 5 9 (j := 6) (fun v9 S7 => ?_)
 refine sG Try.f42 5 10 (j := 9) (fun a0 S8 => ?_)
 refine sG Try.f42 5 11 (j := 9) (fun a1 S9 => ?_)
 refine sG Try.f42 5 12 (j := 6) (fun a2 a3 => ?_)
 refine sD Try.f42 5 13 (fun a4 a5 => ?_)
 kernel_rfl
theorem zM.r6  : jl Try.prog ⟨false, false, false⟩ (jc Try.prog O) (reg Try.f42 6) (reg Try.f42 6).toList ([P,V,Y,Z,x4,U,Q,R,W,X,a,b,c,d,f,g,i,k,l,m,n,o,p,q,r,s,t,u,w,x,y,z,A,B,C,D,E,F,G,H,I,J,K,L,M,N]) S =
  (zW (jJ Try.prog BinOp.and 5 (dem R) (Value.int IntKind.u8 127) S) (fun v2 S1 => zW (jK Try.prog false false 5 75 v2 S1) (fun v3 S2 => zW (jJ Try.prog BinOp.mul 3 (Value.int IntKind.i64 7) (dem Q) S2) (fun v5 S3 => zW (jJ Try.prog BinOp.shl 75 v3 v5 S3) (fun v6 S4 => zW (jJ Try.prog BinOp.or 75 (dem U) v6 S4) (fun v7 S5 => some ([P,V,Y,Z,x4,v7,Q,R,W,X,a,b,c,d,f,g,i,k,l,m,n,o,p,q,r,s,t,u,w,dem U,dem R,v2,v3,dem Q,v5,v6,dem v7,F,G,H,I,J,K,L,M,N], S5)) ()) ()) ()) ()) ()) := by
 kernel_rfl
theorem zM.r7  : jl Try.prog ⟨false, false, false⟩ (jc Try.prog O) (reg Try.f42 7) (reg Try.f42 7).toList ([P,V,Y,Z,x4,U,Q,R,W,X,a,b,c,d,f,g,i,k,l,m,n,o,p,q,r,s,t,u,w,x,y,z,A,B,C,D,E,F,G,H,I,J,K,L,M,N]) S =
  (zW (jJ Try.prog BinOp.lss 5 (dem R) (Value.int IntKind.u8 128) S) (fun v1 S1 => some ([P,V,Y,Z,x4,U,Q,R,W,X,a,b,c,d,f,g,i,k,l,m,n,o,p,q,r,s,t,u,w,x,y,z,A,B,C,D,E,dem R,v1,H,I,J,K,L,M,N], S1)) ()) := by
 kernel_rfl
theorem zM.r8  : jl Try.prog ⟨false, false, false⟩ (jc Try.prog O) (reg Try.f42 8) (reg Try.f42 8).toList ([P,V,Y,Z,x4,U,Q,R,W,X,a,b,c,d,f,g,i,k,l,m,n,o,p,q,r,s,t,u,w,x,y,z,A,B,C,D,E,F,G,H,I,J,K,L,M,N]) S =
  (zW (jJ Try.prog BinOp.add 3 (dem Q) (Value.int IntKind.i64 1) S) (fun v3 S1 => zW (wz Try.prog false 26 (dem P) (some v3) none S1) (fun v4 S2 => zW ((jc Try.prog O) 43 [(dem v4)] S2) (fun v5 S3 => some ([P,V,U,v5,Value.int IntKind.i64 0,dem U,Q,R,W,X,a,b,c,d,f,g,i,k,l,m,n,o,p,q,r,s,t,u,w,x,y,z,A,B,C,D,E,F,G,dem U,dem P,dem Q,v3,v4,dem v5,N], S3)) ()) ()) ()) := by
 kernel_rfl
theorem zM.r9  : jl Try.prog ⟨false, false, false⟩ (jc Try.prog O) (reg Try.f42 9) (reg Try.f42 9).toList ([P,V,Y,Z,x4,U,Q,R,W,X,a,b,c,d,f,g,i,k,l,m,n,o,p,q,r,s,t,u,w,x,y,z,A,B,C,D,E,F,G,H,I,J,K,L,M,N]) S =
  (zW (jJ Try.prog BinOp.add 3 a (Value.int IntKind.i64 1) S) (fun v0 S1 => some ([P,V,Y,Z,x4,U,Q,R,W,X,dem v0,b,c,d,f,g,i,k,l,m,n,o,p,q,r,s,t,u,w,x,y,z,A,B,C,D,E,F,G,H,I,J,K,L,M,v0], S1)) ()) := by
 kernel_rfl
theorem zM.r10  : jl Try.prog ⟨false, false, false⟩ (jc Try.prog O) (reg Try.f42 10) (reg Try.f42 10).toList ([P,V,Y,Z,x4,U,Q,R,W,X,a,b,c,d,f,g,i,k,l,m,n,o,p,q,r,s,t,u,w,x,y,z,A,B,C,D,E,F,G,H,I,J,K,L,M,N]) S =
  ( some ([P,V,Value.int IntKind.u64 0,Value.slice none 0 0,Value.int IntKind.i64 11,U,Q,R,W,X,a,b,c,d,f,g,i,k,l,m,n,o,p,q,r,s,t,u,w,x,y,z,A,B,C,D,E,F,G,H,I,J,K,L,M,N], S)) := by
 kernel_rfl
theorem zM.runs {P : Value} {S S1 : zi} {e : AEx} {T : List Value} (h : zI Try.prog O false zM.code ([P,undef,undef,undef,undef,undef,undef,undef,undef,undef,undef,undef,undef,undef,undef,undef,undef,undef,undef,undef,undef,undef,undef,undef,undef,undef,undef,undef,undef,undef,undef,undef,undef,undef,undef,undef,undef,undef,undef,undef,undef,undef,undef,undef,undef,undef]) S = some (e, T, S1)) (he : e = .normal ∨ e = .ret)  (h0 : ji (T.getD 2 undef) = true) (h1 : ji (T.getD 3 undef) = true) (h2 : ji (T.getD 4 undef) = true) : jc Try.prog O 42 [P] S = some (Value.tuple #[T.getD 2 undef, T.getD 3 undef, T.getD 4 undef], S1) :=
 jU rfl rfl Try.func42 (by decide) zM.body (by exact h) he ((wu ((show zV Try.prog T S1 Try.f42.results.toList = zV Try.prog T S1 [(ResultVar.tmp 2), (ResultVar.tmp 3), (ResultVar.tmp 4)] from by kernel_rfl).trans (by simp only [zV])) (by kernel_rfl) (by simp only [List.all_cons, List.all_nil, h0, h1, h2, Bool.and_true])).trans rfl)
end Go.Proofs.Ytblpnklfimkfoaa
namespace Go.Proofs.Ytblpnklfimkfoaa
open Go.Abs
abbrev jr.id : FuncId := 45
noncomputable def jr.jh : Code := (Code.seq (Code.seq (Code.region 2 (reg Try.f45 2) false) (Code.cond (Operand.tmp 5) Code.skip (Code.exit 0))) (Code.block 1 (Code.seq (Code.region 3 (reg Try.f45 3) false) (Code.region 4 (reg Try.f45 4) false))))
noncomputable def jr.code : Code := (Code.seq (Code.region 0 (reg Try.f45 0) false) (Code.seq (Code.region 1 (reg Try.f45 1) false) (Code.seq (Code.block 0 (Code.loop jr.jh)) (Code.seq (Code.region 5 (reg Try.f45 5) false) Code.ret))))
theorem jr.body : Try.f45.body = some jr.code := by kernel_rfl
theorem jr.eta {T : List Value} (h : T.length = 19) : T = [T.getD 0 undef,T.getD 1 undef,T.getD 2 undef,T.getD 3 undef,T.getD 4 undef,T.getD 5 undef,T.getD 6 undef,T.getD 7 undef,T.getD 8 undef,T.getD 9 undef,T.getD 10 undef,T.getD 11 undef,T.getD 12 undef,T.getD 13 undef,T.getD 14 undef,T.getD 15 undef,T.getD 16 undef,T.getD 17 undef,T.getD 18 undef] := (wV T 19 h).trans (by kernel_rfl)
theorem jr.list {T : List Value} (h : T.length = 19) : ∃ b o v n p q r s t u c d f g i j k l m, T = [b,o,v,n,p,q,r,s,t,u,c,d,f,g,i,j,k,l,m] := ⟨_, _, _, _, _, _, _, _, _, _, _, _, _, _, _, _, _, _, _, jr.eta h⟩
variable (b o v n p q r s t u c d f g i j k l m : Value) (S : zi)
theorem jr.r0  : jl Try.prog ⟨false, false, false⟩ (jc Try.prog O) (reg Try.f45 0) (reg Try.f45 0).toList ([b,o,v,n,p,q,r,s,t,u,c,d,f,g,i,j,k,l,m]) S =
  ( some ([b,o,Value.slice none 0 0,n,p,q,r,s,t,u,c,d,f,g,i,j,k,l,m], S)) := by
 kernel_rfl
theorem jr.r1  : jl Try.prog ⟨false, false, false⟩ (jc Try.prog O) (reg Try.f45 1) (reg Try.f45 1).toList ([b,o,v,n,p,q,r,s,t,u,c,d,f,g,i,j,k,l,m]) S =
  ( some ([b,o,v,Value.slice none 0 0,p,q,r,s,t,u,c,d,f,g,i,j,k,l,m], S)) := by
 kernel_rfl
theorem jr.r2  : jl Try.prog ⟨false, false, false⟩ (jc Try.prog O) (reg Try.f45 2) (reg Try.f45 2).toList ([b,o,v,n,p,q,r,s,t,u,c,d,f,g,i,j,k,l,m]) S =
  (zW (jJ Try.prog BinOp.geq 75 (dem b) (Value.int IntKind.u64 128) S) (fun A w => some ([b,o,v,n,dem b,A,r,s,t,u,c,d,f,g,i,j,k,l,m], w)) ()) := by
 kernel_rfl
theorem jr.r3  : jl Try.prog ⟨false, false, false⟩ (jc Try.prog O) (reg Try.f45 3) (reg Try.f45 3).toList ([b,o,v,n,p,q,r,s,t,u,c,d,f,g,i,j,k,l,m]) S =
  (zW (jK Try.prog false false 75 5 (dem b) S) (fun x w => zW (jJ Try.prog BinOp.or 5 x (Value.int IntKind.u8 128) w) (fun y B => zW (jg Try.prog 26 1 [(0, y)] B) (fun z C => zW (jB Try.prog 26 26 n z C) (fun D E => some ([b,o,v,D,p,q,dem n,dem b,x,y,z,dem D,f,g,i,j,k,l,m], E)) ()) ()) ()) ()) := by
 kernel_rfl
theorem jr.r4  : jl Try.prog ⟨false, false, false⟩ (jc Try.prog O) (reg Try.f45 4) (reg Try.f45 4).toList ([b,o,v,n,p,q,r,s,t,u,c,d,f,g,i,j,k,l,m]) S =
  (zW (jJ Try.prog BinOp.shr 75 (dem b) (Value.int IntKind.u64 7) S) (fun A w => some ([A,o,v,n,p,q,r,s,t,u,c,d,dem b,dem A,i,j,k,l,m], w)) ()) := by
 kernel_rfl
theorem jr.r5  : jl Try.prog ⟨false, false, false⟩ (jc Try.prog O) (reg Try.f45 5) (reg Try.f45 5).toList ([b,o,v,n,p,q,r,s,t,u,c,d,f,g,i,j,k,l,m]) S =
  (zW (jK Try.prog false false 75 5 (dem b) S) (fun x w => zW (jg Try.prog 26 1 [(0, x)] w) (fun y B => zW (jB Try.prog 26 26 n y B) (fun z C => some ([b,o,z,dem n,p,q,r,s,t,u,c,d,f,g,dem n,dem b,x,y,dem z], C)) ()) ()) ()) := by
 kernel_rfl
theorem jr.runs {b : Value} {S w : zi} {e : AEx} {T : List Value} (h : zI Try.prog O false jr.code ([b,undef,undef,undef,undef,undef,undef,undef,undef,undef,undef,undef,undef,undef,undef,undef,undef,undef,undef]) S = some (e, T, w)) (he : e = .normal ∨ e = .ret) : jc Try.prog O 45 [b] S = some (T.getD 2 undef, w) :=
 jU rfl rfl Try.func45 (by decide) jr.body (by exact h) he (qW (a := T.getD 2 undef) ((show zV Try.prog T w Try.f45.results.toList = zV Try.prog T w [(ResultVar.tmp 2)] from by kernel_rfl).trans (by simp only [zV])) (by kernel_rfl))
end Go.Proofs.Ytblpnklfimkfoaa
namespace Go.Proofs.Ytblpnklfimkfoaa
open Go.Abs
abbrev zH.id : FuncId := 46
noncomputable def zH.jh : Code := (Code.block 1 (Code.seq (Code.region 2 (reg Try.f46 2) false) (Code.seq (Code.region 3 (reg Try.f46 3) false) (Code.seq (Code.seq (Code.region 4 (reg Try.f46 4) false) (Code.cond (Operand.tmp 12) (Code.seq (Code.region 5 (reg Try.f46 5) false) Code.ret) Code.skip)) (Code.region 6 (reg Try.f46 6) false)))))
noncomputable def zH.code : Code := (Code.seq (Code.region 0 (reg Try.f46 0) false) (Code.seq (Code.region 1 (reg Try.f46 1) false) (Code.block 0 (Code.loop zH.jh))))
theorem zH.body : Try.f46.body = some zH.code := by kernel_rfl
theorem zH.eta {T : List Value} (h : T.length = 22) : T = [T.getD 0 undef,T.getD 1 undef,T.getD 2 undef,T.getD 3 undef,T.getD 4 undef,T.getD 5 undef,T.getD 6 undef,T.getD 7 undef,T.getD 8 undef,T.getD 9 undef,T.getD 10 undef,T.getD 11 undef,T.getD 12 undef,T.getD 13 undef,T.getD 14 undef,T.getD 15 undef,T.getD 16 undef,T.getD 17 undef,T.getD 18 undef,T.getD 19 undef,T.getD 20 undef,T.getD 21 undef] := (wV T 22 h).trans (by kernel_rfl)
theorem zH.list {T : List Value} (h : T.length = 22) : ∃ b s z r q u v w x y c d f g i j k l m n o p, T = [b,s,z,r,q,u,v,w,x,y,c,d,f,g,i,j,k,l,m,n,o,p] := ⟨_, _, _, _, _, _, _, _, _, _, _, _, _, _, _, _, _, _, _, _, _, _, zH.eta h⟩
variable (b s z r q u v w x y c d f g i j k l m n o p : Value) (S : zi)
theorem zH.r0  : jl Try.prog ⟨false, false, false⟩ (jc Try.prog O) (reg Try.f46 0) (reg Try.f46 0).toList ([b,s,z,r,q,u,v,w,x,y,c,d,f,g,i,j,k,l,m,n,o,p]) S =
  ( some ([b,s,Value.slice none 0 0,r,q,u,v,w,x,y,c,d,f,g,i,j,k,l,m,n,o,p], S)) := by
 kernel_rfl
theorem zH.r1  : jl Try.prog ⟨false, false, false⟩ (jc Try.prog O) (reg Try.f46 1) (reg Try.f46 1).toList ([b,s,z,r,q,u,v,w,x,y,c,d,f,g,i,j,k,l,m,n,o,p]) S =
  (zW (jg Try.prog 26 0 [] S) (fun E t => some ([b,s,z,E,q,dem E,v,w,x,y,c,d,f,g,i,j,k,l,m,n,o,p], t)) ()) := by
 kernel_rfl
theorem zH.r2  : jl Try.prog ⟨false, false, false⟩ (jc Try.prog O) (reg Try.f46 2) (reg Try.f46 2).toList ([b,s,z,r,q,u,v,w,x,y,c,d,f,g,i,j,k,l,m,n,o,p]) S =
  (zW (jJ Try.prog BinOp.rem 75 (dem b) (Value.int IntKind.u64 128) S) (fun B t => zW (jK Try.prog false false 75 5 B t) (fun A C => some ([b,s,z,r,A,u,dem b,B,dem A,y,c,d,f,g,i,j,k,l,m,n,o,p], C)) ()) ()) := by
 kernel_rfl
theorem zH.r3  : jl Try.prog ⟨false, false, false⟩ (jc Try.prog O) (reg Try.f46 3) (reg Try.f46 3).toList ([b,s,z,r,q,u,v,w,x,y,c,d,f,g,i,j,k,l,m,n,o,p]) S =
  (zW (jJ Try.prog BinOp.quo 75 (dem b) (Value.int IntKind.u64 128) S) (fun B t => some ([B,s,z,r,q,u,v,w,x,dem b,dem B,d,f,g,i,j,k,l,m,n,o,p], t)) ()) := by
 kernel_rfl
theorem zH.r4  : jl Try.prog ⟨false, false, false⟩ (jc Try.prog O) (reg Try.f46 4) (reg Try.f46 4).toList ([b,s,z,r,q,u,v,w,x,y,c,d,f,g,i,j,k,l,m,n,o,p]) S =
  (zW (jJ Try.prog BinOp.eql 75 (dem b) (Value.int IntKind.u64 0) S) (fun B t => some ([b,s,z,r,q,u,v,w,x,y,c,dem b,B,g,i,j,k,l,m,n,o,p], t)) ()) := by
 kernel_rfl
theorem zH.r5  : jl Try.prog ⟨false, false, false⟩ (jc Try.prog O) (reg Try.f46 5) (reg Try.f46 5).toList ([b,s,z,r,q,u,v,w,x,y,c,d,f,g,i,j,k,l,m,n,o,p]) S =
  (zW (jg Try.prog 26 1 [(0, (dem q))] S) (fun A t => zW (jB Try.prog 26 26 r A t) (fun D C => some ([b,s,D,dem r,q,u,v,w,x,y,c,d,f,dem r,dem q,A,dem D,l,m,n,o,p], C)) ()) ()) := by
 kernel_rfl
theorem zH.r6  : jl Try.prog ⟨false, false, false⟩ (jc Try.prog O) (reg Try.f46 6) (reg Try.f46 6).toList ([b,s,z,r,q,u,v,w,x,y,c,d,f,g,i,j,k,l,m,n,o,p]) S =
  (zW (jJ Try.prog BinOp.add 5 (dem q) (Value.int IntKind.u8 128) S) (fun A t => zW (jg Try.prog 26 1 [(0, A)] t) (fun D C => zW (jB Try.prog 26 26 r D C) (fun F G => some ([b,s,z,F,q,u,v,w,x,y,c,d,f,g,i,j,k,dem r,dem q,A,D,dem F], G)) ()) ()) ()) := by
 kernel_rfl
theorem zH.runs {b : Value} {S t : zi} {e : AEx} {T : List Value} (h : zI Try.prog O false zH.code ([b,undef,undef,undef,undef,undef,undef,undef,undef,undef,undef,undef,undef,undef,undef,undef,undef,undef,undef,undef,undef,undef]) S = some (e, T, t)) (he : e = .normal ∨ e = .ret) : jc Try.prog O 46 [b] S = some (T.getD 2 undef, t) :=
 jU rfl rfl Try.func46 (by decide) zH.body (by exact h) he (qW (a := T.getD 2 undef) ((show zV Try.prog T t Try.f46.results.toList = zV Try.prog T t [(ResultVar.tmp 2)] from by kernel_rfl).trans (by simp only [zV])) (by kernel_rfl))
end Go.Proofs.Ytblpnklfimkfoaa
namespace Go.Proofs.Ytblpnklfimkfoaa
open Go.Abs
def enc (n : Nat) : List UInt8 := if n < 128 then [UInt8.ofNat n] else UInt8.ofNat (n % 128 + 128) :: enc (n / 128)
termination_by n
decreasing_by omega
theorem y7 {n : Nat} (h : n < 128) : enc n = [UInt8.ofNat n] := by rw [enc, if_pos h]
theorem Zi {n : Nat} (h : ¬ n < 128) : enc n = UInt8.ofNat (n % 128 + 128) :: enc (n / 128) := by rw [enc, if_neg h]
theorem wrap_u8 (n : Nat) : IntKind.u8.wrap (n : Int) = ((n % 256 : Nat) : Int) := by
 simp [IntKind.wrap, IntKind.bits, IntKind.signed]
theorem wrap_u64 (n : Nat) : IntKind.u64.wrap (n : Int) = ((n % 2 ^ 64 : Nat) : Int) := by
 simp [IntKind.wrap, IntKind.bits, IntKind.signed]
theorem agk : ∀ m : Fin 256, orI .u8 (m.val : Int) 128 = ((m.val % 128 + 128 : Nat) : Int) := by decide +kernel
theorem afj (n : Nat) : orI .u8 (IntKind.u8.wrap (n : Int)) 128 = ((UInt8.ofNat (n % 128 + 128)).toNat : Int) := by
 rw [wrap_u8, agk ⟨n % 256, by omega⟩]
 simp only [UInt8.toNat_ofNat']
 omega
theorem KT {n : Nat} : IntKind.u8.wrap (n : Int) = ((UInt8.ofNat n).toNat : Int) := by
 rw [wrap_u8]
 simp
theorem agH (n : Nat) : (n : Int).fdiv (2 ^ min (Int.toNat 7) (IntKind.bits .u64)) = ((n / 128 : Nat) : Int) := by
 have : (2 : Int) ^ min (Int.toNat 7) (IntKind.bits .u64) = 128 := by decide
 rw [this, Int.fdiv_eq_ediv_of_nonneg _ (by omega)]
 omega
theorem acs (k : Nat) : ∀ n, n < 128 ^ (k + 1) → (enc n).length ≤ k + 1 := by
 induction k with
 | zero => intro n h; rw [y7 (by omega)]; simp
 | succ k ih =>
  intro n h
  by_cases hn : n < 128
  ·
   rw [y7 hn]; simp
  ·
   rw [Zi hn]
   have := ih (n / 128) (by rw [Nat.div_lt_iff_lt_mul (by omega)]; exact h)
   simp only [List.length_cons]; omega
theorem kE {n : Nat} (h : n < 2 ^ 64) : (enc n).length ≤ 10 := acs 9 n (Nat.lt_of_lt_of_le h (by decide))
theorem aaG (n : Nat) : (n : Int).tmod 128 = ((n % 128 : Nat) : Int) := by
 rw [Int.tmod_eq_emod_of_nonneg (by omega)]; omega
theorem aeK (n : Nat) (h : n < 2 ^ 64) : IntKind.u64.wrap ((n : Int).tdiv 128) = ((n / 128 : Nat) : Int) := by
 rw [Int.tdiv_eq_ediv_of_nonneg (by omega), show (n : Int) / 128 = ((n / 128 : Nat) : Int) by omega, wrap_u64]
 omega
theorem agu (n : Nat) : IntKind.u8.wrap ((n % 128 : Nat) : Int) = ((UInt8.ofNat (n % 128)).toNat : Int) := KT
theorem aff (n : Nat) : IntKind.u8.wrap (((UInt8.ofNat (n % 128)).toNat : Int) + 128) = ((UInt8.ofNat (n % 128 + 128)).toNat : Int) := by
 have : ((UInt8.ofNat (n % 128)).toNat : Int) + 128 = ((n % 128 + 128 : Nat) : Int) := by simp only [UInt8.toNat_ofNat']; omega
 rw [this]; exact KT
theorem abh : sv 2 1 0 [] = by_ 2 [] := rfl
theorem ac7 (x : UInt8) : sv 2 1 1 [.int .u8 x.toNat] = by_ 2 [x] := rfl
theorem Xw {k : Nat} {l : List UInt8} {x : UInt8} {S : zi} (h : Okl k l) (hk : k ≠ 1) (hl : l.length ≤ 140737488355000) : jB Try.prog 26 26 (by_ k l) (by_ 2 [x]) S = some (by_ 2 (l ++ [x]), S) := by
 rw [yN h hk Okl.own (by simp; omega), if_neg (fun h => by have := h.2; simp at this)]
theorem jr.round : ∀ (n : Nat) (l : List UInt8) (k : Nat) {T : List Value} {S : zi} {r : St}, wQ (zI Try.prog O false jr.jh) T S = r → T.length = 19 → T.getD 0 undef = .int .u64 n → T.getD 3 undef = by_ k l →
  Okl k l → k ≠ 1 → n * 2 ^ l.length < 2 ^ 64 → ∃ T' l' k' n', r = some (.exit 0, T', S) ∧ T'.length = 19 ∧ T'.getD 0 undef = .int .u64 (n' : Nat) ∧ T'.getD 3 undef = by_ k' l' ∧
   Okl k' l' ∧ k' ≠ 1 ∧ n' < 128 ∧ l' ++ [UInt8.ofNat n'] = l ++ enc n := by
 intro n
 induction n using Nat.strongRecOn with
 | _ n ih =>
  intro l k T S r hL hT h0 h3 hs hk hl
  obtain ⟨x0, x1, x2, x3, x4, x5, x6, x7, x8, x9, x10, x11, x12, x13, x14, x15, x16, x17, x18, hTe⟩ := jr.list hT
  rw [hTe] at h0 h3
  simp only [List.getD_cons_succ, List.getD_cons_zero] at h0 h3
  subst h0 h3
  have hr : zI Try.prog O false jr.jh T S = zI Try.prog O false jr.jh T S := rfl
  by_cases hlt : n < 128
  ·
   have hd : decide ((128 : Int) ≤ (n : Int)) = false := by simp; omega
   conv at hr =>
    rhs
    rw [hTe]
    simp only [jr.jh, zSs, reduceIte, Nat.reduceEqDiff, Int.reduceEq, Int.reduceLT, Int.reduceLE, jr.r2, hd]
   exact ⟨_, l, k, n, hL.symm.trans (jq hr (by simp)), rfl, rfl, rfl, hs, hk, hlt, by rw [y7 hlt]⟩
  ·
   have hd : decide ((128 : Int) ≤ (n : Int)) = true := by simp; omega
   have hll : l.length < 64 := by
    have : 2 ^ l.length < 2 ^ 64 := Nat.lt_of_le_of_lt (Nat.le_mul_of_pos_left _ (by omega)) hl
    exact (Nat.pow_lt_pow_iff_right (by omega)).1 this
   have e1 : ∀ x S, jB Try.prog 26 26 (by_ k l) (by_ 2 [x]) S = some (by_ 2 (l ++ [x]), S) := fun x S => Xw hs hk (by omega)
   conv at hr =>
    rhs
    rw [hTe]
    simp only [jr.jh, zSs, reduceIte, Nat.reduceEqDiff, Int.reduceEq, Int.reduceLT, Int.reduceLE, jr.r2, hd, jr.r3, kC, aa1, afj, kK, ac7, e1, jr.r4, acR _ _ _ _ (show (0 : Int) ≤ 7 by omega), agH]
   have hmul : n / 128 * 2 ^ (l.length + 1) < 2 ^ 64 := by
    refine Nat.lt_of_le_of_lt ?_ hl
    rw [Nat.pow_succ, Nat.mul_comm (2 ^ l.length) 2, ← Nat.mul_assoc]
    exact Nat.mul_le_mul_right _ (by omega)
   obtain ⟨T', l', k', n', g1, g2, g3, g4, g5, g6, g7, g8⟩ := ih (n / 128) (by omega) _ 2 ((jY hr).symm.trans hL) rfl rfl rfl Okl.own (by decide) (by simpa using hmul)
   refine ⟨T', l', k', n', g1, g2, g3, g4, g5, g6, g7, ?_⟩
   rw [g8, Zi hlt, List.append_assoc]; rfl
theorem jr.v (n : Nat) (hn : n < 2 ^ 64) (S : zi) : jc Try.prog O jr.id [.int .u64 n] S = some (by_ 2 (enc n), S) := by
 obtain ⟨T, hTe⟩ : ∃ T, T = (.int .u64 n :: undef :: undef :: undef :: undef :: undef :: undef :: undef :: undef :: undef :: undef :: undef :: undef :: undef :: undef :: undef :: undef :: undef :: undef :: []) := ⟨_, rfl⟩
 have hr : zI Try.prog O false jr.code T S = zI Try.prog O false jr.code T S := rfl
 conv at hr =>
  rhs
  rw [hTe]
  simp only [jr.code, zSs, reduceIte, Nat.reduceEqDiff, Int.reduceEq, Int.reduceLT, Int.reduceLE, jr.r0, jr.r1]
 generalize hL : wQ (zI Try.prog O false jr.jh) _ _ = r at hr
 obtain ⟨T', l', k', n', rfl, g2, g3, g4, g5, g6, g7, g8⟩ := jr.round n [] 0 hL rfl rfl rfl Okl.none (by decide) (by simpa using hn)
 obtain ⟨x0, x1, x2, x3, x4, x5, x6, x7, x8, x9, x10, x11, x12, x13, x14, x15, x16, x17, x18, hT'⟩ := jr.list g2
 rw [hT'] at g3 g4
 simp only [List.getD_cons_succ, List.getD_cons_zero] at g3 g4
 subst g3 g4
 have hlen : l'.length + 1 = (enc n).length := by simpa using congrArg List.length g8
 have h10 := kE hn
 have e1 : ∀ x S, jB Try.prog 26 26 (by_ k' l') (by_ 2 [x]) S = some (by_ 2 (l' ++ [x]), S) := fun x S => Xw g5 g6 (by omega)
 conv at hr =>
  rhs
  rw [hT']
  simp only [zSs, reduceIte, Nat.reduceEqDiff, Int.reduceEq, Int.reduceLT, Int.reduceLE, jr.r5, kC, KT, kK, ac7, e1]
 rw [hTe] at hr
 have := jr.runs hr (.inr rfl)
 rw [List.nil_append] at g8
 rw [← g8]
 exact this
theorem zH.round : ∀ (n : Nat) (l : List UInt8) {T : List Value} {S : zi} {r : St}, wQ (zI Try.prog O false zH.jh) T S = r → T.length = 22 → T.getD 0 undef = .int .u64 n → T.getD 3 undef = by_ 2 l →
  n * 2 ^ l.length < 2 ^ 64 → l.length < 64 → ∃ T', r = some (.ret, T', S) ∧ T'.getD 2 undef = by_ 2 (l ++ enc n) := by
 intro n
 induction n using Nat.strongRecOn with
 | _ n ih =>
  intro l T S r hL hT h0 h3 hl hll
  obtain ⟨x0, x1, x2, x3, x4, x5, x6, x7, x8, x9, x10, x11, x12, x13, x14, x15, x16, x17, x18, x19, x20, x21, hTe⟩ := zH.list hT
  rw [hTe] at h0 h3
  simp only [List.getD_cons_succ, List.getD_cons_zero] at h0 h3
  subst h0 h3
  have hn : n < 2 ^ 64 := Nat.lt_of_le_of_lt (Nat.le_mul_of_pos_right _ (by exact Nat.two_pow_pos _)) hl
  have e1 : ∀ x S, jB Try.prog 26 26 (by_ 2 l) (by_ 2 [x]) S = some (by_ 2 (l ++ [x]), S) := fun x S => Xw Okl.own (by decide) (by omega)
  have hr : zI Try.prog O false zH.jh T S = zI Try.prog O false zH.jh T S := rfl
  conv at hr =>
   rhs
   rw [hTe]
   simp only [zH.jh, zSs, reduceIte, Nat.reduceEqDiff, Int.reduceEq, Int.reduceLT, Int.reduceLE, zH.r2, zH.r3, zH.r4, XW _ _ _ (show (128 : Int) ≠ 0 by omega), acD _ _ _ (show (128 : Int) ≠ 0 by omega), aaG, aeK n hn, kC, agu]
  by_cases hz : n / 128 = 0
  ·
   have hd : decide (((n / 128 : Nat) : Int) = 0) = true := by simp; omega
   conv at hr =>
    rhs
    simp only [hd, zSs, reduceIte, Nat.reduceEqDiff, Int.reduceEq, Int.reduceLT, Int.reduceLE, zH.r5, kK, ac7, e1]
   refine ⟨_, hL.symm.trans (jq hr (by simp)), ?_⟩
   rw [y7 (by omega)]
   simp only [List.getD_cons_succ, List.getD_cons_zero]
   rw [show n % 128 = n by omega]
  ·
   have hd : decide (((n / 128 : Nat) : Int) = 0) = false := by simp; omega
   conv at hr =>
    rhs
    simp only [hd, zSs, reduceIte, Nat.reduceEqDiff, Int.reduceEq, Int.reduceLT, Int.reduceLE, zH.r6, aff, kK, ac7, e1]
   have hmul : n / 128 * 2 ^ (l.length + 1) < 2 ^ 64 := by
    refine Nat.lt_of_le_of_lt ?_ hl
    rw [Nat.pow_succ, Nat.mul_comm (2 ^ l.length) 2, ← Nat.mul_assoc]
    exact Nat.mul_le_mul_right _ (by omega)
   have hl2 : l.length + 1 < 64 := by
    have : 2 ^ (l.length + 1) < 2 ^ 64 := Nat.lt_of_le_of_lt (Nat.le_mul_of_pos_left _ (by omega)) hmul
    exact (Nat.pow_lt_pow_iff_right (by omega)).1 this
   obtain ⟨T', g1, g2⟩ := ih (n / 128) (by omega) _ ((jY hr).symm.trans hL) rfl rfl rfl (by simpa using hmul) (by simpa using hl2)
   refine ⟨T', g1, ?_⟩
   rw [g2, Zi (n := n) (by omega), List.append_assoc]
   rfl
theorem zH.v (n : Nat) (hn : n < 2 ^ 64) (S : zi) : jc Try.prog O zH.id [.int .u64 n] S = some (by_ 2 (enc n), S) := by
 obtain ⟨T, hTe⟩ : ∃ T, T = (.int .u64 n :: undef :: undef :: undef :: undef :: undef :: undef :: undef :: undef :: undef :: undef :: undef :: undef :: undef :: undef :: undef :: undef :: undef :: undef :: undef :: undef :: undef :: []) := ⟨_, rfl⟩
 have hr : zI Try.prog O false zH.code T S = zI Try.prog O false zH.code T S := rfl
 conv at hr =>
  rhs
  rw [hTe]
  simp only [zH.code, zSs, reduceIte, Nat.reduceEqDiff, Int.reduceEq, Int.reduceLT, Int.reduceLE, zH.r0, zH.r1, yS, abh]
 generalize hL : wQ (zI Try.prog O false zH.jh) _ _ = r at hr
 obtain ⟨T', rfl, g2⟩ := zH.round n [] hL rfl rfl rfl (by simpa using hn) (by simp)
 conv at hr =>
  rhs
  simp only [zSs, reduceIte, Nat.reduceEqDiff, Int.reduceEq, Int.reduceLT, Int.reduceLE]
 rw [hTe] at hr
 have hrun := zH.runs hr (.inr rfl)
 rw [g2] at hrun
 exact hrun
end Go.Proofs.Ytblpnklfimkfoaa
namespace Go.Proofs.Ytblpnklfimkfoaa
open Go.Abs
theorem slices_Clone.v {k : Nat} {l : List UInt8} (h : Okl k l) (hk : k ≠ 2) (hl : l.length ≤ 140737488355328) (S : zi) : jc Try.prog O slices_Clone.id [by_ k l] S = some (by_ (if k = 0 then 0 else 2) l, S) := by
 obtain ⟨T, hTe⟩ : ∃ T, T = (by_ k l :: undef :: undef :: undef :: undef :: undef :: undef :: undef :: []) := ⟨_, rfl⟩
 have hr : zI Try.prog O false slices_Clone.code T S = zI Try.prog O false slices_Clone.code T S := rfl
 conv at hr =>
  rhs
  rw [hTe]
  simp only [slices_Clone.code, zSs, reduceIte, Nat.reduceEqDiff, Int.reduceEq, Int.reduceLT, Int.reduceLE, slices_Clone.r0, slices_Clone.r1, if_neg hk, acK h]
 by_cases h0 : k = 0
 ·
  have hl0 := h.nil h0
  subst h0 hl0
  conv at hr =>
   rhs
   simp only [decide_true, zSs, reduceIte, Nat.reduceEqDiff, Int.reduceEq, Int.reduceLT, Int.reduceLE, slices_Clone.r2]
  rw [hTe] at hr
  exact slices_Clone.runs hr (.inr rfl)
 ·
  have e1 : ∀ S, jB Try.prog 26 26 (by_ 2 []) (by_ k l) S = some (by_ 2 l, S) := fun S => by
   rw [yN Okl.own (by decide) h (by simpa using hl)]; rfl
  conv at hr =>
   rhs
   simp only [h0, decide_false, zSs, reduceIte, Nat.reduceEqDiff, Int.reduceEq, Int.reduceLT, Int.reduceLE, slices_Clone.r3, yS, abh, if_neg hk, e1]
  rw [hTe] at hr
  rw [if_neg h0]
  exact slices_Clone.runs hr (.inr rfl)
def scan : Nat → Nat → List UInt8 → Option (Nat × List UInt8)
 | _, _, [] => none
 | i, acc, x :: r => if (i = 9 ∧ 1 < x.toNat) ∨ (0 < i ∧ x.toNat = 0) then none else if x.toNat < 128 then some (acc + x.toNat * 128 ^ i, r) else scan (i + 1) (acc + (x.toNat - 128) * 128 ^ i) r
def Ji (l : List UInt8) : Value :=
 match scan 0 0 l with
 | none => .tuple #[.int .u64 0, .slice none 0 0, .int .i64 11]
 | some (m, rest) => .tuple #[.int .u64 (m : Nat), by_ 2 rest, .int .i64 0]
theorem zM.stop (x0 x1 x2 x3 x4 x5 x6 x7 x8 x9 x10 x11 x12 x13 x14 x15 x16 x17 x18 x19 x20 x21 x22 x23 x24 x25 x26 x27 x28 x29 x30 x31 x32 x33 x34 x35 x36 x37 x38 x39 x40 x41 x42 x43 x44 x45 : Value) (i x : Int) (S : zi) (h6 : x6 = .int .i64 i) (h7 : x7 = .int .u8 x) : ∃ y15 y16 y17 y18 y19 y20 y21 y22 y23 y24 y25 y26 y27, jl Try.prog ⟨false, false, false⟩ (jc Try.prog O) (reg Try.f42 5) (reg Try.f42 5).toList (x0 :: x1 :: x2 :: x3 :: x4 :: x5 :: x6 :: x7 :: x8 :: x9 :: x10 :: x11 :: x12 :: x13 :: x14 :: x15 :: x16 :: x17 :: x18 :: x19 :: x20 :: x21 :: x22 :: x23 :: x24 :: x25 :: x26 :: x27 :: x28 :: x29 :: x30 :: x31 :: x32 :: x33 :: x34 :: x35 :: x36 :: x37 :: x38 :: x39 :: x40 :: x41 :: x42 :: x43 :: x44 :: x45 :: []) S =
  some ((x0 :: x1 :: x2 :: x3 :: x4 :: x5 :: x6 :: x7 :: x8 :: x9 :: x10 :: x11 :: x12 :: x13 :: x14 :: y15 :: y16 :: y17 :: y18 :: y19 :: y20 :: y21 :: y22 :: y23 :: y24 :: y25 :: y26 :: y27 :: .bool (decide ((i = 9 ∧ 1 < x) ∨ (0 < i ∧ x = 0))) :: x29 :: x30 :: x31 :: x32 :: x33 :: x34 :: x35 :: x36 :: x37 :: x38 :: x39 :: x40 :: x41 :: x42 :: x43 :: x44 :: x45 :: []), S) := by
 subst h6 h7
 rw [zM.r5]
 simp only [zSs, reduceIte, Nat.reduceEqDiff, Int.reduceEq, Int.reduceLT, Int.reduceLE]
 rcases Bool.eq_false_or_eq_true (decide (i = 9)) with d1 | d1 <;> rcases Bool.eq_false_or_eq_true (decide (1 < x)) with d2 | d2 <;> rcases Bool.eq_false_or_eq_true (decide (0 < i)) with d3 | d3 <;> rcases Bool.eq_false_or_eq_true (decide (x = 0)) with d4 | d4 <;>
  simp only [d1, d2, d3, d4, zSs, reduceIte, Nat.reduceEqDiff, Int.reduceEq, Int.reduceLT, Int.reduceLE] <;> simp only [decide_eq_true_eq, decide_eq_false_iff_not] at d1 d2 d3 d4 <;>
  simp only [d1, d2, d3, d4, true_and, false_and, and_true, and_false, or_true, true_or, or_false, false_or, decide_true, decide_false, not_true, not_false_iff, Int.reduceLT, Int.reduceEq, and_self, or_self] <;> first | exact ⟨_, _, _, _, _, _, _, _, _, _, _, _, _, rfl⟩ | omega
theorem af6 : ∀ m : Fin 256, agh .u8 (m.val : Int) 127 = ((m.val % 128 : Nat) : Int) := by decide +kernel
theorem ada (x : UInt8) : agh .u8 (x.toNat : Int) 127 = ((x.toNat % 128 : Nat) : Int) := af6 ⟨x.toNat, x.toNat_lt⟩
theorem yD {n : Nat} (h : n < 2 ^ 64) : IntKind.u64.wrap (n : Int) = (n : Int) := by
 rw [wrap_u64, Nat.mod_eq_of_lt h]
theorem aeV {a c i : Nat} (ha : a < 2 ^ i) (h : c * 2 ^ i < 2 ^ 64) (h2 : a < 2 ^ 64) : orI .u64 (a : Int) ((c * 2 ^ i : Nat) : Int) = ((a + c * 2 ^ i : Nat) : Int) := by
 have hor : a ||| c * 2 ^ i = a + c * 2 ^ i := by
  have := Nat.shiftLeft_add_eq_or_of_lt ha c
  rw [Nat.shiftLeft_eq] at this
  rw [Nat.or_comm, ← this, Nat.add_comm]
 have hlt : a ||| c * 2 ^ i < 2 ^ 64 := Nat.or_lt_two_pow h2 h
 unfold orI
 rw [BitVec.ofInt_natCast, BitVec.ofInt_natCast, BitVec.toNat_or, BitVec.toNat_ofNat, BitVec.toNat_ofNat]
 rw [show IntKind.bits .u64 = 64 from rfl, Nat.mod_eq_of_lt h2, Nat.mod_eq_of_lt h, yD hlt, hor]
theorem agG {c i : Nat} (hi : i ≤ 9) (h : c * 128 ^ i < 2 ^ 64) : IntKind.u64.wrap ((c : Int) * 2 ^ (min (Int.toNat (7 * (i : Int))) (IntKind.bits .u64))) = ((c * 2 ^ (7 * i) : Nat) : Int) := by
 have e1 : min (Int.toNat (7 * (i : Int))) (IntKind.bits .u64) = 7 * i := by
  rw [show IntKind.bits .u64 = 64 from rfl]; omega
 have e2 : (128 : Nat) ^ i = 2 ^ (7 * i) := by rw [Nat.pow_mul]
 rw [e1, show (c : Int) * 2 ^ (7 * i) = ((c * 2 ^ (7 * i) : Nat) : Int) by simp, yD (by rw [← e2]; exact h)]
theorem X6 {l pre suf : List UInt8} {x : UInt8} (hl : l = pre ++ x :: suf) : (l.drop ((pre.length : Int) + 1).toNat).take ((l.length : Int).toNat - ((pre.length : Int) + 1).toNat) = suf := by
 rw [show ((pre.length : Int) + 1).toNat = pre.length + 1 by omega, show (l.length : Int).toNat = l.length by omega, hl]
 rw [show pre ++ x :: suf = (pre ++ [x]) ++ suf by simp, show pre.length + 1 = (pre ++ [x]).length by simp, List.drop_left]
 rw [List.take_of_length_le]; simp; omega
theorem zM.round {k : Nat} {l : List UInt8} (hv : Okl k l) (hk : k ≠ 2) (hlen : l.length ≤ 140737488355328) {S : zi} : ∀ (suf pre : List UInt8) (acc : Nat) {T : List Value} {r : St}, wQ (zI Try.prog O false zM.jh) T S = r → T.length = 46 →
  T.getD 0 undef = by_ k l → T.getD 8 undef = by_ k l → T.getD 9 undef = .int .i64 l.length → T.getD 10 undef = .int .i64 pre.length → T.getD 5 undef = .int .u64 acc → l = pre ++ suf → acc < 128 ^ pre.length → pre.length ≤ 9 →
  ∃ e T', r = some (e, T', S) ∧ match scan pre.length acc suf with
   | none => e = .exit 0 ∧ T'.length = 46
   | some (m, rest) => e = .ret ∧ m < 2 ^ 64 ∧ T'.getD 2 undef = .int .u64 m ∧ T'.getD 3 undef = by_ 2 rest ∧ T'.getD 4 undef = .int .i64 0 := by
 intro suf
 induction suf with
 | nil =>
  intro pre acc T r hL hT h0 h8 h9 h10 h5 hl hacc hpre
  obtain ⟨x0, x1, x2, x3, x4, x5, x6, x7, x8, x9, x10, x11, x12, x13, x14, x15, x16, x17, x18, x19, x20, x21, x22, x23, x24, x25, x26, x27, x28, x29, x30, x31, x32, x33, x34, x35, x36, x37, x38, x39, x40, x41, x42, x43, x44, x45, hTe⟩ := zM.list hT
  rw [hTe] at h0 h8 h9 h10 h5
  simp only [List.getD_cons_succ, List.getD_cons_zero] at h0 h8 h9 h10 h5
  subst h0 h8 h9 h10 h5
  have hr : zI Try.prog O false zM.jh T S = zI Try.prog O false zM.jh T S := rfl
  have hd : decide ((pre.length : Int) < (l.length : Int)) = false := by rw [hl]; simp
  conv at hr =>
   rhs
   rw [hTe]
   simp only [zM.jh, zSs, reduceIte, Nat.reduceEqDiff, Int.reduceEq, Int.reduceLT, Int.reduceLE, zM.r3, hd]
  exact ⟨_, _, hL.symm.trans (jq hr (by simp)), rfl, rfl⟩
 | cons x suf ih =>
  intro pre acc T r hL hT h0 h8 h9 h10 h5 hl hacc hpre
  obtain ⟨x0, x1, x2, x3, x4, x5, x6, x7, x8, x9, x10, x11, x12, x13, x14, x15, x16, x17, x18, x19, x20, x21, x22, x23, x24, x25, x26, x27, x28, x29, x30, x31, x32, x33, x34, x35, x36, x37, x38, x39, x40, x41, x42, x43, x44, x45, hTe⟩ := zM.list hT
  rw [hTe] at h0 h8 h9 h10 h5
  simp only [List.getD_cons_succ, List.getD_cons_zero] at h0 h8 h9 h10 h5
  subst h0 h8 h9 h10 h5
  have hr : zI Try.prog O false zM.jh T S = zI Try.prog O false zM.jh T S := rfl
  have hlt : (pre.length : Int) < (l.length : Int) := by rw [hl]; simp; omega
  have hd : decide ((pre.length : Int) < (l.length : Int)) = true := by simpa using hlt
  have k0 : k ≠ 0 := fun h => by have := hv.nil h; rw [this] at hl; simp at hl
  have e1 : ∀ S, jk Try.prog 26 (by_ k l) (.int .i64 pre.length) S = some (EP [.int .u8 x.toNat], S) := fun S => by
   rw [afI hv (by omega) hlt]; rw [acA hl]
  obtain ⟨y15, y16, y17, y18, y19, y20, y21, y22, y23, y24, y25, y26, y27, e3⟩ := zM.stop (by_ k l) x1 x2 x3 x4 (.int .u64 acc) (.int .i64 pre.length) (.int .u8 x.toNat) (by_ k l) (.int .i64 l.length) (.int .i64 pre.length) (.bool true) (.int .i64 pre.length) (EP [.int .u8 x.toNat]) (.int .u8 x.toNat) x15 x16 x17 x18 x19 x20 x21 x22 x23 x24 x25 x26 x27 x28 x29 x30 x31 x32 x33 x34 x35 x36 x37 x38 x39 x40 x41 x42 x43 x44 x45 (pre.length : Int) (x.toNat : Int) S rfl rfl
  conv at hr =>
   rhs
   rw [hTe]
   simp only [zM.jh, zSs, reduceIte, Nat.reduceEqDiff, Int.reduceEq, Int.reduceLT, Int.reduceLE, zM.r3, hd, zM.r4, e1, KD, if_neg hk, e3]
  have hst : ((pre.length : Int) = 9 ∧ 1 < (x.toNat : Int) ∨ 0 < (pre.length : Int) ∧ (x.toNat : Int) = 0) ↔ ((pre.length = 9 ∧ 1 < x.toNat) ∨ (0 < pre.length ∧ x.toNat = 0)) := by omega
  by_cases hs : (pre.length = 9 ∧ 1 < x.toNat) ∨ (0 < pre.length ∧ x.toNat = 0)
  ·
   have hs2 := decide_eq_true (hst.2 hs)
   conv at hr =>
    rhs
    simp only [hs2, zSs, reduceIte, Nat.reduceEqDiff, Int.reduceEq, Int.reduceLT, Int.reduceLE]
   refine ⟨_, _, hL.symm.trans (jq hr (by simp)), ?_⟩
   rw [scan, if_pos hs]
   exact ⟨rfl, rfl⟩
  ·
   have hs2 := decide_eq_false (fun h => hs (hst.1 h))
   have hx256 := x.toNat_lt
   have hpw : 128 ^ pre.length ≤ 128 ^ 9 := Nat.pow_le_pow_right (by omega) hpre
   have hc64 : x.toNat % 128 * 128 ^ pre.length < 2 ^ 64 := by
    by_cases h9 : pre.length = 9
    ·
     rw [h9]; have : x.toNat % 128 ≤ 1 := by omega
     exact Nat.lt_of_le_of_lt (Nat.mul_le_mul_right _ this) (by decide)
    ·
     have h8 : 128 ^ pre.length ≤ 128 ^ 8 := Nat.pow_le_pow_right (by omega) (by omega)
     exact Nat.lt_of_le_of_lt (Nat.mul_le_mul (by omega : x.toNat % 128 ≤ 127) h8) (by decide)
   have hm : IntKind.i64.wrap (7 * (pre.length : Int)) = 7 * (pre.length : Int) := wrap_i64 (by omega) (by omega)
   have e128 : (128 : Nat) ^ pre.length = 2 ^ (7 * pre.length) := by rw [Nat.pow_mul]
   have hor := aeV (a := acc) (c := x.toNat % 128) (i := 7 * pre.length) (by rw [← e128]; exact hacc) (by rw [← e128]; exact hc64) (Nat.lt_of_lt_of_le hacc (Nat.le_trans hpw (by decide)))
   conv at hr =>
    rhs
    simp only [hs2, zSs, reduceIte, Nat.reduceEqDiff, Int.reduceEq, Int.reduceLT, Int.reduceLE, zM.r6, adL, ada, xU, yD (show x.toNat % 128 < 2 ^ 64 by omega), hm, acH _ _ _ _ (show (0 : Int) ≤ 7 * (pre.length : Int) by omega), agG hpre hc64, aa1, hor, zM.r7]
   rw [← e128] at hr
   have hadd : acc + x.toNat % 128 * 128 ^ pre.length < 128 ^ (pre.length + 1) := by
    rw [Nat.pow_succ]
    have : x.toNat % 128 * 128 ^ pre.length ≤ 127 * 128 ^ pre.length := Nat.mul_le_mul_right _ (by omega)
    omega
   have hi1 : IntKind.i64.wrap ((pre.length : Int) + 1) = (pre.length : Int) + 1 := wrap_i64 (by omega) (by omega)
   by_cases hxs : x.toNat < 128
   ·
    have hd2 : decide ((x.toNat : Int) < 128) = true := by simp; omega
    have e4 : ∀ S, yT Try.prog 26 (by_ k l) (some (.int .i64 ((pre.length : Int) + 1))) none S = some (by_ k suf, S) := fun S => by
     rw [kJ hv (lo := some (.int .i64 ((pre.length : Int) + 1))) (hi := none) (i := (pre.length : Int) + 1) (j := l.length) rfl rfl (by omega) (by omega) (by omega), X6 hl, if_neg hk]
    have ok2 : Okl k suf := ⟨hv.le, fun h => absurd h k0⟩
    have e5 : ∀ S, jc Try.prog O slices_Clone.id [by_ k suf] S = some (by_ 2 suf, S) := fun S => by
     rw [slices_Clone.v ok2 hk (by have := congrArg List.length hl; simp at this; omega), if_neg k0]
    conv at hr =>
     rhs
     simp only [hd2, zSs, reduceIte, Nat.reduceEqDiff, Int.reduceEq, Int.reduceLT, Int.reduceLE, zM.r8, hi1, if_neg hk, e4, e5]
    refine ⟨_, _, hL.symm.trans (jq hr (by simp)), ?_⟩
    rw [scan, if_neg hs, if_pos hxs]
    have hxm : x.toNat % 128 = x.toNat := by omega
    rw [hxm]
    refine ⟨rfl, ?_, rfl, rfl, rfl⟩
    rw [hxm] at hadd
    by_cases h9 : pre.length = 9
    ·
     rw [h9] at hacc ⊢
     have : x.toNat ≤ 1 := by omega
     have h1 : x.toNat * 128 ^ 9 ≤ 1 * 128 ^ 9 := Nat.mul_le_mul_right _ this
     have h2 : (128 : Nat) ^ 9 + 1 * 128 ^ 9 = 2 ^ 64 := by decide
     omega
    ·
     have h8 : 128 ^ (pre.length + 1) ≤ 128 ^ 9 := Nat.pow_le_pow_right (by omega) (by omega)
     exact Nat.lt_of_lt_of_le hadd (Nat.le_trans h8 (by decide))
   ·
    have hd2 : decide ((x.toNat : Int) < 128) = false := by simp; omega
    conv at hr =>
     rhs
     simp only [hd2, zSs, reduceIte, Nat.reduceEqDiff, Int.reduceEq, Int.reduceLT, Int.reduceLE, zM.r9, hi1]
    obtain ⟨e, T', g1, g3⟩ := ih (pre ++ [x]) (acc + x.toNat % 128 * 128 ^ pre.length) ((jY hr).symm.trans hL) rfl rfl rfl rfl (by simp) rfl (by simp [hl]) (by simpa using hadd) (by simp; omega)
    refine ⟨e, T', g1, ?_⟩
    rw [scan, if_neg hs, if_neg hxs]
    have hxm : x.toNat % 128 = x.toNat - 128 := by omega
    rw [hxm] at g3
    simpa using g3
theorem zM.v {k : Nat} {l : List UInt8} (hv : Okl k l) (hk : k ≠ 2) (hlen : l.length ≤ 140737488355328) (S : zi) : jc Try.prog O zM.id [by_ k l] S = some (Ji l, S) := by
 obtain ⟨T, hTe⟩ : ∃ T, T = (by_ k l :: undef :: undef :: undef :: undef :: undef :: undef :: undef :: undef :: undef :: undef :: undef :: undef :: undef :: undef :: undef :: undef :: undef :: undef :: undef :: undef :: undef :: undef :: undef :: undef :: undef :: undef :: undef :: undef :: undef :: undef :: undef :: undef :: undef :: undef :: undef :: undef :: undef :: undef :: undef :: undef :: undef :: undef :: undef :: undef :: undef :: []) := ⟨_, rfl⟩
 have hr : zI Try.prog O false zM.code T S = zI Try.prog O false zM.code T S := rfl
 conv at hr =>
  rhs
  rw [hTe]
  simp only [zM.code, zSs, reduceIte, Nat.reduceEqDiff, Int.reduceEq, Int.reduceLT, Int.reduceLE, zM.r0, zM.r1, zM.r2, if_neg hk, yK hv]
 generalize hL : wQ (zI Try.prog O false zM.jh) _ _ = r at hr
 obtain ⟨e, T', rfl, g3⟩ := zM.round hv hk hlen l [] 0 hL rfl rfl rfl rfl rfl rfl rfl (by simp) (by simp)
 simp only [List.length_nil] at g3
 unfold Ji
 cases hsc : scan 0 0 l with
 | none =>
  rw [hsc] at g3
  obtain ⟨rfl, hT'⟩ := g3
  obtain ⟨x0, x1, x2, x3, x4, x5, x6, x7, x8, x9, x10, x11, x12, x13, x14, x15, x16, x17, x18, x19, x20, x21, x22, x23, x24, x25, x26, x27, x28, x29, x30, x31, x32, x33, x34, x35, x36, x37, x38, x39, x40, x41, x42, x43, x44, x45, hTe'⟩ := zM.list hT'
  conv at hr =>
   rhs
   rw [hTe']
   simp only [zSs, reduceIte, Nat.reduceEqDiff, Int.reduceEq, Int.reduceLT, Int.reduceLE, zM.r10]
  rw [hTe] at hr
  exact zM.runs hr (.inr rfl) rfl rfl rfl
 | some mr =>
  obtain ⟨m, rest⟩ := mr
  rw [hsc] at g3
  obtain ⟨rfl, hm, h2, h3, h4⟩ := g3
  conv at hr =>
   rhs
   simp only [zSs, reduceIte, Nat.reduceEqDiff, Int.reduceEq, Int.reduceLT, Int.reduceLE]
  rw [hTe] at hr
  have hrun := zM.runs hr (.inr rfl) (by rw [h2]; rfl) (by rw [h3]; exact zO) (by rw [h4]; rfl)
  rw [h2, h3, h4] at hrun
  exact hrun
theorem Wn : ∀ (suf : List UInt8) (i acc : Nat), acc < 128 ^ i → i ≤ 9 → ∀ m rest, scan i acc suf = some (m, rest) → m < 2 ^ 64 ∧ rest.length < suf.length := by
 intro suf
 induction suf with
 | nil => intro i acc _ _ m rest h; cases h
 | cons x suf ih =>
  intro i acc hacc hi m rest h
  rw [scan] at h
  have hx256 := x.toNat_lt
  split at h
  ·
   cases h
  ·
   rename_i hs
   split at h
   ·
    rename_i hx
    cases h
    refine ⟨?_, by simp⟩
    by_cases h9 : i = 9
    ·
     subst h9
     have : x.toNat ≤ 1 := by omega
     have h1 : x.toNat * 128 ^ 9 ≤ 1 * 128 ^ 9 := Nat.mul_le_mul_right _ this
     have h2 : (128 : Nat) ^ 9 + 1 * 128 ^ 9 = 2 ^ 64 := by decide
     omega
    ·
     have h8 : 128 ^ (i + 1) ≤ 128 ^ 9 := Nat.pow_le_pow_right (by omega) (by omega)
     have h3 : acc + x.toNat * 128 ^ i < 128 ^ (i + 1) := by
      rw [Nat.pow_succ]
      have : x.toNat * 128 ^ i ≤ 127 * 128 ^ i := Nat.mul_le_mul_right _ (by omega)
      omega
     exact Nat.lt_of_lt_of_le h3 (Nat.le_trans h8 (by decide))
   ·
    rename_i hx
    have h9 : i ≠ 9 := by omega
    have hadd : acc + (x.toNat - 128) * 128 ^ i < 128 ^ (i + 1) := by
     rw [Nat.pow_succ]
     have : (x.toNat - 128) * 128 ^ i ≤ 127 * 128 ^ i := Nat.mul_le_mul_right _ (by omega)
     omega
    obtain ⟨h1, h2⟩ := ih (i + 1) _ hadd (by omega) m rest h
    exact ⟨h1, by simp; omega⟩
end Go.Proofs.Ytblpnklfimkfoaa
namespace Go.Proofs.Ytblpnklfimkfoaa
open Go.Abs
theorem zn.goes (x0 x1 x2 x3 x4 x5 x6 x7 x8 x9 x10 x11 x12 x13 x14 x15 x16 x17 x18 x19 x20 x21 x22 x23 x24 x25 x26 x27 x28 x29 x30 x31 x32 x33 x34 x35 x36 x37 x38 x39 x40 x41 x42 x43 x44 x45 x46 x47 x48 x49 x50 x51 x52 x53 x54 x55 x56 x57 : Value) (i : Int) {S : zi} {k : Nat} {l : List UInt8} (hv : Okl k l) (hk : k ≠ 2) (h0 : x0 = by_ k l) (h7 : x7 = .int .i64 i) : ∃ y10 y11 y12 y13 y14 y15 y16, jl Try.prog ⟨false, false, false⟩ (jc Try.prog O) (reg Try.f49 4) (reg Try.f49 4).toList (x0 :: x1 :: x2 :: x3 :: x4 :: x5 :: x6 :: x7 :: x8 :: x9 :: x10 :: x11 :: x12 :: x13 :: x14 :: x15 :: x16 :: x17 :: x18 :: x19 :: x20 :: x21 :: x22 :: x23 :: x24 :: x25 :: x26 :: x27 :: x28 :: x29 :: x30 :: x31 :: x32 :: x33 :: x34 :: x35 :: x36 :: x37 :: x38 :: x39 :: x40 :: x41 :: x42 :: x43 :: x44 :: x45 :: x46 :: x47 :: x48 :: x49 :: x50 :: x51 :: x52 :: x53 :: x54 :: x55 :: x56 :: x57 :: []) S =
  some ((x0 :: x1 :: x2 :: x3 :: x4 :: x5 :: x6 :: x7 :: x8 :: x9 :: y10 :: y11 :: y12 :: y13 :: y14 :: y15 :: y16 :: .bool (decide (i < l.length ∧ i < 10)) :: x18 :: x19 :: x20 :: x21 :: x22 :: x23 :: x24 :: x25 :: x26 :: x27 :: x28 :: x29 :: x30 :: x31 :: x32 :: x33 :: x34 :: x35 :: x36 :: x37 :: x38 :: x39 :: x40 :: x41 :: x42 :: x43 :: x44 :: x45 :: x46 :: x47 :: x48 :: x49 :: x50 :: x51 :: x52 :: x53 :: x54 :: x55 :: x56 :: x57 :: []), S) := by
 subst h7 h0
 rw [zn.r4]
 simp only [zSs, reduceIte, Nat.reduceEqDiff, Int.reduceEq, Int.reduceLT, Int.reduceLE, if_neg hk, yK hv, goInt]
 rcases Bool.eq_false_or_eq_true (decide (i < (l.length : Int))) with d1 | d1 <;> rcases Bool.eq_false_or_eq_true (decide (i < 10)) with d2 | d2 <;>
  simp only [d1, d2, zSs, reduceIte, Nat.reduceEqDiff, Int.reduceEq, Int.reduceLT, Int.reduceLE] <;> simp only [decide_eq_true_eq, decide_eq_false_iff_not] at d1 d2 <;>
  simp only [d1, d2, and_true, and_false, true_and, false_and, decide_true, decide_false] <;> exact ⟨_, _, _, _, _, _, _, rfl⟩
theorem zn.nine {T : List Value} {S : zi} {i c : Int} (hT : T.length = 58) (h7 : T.getD 7 undef = .int .i64 i) (h8 : T.getD 8 undef = .int .u64 c) : ∃ T', jl Try.prog ⟨false, false, false⟩ (jc Try.prog O) (reg Try.f49 7) (reg Try.f49 7).toList T S = some (T', S) ∧
  T'.length = 58 ∧ T'.getD 31 undef = .bool (decide (i = 9 ∧ 1 < c)) ∧ ∀ j, j < 10 → T'.getD j undef = T.getD j undef := by
 obtain ⟨x0, x1, x2, x3, x4, x5, x6, x7, x8, x9, x10, x11, x12, x13, x14, x15, x16, x17, x18, x19, x20, x21, x22, x23, x24, x25, x26, x27, x28, x29, x30, x31, x32, x33, x34, x35, x36, x37, x38, x39, x40, x41, x42, x43, x44, x45, x46, x47, x48, x49, x50, x51, x52, x53, x54, x55, x56, x57, rfl⟩ := zn.list hT
 simp only [List.getD_cons_succ, List.getD_cons_zero] at h7 h8
 subst h7 h8
 rw [zn.r7]
 simp only [zSs, reduceIte, Nat.reduceEqDiff, Int.reduceEq, Int.reduceLT, Int.reduceLE]
 rcases Bool.eq_false_or_eq_true (decide (i = 9)) with d1 | d1 <;> rcases Bool.eq_false_or_eq_true (decide (1 < c)) with d2 | d2 <;>
  simp only [d1, d2, zSs, reduceIte, Nat.reduceEqDiff, Int.reduceEq, Int.reduceLT, Int.reduceLE] <;> simp only [decide_eq_true_eq, decide_eq_false_iff_not] at d1 d2 <;>
  simp only [d1, d2, and_true, and_false, true_and, false_and, decide_true, decide_false] <;> exact ⟨_, rfl, rfl, rfl, fun j hj => by (match j, hj with | 0, _ => rfl | 1, _ => rfl | 2, _ => rfl | 3, _ => rfl | 4, _ => rfl | 5, _ => rfl | 6, _ => rfl | 7, _ => rfl | 8, _ => rfl | 9, _ => rfl)⟩
theorem VA (k : Nat) : ∀ n, 128 ^ k ≤ n → n < 128 ^ (k + 1) → (enc n).length = k + 1 := by
 induction k with
 | zero => intro n _ h; rw [y7 (by omega)]; rfl
 | succ k ih =>
  intro n h1 h2
  have hn : ¬ n < 128 := by
   have : 128 ^ 1 ≤ 128 ^ (k + 1) := Nat.pow_le_pow_right (by omega) (by omega)
   omega
  rw [Zi hn, List.length_cons, ih (n / 128) (by rw [Nat.le_div_iff_mul_le (by omega)]; exact h1) (by rw [Nat.div_lt_iff_lt_mul (by omega)]; exact h2)]
theorem YU (n : Nat) : 0 < (enc n).length := by
 by_cases h : n < 128
 ·
  rw [y7 h]; simp
 ·
  rw [Zi h]; simp
section
variable {k : Nat} {l : List UInt8} {S : zi}
theorem zn.out (hv : Okl k l) (hk : k ≠ 2) {i : Nat} {T : List Value} {r : St} (hL : wQ (zI Try.prog O false zn.jh) T S = r) (hT : T.length = 58)
  (h0 : T.getD 0 undef = by_ k l) (h7 : T.getD 7 undef = .int .i64 i) (hi : l.length ≤ i ∨ 10 ≤ i) : ∃ T', r = some (.exit 0, T', S) ∧ T'.length = 58 := by
 obtain ⟨x0, x1, x2, x3, x4, x5, x6, x7, x8, x9, x10, x11, x12, x13, x14, x15, x16, x17, x18, x19, x20, x21, x22, x23, x24, x25, x26, x27, x28, x29, x30, x31, x32, x33, x34, x35, x36, x37, x38, x39, x40, x41, x42, x43, x44, x45, x46, x47, x48, x49, x50, x51, x52, x53, x54, x55, x56, x57, hTe⟩ := zn.list hT
 rw [hTe] at h0 h7
 simp only [List.getD_cons_succ, List.getD_cons_zero] at h0 h7
 have hr : zI Try.prog O false zn.jh T S = zI Try.prog O false zn.jh T S := rfl
 obtain ⟨y10, y11, y12, y13, y14, y15, y16, e1⟩ := zn.goes x0 x1 x2 x3 x4 x5 x6 x7 x8 x9 x10 x11 x12 x13 x14 x15 x16 x17 x18 x19 x20 x21 x22 x23 x24 x25 x26 x27 x28 x29 x30 x31 x32 x33 x34 x35 x36 x37 x38 x39 x40 x41 x42 x43 x44 x45 x46 x47 x48 x49 x50 x51 x52 x53 x54 x55 x56 x57 (i : Int) (S := S) hv hk h0 h7
 have hd : decide ((i : Int) < (l.length : Int) ∧ (i : Int) < 10) = false := by simp; omega
 rw [hd] at e1
 conv at hr =>
  rhs
  rw [hTe]
  simp only [zn.jh, zSs, reduceIte, Nat.reduceEqDiff, Int.reduceEq, Int.reduceLT, Int.reduceLE, e1]
 exact ⟨_, hL.symm.trans (jq hr (by simp)), rfl⟩
theorem zn.round (hv : Okl k l) (hk : k ≠ 2) (hlen : l.length ≤ 140737488355328) : ∀ (suf pre : List UInt8) (acc : Nat) {T : List Value} {r : St}, wQ (zI Try.prog O false zn.jh) T S = r → T.length = 58 →
  T.getD 0 undef = by_ k l → T.getD 7 undef = .int .i64 pre.length → T.getD 5 undef = .int .u64 acc → T.getD 6 undef = .int .u64 (128 ^ pre.length : Nat) → l = pre ++ suf → acc < 128 ^ pre.length → pre.length ≤ 9 →
  ∃ e T', r = some (e, T', S) ∧ match scan pre.length acc suf with
   | none => (e = .exit 0 ∧ T'.length = 58) ∨ (e = .ret ∧ T'.getD 2 undef = .int .u64 0 ∧ T'.getD 3 undef = .slice none 0 0 ∧ T'.getD 4 undef = .int .i64 11)
   | some (m, rest) => e = .ret ∧ T'.getD 2 undef = .int .u64 m ∧ T'.getD 3 undef = by_ 2 rest ∧ T'.getD 4 undef = .int .i64 0 := by
 intro suf
 induction suf with
 | nil =>
  intro pre acc T r hL hT h0 h7 h5 h6 hl hacc hpre
  obtain ⟨T', h1, h2⟩ := zn.out hv hk hL hT h0 h7 (by rw [hl]; simp)
  exact ⟨_, T', h1, .inl ⟨rfl, h2⟩⟩
 | cons x suf ih =>
  intro pre acc T r hL hT h0 h7 h5 h6 hl hacc hpre
  obtain ⟨x0, x1, x2, x3, x4, x5, x6, x7, x8, x9, x10, x11, x12, x13, x14, x15, x16, x17, x18, x19, x20, x21, x22, x23, x24, x25, x26, x27, x28, x29, x30, x31, x32, x33, x34, x35, x36, x37, x38, x39, x40, x41, x42, x43, x44, x45, x46, x47, x48, x49, x50, x51, x52, x53, x54, x55, x56, x57, hTe⟩ := zn.list hT
  rw [hTe] at h0 h7 h5 h6
  simp only [List.getD_cons_succ, List.getD_cons_zero] at h0 h7 h5 h6
  have hr : zI Try.prog O false zn.jh T S = zI Try.prog O false zn.jh T S := rfl
  have hlt : (pre.length : Int) < (l.length : Int) := by rw [hl]; simp; omega
  have k0 : k ≠ 0 := fun h => by have := hv.nil h; rw [this] at hl; simp at hl
  have e1 : ∀ S, jk Try.prog 26 (by_ k l) (.int .i64 pre.length) S = some (EP [.int .u8 x.toNat], S) := fun S => by
   rw [afI hv (by omega) hlt]; rw [acA hl]
  have hx256 := x.toNat_lt
  obtain ⟨y10, y11, y12, y13, y14, y15, y16, e3⟩ := zn.goes x0 x1 x2 x3 x4 x5 x6 x7 x8 x9 x10 x11 x12 x13 x14 x15 x16 x17 x18 x19 x20 x21 x22 x23 x24 x25 x26 x27 x28 x29 x30 x31 x32 x33 x34 x35 x36 x37 x38 x39 x40 x41 x42 x43 x44 x45 x46 x47 x48 x49 x50 x51 x52 x53 x54 x55 x56 x57 (pre.length : Int) (S := S) hv hk h0 h7
  have hd : decide ((pre.length : Int) < (l.length : Int) ∧ (pre.length : Int) < 10) = true := by rw [decide_eq_true_eq]; omega
  rw [hd, h7, h5, h6, h0] at e3
  have hlow : (x.toNat : Int).tmod 128 = ((x.toNat % 128 : Nat) : Int) := aaG _
  conv at hr =>
   rhs
   rw [hTe]
   simp only [zn.jh, zSs, reduceIte, Nat.reduceEqDiff, Int.reduceEq, Int.reduceLT, Int.reduceLE, h7, h5, h6, h0, e3, zn.r6, if_neg hk, e1, KD, XW _ _ _ (show (128 : Int) ≠ 0 by omega), hlow, xU, yD (show x.toNat % 128 < 2 ^ 64 by omega)]
  generalize hT2 : (_ :: _ : List Value) = T2 at hr
  have t0 : T2.length = 58 := by rw [← hT2]; rfl
  have t1 : T2.getD 0 undef = by_ k l := by rw [← hT2]; rfl
  have t2 : T2.getD 5 undef = .int .u64 acc := by rw [← hT2]; rfl
  have t3 : T2.getD 6 undef = .int .u64 (128 ^ pre.length : Nat) := by rw [← hT2]; rfl
  have t4 : T2.getD 7 undef = .int .i64 pre.length := by rw [← hT2]; rfl
  have t5 : T2.getD 8 undef = .int .u64 (x.toNat % 128 : Nat) := by rw [← hT2]; rfl
  obtain ⟨T3, e4, f0, f1, f2⟩ := zn.nine (S := S) t0 t4 t5
  rw [← f2 _ (by omega)] at t1 t2 t3 t4 t5
  conv at hr =>
   rhs
   simp only [e4, zSs, reduceIte, Nat.reduceEqDiff, Int.reduceEq, Int.reduceLT, Int.reduceLE, f1]
  clear hT2 e4 f1 f2 e3 hTe h7 h5 h6 h0
  obtain ⟨z0, z1, z2, z3, z4, z5, z6, z7, z8, z9, z10, z11, z12, z13, z14, z15, z16, z17, z18, z19, z20, z21, z22, z23, z24, z25, z26, z27, z28, z29, z30, z31, z32, z33, z34, z35, z36, z37, z38, z39, z40, z41, z42, z43, z44, z45, z46, z47, z48, z49, z50, z51, z52, z53, z54, z55, z56, z57, hTe⟩ := zn.list f0
  rw [hTe] at t1 t2 t3 t4 t5
  simp only [List.getD_cons_succ, List.getD_cons_zero] at t1 t2 t3 t4 t5
  subst t1
  by_cases hs1 : pre.length = 9 ∧ 1 < x.toNat % 128
  ·
   have hd1 : decide ((pre.length : Int) = 9 ∧ 1 < ((x.toNat % 128 : Nat) : Int)) = true := by rw [decide_eq_true_eq]; omega
   conv at hr =>
    rhs
    rw [hTe]
    simp only [hd1, zSs, reduceIte, Nat.reduceEqDiff, Int.reduceEq, Int.reduceLT, Int.reduceLE, zn.r8]
   refine ⟨_, _, hL.symm.trans (jq hr (by simp)), ?_⟩
   rw [scan, if_pos (.inl ⟨hs1.1, by omega⟩)]
   exact .inr ⟨rfl, rfl, rfl, rfl⟩
  ·
   have hd1 : decide ((pre.length : Int) = 9 ∧ 1 < ((x.toNat % 128 : Nat) : Int)) = false := by rw [decide_eq_false_iff_not]; omega
   have hpw : 128 ^ pre.length ≤ 128 ^ 9 := Nat.pow_le_pow_right (by omega) hpre
   have hc64 : x.toNat % 128 * 128 ^ pre.length < 2 ^ 64 := by
    by_cases h9 : pre.length = 9
    ·
     rw [h9]; have : x.toNat % 128 ≤ 1 := by omega
     exact Nat.lt_of_le_of_lt (Nat.mul_le_mul_right _ this) (by decide)
    ·
     have h8 : 128 ^ pre.length ≤ 128 ^ 8 := Nat.pow_le_pow_right (by omega) (by omega)
     exact Nat.lt_of_le_of_lt (Nat.mul_le_mul (by omega : x.toNat % 128 ≤ 127) h8) (by decide)
   have ha64 : acc + x.toNat % 128 * 128 ^ pre.length < 2 ^ 64 := by
    by_cases h9 : pre.length = 9
    ·
     rw [h9] at hacc ⊢
     have : x.toNat % 128 ≤ 1 := by omega
     have h1 : x.toNat % 128 * 128 ^ 9 ≤ 1 * 128 ^ 9 := Nat.mul_le_mul_right _ this
     have h2 : (128 : Nat) ^ 9 + 1 * 128 ^ 9 = 2 ^ 64 := by decide
     omega
    ·
     have h8 : 128 ^ (pre.length + 1) ≤ 128 ^ 9 := Nat.pow_le_pow_right (by omega) (by omega)
     have h3 : acc + x.toNat % 128 * 128 ^ pre.length < 128 ^ (pre.length + 1) := by
      rw [Nat.pow_succ]
      have : x.toNat % 128 * 128 ^ pre.length ≤ 127 * 128 ^ pre.length := Nat.mul_le_mul_right _ (by omega)
      omega
     exact Nat.lt_of_lt_of_le h3 (Nat.le_trans h8 (by decide))
   have w1 : IntKind.u64.wrap (((x.toNat % 128 : Nat) : Int) * ((128 ^ pre.length : Nat) : Int)) = ((x.toNat % 128 * 128 ^ pre.length : Nat) : Int) := by
    rw [← Int.natCast_mul, yD hc64]
   have w2 : IntKind.u64.wrap ((acc : Int) + ((x.toNat % 128 * 128 ^ pre.length : Nat) : Int)) = ((acc + x.toNat % 128 * 128 ^ pre.length : Nat) : Int) := by
    rw [← Int.natCast_add, yD ha64]
   conv at hr =>
    rhs
    rw [hTe]
    simp only [hd1, zSs, reduceIte, Nat.reduceEqDiff, Int.reduceEq, Int.reduceLT, Int.reduceLE, zn.r9, zn.r10, zn.r11, t2, t3, t4, t5, w1, w2, if_neg hk, e1, KD]
   have hi1 : IntKind.i64.wrap ((pre.length : Int) + 1) = (pre.length : Int) + 1 := wrap_i64 (by omega) (by omega)
   by_cases hxs : x.toNat < 128
   ·
    have hxm : x.toNat % 128 = x.toNat := by omega
    rw [hxm] at hr ha64
    have hd2 : decide ((x.toNat : Int) < 128) = true := by rw [decide_eq_true_eq]; omega
    conv at hr =>
     rhs
     simp only [hd2, zSs, reduceIte, Nat.reduceEqDiff, Int.reduceEq, Int.reduceLT, Int.reduceLE, zn.r12, zH.v _ ha64, zn.r13, yK (Okl.read), goInt, hi1]
    by_cases hz : 0 < pre.length ∧ x.toNat = 0
    ·
     have hlen2 : (enc (acc + x.toNat * 128 ^ pre.length)).length ≤ pre.length := by
      obtain ⟨q, hq⟩ : ∃ q, pre.length = q + 1 := ⟨pre.length - 1, by omega⟩
      rw [hz.2, Nat.zero_mul, Nat.add_zero, hq]
      exact acs q acc (by rw [← hq]; exact hacc)
     have hd3 : decide ((((enc (acc + x.toNat * 128 ^ pre.length)).length : Nat) : Int) = (pre.length : Int) + 1) = false := by rw [decide_eq_false_iff_not]; omega
     conv at hr =>
      rhs
      simp only [hd3, zSs, reduceIte, Nat.reduceEqDiff, Int.reduceEq, Int.reduceLT, Int.reduceLE, zn.r14]
     refine ⟨_, _, hL.symm.trans (jq hr (by simp)), ?_⟩
     rw [scan, if_pos (.inr hz)]
     exact .inr ⟨rfl, rfl, rfl, rfl⟩
    ·
     have hlen2 : (enc (acc + x.toNat * 128 ^ pre.length)).length = pre.length + 1 := by
      by_cases hp0 : pre.length = 0
      ·
       rw [hp0] at hacc ⊢
       rw [y7 (by omega)]; rfl
      ·
       refine VA _ _ ?_ ?_
       ·
        have : 1 * 128 ^ pre.length ≤ x.toNat * 128 ^ pre.length := Nat.mul_le_mul_right _ (by omega)
        omega
       ·
        rw [Nat.pow_succ]
        have : x.toNat * 128 ^ pre.length ≤ 127 * 128 ^ pre.length := Nat.mul_le_mul_right _ (by omega)
        omega
     have hd3 : decide ((((enc (acc + x.toNat * 128 ^ pre.length)).length : Nat) : Int) = (pre.length : Int) + 1) = true := by rw [decide_eq_true_eq]; omega
     have e4 : ∀ S, yT Try.prog 26 (by_ k l) (some (.int .i64 ((pre.length : Int) + 1))) none S = some (by_ k suf, S) := fun S => by
      rw [kJ hv (lo := some (.int .i64 ((pre.length : Int) + 1))) (hi := none) (i := (pre.length : Int) + 1) (j := l.length) rfl rfl (by omega) (by omega) (by omega), X6 hl, if_neg hk]
     have ok2 : Okl k suf := ⟨hv.le, fun h => absurd h k0⟩
     have e5 : ∀ S, jB Try.prog 26 26 (by_ 2 []) (by_ k suf) S = some (by_ 2 suf, S) := fun S => by
      rw [yN Okl.own (by decide) ok2 (by have := congrArg List.length hl; simp at this; simp; omega)]; rfl
     conv at hr =>
      rhs
      simp only [hd3, zSs, reduceIte, Nat.reduceEqDiff, Int.reduceEq, Int.reduceLT, Int.reduceLE, zn.r15, yS, abh, hi1, if_neg hk, e4, e5]
     refine ⟨_, _, hL.symm.trans (jq hr (by simp)), ?_⟩
     rw [scan, if_neg (by rintro (h | h); exact absurd ⟨h.1, by omega⟩ hs1; exact hz h), if_pos hxs]
     exact ⟨rfl, rfl, rfl, rfl⟩
   ·
    have hd2 : decide ((x.toNat : Int) < 128) = false := by rw [decide_eq_false_iff_not]; omega
    conv at hr =>
     rhs
     simp only [hd2, zSs, reduceIte, Nat.reduceEqDiff, Int.reduceEq, Int.reduceLT, Int.reduceLE, zn.r5, hi1]
    obtain ⟨T1, hr, q0, q1, q2, q3, q4⟩ : ∃ T1, zI Try.prog O false zn.jh T S = some (.normal, T1, S) ∧ T1.length = 58 ∧ T1.getD 0 undef = by_ k l ∧ T1.getD 7 undef = .int .i64 ((pre.length : Int) + 1) ∧
     T1.getD 5 undef = .int .u64 ((acc + x.toNat % 128 * 128 ^ pre.length : Nat) : Int) ∧ T1.getD 6 undef = .int .u64 (IntKind.u64.wrap (((128 ^ pre.length : Nat) : Int) * 128)) := ⟨_, hr, rfl, rfl, rfl, rfl, rfl⟩
    by_cases hp9 : pre.length = 9
    ·
     obtain ⟨T', h1, h2⟩ := zn.out hv hk ((jY hr).symm.trans hL) q0 q1 (i := pre.length + 1) q2 (.inr (by omega))
     refine ⟨_, T', h1, ?_⟩
     rw [scan, if_pos (.inl ⟨hp9, by omega⟩)]
     exact .inl ⟨rfl, h2⟩
    ·
     have hpl : IntKind.u64.wrap (((128 ^ pre.length : Nat) : Int) * 128) = ((128 ^ (pre.length + 1) : Nat) : Int) := by
      have h8 : 128 ^ (pre.length + 1) ≤ 128 ^ 9 := Nat.pow_le_pow_right (by omega) (by omega)
      rw [show ((128 ^ pre.length : Nat) : Int) * 128 = ((128 ^ (pre.length + 1) : Nat) : Int) by rw [Nat.pow_succ, Int.natCast_mul]; rfl]
      exact yD (Nat.lt_of_le_of_lt h8 (by decide))
     rw [hpl] at q4
     have hadd : acc + x.toNat % 128 * 128 ^ pre.length < 128 ^ (pre.length + 1) := by
      rw [Nat.pow_succ]
      have : x.toNat % 128 * 128 ^ pre.length ≤ 127 * 128 ^ pre.length := Nat.mul_le_mul_right _ (by omega)
      omega
     have hpl2 : (pre ++ [x]).length = pre.length + 1 := by simp
     obtain ⟨e, T', g1, g3⟩ := ih (pre ++ [x]) (acc + x.toNat % 128 * 128 ^ pre.length) ((jY hr).symm.trans hL) q0 q1 (by rw [hpl2]; exact q2) q3 (by rw [hpl2]; exact q4) (by simp [hl]) (by rw [hpl2]; exact hadd) (by rw [hpl2]; omega)
     refine ⟨e, T', g1, ?_⟩
     rw [scan, if_neg (by omega), if_neg hxs]
     have hxm : x.toNat % 128 = x.toNat - 128 := by omega
     rw [hxm, hpl2] at g3
     exact g3
theorem zn.v (hv : Okl k l) (hk : k ≠ 2) (hlen : l.length ≤ 140737488355328) (S : zi) : jc Try.prog O zn.id [by_ k l] S = some (Ji l, S) := by
 obtain ⟨T, hTe⟩ : ∃ T, T = (by_ k l :: undef :: undef :: undef :: undef :: undef :: undef :: undef :: undef :: undef :: undef :: undef :: undef :: undef :: undef :: undef :: undef :: undef :: undef :: undef :: undef :: undef :: undef :: undef :: undef :: undef :: undef :: undef :: undef :: undef :: undef :: undef :: undef :: undef :: undef :: undef :: undef :: undef :: undef :: undef :: undef :: undef :: undef :: undef :: undef :: undef :: undef :: undef :: undef :: undef :: undef :: undef :: undef :: undef :: undef :: undef :: undef :: undef :: []) := ⟨_, rfl⟩
 have hr : zI Try.prog O false zn.code T S = zI Try.prog O false zn.code T S := rfl
 conv at hr =>
  rhs
  rw [hTe]
  simp only [zn.code, zSs, reduceIte, Nat.reduceEqDiff, Int.reduceEq, Int.reduceLT, Int.reduceLE, zn.r0, zn.r1, zn.r2, zn.r3]
 generalize hL : wQ (zI Try.prog O false zn.jh) _ _ = r at hr
 obtain ⟨e, T', rfl, g3⟩ := zn.round hv hk hlen l [] 0 hL rfl rfl rfl rfl rfl rfl (by simp) (by simp)
 simp only [List.length_nil] at g3
 unfold Ji
 cases hsc : scan 0 0 l with
 | none =>
  rw [hsc] at g3
  rcases g3 with ⟨rfl, hT'⟩ | ⟨rfl, h2, h3, h4⟩
  ·
   obtain ⟨x0, x1, x2, x3, x4, x5, x6, x7, x8, x9, x10, x11, x12, x13, x14, x15, x16, x17, x18, x19, x20, x21, x22, x23, x24, x25, x26, x27, x28, x29, x30, x31, x32, x33, x34, x35, x36, x37, x38, x39, x40, x41, x42, x43, x44, x45, x46, x47, x48, x49, x50, x51, x52, x53, x54, x55, x56, x57, hTe'⟩ := zn.list hT'
   conv at hr =>
    rhs
    rw [hTe']
    simp only [zSs, reduceIte, Nat.reduceEqDiff, Int.reduceEq, Int.reduceLT, Int.reduceLE, zn.r16]
   rw [hTe] at hr
   exact zn.runs hr (.inr rfl) rfl rfl rfl
  ·
   conv at hr =>
    rhs
    simp only [zSs, reduceIte, Nat.reduceEqDiff, Int.reduceEq, Int.reduceLT, Int.reduceLE]
   rw [hTe] at hr
   have hrun := zn.runs hr (.inr rfl) (by rw [h2]; rfl) (by rw [h3]; rfl) (by rw [h4]; rfl)
   rw [h2, h3, h4] at hrun
   exact hrun
 | some mr =>
  obtain ⟨m, rest⟩ := mr
  rw [hsc] at g3
  obtain ⟨rfl, h2, h3, h4⟩ := g3
  conv at hr =>
   rhs
   simp only [zSs, reduceIte, Nat.reduceEqDiff, Int.reduceEq, Int.reduceLT, Int.reduceLE]
  rw [hTe] at hr
  have hrun := zn.runs hr (.inr rfl) (by rw [h2]; rfl) (by rw [h3]; exact zO) (by rw [h4]; rfl)
  rw [h2, h3, h4] at hrun
  exact hrun
end
end Go.Proofs.Ytblpnklfimkfoaa
namespace Go.Proofs.Ytblpnklfimkfoaa
open Go.Abs
def J8 (l : List UInt8) : List UInt8 := enc l.length ++ l
def Kq (l : List UInt8) : Value := if 4096 < l.length then .tuple #[.slice none 0 0, .int .i64 11] else .tuple #[by_ 2 (J8 l), .int .i64 0]
def kN (l : List UInt8) : Option (List UInt8 × List UInt8) :=
 match scan 0 0 l with
 | some (m, rest) => if m ≤ 4096 ∧ m ≤ rest.length then some (rest.take m, rest.drop m) else none
 | none => none
def Jg (k : Nat) (l : List UInt8) : Value :=
 match kN l with
 | some (a, b) => .tuple #[by_ k a, by_ k b, .int .i64 0]
 | none => .tuple #[.slice none 0 0, .slice none 0 0, .int .i64 11]
section
variable {k : Nat} {l : List UInt8}
theorem jG.v (hv : Okl k l) (hk : k ≠ 2) (S : zi) : jc Try.prog O jG.id [by_ k l] S = some (Kq l, S) := by
 obtain ⟨T, hTe⟩ : ∃ T, T = (by_ k l :: undef :: undef :: undef :: undef :: undef :: undef :: undef :: undef :: undef :: undef :: undef :: undef :: []) := ⟨_, rfl⟩
 have hr : zI Try.prog O false jG.code T S = zI Try.prog O false jG.code T S := rfl
 conv at hr =>
  rhs
  rw [hTe]
  simp only [jG.code, zSs, reduceIte, Nat.reduceEqDiff, Int.reduceEq, Int.reduceLT, Int.reduceLE, jG.r0, jG.r1, if_neg hk, yK hv, goInt]
 unfold Kq
 by_cases hl : 4096 < l.length
 ·
  have hd : decide ((4096 : Int) < (l.length : Int)) = true := by rw [decide_eq_true_eq]; omega
  conv at hr =>
   rhs
   simp only [hd, zSs, reduceIte, Nat.reduceEqDiff, Int.reduceEq, Int.reduceLT, Int.reduceLE, jG.r2]
  rw [hTe] at hr
  rw [if_pos hl]
  exact jG.runs hr (.inr rfl) (by simp only [List.getD_cons_succ, List.getD_cons_zero, zO, zJ, zD, zG, zK]) (by simp only [List.getD_cons_succ, List.getD_cons_zero, zO, zJ, zD, zG, zK])
 ·
  have hd : decide ((4096 : Int) < (l.length : Int)) = false := by rw [decide_eq_false_iff_not]; omega
  have h10 := kE (n := l.length) (by omega)
  have hp := YU l.length
  have e1 : ∀ S, jB Try.prog 26 26 (by_ 2 (enc l.length)) (by_ k l) S = some (by_ 2 (J8 l), S) := fun S => by
   rw [yN Okl.own (by decide) hv (by omega)]; rfl
  conv at hr =>
   rhs
   simp only [hd, zSs, reduceIte, Nat.reduceEqDiff, Int.reduceEq, Int.reduceLT, Int.reduceLE, jG.r3, if_neg hk, yK hv, goInt, yJ, yD (show l.length < 2 ^ 64 by omega), jr.v _ (show l.length < 2 ^ 64 by omega), e1]
  rw [hTe] at hr
  rw [if_neg hl]
  exact jG.runs hr (.inr rfl) (by simp only [List.getD_cons_succ, List.getD_cons_zero, zO, zJ, zD, zG, zK]) (by simp only [List.getD_cons_succ, List.getD_cons_zero, zO, zJ, zD, zG, zK])
theorem zY.v (hv : Okl k l) (hk : k ≠ 2) (S : zi) : jc Try.prog O zY.id [by_ k l] S = some (Kq l, S) := by
 obtain ⟨T, hTe⟩ : ∃ T, T = (by_ k l :: undef :: undef :: undef :: undef :: undef :: undef :: undef :: undef :: undef :: undef :: undef :: undef :: []) := ⟨_, rfl⟩
 have hr : zI Try.prog O false zY.code T S = zI Try.prog O false zY.code T S := rfl
 conv at hr =>
  rhs
  rw [hTe]
  simp only [zY.code, zSs, reduceIte, Nat.reduceEqDiff, Int.reduceEq, Int.reduceLT, Int.reduceLE, zY.r0, zY.r1, if_neg hk, yK hv, goInt]
 unfold Kq
 by_cases hl : 4096 < l.length
 ·
  have hd : decide ((4096 : Int) < (l.length : Int)) = true := by rw [decide_eq_true_eq]; omega
  conv at hr =>
   rhs
   simp only [hd, zSs, reduceIte, Nat.reduceEqDiff, Int.reduceEq, Int.reduceLT, Int.reduceLE, zY.r2]
  rw [hTe] at hr
  rw [if_pos hl]
  exact zY.runs hr (.inr rfl) (by simp only [List.getD_cons_succ, List.getD_cons_zero, zO, zJ, zD, zG, zK]) (by simp only [List.getD_cons_succ, List.getD_cons_zero, zO, zJ, zD, zG, zK])
 ·
  have hd : decide ((4096 : Int) < (l.length : Int)) = false := by rw [decide_eq_false_iff_not]; omega
  have h10 := kE (n := l.length) (by omega)
  have e1 : ∀ S, jB Try.prog 26 26 (by_ 2 (enc l.length)) (by_ k l) S = some (by_ 2 (J8 l), S) := fun S => by
   rw [yN Okl.own (by decide) hv (by omega)]; rfl
  conv at hr =>
   rhs
   simp only [hd, zSs, reduceIte, Nat.reduceEqDiff, Int.reduceEq, Int.reduceLT, Int.reduceLE, zY.r3, if_neg hk, yK hv, goInt, yJ, yD (show l.length < 2 ^ 64 by omega), zH.v _ (show l.length < 2 ^ 64 by omega), e1]
  rw [hTe] at hr
  rw [if_neg hl]
  exact zY.runs hr (.inr rfl) (by simp only [List.getD_cons_succ, List.getD_cons_zero, zO, zJ, zD, zG, zK]) (by simp only [List.getD_cons_succ, List.getD_cons_zero, zO, zJ, zD, zG, zK])
theorem zX.v (hv : Okl k l) (hk : k ≠ 2) (hlen : l.length ≤ 140737488355328) (S : zi) : jc Try.prog O zX.id [by_ k l] S = some (Jg 2 l, S) := by
 obtain ⟨T, hTe⟩ : ∃ T, T = (by_ k l :: undef :: undef :: undef :: undef :: undef :: undef :: undef :: undef :: undef :: undef :: undef :: undef :: undef :: undef :: undef :: undef :: undef :: undef :: undef :: undef :: undef :: undef :: undef :: undef :: undef :: undef :: undef :: undef :: undef :: undef :: undef :: undef :: undef :: undef :: []) := ⟨_, rfl⟩
 have hr : zI Try.prog O false zX.code T S = zI Try.prog O false zX.code T S := rfl
 have e1 : ∀ S, jc Try.prog O 42 [by_ k l] S = some (Ji l, S) := zM.v hv hk hlen
 conv at hr =>
  rhs
  rw [hTe]
  simp only [zX.code, zSs, reduceIte, Nat.reduceEqDiff, Int.reduceEq, Int.reduceLT, Int.reduceLE, zX.r0, zX.r1, if_neg hk, e1]
 unfold Jg kN
 unfold Ji at hr
 cases hsc : scan 0 0 l with
 | none =>
  rw [hsc] at hr
  have d1 : decide ((11 : Int) = 0) = false := by decide
  conv at hr =>
   rhs
   simp only [zSs, reduceIte, Nat.reduceEqDiff, Int.reduceEq, Int.reduceLT, Int.reduceLE, zX.r2, d1, zX.r3]
  rw [hTe] at hr
  exact zX.runs hr (.inr rfl) (by simp only [List.getD_cons_succ, List.getD_cons_zero, zO, zJ, zD, zG, zK]) (by simp only [List.getD_cons_succ, List.getD_cons_zero, zO, zJ, zD, zG, zK]) (by simp only [List.getD_cons_succ, List.getD_cons_zero, zO, zJ, zD, zG, zK])
 | some mr =>
  obtain ⟨m, rest⟩ := mr
  obtain ⟨hm, hrl⟩ := Wn l 0 0 (by decide) (by omega) m rest hsc
  rw [hsc] at hr
  have d1 : decide ((0 : Int) = 0) = true := by decide
  dsimp only
  by_cases h1 : m ≤ 4096
  ·
   have d2 : decide ((4096 : Int) < (m : Int)) = false := by rw [decide_eq_false_iff_not]; omega
   by_cases h2 : m ≤ rest.length
   ·
    have d3 : decide ((rest.length : Int) < (m : Int)) = false := by rw [decide_eq_false_iff_not]; omega
    have s1 : ∀ S, yT Try.prog 26 (by_ 1 rest) none (some (.int .u64 m)) S = some (by_ 1 (rest.take m), S) := fun S => by
     rw [kJ Okl.read (lo := none) (hi := some (.int .u64 m)) (i := 0) (j := m) rfl rfl (by omega) (by omega) (by omega)]; simp
    have s2 : ∀ S, yT Try.prog 26 (by_ 1 rest) (some (.int .u64 m)) none S = some (by_ 1 (rest.drop m), S) := fun S => by
     rw [kJ Okl.read (lo := some (.int .u64 m)) (hi := none) (i := m) (j := rest.length) rfl rfl (by omega) (by omega) (by omega)]
     simp only [Int.toNat_natCast]
     rw [List.take_of_length_le (by simp)]; rfl
    have c1 : ∀ S, jc Try.prog O 43 [by_ 1 (rest.take m)] S = some (by_ 2 (rest.take m), S) := fun S => slices_Clone.v Okl.read (by decide) (by simp; omega) S
    have c2 : ∀ S, jc Try.prog O 43 [by_ 1 (rest.drop m)] S = some (by_ 2 (rest.drop m), S) := fun S => slices_Clone.v Okl.read (by decide) (by simp; omega) S
    conv at hr =>
     rhs
     simp only [zSs, reduceIte, Nat.reduceEqDiff, Int.reduceEq, Int.reduceLT, Int.reduceLE, zX.r2, d1, d2, yK (Okl.read), goInt, yJ, yD (show rest.length < 2 ^ 64 by omega), d3, zX.r4, s1, s2, c1, c2]
    rw [hTe] at hr
    rw [if_pos ⟨h1, h2⟩]
    exact zX.runs hr (.inr rfl) (by simp only [List.getD_cons_succ, List.getD_cons_zero, zO, zJ, zD, zG, zK]) (by simp only [List.getD_cons_succ, List.getD_cons_zero, zO, zJ, zD, zG, zK]) (by simp only [List.getD_cons_succ, List.getD_cons_zero, zO, zJ, zD, zG, zK])
   ·
    have d3 : decide ((rest.length : Int) < (m : Int)) = true := by rw [decide_eq_true_eq]; omega
    conv at hr =>
     rhs
     simp only [zSs, reduceIte, Nat.reduceEqDiff, Int.reduceEq, Int.reduceLT, Int.reduceLE, zX.r2, d1, d2, yK (Okl.read), goInt, yJ, yD (show rest.length < 2 ^ 64 by omega), d3, zX.r3]
    rw [hTe] at hr
    rw [if_neg (fun h => h2 h.2)]
    exact zX.runs hr (.inr rfl) (by simp only [List.getD_cons_succ, List.getD_cons_zero, zO, zJ, zD, zG, zK]) (by simp only [List.getD_cons_succ, List.getD_cons_zero, zO, zJ, zD, zG, zK]) (by simp only [List.getD_cons_succ, List.getD_cons_zero, zO, zJ, zD, zG, zK])
  ·
   have d2 : decide ((4096 : Int) < (m : Int)) = true := by rw [decide_eq_true_eq]; omega
   conv at hr =>
    rhs
    simp only [zSs, reduceIte, Nat.reduceEqDiff, Int.reduceEq, Int.reduceLT, Int.reduceLE, zX.r2, d1, d2, zX.r3]
   rw [hTe] at hr
   rw [if_neg (fun h => h1 h.1)]
   exact zX.runs hr (.inr rfl) (by simp only [List.getD_cons_succ, List.getD_cons_zero, zO, zJ, zD, zG, zK]) (by simp only [List.getD_cons_succ, List.getD_cons_zero, zO, zJ, zD, zG, zK]) (by simp only [List.getD_cons_succ, List.getD_cons_zero, zO, zJ, zD, zG, zK])
theorem zy.v (hv : Okl k l) (hk : k ≠ 2) (hlen : l.length ≤ 140737488355328) (S : zi) : jc Try.prog O zy.id [by_ k l] S = some (Jg 1 l, S) := by
 obtain ⟨T, hTe⟩ : ∃ T, T = (by_ k l :: undef :: undef :: undef :: undef :: undef :: undef :: undef :: undef :: undef :: undef :: undef :: undef :: undef :: undef :: undef :: undef :: undef :: undef :: undef :: undef :: undef :: undef :: undef :: undef :: undef :: undef :: undef :: undef :: undef :: undef :: undef :: undef :: []) := ⟨_, rfl⟩
 have hr : zI Try.prog O false zy.code T S = zI Try.prog O false zy.code T S := rfl
 have e1 : ∀ S, jc Try.prog O 49 [by_ k l] S = some (Ji l, S) := zn.v hv hk hlen
 conv at hr =>
  rhs
  rw [hTe]
  simp only [zy.code, zSs, reduceIte, Nat.reduceEqDiff, Int.reduceEq, Int.reduceLT, Int.reduceLE, zy.r0, zy.r1, if_neg hk, e1]
 unfold Jg kN
 unfold Ji at hr
 cases hsc : scan 0 0 l with
 | none =>
  rw [hsc] at hr
  have d1 : decide ((11 : Int) = 0) = false := by decide
  conv at hr =>
   rhs
   simp only [zSs, reduceIte, Nat.reduceEqDiff, Int.reduceEq, Int.reduceLT, Int.reduceLE, zy.r2, d1, zy.r3]
  rw [hTe] at hr
  exact zy.runs hr (.inr rfl) (by simp only [List.getD_cons_succ, List.getD_cons_zero, zO, zJ, zD, zG, zK]) (by simp only [List.getD_cons_succ, List.getD_cons_zero, zO, zJ, zD, zG, zK]) (by simp only [List.getD_cons_succ, List.getD_cons_zero, zO, zJ, zD, zG, zK])
 | some mr =>
  obtain ⟨m, rest⟩ := mr
  obtain ⟨hm, hrl⟩ := Wn l 0 0 (by decide) (by omega) m rest hsc
  rw [hsc] at hr
  have d1 : decide ((0 : Int) = 0) = true := by decide
  dsimp only
  by_cases h1 : m ≤ 4096
  ·
   have d2 : decide ((4096 : Int) < (m : Int)) = false := by rw [decide_eq_false_iff_not]; omega
   have hmi : IntKind.i64.wrap (m : Int) = (m : Int) := wrap_i64 (by omega) (by omega)
   by_cases h2 : m ≤ rest.length
   ·
    have d3 : decide ((rest.length : Int) < (m : Int)) = false := by rw [decide_eq_false_iff_not]; omega
    have s1 : ∀ S, yT Try.prog 26 (by_ 1 rest) none (some (.int .u64 m)) S = some (by_ 1 (rest.take m), S) := fun S => by
     rw [kJ Okl.read (lo := none) (hi := some (.int .u64 m)) (i := 0) (j := m) rfl rfl (by omega) (by omega) (by omega)]; simp
    have s2 : ∀ S, yT Try.prog 26 (by_ 1 rest) (some (.int .u64 m)) none S = some (by_ 1 (rest.drop m), S) := fun S => by
     rw [kJ Okl.read (lo := some (.int .u64 m)) (hi := none) (i := m) (j := rest.length) rfl rfl (by omega) (by omega) (by omega)]
     simp only [Int.toNat_natCast]
     rw [List.take_of_length_le (by simp)]; rfl
    conv at hr =>
     rhs
     simp only [zSs, reduceIte, Nat.reduceEqDiff, Int.reduceEq, Int.reduceLT, Int.reduceLE, zy.r2, d1, d2, yK (Okl.read), goInt, qV, hmi, d3, zy.r4, s1, s2]
    rw [hTe] at hr
    rw [if_pos ⟨h1, h2⟩]
    exact zy.runs hr (.inr rfl) (by simp only [List.getD_cons_succ, List.getD_cons_zero, zO, zJ, zD, zG, zK]) (by simp only [List.getD_cons_succ, List.getD_cons_zero, zO, zJ, zD, zG, zK]) (by simp only [List.getD_cons_succ, List.getD_cons_zero, zO, zJ, zD, zG, zK])
   ·
    have d3 : decide ((rest.length : Int) < (m : Int)) = true := by rw [decide_eq_true_eq]; omega
    conv at hr =>
     rhs
     simp only [zSs, reduceIte, Nat.reduceEqDiff, Int.reduceEq, Int.reduceLT, Int.reduceLE, zy.r2, d1, d2, yK (Okl.read), goInt, qV, hmi, d3, zy.r3]
    rw [hTe] at hr
    rw [if_neg (fun h => h2 h.2)]
    exact zy.runs hr (.inr rfl) (by simp only [List.getD_cons_succ, List.getD_cons_zero, zO, zJ, zD, zG, zK]) (by simp only [List.getD_cons_succ, List.getD_cons_zero, zO, zJ, zD, zG, zK]) (by simp only [List.getD_cons_succ, List.getD_cons_zero, zO, zJ, zD, zG, zK])
  ·
   have d2 : decide ((4096 : Int) < (m : Int)) = true := by rw [decide_eq_true_eq]; omega
   conv at hr =>
    rhs
    simp only [zSs, reduceIte, Nat.reduceEqDiff, Int.reduceEq, Int.reduceLT, Int.reduceLE, zy.r2, d1, d2, zy.r3]
   rw [hTe] at hr
   rw [if_neg (fun h => h1 h.1)]
   exact zy.runs hr (.inr rfl) (by simp only [List.getD_cons_succ, List.getD_cons_zero, zO, zJ, zD, zG, zK]) (by simp only [List.getD_cons_succ, List.getD_cons_zero, zO, zJ, zD, zG, zK]) (by simp only [List.getD_cons_succ, List.getD_cons_zero, zO, zJ, zD, zG, zK])
end
end Go.Proofs.Ytblpnklfimkfoaa
namespace Go.Proofs.Ytblpnklfimkfoaa
open Go.Abs
theorem Wq {n : Nat} (h : n < 256) : (UInt8.ofNat n).toNat = n := by rw [UInt8.toNat_ofNat']; omega
theorem KZ : ∀ (n i acc : Nat) (r : List UInt8), i ≤ 9 → (0 < i → 0 < n) → n * 128 ^ i < 2 ^ 64 → scan i acc (enc n ++ r) = some (acc + n * 128 ^ i, r) := by
 intro n
 induction n using Nat.strongRecOn with
 | _ n ih =>
  intro i acc r hi hn hlt
  have h9 : i = 9 → n ≤ 1 := by
   intro h; subst h
   have : (128 : Nat) ^ 9 = 2 ^ 63 := by decide
   omega
  by_cases hs : n < 128
  ·
   rw [y7 hs, List.singleton_append, scan, Wq (by omega), if_neg (by rintro (⟨h1, h2⟩ | ⟨h1, h2⟩); exact absurd (h9 h1) (by omega); exact absurd (hn h1) (by omega)), if_pos hs]
  ·
   rw [Zi hs, List.cons_append, scan, Wq (by omega)]
   have hi9 : i ≠ 9 := fun h => by have := h9 h; omega
   rw [if_neg (by rintro (⟨h1, h2⟩ | ⟨h1, h2⟩); exact hi9 h1; omega), if_neg (by omega)]
   have hmul : n / 128 * 128 ^ (i + 1) ≤ n * 128 ^ i := by
    rw [Nat.pow_succ, ← Nat.mul_assoc, Nat.mul_right_comm]
    exact Nat.mul_le_mul_right _ (by omega)
   rw [ih (n / 128) (by omega) (i + 1) _ r (by omega) (fun _ => by omega) (Nat.lt_of_le_of_lt hmul hlt)]
   congr 2
   have : n = n % 128 + n / 128 * 128 := by omega
   have e1 : (n % 128 + 128 - 128) * 128 ^ i + n / 128 * 128 ^ (i + 1) = n * 128 ^ i := by
    rw [Nat.pow_succ]
    conv => rhs; rw [this, Nat.add_mul]
    rw [Nat.add_sub_cancel, Nat.mul_comm (128 ^ i) 128, ← Nat.mul_assoc]
   omega
theorem XT {n : Nat} (h : n < 2 ^ 64) (r : List UInt8) : scan 0 0 (enc n ++ r) = some (n, r) := by
 rw [KZ n 0 0 r (by omega) (by omega) (by simpa using h)]; simp
theorem Qy : ∀ (l : List UInt8) (i acc m : Nat) (r : List UInt8), scan i acc l = some (m, r) → ∃ n, l = enc n ++ r ∧ m = acc + n * 128 ^ i ∧ (0 < i → 0 < n) := by
 intro l
 induction l with
 | nil => intro i acc m r h; cases h
 | cons x l ih =>
  intro i acc m r h
  rw [scan] at h
  have hx := x.toNat_lt
  split at h
  ·
   cases h
  ·
   rename_i hs
   split at h
   ·
    rename_i hx2
    cases h
    refine ⟨x.toNat, ?_, rfl, fun hi => by omega⟩
    rw [y7 hx2]; simp
   ·
    rename_i hx2
    obtain ⟨n, h1, h2, h3⟩ := ih _ _ _ _ h
    refine ⟨x.toNat - 128 + n * 128, ?_, ?_, fun _ => ?_⟩
    ·
     have hn := h3 (by omega)
     rw [Zi (by omega), show (x.toNat - 128 + n * 128) / 128 = n by omega, show (x.toNat - 128 + n * 128) % 128 + 128 = x.toNat by omega, h1]
     simp
    ·
     rw [h2, Nat.pow_succ, Nat.add_mul]
     rw [Nat.mul_comm (128 ^ i) 128, ← Nat.mul_assoc]; omega
    ·
     have := h3 (by omega); omega
theorem QW {l r : List UInt8} {m : Nat} (h : scan 0 0 l = some (m, r)) : l = enc m ++ r ∧ m < 2 ^ 64 := by
 obtain ⟨n, h1, h2, _⟩ := Qy l 0 0 m r h
 have : m = n := by simpa using h2
 subst this
 exact ⟨h1, (Wn l 0 0 (by decide) (by omega) m r h).1⟩
end Go.Proofs.Ytblpnklfimkfoaa
namespace Go.Proofs.Ytblpnklfimkfoaa
open Go.Abs
theorem wW {l r : List UInt8} (h : l.length ≤ 4096) : kN (J8 l ++ r) = some (l, r) := by
 unfold kN J8
 rw [List.append_assoc, XT (by omega)]
 dsimp only
 rw [if_pos ⟨h, by simp⟩]
 simp
theorem vI {l a b : List UInt8} (h : kN l = some (a, b)) : l = J8 a ++ b ∧ a.length ≤ 4096 := by
 unfold kN at h
 cases hs : scan 0 0 l with
 | none => rw [hs] at h; cases h
 | some mr =>
  obtain ⟨m, rest⟩ := mr
  rw [hs] at h
  dsimp only at h
  split at h
  ·
   rename_i hc
   cases h
   obtain ⟨h1, h2⟩ := QW hs
   have hl : (rest.take m).length = m := by simp; omega
   refine ⟨?_, by omega⟩
   unfold J8
   rw [hl, List.append_assoc, List.take_append_drop]
   exact h1
  ·
   cases h
end Go.Proofs.Ytblpnklfimkfoaa
namespace Go.Proofs.Ytblpnklfimkfoaa
open Go.Abs
abbrev zx.id : FuncId := 44
noncomputable def zx.jh : Code := (Code.seq (Code.region 6 (reg Try.f44 6) false) (Code.seq (Code.cond (Operand.tmp 22) Code.skip (Code.exit 0)) (Code.seq (Code.block 1 (Code.seq (Code.region 7 (reg Try.f44 7) false) (Code.seq (Code.seq (Code.region 8 (reg Try.f44 8) false) (Code.cond (Operand.tmp 34) (Code.seq (Code.region 9 (reg Try.f44 9) false) Code.ret) Code.skip)) (Code.seq (Code.region 10 (reg Try.f44 10) false) (Code.region 11 (reg Try.f44 11) false))))) (Code.region 12 (reg Try.f44 12) false))))
noncomputable def zx.code : Code := (Code.seq (Code.region 0 (reg Try.f44 0) false) (Code.seq (Code.seq (Code.region 1 (reg Try.f44 1) false) (Code.cond (Operand.tmp 17) (Code.seq (Code.region 2 (reg Try.f44 2) false) Code.ret) Code.skip)) (Code.seq (Code.region 3 (reg Try.f44 3) false) (Code.seq (Code.region 4 (reg Try.f44 4) false) (Code.seq (Code.seq (Code.region 5 (reg Try.f44 5) false) (Code.block 0 (Code.loop zx.jh))) (Code.seq (Code.region 13 (reg Try.f44 13) false) Code.ret))))))
theorem zx.body : Try.f44.body = some zx.code := by kernel_rfl
theorem zx.eta {T : List Value} (h : T.length = 45) : T = [T.getD 0 undef,T.getD 1 undef,T.getD 2 undef,T.getD 3 undef,T.getD 4 undef,T.getD 5 undef,T.getD 6 undef,T.getD 7 undef,T.getD 8 undef,T.getD 9 undef,T.getD 10 undef,T.getD 11 undef,T.getD 12 undef,T.getD 13 undef,T.getD 14 undef,T.getD 15 undef,T.getD 16 undef,T.getD 17 undef,T.getD 18 undef,T.getD 19 undef,T.getD 20 undef,T.getD 21 undef,T.getD 22 undef,T.getD 23 undef,T.getD 24 undef,T.getD 25 undef,T.getD 26 undef,T.getD 27 undef,T.getD 28 undef,T.getD 29 undef,T.getD 30 undef,T.getD 31 undef,T.getD 32 undef,T.getD 33 undef,T.getD 34 undef,T.getD 35 undef,T.getD 36 undef,T.getD 37 undef,T.getD 38 undef,T.getD 39 undef,T.getD 40 undef,T.getD 41 undef,T.getD 42 undef,T.getD 43 undef,T.getD 44 undef] := (wV T 45 h).trans (by kernel_rfl)
variable (P N V W X Y Z Q R U b a f g i k l m n o c d p q r s t u w x y z A B C D E F G H I J K L M : Value) (S : zi)
theorem zx.r0  : jl Try.prog ⟨false, false, false⟩ (jc Try.prog O) (reg Try.f44 0) (reg Try.f44 0).toList ([P,N,V,W,X,Y,Z,Q,R,U,b,a,f,g,i,k,l,m,n,o,c,d,p,q,r,s,t,u,w,x,y,z,A,B,C,D,E,F,G,H,I,J,K,L,M]) S =
  ( some ([P,N,V,W,Value.slice none 0 0,Value.slice none 0 0,Value.int IntKind.i64 0,Q,R,U,b,a,f,g,i,k,l,m,n,o,c,d,p,q,r,s,t,u,w,x,y,z,A,B,C,D,E,F,G,H,I,J,K,L,M], S)) := by
 kernel_rfl
theorem zx.r1  : jl Try.prog ⟨false, false, false⟩ (jc Try.prog O) (reg Try.f44 1) (reg Try.f44 1).toList ([P,N,V,W,X,Y,Z,Q,R,U,b,a,f,g,i,k,l,m,n,o,c,d,p,q,r,s,t,u,w,x,y,z,A,B,C,D,E,F,G,H,I,J,K,L,M]) S =
  (zW (jJ Try.prog BinOp.lss 3 (dem N) (Value.int IntKind.i64 0) S) (fun v1 S1 => gdK (dem v1) false (ret N) S1 (fun v3 S2 => gdK (dem v1) false (jJ Try.prog BinOp.gtr 3 (dem v3) (Value.int IntKind.i64 64)) S2 (fun v4 S3 => zW (wZ (dem v1) (Value.bool true) v4 S3) (fun v5 S4 => some ([P,N,V,W,X,Y,Z,Q,R,U,b,a,dem N,v1,dem v1,dem v3,v4,v5,n,o,c,d,p,q,r,s,t,u,w,x,y,z,A,B,C,D,E,F,G,H,I,J,K,L,M], S4)) ()) ()) ()) ()) := by
 refine sP Try.f44 1 0 (v := N) ?_
 refine sD Try.f44 1 1 (fun v1 S1 => ?_)
 refine sP Try.f44 1 2 (v := v1) ?_
 refine sG Try.f44 1 3 (j := 2) (fun v3 S2 => ?_)
 refine sG Try.f44 1 4 (j := 2) (fun v4 S3 => ?_)
 refine sD Try.f44 1 5 (fun v5 S4 => ?_)
 kernel_rfl
theorem zx.r2  : jl Try.prog ⟨false, false, false⟩ (jc Try.prog O) (reg Try.f44 2) (reg Try.f44 2).toList ([P,N,V,W,X,Y,Z,Q,R,U,b,a,f,g,i,k,l,m,n,o,c,d,p,q,r,s,t,u,w,x,y,z,A,B,C,D,E,F,G,H,I,J,K,L,M]) S =
  ( some ([P,N,V,W,Value.slice none 0 0,Value.slice none 0 0,Value.int IntKind.i64 11,Q,R,U,b,a,f,g,i,k,l,m,n,o,c,d,p,q,r,s,t,u,w,x,y,z,A,B,C,D,E,F,G,H,I,J,K,L,M], S)) := by
 kernel_rfl
theorem zx.r3  : jl Try.prog ⟨false, false, false⟩ (jc Try.prog O) (reg Try.f44 3) (reg Try.f44 3).toList ([P,N,V,W,X,Y,Z,Q,R,U,b,a,f,g,i,k,l,m,n,o,c,d,p,q,r,s,t,u,w,x,y,z,A,B,C,D,E,F,G,H,I,J,K,L,M]) S =
  (zW ((jc Try.prog O) 43 [(dem (dem P))] S) (fun v1 S1 => some ([P,N,V,W,X,Y,Z,v1,R,U,b,a,f,g,i,k,l,m,dem P,dem v1,c,d,p,q,r,s,t,u,w,x,y,z,A,B,C,D,E,F,G,H,I,J,K,L,M], S1)) ()) := by
 kernel_rfl
theorem zx.r4  : jl Try.prog ⟨false, false, false⟩ (jc Try.prog O) (reg Try.f44 4) (reg Try.f44 4).toList ([P,N,V,W,X,Y,Z,Q,R,U,b,a,f,g,i,k,l,m,n,o,c,d,p,q,r,s,t,u,w,x,y,z,A,B,C,D,E,F,G,H,I,J,K,L,M]) S =
  ( some ([P,N,V,W,X,Y,Z,Q,Value.slice none 0 0,U,b,a,f,g,i,k,l,m,n,o,c,d,p,q,r,s,t,u,w,x,y,z,A,B,C,D,E,F,G,H,I,J,K,L,M], S)) := by
 kernel_rfl
theorem zx.r5  : jl Try.prog ⟨false, false, false⟩ (jc Try.prog O) (reg Try.f44 5) (reg Try.f44 5).toList ([P,N,V,W,X,Y,Z,Q,R,U,b,a,f,g,i,k,l,m,n,o,c,d,p,q,r,s,t,u,w,x,y,z,A,B,C,D,E,F,G,H,I,J,K,L,M]) S =
  ( some ([P,N,V,W,X,Y,Z,Q,R,U,b,a,f,g,i,k,l,m,n,o,dem N,Value.int IntKind.i64 0,p,q,r,s,t,u,w,x,y,z,A,B,C,D,E,F,G,H,I,J,K,L,M], S)) := by
 kernel_rfl
theorem zx.r6  : jl Try.prog ⟨false, false, false⟩ (jc Try.prog O) (reg Try.f44 6) (reg Try.f44 6).toList ([P,N,V,W,X,Y,Z,Q,R,U,b,a,f,g,i,k,l,m,n,o,c,d,p,q,r,s,t,u,w,x,y,z,A,B,C,D,E,F,G,H,I,J,K,L,M]) S =
  (zW (jJ Try.prog BinOp.lss 3 d c S) (fun v0 S1 => some ([P,N,V,W,X,Y,Z,Q,R,U,b,a,f,g,i,k,l,m,n,o,c,d,v0,q,r,s,t,u,w,x,y,z,A,B,C,D,E,F,G,H,I,J,K,L,M], S1)) ()) := by
 kernel_rfl
theorem zx.r7  : jl Try.prog ⟨false, false, false⟩ (jc Try.prog O) (reg Try.f44 7) (reg Try.f44 7).toList ([P,N,V,W,X,Y,Z,Q,R,U,b,a,f,g,i,k,l,m,n,o,c,d,p,q,r,s,t,u,w,x,y,z,A,B,C,D,E,F,G,H,I,J,K,L,M]) S =
  (zW ((jc Try.prog O) 42 [(dem (dem Q))] S) (fun v1 S1 => zW (zL v1 0 S1) (fun v3 S2 => zW (zL (zQ 0 v1) 1 S2) (fun v4 S3 => zW (zL (zQ 1 (zQ 0 v1)) 2 S3) (fun v5 S4 => some ([P,N,V,W,X,Y,Z,Q,R,v3,v4,v5,f,g,i,k,l,m,n,o,c,d,p,zQ 2 (zQ 1 (zQ 0 v1)),dem Q,dem v1,dem v3,dem v4,dem v5,x,y,z,A,B,C,D,E,F,G,H,I,J,K,L,M], S4)) ()) ()) ()) ()) := by
 kernel_rfl
theorem zx.r8  : jl Try.prog ⟨false, false, false⟩ (jc Try.prog O) (reg Try.f44 8) (reg Try.f44 8).toList ([P,N,V,W,X,Y,Z,Q,R,U,b,a,f,g,i,k,l,m,n,o,c,d,p,q,r,s,t,u,w,x,y,z,A,B,C,D,E,F,G,H,I,J,K,L,M]) S =
  (zW (jJ Try.prog BinOp.neq 29 (dem a) (Value.int IntKind.i64 0) S) (fun v1 S1 => gdK (dem v1) false (ret U) S1 (fun v3 S2 => gdK (dem v1) false (jJ Try.prog BinOp.gtr 75 (dem v3) (Value.int IntKind.u64 4611686018427387905)) S2 (fun v4 S3 => zW (wZ (dem v1) (Value.bool true) v4 S3) (fun v5 S4 => some ([P,N,V,W,X,Y,Z,Q,R,U,b,a,f,g,i,k,l,m,n,o,c,d,p,q,r,s,t,u,w,dem a,v1,dem v1,dem v3,v4,v5,D,E,F,G,H,I,J,K,L,M], S4)) ()) ()) ()) ()) := by
 refine sP Try.f44 8 0 (v := a) ?_
 refine sD Try.f44 8 1 (fun v1 S1 => ?_)
 refine sP Try.f44 8 2 (v := v1) ?_
 refine sG Try.f44 8 3 (j := 2) (fun v3 S2 => ?_)
 refine sG Try.f44 8 4 (j := 2) (fun v4 S3 => ?_)
 refine sD Try.f44 8 5 (fun v5 S4 => ?_)
 kernel_rfl
theorem zx.r9  : jl Try.prog ⟨false, false, false⟩ (jc Try.prog O) (reg Try.f44 9) (reg Try.f44 9).toList ([P,N,V,W,X,Y,Z,Q,R,U,b,a,f,g,i,k,l,m,n,o,c,d,p,q,r,s,t,u,w,x,y,z,A,B,C,D,E,F,G,H,I,J,K,L,M]) S =
  ( some ([P,N,V,W,Value.slice none 0 0,Value.slice none 0 0,Value.int IntKind.i64 11,Q,R,U,b,a,f,g,i,k,l,m,n,o,c,d,p,q,r,s,t,u,w,x,y,z,A,B,C,D,E,F,G,H,I,J,K,L,M], S)) := by
 kernel_rfl
theorem zx.r10  : jl Try.prog ⟨false, false, false⟩ (jc Try.prog O) (reg Try.f44 10) (reg Try.f44 10).toList ([P,N,V,W,X,Y,Z,Q,R,U,b,a,f,g,i,k,l,m,n,o,c,d,p,q,r,s,t,u,w,x,y,z,A,B,C,D,E,F,G,H,I,J,K,L,M]) S =
  (zW (jK Try.prog false false 75 3 (dem U) S) (fun v2 S1 => zW (jJ Try.prog BinOp.sub 3 v2 (Value.int IntKind.i64 1) S1) (fun v3 S2 => zW (jg Try.prog 56 1 [(0, v3)] S2) (fun v4 S3 => zW (jB Try.prog 56 56 R v4 S3) (fun v5 S4 => some ([P,N,V,W,X,Y,Z,Q,v5,U,b,a,f,g,i,k,l,m,n,o,c,d,p,q,r,s,t,u,w,x,y,z,A,B,C,dem R,dem U,v2,v3,v4,dem v5,J,K,L,M], S4)) ()) ()) ()) ()) := by
 kernel_rfl
theorem zx.r11  : jl Try.prog ⟨false, false, false⟩ (jc Try.prog O) (reg Try.f44 11) (reg Try.f44 11).toList ([P,N,V,W,X,Y,Z,Q,R,U,b,a,f,g,i,k,l,m,n,o,c,d,p,q,r,s,t,u,w,x,y,z,A,B,C,D,E,F,G,H,I,J,K,L,M]) S =
  ( some ([P,N,V,W,X,Y,Z,b,R,U,dem b,a,f,g,i,k,l,m,n,o,c,d,p,q,r,s,t,u,w,x,y,z,A,B,C,D,E,F,G,H,I,dem b,K,L,M], S)) := by
 kernel_rfl
theorem zx.r12  : jl Try.prog ⟨false, false, false⟩ (jc Try.prog O) (reg Try.f44 12) (reg Try.f44 12).toList ([P,N,V,W,X,Y,Z,Q,R,U,b,a,f,g,i,k,l,m,n,o,c,d,p,q,r,s,t,u,w,x,y,z,A,B,C,D,E,F,G,H,I,J,K,L,M]) S =
  (zW (jJ Try.prog BinOp.add 3 d (Value.int IntKind.i64 1) S) (fun v0 S1 => some ([P,N,V,W,X,Y,Z,Q,R,U,b,a,f,g,i,k,l,m,n,o,c,dem v0,p,q,r,s,t,u,w,x,y,z,A,B,C,D,E,F,G,H,I,J,v0,L,M], S1)) ()) := by
 kernel_rfl
theorem zx.r13  : jl Try.prog ⟨false, false, false⟩ (jc Try.prog O) (reg Try.f44 13) (reg Try.f44 13).toList ([P,N,V,W,X,Y,Z,Q,R,U,b,a,f,g,i,k,l,m,n,o,c,d,p,q,r,s,t,u,w,x,y,z,A,B,C,D,E,F,G,H,I,J,K,L,M]) S =
  ( some ([P,N,V,W,R,Q,Value.int IntKind.i64 0,dem Q,dem R,U,b,a,f,g,i,k,l,m,n,o,c,d,p,q,r,s,t,u,w,x,y,z,A,B,C,D,E,F,G,H,I,J,K,dem R,dem Q], S)) := by
 kernel_rfl
theorem zx.rs : type_of% (And.intro @zx.r0 (And.intro @zx.r1 (And.intro @zx.r2 (And.intro @zx.r3 (And.intro @zx.r4 (And.intro @zx.r5 (And.intro @zx.r6 (And.intro @zx.r7 (And.intro @zx.r8 (And.intro @zx.r9 (And.intro @zx.r10 (And.intro @zx.r11 (And.intro @zx.r12 (@zx.r13)))))))))))))) := And.intro @zx.r0 (And.intro @zx.r1 (And.intro @zx.r2 (And.intro @zx.r3 (And.intro @zx.r4 (And.intro @zx.r5 (And.intro @zx.r6 (And.intro @zx.r7 (And.intro @zx.r8 (And.intro @zx.r9 (And.intro @zx.r10 (And.intro @zx.r11 (And.intro @zx.r12 (@zx.r13)))))))))))))
theorem zx.runs {P N : Value} {S S1 : zi} {e : AEx} {T : List Value} (h : zI Try.prog O false zx.code ([P,N,undef,undef,undef,undef,undef,undef,undef,undef,undef,undef,undef,undef,undef,undef,undef,undef,undef,undef,undef,undef,undef,undef,undef,undef,undef,undef,undef,undef,undef,undef,undef,undef,undef,undef,undef,undef,undef,undef,undef,undef,undef,undef,undef]) S = some (e, T, S1)) (he : e = .normal ∨ e = .ret)  (h0 : ji (T.getD 4 undef) = true) (h1 : ji (T.getD 5 undef) = true) (h2 : ji (T.getD 6 undef) = true) : jc Try.prog O 44 [P, N] S = some (Value.tuple #[T.getD 4 undef, T.getD 5 undef, T.getD 6 undef], S1) :=
 jU rfl rfl Try.func44 (by decide) zx.body (by exact h) he ((wu ((show zV Try.prog T S1 Try.f44.results.toList = zV Try.prog T S1 [(ResultVar.tmp 4), (ResultVar.tmp 5), (ResultVar.tmp 6)] from by kernel_rfl).trans (by simp only [zV])) (by kernel_rfl) (by simp only [List.all_cons, List.all_nil, h0, h1, h2, Bool.and_true])).trans rfl)
end Go.Proofs.Ytblpnklfimkfoaa
namespace Go.Proofs.Ytblpnklfimkfoaa
open Go.Abs
abbrev zh.id : FuncId := 48
noncomputable def zh.jh : Code := (Code.seq (Code.seq (Code.region 6 (reg Try.f48 6) false) (Code.cond (Operand.tmp 25) Code.skip (Code.exit 0))) (Code.seq (Code.block 1 (Code.seq (Code.region 8 (reg Try.f48 8) false) (Code.seq (Code.seq (Code.region 9 (reg Try.f48 9) false) (Code.cond (Operand.tmp 39) (Code.seq (Code.region 10 (reg Try.f48 10) false) Code.ret) Code.skip)) (Code.seq (Code.region 11 (reg Try.f48 11) false) (Code.region 12 (reg Try.f48 12) false))))) (Code.region 7 (reg Try.f48 7) false)))
noncomputable def zh.code : Code := (Code.seq (Code.region 0 (reg Try.f48 0) false) (Code.seq (Code.seq (Code.region 1 (reg Try.f48 1) false) (Code.cond (Operand.tmp 18) (Code.seq (Code.region 2 (reg Try.f48 2) false) Code.ret) Code.skip)) (Code.seq (Code.region 3 (reg Try.f48 3) false) (Code.seq (Code.region 4 (reg Try.f48 4) false) (Code.seq (Code.seq (Code.region 5 (reg Try.f48 5) false) (Code.block 0 (Code.loop zh.jh))) (Code.seq (Code.region 13 (reg Try.f48 13) false) Code.ret))))))
theorem zh.body : Try.f48.body = some zh.code := by kernel_rfl
theorem zh.eta {T : List Value} (h : T.length = 49) : T = [T.getD 0 undef,T.getD 1 undef,T.getD 2 undef,T.getD 3 undef,T.getD 4 undef,T.getD 5 undef,T.getD 6 undef,T.getD 7 undef,T.getD 8 undef,T.getD 9 undef,T.getD 10 undef,T.getD 11 undef,T.getD 12 undef,T.getD 13 undef,T.getD 14 undef,T.getD 15 undef,T.getD 16 undef,T.getD 17 undef,T.getD 18 undef,T.getD 19 undef,T.getD 20 undef,T.getD 21 undef,T.getD 22 undef,T.getD 23 undef,T.getD 24 undef,T.getD 25 undef,T.getD 26 undef,T.getD 27 undef,T.getD 28 undef,T.getD 29 undef,T.getD 30 undef,T.getD 31 undef,T.getD 32 undef,T.getD 33 undef,T.getD 34 undef,T.getD 35 undef,T.getD 36 undef,T.getD 37 undef,T.getD 38 undef,T.getD 39 undef,T.getD 40 undef,T.getD 41 undef,T.getD 42 undef,T.getD 43 undef,T.getD 44 undef,T.getD 45 undef,T.getD 46 undef,T.getD 47 undef,T.getD 48 undef] := (wV T 49 h).trans (by kernel_rfl)
variable (V U Z x3 x4 x5 x6 W X Y a c b d f g i k l m n o p q r s t u w x y z A B C D E F G H I J K L M N P Q R : Value) (S : zi)
theorem zh.r0  : jl Try.prog ⟨false, false, false⟩ (jc Try.prog O) (reg Try.f48 0) (reg Try.f48 0).toList ([V,U,Z,x3,x4,x5,x6,W,X,Y,a,c,b,d,f,g,i,k,l,m,n,o,p,q,r,s,t,u,w,x,y,z,A,B,C,D,E,F,G,H,I,J,K,L,M,N,P,Q,R]) S =
  ( some ([V,U,Z,x3,Value.slice none 0 0,Value.slice none 0 0,Value.int IntKind.i64 0,W,X,Y,a,c,b,d,f,g,i,k,l,m,n,o,p,q,r,s,t,u,w,x,y,z,A,B,C,D,E,F,G,H,I,J,K,L,M,N,P,Q,R], S)) := by
 kernel_rfl
theorem zh.r1  : jl Try.prog ⟨false, false, false⟩ (jc Try.prog O) (reg Try.f48 1) (reg Try.f48 1).toList ([V,U,Z,x3,x4,x5,x6,W,X,Y,a,c,b,d,f,g,i,k,l,m,n,o,p,q,r,s,t,u,w,x,y,z,A,B,C,D,E,F,G,H,I,J,K,L,M,N,P,Q,R]) S =
  (zW (jJ Try.prog BinOp.lss 3 (dem U) (Value.int IntKind.i64 0) S) (fun v1 S1 => gdK (dem v1) false (ret U) S1 (fun v3 S2 => gdK (dem v1) false (jJ Try.prog BinOp.gtr 3 (dem v3) (Value.int IntKind.i64 64)) S2 (fun v4 S3 => zW (wZ (dem v1) (Value.bool true) v4 S3) (fun v5 S4 => some ([V,U,Z,x3,x4,x5,x6,W,X,Y,a,c,b,dem U,v1,dem v1,dem v3,v4,v5,m,n,o,p,q,r,s,t,u,w,x,y,z,A,B,C,D,E,F,G,H,I,J,K,L,M,N,P,Q,R], S4)) ()) ()) ()) ()) := by
 refine sP Try.f48 1 0 (v := U) ?_
 refine sD Try.f48 1 1 (fun v1 S1 => ?_)
 refine sP Try.f48 1 2 (v := v1) ?_
 refine sG Try.f48 1 3 (j := 2) (fun v3 S2 => ?_)
 refine sG Try.f48 1 4 (j := 2) (fun v4 S3 => ?_)
 refine sD Try.f48 1 5 (fun v5 S4 => ?_)
 kernel_rfl
theorem zh.r2  : jl Try.prog ⟨false, false, false⟩ (jc Try.prog O) (reg Try.f48 2) (reg Try.f48 2).toList ([V,U,Z,x3,x4,x5,x6,W,X,Y,a,c,b,d,f,g,i,k,l,m,n,o,p,q,r,s,t,u,w,x,y,z,A,B,C,D,E,F,G,H,I,J,K,L,M,N,P,Q,R]) S =
  ( some ([V,U,Z,x3,Value.slice none 0 0,Value.slice none 0 0,Value.int IntKind.i64 11,W,X,Y,a,c,b,d,f,g,i,k,l,m,n,o,p,q,r,s,t,u,w,x,y,z,A,B,C,D,E,F,G,H,I,J,K,L,M,N,P,Q,R], S)) := by
 kernel_rfl
theorem zh.r3  : jl Try.prog ⟨false, false, false⟩ (jc Try.prog O) (reg Try.f48 3) (reg Try.f48 3).toList ([V,U,Z,x3,x4,x5,x6,W,X,Y,a,c,b,d,f,g,i,k,l,m,n,o,p,q,r,s,t,u,w,x,y,z,A,B,C,D,E,F,G,H,I,J,K,L,M,N,P,Q,R]) S =
  (zW (jg Try.prog 56 0 [] S) (fun v0 S1 => some ([V,U,Z,x3,x4,x5,x6,v0,X,Y,a,c,b,d,f,g,i,k,l,dem v0,n,o,p,q,r,s,t,u,w,x,y,z,A,B,C,D,E,F,G,H,I,J,K,L,M,N,P,Q,R], S1)) ()) := by
 kernel_rfl
theorem zh.r4  : jl Try.prog ⟨false, false, false⟩ (jc Try.prog O) (reg Try.f48 4) (reg Try.f48 4).toList ([V,U,Z,x3,x4,x5,x6,W,X,Y,a,c,b,d,f,g,i,k,l,m,n,o,p,q,r,s,t,u,w,x,y,z,A,B,C,D,E,F,G,H,I,J,K,L,M,N,P,Q,R]) S =
  (zW (jg Try.prog 26 0 [] S) (fun v0 S1 => zW (jB Try.prog 26 26 v0 (dem V) S1) (fun v2 S2 => some ([V,U,Z,x3,x4,x5,x6,W,v2,Y,a,c,b,d,f,g,i,k,l,m,dem v0,dem V,dem v2,q,r,s,t,u,w,x,y,z,A,B,C,D,E,F,G,H,I,J,K,L,M,N,P,Q,R], S2)) ()) ()) := by
 kernel_rfl
theorem zh.r5  : jl Try.prog ⟨false, false, false⟩ (jc Try.prog O) (reg Try.f48 5) (reg Try.f48 5).toList ([V,U,Z,x3,x4,x5,x6,W,X,Y,a,c,b,d,f,g,i,k,l,m,n,o,p,q,r,s,t,u,w,x,y,z,A,B,C,D,E,F,G,H,I,J,K,L,M,N,P,Q,R]) S =
  ( some ([V,U,Z,x3,x4,x5,x6,W,X,Value.int IntKind.i64 0,a,c,b,d,f,g,i,k,l,m,n,o,p,q,r,s,t,u,w,x,y,z,A,B,C,D,E,F,G,H,I,J,K,L,M,N,P,Q,R], S)) := by
 kernel_rfl
theorem zh.r6  : jl Try.prog ⟨false, false, false⟩ (jc Try.prog O) (reg Try.f48 6) (reg Try.f48 6).toList ([V,U,Z,x3,x4,x5,x6,W,X,Y,a,c,b,d,f,g,i,k,l,m,n,o,p,q,r,s,t,u,w,x,y,z,A,B,C,D,E,F,G,H,I,J,K,L,M,N,P,Q,R]) S =
  (zW (jJ Try.prog BinOp.lss 3 (dem Y) (dem U) S) (fun v2 S1 => some ([V,U,Z,x3,x4,x5,x6,W,X,Y,a,c,b,d,f,g,i,k,l,m,n,o,p,dem Y,dem U,v2,t,u,w,x,y,z,A,B,C,D,E,F,G,H,I,J,K,L,M,N,P,Q,R], S1)) ()) := by
 kernel_rfl
theorem zh.r8  : jl Try.prog ⟨false, false, false⟩ (jc Try.prog O) (reg Try.f48 8) (reg Try.f48 8).toList ([V,U,Z,x3,x4,x5,x6,W,X,Y,a,c,b,d,f,g,i,k,l,m,n,o,p,q,r,s,t,u,w,x,y,z,A,B,C,D,E,F,G,H,I,J,K,L,M,N,P,Q,R]) S =
  (zW ((jc Try.prog O) 49 [(dem (dem X))] S) (fun v1 S1 => zW (zL v1 0 S1) (fun v3 S2 => zW (zL (zQ 0 v1) 1 S2) (fun v4 S3 => zW (zL (zQ 1 (zQ 0 v1)) 2 S3) (fun v5 S4 => some ([V,U,Z,x3,x4,x5,x6,W,X,Y,v3,v4,v5,d,f,g,i,k,l,m,n,o,p,q,r,s,t,u,zQ 2 (zQ 1 (zQ 0 v1)),dem X,dem v1,dem v3,dem v4,dem v5,C,D,E,F,G,H,I,J,K,L,M,N,P,Q,R], S4)) ()) ()) ()) ()) := by
 kernel_rfl
theorem zh.r9  : jl Try.prog ⟨false, false, false⟩ (jc Try.prog O) (reg Try.f48 9) (reg Try.f48 9).toList ([V,U,Z,x3,x4,x5,x6,W,X,Y,a,c,b,d,f,g,i,k,l,m,n,o,p,q,r,s,t,u,w,x,y,z,A,B,C,D,E,F,G,H,I,J,K,L,M,N,P,Q,R]) S =
  (zW (jJ Try.prog BinOp.neq 3 (dem b) (Value.int IntKind.i64 0) S) (fun v1 S1 => gdK (dem v1) false (ret a) S1 (fun v3 S2 => gdK (dem v1) false (jJ Try.prog BinOp.gtr 75 (dem v3) (Value.int IntKind.u64 4611686018427387905)) S2 (fun v4 S3 => zW (wZ (dem v1) (Value.bool true) v4 S3) (fun v5 S4 => some ([V,U,Z,x3,x4,x5,x6,W,X,Y,a,c,b,d,f,g,i,k,l,m,n,o,p,q,r,s,t,u,w,x,y,z,A,B,dem b,v1,dem v1,dem v3,v4,v5,I,J,K,L,M,N,P,Q,R], S4)) ()) ()) ()) ()) := by
 refine sP Try.f48 9 0 (v := b) ?_
 refine sD Try.f48 9 1 (fun v1 S1 => ?_)
 refine sP Try.f48 9 2 (v := v1) ?_
 refine sG Try.f48 9 3 (j := 2) (fun v3 S2 => ?_)
 refine sG Try.f48 9 4 (j := 2) (fun v4 S3 => ?_)
 refine sD Try.f48 9 5 (fun v5 S4 => ?_)
 kernel_rfl
theorem zh.r10  : jl Try.prog ⟨false, false, false⟩ (jc Try.prog O) (reg Try.f48 10) (reg Try.f48 10).toList ([V,U,Z,x3,x4,x5,x6,W,X,Y,a,c,b,d,f,g,i,k,l,m,n,o,p,q,r,s,t,u,w,x,y,z,A,B,C,D,E,F,G,H,I,J,K,L,M,N,P,Q,R]) S =
  ( some ([V,U,Z,x3,Value.slice none 0 0,Value.slice none 0 0,Value.int IntKind.i64 11,W,X,Y,a,c,b,d,f,g,i,k,l,m,n,o,p,q,r,s,t,u,w,x,y,z,A,B,C,D,E,F,G,H,I,J,K,L,M,N,P,Q,R], S)) := by
 kernel_rfl
theorem zh.r11  : jl Try.prog ⟨false, false, false⟩ (jc Try.prog O) (reg Try.f48 11) (reg Try.f48 11).toList ([V,U,Z,x3,x4,x5,x6,W,X,Y,a,c,b,d,f,g,i,k,l,m,n,o,p,q,r,s,t,u,w,x,y,z,A,B,C,D,E,F,G,H,I,J,K,L,M,N,P,Q,R]) S =
  (zW (jK Try.prog false false 75 3 (dem a) S) (fun v2 S1 => zW (jJ Try.prog BinOp.sub 3 v2 (Value.int IntKind.i64 1) S1) (fun v3 S2 => zW (jg Try.prog 56 1 [(0, v3)] S2) (fun v4 S3 => zW (jB Try.prog 56 56 W v4 S3) (fun v5 S4 => some ([V,U,Z,x3,x4,x5,x6,v5,X,Y,a,c,b,d,f,g,i,k,l,m,n,o,p,q,r,s,t,u,w,x,y,z,A,B,C,D,E,F,G,H,dem W,dem a,v2,v3,v4,dem v5,P,Q,R], S4)) ()) ()) ()) ()) := by
 kernel_rfl
theorem zh.r12  : jl Try.prog ⟨false, false, false⟩ (jc Try.prog O) (reg Try.f48 12) (reg Try.f48 12).toList ([V,U,Z,x3,x4,x5,x6,W,X,Y,a,c,b,d,f,g,i,k,l,m,n,o,p,q,r,s,t,u,w,x,y,z,A,B,C,D,E,F,G,H,I,J,K,L,M,N,P,Q,R]) S =
  ( some ([V,U,Z,x3,x4,x5,x6,W,c,Y,a,dem c,b,d,f,g,i,k,l,m,n,o,p,q,r,s,t,u,w,x,y,z,A,B,C,D,E,F,G,H,I,J,K,L,M,N,dem c,Q,R], S)) := by
 kernel_rfl
theorem zh.r7  : jl Try.prog ⟨false, false, false⟩ (jc Try.prog O) (reg Try.f48 7) (reg Try.f48 7).toList ([V,U,Z,x3,x4,x5,x6,W,X,Y,a,c,b,d,f,g,i,k,l,m,n,o,p,q,r,s,t,u,w,x,y,z,A,B,C,D,E,F,G,H,I,J,K,L,M,N,P,Q,R]) S =
  (zW (jJ Try.prog BinOp.add 3 (dem Y) (Value.int IntKind.i64 1) S) (fun v1 S1 => some ([V,U,Z,x3,x4,x5,x6,W,X,v1,a,c,b,d,f,g,i,k,l,m,n,o,p,q,r,s,dem Y,dem v1,w,x,y,z,A,B,C,D,E,F,G,H,I,J,K,L,M,N,P,Q,R], S1)) ()) := by
 kernel_rfl
theorem zh.r13  : jl Try.prog ⟨false, false, false⟩ (jc Try.prog O) (reg Try.f48 13) (reg Try.f48 13).toList ([V,U,Z,x3,x4,x5,x6,W,X,Y,a,c,b,d,f,g,i,k,l,m,n,o,p,q,r,s,t,u,w,x,y,z,A,B,C,D,E,F,G,H,I,J,K,L,M,N,P,Q,R]) S =
  ( some ([V,U,Z,x3,W,X,Value.int IntKind.i64 0,dem W,dem X,Y,a,c,b,d,f,g,i,k,l,m,n,o,p,q,r,s,t,u,w,x,y,z,A,B,C,D,E,F,G,H,I,J,K,L,M,N,P,dem W,dem X], S)) := by
 kernel_rfl
theorem zh.rs : type_of% (And.intro @zh.r0 (And.intro @zh.r1 (And.intro @zh.r2 (And.intro @zh.r3 (And.intro @zh.r4 (And.intro @zh.r5 (And.intro @zh.r6 (And.intro @zh.r8 (And.intro @zh.r9 (And.intro @zh.r10 (And.intro @zh.r11 (And.intro @zh.r12 (And.intro @zh.r7 (@zh.r13)))))))))))))) := And.intro @zh.r0 (And.intro @zh.r1 (And.intro @zh.r2 (And.intro @zh.r3 (And.intro @zh.r4 (And.intro @zh.r5 (And.intro @zh.r6 (And.intro @zh.r8 (And.intro @zh.r9 (And.intro @zh.r10 (And.intro @zh.r11 (And.intro @zh.r12 (And.intro @zh.r7 (@zh.r13)))))))))))))
theorem zh.runs {V U : Value} {S S1 : zi} {e : AEx} {T : List Value} (h : zI Try.prog O false zh.code ([V,U,undef,undef,undef,undef,undef,undef,undef,undef,undef,undef,undef,undef,undef,undef,undef,undef,undef,undef,undef,undef,undef,undef,undef,undef,undef,undef,undef,undef,undef,undef,undef,undef,undef,undef,undef,undef,undef,undef,undef,undef,undef,undef,undef,undef,undef,undef,undef]) S = some (e, T, S1)) (he : e = .normal ∨ e = .ret)  (h0 : ji (T.getD 4 undef) = true) (h1 : ji (T.getD 5 undef) = true) (h2 : ji (T.getD 6 undef) = true) : jc Try.prog O 48 [V, U] S = some (Value.tuple #[T.getD 4 undef, T.getD 5 undef, T.getD 6 undef], S1) :=
 jU rfl rfl Try.func48 (by decide) zh.body (by exact h) he ((wu ((show zV Try.prog T S1 Try.f48.results.toList = zV Try.prog T S1 [(ResultVar.tmp 4), (ResultVar.tmp 5), (ResultVar.tmp 6)] from by kernel_rfl).trans (by simp only [zV])) (by kernel_rfl) (by simp only [List.all_cons, List.all_nil, h0, h1, h2, Bool.and_true])).trans rfl)
end Go.Proofs.Ytblpnklfimkfoaa
namespace Go.Proofs.Ytblpnklfimkfoaa
open Go.Abs
abbrev zS.id : FuncId := 32
noncomputable def zS.jh : Code := (Code.seq (Code.region 5 (reg Try.f32 5) false) (Code.seq (Code.cond (Operand.tmp 13) Code.skip (Code.exit 0)) (Code.seq (Code.block 1 (Code.seq (Code.region 6 (reg Try.f32 6) false) (Code.seq (Code.seq (Code.region 7 (reg Try.f32 7) false) (Code.cond (Operand.tmp 17) (Code.seq (Code.region 8 (reg Try.f32 8) false) Code.ret) Code.skip)) (Code.region 9 (reg Try.f32 9) false)))) (Code.region 10 (reg Try.f32 10) false))))
noncomputable def zS.code : Code := (Code.seq (Code.region 0 (reg Try.f32 0) false) (Code.seq (Code.seq (Code.region 1 (reg Try.f32 1) false) (Code.cond (Operand.tmp 9) (Code.seq (Code.region 2 (reg Try.f32 2) false) Code.ret) Code.skip)) (Code.seq (Code.region 3 (reg Try.f32 3) false) (Code.seq (Code.seq (Code.region 4 (reg Try.f32 4) false) (Code.block 0 (Code.loop zS.jh))) (Code.seq (Code.region 11 (reg Try.f32 11) false) Code.ret)))))
theorem zS.body : Try.f32.body = some zS.code := by kernel_rfl
theorem zS.eta {T : List Value} (h : T.length = 26) : T = [T.getD 0 undef,T.getD 1 undef,T.getD 2 undef,T.getD 3 undef,T.getD 4 undef,T.getD 5 undef,T.getD 6 undef,T.getD 7 undef,T.getD 8 undef,T.getD 9 undef,T.getD 10 undef,T.getD 11 undef,T.getD 12 undef,T.getD 13 undef,T.getD 14 undef,T.getD 15 undef,T.getD 16 undef,T.getD 17 undef,T.getD 18 undef,T.getD 19 undef,T.getD 20 undef,T.getD 21 undef,T.getD 22 undef,T.getD 23 undef,T.getD 24 undef,T.getD 25 undef] := (wV T 26 h).trans (by kernel_rfl)
variable (s v A B u w t x y z b c a d f g i j k l m n o p q r : Value) (S : zi)
theorem zS.r0  : jl Try.prog ⟨false, false, false⟩ (jc Try.prog O) (reg Try.f32 0) (reg Try.f32 0).toList ([s,v,A,B,u,w,t,x,y,z,b,c,a,d,f,g,i,j,k,l,m,n,o,p,q,r]) S =
  ( some ([s,v,Value.slice none 0 0,Value.int IntKind.i64 0,u,w,t,x,y,z,b,c,a,d,f,g,i,j,k,l,m,n,o,p,q,r], S)) := by
 kernel_rfl
theorem zS.r1  : jl Try.prog ⟨false, false, false⟩ (jc Try.prog O) (reg Try.f32 1) (reg Try.f32 1).toList ([s,v,A,B,u,w,t,x,y,z,b,c,a,d,f,g,i,j,k,l,m,n,o,p,q,r]) S =
  (zW (qM Try.prog 56 (dem s) S) (fun D C => zW (jJ Try.prog BinOp.gtr 3 D (Value.int IntKind.i64 64) C) (fun G F => some ([s,v,A,B,u,w,t,dem s,D,G,b,c,a,d,f,g,i,j,k,l,m,n,o,p,q,r], F)) ()) ()) := by
 kernel_rfl
theorem zS.r2  : jl Try.prog ⟨false, false, false⟩ (jc Try.prog O) (reg Try.f32 2) (reg Try.f32 2).toList ([s,v,A,B,u,w,t,x,y,z,b,c,a,d,f,g,i,j,k,l,m,n,o,p,q,r]) S =
  ( some ([s,v,Value.slice none 0 0,Value.int IntKind.i64 11,u,w,t,x,y,z,b,c,a,d,f,g,i,j,k,l,m,n,o,p,q,r], S)) := by
 kernel_rfl
theorem zS.r3  : jl Try.prog ⟨false, false, false⟩ (jc Try.prog O) (reg Try.f32 3) (reg Try.f32 3).toList ([s,v,A,B,u,w,t,x,y,z,b,c,a,d,f,g,i,j,k,l,m,n,o,p,q,r]) S =
  ( some ([s,v,A,B,Value.slice none 0 0,w,t,x,y,z,b,c,a,d,f,g,i,j,k,l,m,n,o,p,q,r], S)) := by
 kernel_rfl
theorem zS.r4  : jl Try.prog ⟨false, false, false⟩ (jc Try.prog O) (reg Try.f32 4) (reg Try.f32 4).toList ([s,v,A,B,u,w,t,x,y,z,b,c,a,d,f,g,i,j,k,l,m,n,o,p,q,r]) S =
  (zW (qM Try.prog 56 (dem s) S) (fun D C => some ([s,v,A,B,u,w,t,x,y,z,dem s,D,Value.int IntKind.i64 0,d,f,g,i,j,k,l,m,n,o,p,q,r], C)) ()) := by
 kernel_rfl
theorem zS.r5  : jl Try.prog ⟨false, false, false⟩ (jc Try.prog O) (reg Try.f32 5) (reg Try.f32 5).toList ([s,v,A,B,u,w,t,x,y,z,b,c,a,d,f,g,i,j,k,l,m,n,o,p,q,r]) S =
  (zW (jJ Try.prog BinOp.lss 3 a c S) (fun E C => some ([s,v,A,B,u,w,t,x,y,z,b,c,a,E,f,g,i,j,k,l,m,n,o,p,q,r], C)) ()) := by
 kernel_rfl
theorem zS.r6  : jl Try.prog ⟨false, false, false⟩ (jc Try.prog O) (reg Try.f32 6) (reg Try.f32 6).toList ([s,v,A,B,u,w,t,x,y,z,b,c,a,d,f,g,i,j,k,l,m,n,o,p,q,r]) S =
  (zW (jk Try.prog 56 b a S) (fun E C => zW (jw Try.prog false 3 E C) (fun D F => some ([s,v,A,B,u,w,D,x,y,z,b,c,a,d,E,dem D,i,j,k,l,m,n,o,p,q,r], F)) ()) ()) := by
 kernel_rfl
theorem zS.r7  : jl Try.prog ⟨false, false, false⟩ (jc Try.prog O) (reg Try.f32 7) (reg Try.f32 7).toList ([s,v,A,B,u,w,t,x,y,z,b,c,a,d,f,g,i,j,k,l,m,n,o,p,q,r]) S =
  (zW (jJ Try.prog BinOp.lss 3 (dem t) (Value.int IntKind.i64 (-1)) S) (fun D C => some ([s,v,A,B,u,w,t,x,y,z,b,c,a,d,f,g,dem t,D,k,l,m,n,o,p,q,r], C)) ()) := by
 kernel_rfl
theorem zS.r8  : jl Try.prog ⟨false, false, false⟩ (jc Try.prog O) (reg Try.f32 8) (reg Try.f32 8).toList ([s,v,A,B,u,w,t,x,y,z,b,c,a,d,f,g,i,j,k,l,m,n,o,p,q,r]) S =
  ( some ([s,v,Value.slice none 0 0,Value.int IntKind.i64 11,u,w,t,x,y,z,b,c,a,d,f,g,i,j,k,l,m,n,o,p,q,r], S)) := by
 kernel_rfl
theorem zS.r9  : jl Try.prog ⟨false, false, false⟩ (jc Try.prog O) (reg Try.f32 9) (reg Try.f32 9).toList ([s,v,A,B,u,w,t,x,y,z,b,c,a,d,f,g,i,j,k,l,m,n,o,p,q,r]) S =
  (zW (jK Try.prog false false 3 75 (dem t) S) (fun G C => zW (jJ Try.prog BinOp.add 75 G (Value.int IntKind.u64 1) C) (fun H F => zW ((jc Try.prog O) 45 [(dem H)] F) (fun I K => zW (jB Try.prog 26 26 u I K) (fun J L => some ([s,v,A,B,J,w,t,x,y,z,b,c,a,d,f,g,i,j,dem u,dem t,G,H,I,dem J,q,r], L)) ()) ()) ()) ()) := by
 kernel_rfl
theorem zS.r10  : jl Try.prog ⟨false, false, false⟩ (jc Try.prog O) (reg Try.f32 10) (reg Try.f32 10).toList ([s,v,A,B,u,w,t,x,y,z,b,c,a,d,f,g,i,j,k,l,m,n,o,p,q,r]) S =
  (zW (jJ Try.prog BinOp.add 3 a (Value.int IntKind.i64 1) S) (fun E C => some ([s,v,A,B,u,w,t,x,y,z,b,c,dem E,d,f,g,i,j,k,l,m,n,o,p,E,r], C)) ()) := by
 kernel_rfl
theorem zS.r11  : jl Try.prog ⟨false, false, false⟩ (jc Try.prog O) (reg Try.f32 11) (reg Try.f32 11).toList ([s,v,A,B,u,w,t,x,y,z,b,c,a,d,f,g,i,j,k,l,m,n,o,p,q,r]) S =
  ( some ([s,v,u,Value.int IntKind.i64 0,dem u,w,t,x,y,z,b,c,a,d,f,g,i,j,k,l,m,n,o,p,q,dem u], S)) := by
 kernel_rfl
theorem zS.rs : type_of% (And.intro @zS.r0 (And.intro @zS.r1 (And.intro @zS.r2 (And.intro @zS.r3 (And.intro @zS.r4 (And.intro @zS.r5 (And.intro @zS.r6 (And.intro @zS.r7 (And.intro @zS.r8 (And.intro @zS.r9 (And.intro @zS.r10 (@zS.r11)))))))))))) := And.intro @zS.r0 (And.intro @zS.r1 (And.intro @zS.r2 (And.intro @zS.r3 (And.intro @zS.r4 (And.intro @zS.r5 (And.intro @zS.r6 (And.intro @zS.r7 (And.intro @zS.r8 (And.intro @zS.r9 (And.intro @zS.r10 (@zS.r11)))))))))))
theorem zS.runs {s : Value} {S C : zi} {e : AEx} {T : List Value} (h : zI Try.prog O false zS.code ([s,undef,undef,undef,undef,undef,undef,undef,undef,undef,undef,undef,undef,undef,undef,undef,undef,undef,undef,undef,undef,undef,undef,undef,undef,undef]) S = some (e, T, C)) (he : e = .normal ∨ e = .ret)  (h0 : ji (T.getD 2 undef) = true) (h1 : ji (T.getD 3 undef) = true) : jc Try.prog O 32 [s] S = some (Value.tuple #[T.getD 2 undef, T.getD 3 undef], C) :=
 jU rfl rfl Try.func32 (by decide) zS.body (by exact h) he ((wu ((show zV Try.prog T C Try.f32.results.toList = zV Try.prog T C [(ResultVar.tmp 2), (ResultVar.tmp 3)] from by kernel_rfl).trans (by simp only [zV])) (by kernel_rfl) (by simp only [List.all_cons, List.all_nil, h0, h1, Bool.and_true])).trans rfl)
end Go.Proofs.Ytblpnklfimkfoaa
namespace Go.Proofs.Ytblpnklfimkfoaa
open Go.Abs
abbrev zo.id : FuncId := 35
noncomputable def zo.jh : Code := (Code.seq (Code.region 5 (reg Try.f35 5) false) (Code.seq (Code.cond (Operand.tmp 14) Code.skip (Code.exit 0)) (Code.seq (Code.block 1 (Code.seq (Code.region 6 (reg Try.f35 6) false) (Code.seq (Code.seq (Code.region 7 (reg Try.f35 7) false) (Code.cond (Operand.tmp 18) (Code.seq (Code.region 8 (reg Try.f35 8) false) Code.ret) Code.skip)) (Code.region 9 (reg Try.f35 9) false)))) (Code.region 10 (reg Try.f35 10) false))))
noncomputable def zo.code : Code := (Code.seq (Code.region 0 (reg Try.f35 0) false) (Code.seq (Code.seq (Code.region 1 (reg Try.f35 1) false) (Code.cond (Operand.tmp 9) (Code.seq (Code.region 2 (reg Try.f35 2) false) Code.ret) Code.skip)) (Code.seq (Code.region 3 (reg Try.f35 3) false) (Code.seq (Code.seq (Code.region 4 (reg Try.f35 4) false) (Code.block 0 (Code.loop zo.jh))) (Code.seq (Code.region 11 (reg Try.f35 11) false) Code.ret)))))
theorem zo.body : Try.f35.body = some zo.code := by kernel_rfl
theorem zo.eta {T : List Value} (h : T.length = 27) : T = [T.getD 0 undef,T.getD 1 undef,T.getD 2 undef,T.getD 3 undef,T.getD 4 undef,T.getD 5 undef,T.getD 6 undef,T.getD 7 undef,T.getD 8 undef,T.getD 9 undef,T.getD 10 undef,T.getD 11 undef,T.getD 12 undef,T.getD 13 undef,T.getD 14 undef,T.getD 15 undef,T.getD 16 undef,T.getD 17 undef,T.getD 18 undef,T.getD 19 undef,T.getD 20 undef,T.getD 21 undef,T.getD 22 undef,T.getD 23 undef,T.getD 24 undef,T.getD 25 undef,T.getD 26 undef] := (wV T 27 h).trans (by kernel_rfl)
variable (t w B C v x u y z A d b c a f g i j k l m n o p q r s : Value) (S : zi)
theorem zo.r0  : jl Try.prog ⟨false, false, false⟩ (jc Try.prog O) (reg Try.f35 0) (reg Try.f35 0).toList ([t,w,B,C,v,x,u,y,z,A,d,b,c,a,f,g,i,j,k,l,m,n,o,p,q,r,s]) S =
  ( some ([t,w,Value.slice none 0 0,Value.int IntKind.i64 0,v,x,u,y,z,A,d,b,c,a,f,g,i,j,k,l,m,n,o,p,q,r,s], S)) := by
 kernel_rfl
theorem zo.r1  : jl Try.prog ⟨false, false, false⟩ (jc Try.prog O) (reg Try.f35 1) (reg Try.f35 1).toList ([t,w,B,C,v,x,u,y,z,A,d,b,c,a,f,g,i,j,k,l,m,n,o,p,q,r,s]) S =
  (zW (qM Try.prog 56 (dem t) S) (fun F D => zW (jJ Try.prog BinOp.gtr 3 F (Value.int IntKind.i64 64) D) (fun H G => some ([t,w,B,C,v,x,u,dem t,F,H,d,b,c,a,f,g,i,j,k,l,m,n,o,p,q,r,s], G)) ()) ()) := by
 kernel_rfl
theorem zo.r2  : jl Try.prog ⟨false, false, false⟩ (jc Try.prog O) (reg Try.f35 2) (reg Try.f35 2).toList ([t,w,B,C,v,x,u,y,z,A,d,b,c,a,f,g,i,j,k,l,m,n,o,p,q,r,s]) S =
  ( some ([t,w,Value.slice none 0 0,Value.int IntKind.i64 11,v,x,u,y,z,A,d,b,c,a,f,g,i,j,k,l,m,n,o,p,q,r,s], S)) := by
 kernel_rfl
theorem zo.r3  : jl Try.prog ⟨false, false, false⟩ (jc Try.prog O) (reg Try.f35 3) (reg Try.f35 3).toList ([t,w,B,C,v,x,u,y,z,A,d,b,c,a,f,g,i,j,k,l,m,n,o,p,q,r,s]) S =
  (zW (jg Try.prog 26 0 [] S) (fun E D => some ([t,w,B,C,E,x,u,y,z,A,dem E,b,c,a,f,g,i,j,k,l,m,n,o,p,q,r,s], D)) ()) := by
 kernel_rfl
theorem zo.r4  : jl Try.prog ⟨false, false, false⟩ (jc Try.prog O) (reg Try.f35 4) (reg Try.f35 4).toList ([t,w,B,C,v,x,u,y,z,A,d,b,c,a,f,g,i,j,k,l,m,n,o,p,q,r,s]) S =
  (zW (qM Try.prog 56 (dem t) S) (fun F D => some ([t,w,B,C,v,x,u,y,z,A,d,dem t,F,Value.int IntKind.i64 0,f,g,i,j,k,l,m,n,o,p,q,r,s], D)) ()) := by
 kernel_rfl
theorem zo.r5  : jl Try.prog ⟨false, false, false⟩ (jc Try.prog O) (reg Try.f35 5) (reg Try.f35 5).toList ([t,w,B,C,v,x,u,y,z,A,d,b,c,a,f,g,i,j,k,l,m,n,o,p,q,r,s]) S =
  (zW (jJ Try.prog BinOp.lss 3 a c S) (fun E D => some ([t,w,B,C,v,x,u,y,z,A,d,b,c,a,E,g,i,j,k,l,m,n,o,p,q,r,s], D)) ()) := by
 kernel_rfl
theorem zo.r6  : jl Try.prog ⟨false, false, false⟩ (jc Try.prog O) (reg Try.f35 6) (reg Try.f35 6).toList ([t,w,B,C,v,x,u,y,z,A,d,b,c,a,f,g,i,j,k,l,m,n,o,p,q,r,s]) S =
  (zW (jk Try.prog 56 b a S) (fun E D => zW (jw Try.prog false 3 E D) (fun F G => some ([t,w,B,C,v,x,F,y,z,A,d,b,c,a,f,E,dem F,j,k,l,m,n,o,p,q,r,s], G)) ()) ()) := by
 kernel_rfl
theorem zo.r7  : jl Try.prog ⟨false, false, false⟩ (jc Try.prog O) (reg Try.f35 7) (reg Try.f35 7).toList ([t,w,B,C,v,x,u,y,z,A,d,b,c,a,f,g,i,j,k,l,m,n,o,p,q,r,s]) S =
  (zW (jJ Try.prog BinOp.lss 3 (dem u) (Value.int IntKind.i64 (-1)) S) (fun F D => some ([t,w,B,C,v,x,u,y,z,A,d,b,c,a,f,g,i,dem u,F,l,m,n,o,p,q,r,s], D)) ()) := by
 kernel_rfl
theorem zo.r8  : jl Try.prog ⟨false, false, false⟩ (jc Try.prog O) (reg Try.f35 8) (reg Try.f35 8).toList ([t,w,B,C,v,x,u,y,z,A,d,b,c,a,f,g,i,j,k,l,m,n,o,p,q,r,s]) S =
  ( some ([t,w,Value.slice none 0 0,Value.int IntKind.i64 11,v,x,u,y,z,A,d,b,c,a,f,g,i,j,k,l,m,n,o,p,q,r,s], S)) := by
 kernel_rfl
theorem zo.r9  : jl Try.prog ⟨false, false, false⟩ (jc Try.prog O) (reg Try.f35 9) (reg Try.f35 9).toList ([t,w,B,C,v,x,u,y,z,A,d,b,c,a,f,g,i,j,k,l,m,n,o,p,q,r,s]) S =
  (zW (jK Try.prog false false 3 75 (dem u) S) (fun H D => zW (jJ Try.prog BinOp.add 75 H (Value.int IntKind.u64 1) D) (fun I G => zW ((jc Try.prog O) 46 [(dem I)] G) (fun J L => zW (jB Try.prog 26 26 v J L) (fun K M => some ([t,w,B,C,K,x,u,y,z,A,d,b,c,a,f,g,i,j,k,dem v,dem u,H,I,J,dem K,r,s], M)) ()) ()) ()) ()) := by
 kernel_rfl
theorem zo.r10  : jl Try.prog ⟨false, false, false⟩ (jc Try.prog O) (reg Try.f35 10) (reg Try.f35 10).toList ([t,w,B,C,v,x,u,y,z,A,d,b,c,a,f,g,i,j,k,l,m,n,o,p,q,r,s]) S =
  (zW (jJ Try.prog BinOp.add 3 a (Value.int IntKind.i64 1) S) (fun E D => some ([t,w,B,C,v,x,u,y,z,A,d,b,c,dem E,f,g,i,j,k,l,m,n,o,p,q,E,s], D)) ()) := by
 kernel_rfl
theorem zo.r11  : jl Try.prog ⟨false, false, false⟩ (jc Try.prog O) (reg Try.f35 11) (reg Try.f35 11).toList ([t,w,B,C,v,x,u,y,z,A,d,b,c,a,f,g,i,j,k,l,m,n,o,p,q,r,s]) S =
  ( some ([t,w,v,Value.int IntKind.i64 0,dem v,x,u,y,z,A,d,b,c,a,f,g,i,j,k,l,m,n,o,p,q,r,dem v], S)) := by
 kernel_rfl
theorem zo.rs : type_of% (And.intro @zo.r0 (And.intro @zo.r1 (And.intro @zo.r2 (And.intro @zo.r3 (And.intro @zo.r4 (And.intro @zo.r5 (And.intro @zo.r6 (And.intro @zo.r7 (And.intro @zo.r8 (And.intro @zo.r9 (And.intro @zo.r10 (@zo.r11)))))))))))) := And.intro @zo.r0 (And.intro @zo.r1 (And.intro @zo.r2 (And.intro @zo.r3 (And.intro @zo.r4 (And.intro @zo.r5 (And.intro @zo.r6 (And.intro @zo.r7 (And.intro @zo.r8 (And.intro @zo.r9 (And.intro @zo.r10 (@zo.r11)))))))))))
theorem zo.runs {t : Value} {S D : zi} {e : AEx} {T : List Value} (h : zI Try.prog O false zo.code ([t,undef,undef,undef,undef,undef,undef,undef,undef,undef,undef,undef,undef,undef,undef,undef,undef,undef,undef,undef,undef,undef,undef,undef,undef,undef,undef]) S = some (e, T, D)) (he : e = .normal ∨ e = .ret)  (h0 : ji (T.getD 2 undef) = true) (h1 : ji (T.getD 3 undef) = true) : jc Try.prog O 35 [t] S = some (Value.tuple #[T.getD 2 undef, T.getD 3 undef], D) :=
 jU rfl rfl Try.func35 (by decide) zo.body (by exact h) he ((wu ((show zV Try.prog T D Try.f35.results.toList = zV Try.prog T D [(ResultVar.tmp 2), (ResultVar.tmp 3)] from by kernel_rfl).trans (by simp only [zV])) (by kernel_rfl) (by simp only [List.all_cons, List.all_nil, h0, h1, Bool.and_true])).trans rfl)
end Go.Proofs.Ytblpnklfimkfoaa
namespace Go.Proofs.Ytblpnklfimkfoaa
open Go.Abs
theorem bz0 (S : zi) : jg Try.prog 56 0 [] S = some (iz 2 [], S) := by rw [VY]; rfl
theorem afP (x : Int) : sv 2 1 1 [.int .i64 x] = iz 2 [x] := rfl
theorem abY {k : Nat} {l : List Int} {x : Int} {S : zi} (h : Okl k l) (hk : k ≠ 1) (hl : l.length ≤ 17592186044000) : jB Try.prog 56 56 (iz k l) (iz 2 [x]) S = some (iz 2 (l ++ [x]), S) := by
 rw [abw h hk Okl.own (by simp; omega), if_neg (fun h => by have := h.2; simp at this)]
end Go.Proofs.Ytblpnklfimkfoaa
namespace Go.Abs
open Go.RowKit
theorem ZQ {cs xs : List Value} (h : cs.length = xs.length) : splice cs 0 xs = xs := by
 unfold splice
 rw [List.take_zero, List.nil_append, Nat.zero_add, ← h, List.drop_length, List.append_nil]
theorem aga {k e n : Nat} {cs : List Value} : (sv k e n cs).oneCell' = true := by unfold sv; split <;> rfl
theorem agc {α : Type} {f : α → List Value} {e k : Nat} {l : List α} : (vs f e k l).oneCell' = true := aga
theorem afe {k : IntKind} {n : Int} : (Value.int k n).oneCell' = true := rfl
theorem aaL {P : Program} {t : TypeId} {z xs : List Value} {x : Value} (S : zi) (hx : x.cells.toList = xs) (hs : qR P t = some z.length) (hl : xs.length = z.length) (h1 : xs.all (·.oneCell') = true) :
  ∃ S2, yU P t (.pointer (some ⟨S.next, 0, none⟩)) x (S.push (.cells z (.own []) 0)) = some (undef, S2) ∧ S2.get S.next = some (.cells xs (.own []) 0) ∧ Ext S S2 ∧ S.next < S2.next := by
 have hg : (S.push (.cells z (.own []) 0)).get S.next = some (.cells z (.own []) 0) := by rw [zi.jm, if_pos rfl]
 refine ⟨_, Kv hg hs (by rw [← Array.length_toList, hx, hl]) (by rw [hx]; exact h1) (by simp), ?_, (Ext.push S _).set (Nat.le_refl _) _, by simp [zi.kills]⟩
 rw [zi.jF, if_pos rfl, hx, ZQ hl.symm]
end Go.Abs
namespace Go.Proofs.Ytblpnklfimkfoaa
open Go.Abs
theorem bb0 (S : zi) : jg Try.prog 26 0 [] S = some (by_ 2 [], S) := by rw [yS]; rfl
structure Tb where
 k : Nat
 b : List UInt8
structure Tb.Ok (t : Tb) : Prop where
 okl : Okl t.k t.b
 ne : t.k ≠ 2
 le : t.b.length ≤ 140737488351232
end Go.Proofs.Ytblpnklfimkfoaa
namespace Go.Proofs.Ytblpnklfimkfoaa
open Go.Abs
def encs (l : List Int) : List UInt8 := l.flatMap fun n => enc (n + 1).toNat
def aae (k : Nat) (l : List Int) : Value := if 64 < l.length ∨ ∃ n ∈ l, n < -1 then .tuple #[.slice none 0 0, .int .i64 11] else .tuple #[by_ (if l = [] then k else 2) (encs l), .int .i64 0]
theorem WO {n : Int} (h : -1 ≤ n) (h2 : n < 9223372036854775808) : IntKind.u64.wrap (IntKind.u64.wrap n + 1) = ((n + 1).toNat : Int) := by
 simp [IntKind.wrap, IntKind.bits, IntKind.signed]
 omega
theorem J9 (a b : List Int) : encs (a ++ b) = encs a ++ encs b := by simp [encs]
theorem XK (n : Int) : encs [n] = enc (n + 1).toNat := by simp [encs]
theorem ZC {l : List Int} (h : ∀ n ∈ l, n < 9223372036854775808) : (encs l).length ≤ l.length * 10 := by
 induction l with
 | nil => simp [encs]
 | cons n l ih =>
  have h1 := ih fun m hm => h m (by simp [hm])
  have h2 : (enc (n + 1).toNat).length ≤ 10 := kE (by have := h n (by simp); omega)
  simp only [encs, List.flatMap_cons, List.length_append, List.length_cons] at *
  omega
theorem zS.round {k : Nat} {l : List Int} (hv : Okl k l) (hk : k ≠ 2) (h64 : l.length ≤ 64) (hb : ∀ n ∈ l, n < 9223372036854775808) {S : zi} : ∀ (suf pre : List Int) {T : List Value} {r : St}, wQ (zI Try.prog O false zS.jh) T S = r → T.length = 26 →
  T.getD 10 undef = iz k l → T.getD 11 undef = .int .i64 l.length → T.getD 12 undef = .int .i64 pre.length → T.getD 4 undef = by_ (if pre = [] then 0 else 2) (encs pre) → l = pre ++ suf →
  ∃ e T', r = some (e, T', S) ∧ if (∃ n ∈ suf, n < -1) then e = .ret ∧ T'.getD 2 undef = .slice none 0 0 ∧ T'.getD 3 undef = .int .i64 11 else e = .exit 0 ∧ T'.length = 26 ∧ T'.getD 4 undef = by_ (if l = [] then 0 else 2) (encs l) := by
 intro suf
 induction suf with
 | nil =>
  intro pre T r hL hT ha hb hc h4 hl
  have hTe := zS.eta hT
  rw [ha, hb, hc, h4] at hTe
  have hr : zI Try.prog O false zS.jh T S = zI Try.prog O false zS.jh T S := rfl
  have hd : ¬ (pre.length : Int) < (l.length : Int) := by rw [hl]; simp
  conv at hr =>
   rhs
   rw [hTe]
   simp only [zS.jh, zS.code, zS.rs, zSs, reduceIte, Nat.reduceEqDiff, Int.reduceEq, Int.reduceLT, Int.reduceLE, hd]
  refine ⟨_, _, hL.symm.trans (jq hr (by simp)), ?_⟩
  rw [if_neg (by simp)]
  simp only [List.append_nil] at hl
  subst hl
  exact ⟨rfl, rfl, rfl⟩
 | cons n suf ih =>
  intro pre T r hL hT ha hbb hc h4 hl
  have hTe := zS.eta hT
  rw [ha, hbb, hc, h4] at hTe
  have hr : zI Try.prog O false zS.jh T S = zI Try.prog O false zS.jh T S := rfl
  have hll : l.length = pre.length + (suf.length + 1) := by rw [hl]; simp
  have hlt : (pre.length : Int) < (l.length : Int) := by omega
  have e1 : ∀ S, jk Try.prog 56 (iz k l) (.int .i64 pre.length) S = some (EP [.int .i64 n], S) := fun S => by
   rw [ac2 hv (by omega) hlt]; rw [Ju hl]
  have hn := hb n (by rw [hl]; simp)
  by_cases h1 : n < -1
  ·
   conv at hr =>
    rhs
    rw [hTe]
    simp only [zS.jh, zS.code, zS.rs, zSs, reduceIte, Nat.reduceEqDiff, Int.reduceEq, Int.reduceLT, Int.reduceLE, hlt, e1, qJ, h1]
   refine ⟨_, _, hL.symm.trans (jq hr (by simp)), ?_⟩
   rw [if_pos ⟨n, by simp, h1⟩]
   exact ⟨rfl, rfl, rfl⟩
  ·
   have w1 := WO (n := n) (by omega) (by omega)
   have hpb : (encs pre).length ≤ pre.length * 10 := ZC fun m hm => hb m (by rw [hl]; simp [hm])
   have hp10 : (enc (n + 1).toNat).length ≤ 10 := kE (by omega)
   have hpp := YU (n + 1).toNat
   have g1 := fun S => jr.v (n + 1).toNat (by omega) S
   have e2 : ∀ S, jB Try.prog 26 26 (by_ (if pre = [] then 0 else 2) (encs pre)) (by_ 2 (enc (n + 1).toNat)) S = some (by_ 2 (encs (pre ++ [n])), S) := fun S => by
    have ok : Okl (if pre = [] then 0 else 2) (encs pre) := ⟨by split <;> omega, fun h => by split at h <;> first | (rename_i hp; subst hp; rfl) | omega⟩
    rw [yN ok (by split <;> omega) Okl.own (by omega), if_neg (fun h => by have := h.2; omega), J9, XK]
   have wi : IntKind.i64.wrap ((pre.length : Int) + 1) = ((pre ++ [n]).length : Int) := by rw [wrap_i64 (by omega) (by omega)]; simp
   conv at hr =>
    rhs
    rw [hTe]
    simp only [zS.jh, zS.code, zS.rs, zSs, reduceIte, Nat.reduceEqDiff, Int.reduceEq, Int.reduceLT, Int.reduceLE, hlt, e1, qJ, h1, yJ, w1, g1, e2, wi]
   obtain ⟨e, T', g1, g2⟩ := ih (pre ++ [n]) ((jY hr).symm.trans hL) rfl rfl rfl rfl (by rw [if_neg (show ¬ pre ++ [n] = [] by simp)]; rfl) (by simp [hl])
   refine ⟨e, T', g1, ?_⟩
   by_cases h2 : ∃ m ∈ suf, m < -1
   ·
    rw [if_pos h2] at g2
    obtain ⟨m, hm, hm2⟩ := h2
    rw [if_pos ⟨m, by simp [hm], hm2⟩]
    exact g2
   ·
    rw [if_neg h2] at g2
    rw [if_neg (by rintro ⟨m, hm, hm2⟩; rcases List.mem_cons.1 hm with rfl | hm; exact h1 hm2; exact h2 ⟨m, hm, hm2⟩)]
    exact g2
theorem zS.v {k : Nat} {l : List Int} (hv : Okl k l) (hk : k ≠ 2) (hb : ∀ n ∈ l, n < 9223372036854775808) (S : zi) : jc Try.prog O zS.id [iz k l] S = some (aae 0 l, S) := by
 obtain ⟨T, hTe⟩ : ∃ T, T = (iz k l :: undef :: undef :: undef :: undef :: undef :: undef :: undef :: undef :: undef :: undef :: undef :: undef :: undef :: undef :: undef :: undef :: undef :: undef :: undef :: undef :: undef :: undef :: undef :: undef :: undef :: []) := ⟨_, rfl⟩
 have hr : zI Try.prog O false zS.code T S = zI Try.prog O false zS.code T S := rfl
 unfold aae
 by_cases h1 : 64 < l.length
 ·
  have d1 : (64 : Int) < (l.length : Int) := by omega
  conv at hr =>
   rhs
   rw [hTe]
   simp only [zS.code, zS.rs, zSs, reduceIte, Nat.reduceEqDiff, Int.reduceEq, Int.reduceLT, Int.reduceLE, if_neg hk, QJ hv, goInt, d1]
  rw [hTe] at hr
  rw [if_pos (.inl h1)]
  exact zS.runs hr (.inr rfl) (by simp only [List.getD_cons_succ, List.getD_cons_zero, zO, zJ, zD, zG, zK]) (by simp only [List.getD_cons_succ, List.getD_cons_zero, zO, zJ, zD, zG, zK])
 ·
  have d1 : ¬ (64 : Int) < (l.length : Int) := by omega
  conv at hr =>
   rhs
   rw [hTe]
   simp only [zS.code, zS.rs, zSs, reduceIte, Nat.reduceEqDiff, Int.reduceEq, Int.reduceLT, Int.reduceLE, if_neg hk, QJ hv, goInt, d1, yS, abh]
  generalize hL : wQ (zI Try.prog O false zS.jh) _ _ = r at hr
  obtain ⟨e, T', rfl, g⟩ := zS.round hv hk (by omega) hb l [] hL rfl rfl rfl rfl rfl rfl
  by_cases h2 : ∃ n ∈ l, n < -1
  ·
   rw [if_pos h2] at g
   obtain ⟨rfl, g2, g3⟩ := g
   conv at hr =>
    rhs
    simp only [zSs, reduceIte, Nat.reduceEqDiff, Int.reduceEq, Int.reduceLT, Int.reduceLE]
   rw [hTe] at hr
   rw [if_pos (.inr h2)]
   have hrun := zS.runs hr (.inr rfl) (by rw [g2]; rfl) (by rw [g3]; rfl)
   rw [g2, g3] at hrun
   exact hrun
  ·
   rw [if_neg h2] at g
   obtain ⟨rfl, g2, g3⟩ := g
   have hTe' := zS.eta g2
   rw [g3] at hTe'
   conv at hr =>
    rhs
    rw [hTe']
    simp only [zS.code, zS.rs, zSs, reduceIte, Nat.reduceEqDiff, Int.reduceEq, Int.reduceLT, Int.reduceLE]
   rw [hTe] at hr
   rw [if_neg (by rintro (h | h); exact h1 h; exact h2 h)]
   exact zS.runs hr (.inr rfl) (by simp only [List.getD_cons_succ, List.getD_cons_zero, zO, zJ, zD, zG, zK]) (by simp only [List.getD_cons_succ, List.getD_cons_zero, zO, zJ, zD, zG, zK])
theorem zo.round {k : Nat} {l : List Int} (hv : Okl k l) (hk : k ≠ 2) (h64 : l.length ≤ 64) (hb : ∀ n ∈ l, n < 9223372036854775808) {S : zi} : ∀ (suf pre : List Int) {T : List Value} {r : St}, wQ (zI Try.prog O false zo.jh) T S = r → T.length = 27 →
  T.getD 11 undef = iz k l → T.getD 12 undef = .int .i64 l.length → T.getD 13 undef = .int .i64 pre.length → T.getD 4 undef = by_ (if pre = [] then 2 else 2) (encs pre) → l = pre ++ suf →
  ∃ e T', r = some (e, T', S) ∧ if (∃ n ∈ suf, n < -1) then e = .ret ∧ T'.getD 2 undef = .slice none 0 0 ∧ T'.getD 3 undef = .int .i64 11 else e = .exit 0 ∧ T'.length = 27 ∧ T'.getD 4 undef = by_ (if l = [] then 2 else 2) (encs l) := by
 intro suf
 induction suf with
 | nil =>
  intro pre T r hL hT ha hb hc h4 hl
  have hTe := zo.eta hT
  rw [ha, hb, hc, h4] at hTe
  have hr : zI Try.prog O false zo.jh T S = zI Try.prog O false zo.jh T S := rfl
  have hd : ¬ (pre.length : Int) < (l.length : Int) := by rw [hl]; simp
  conv at hr =>
   rhs
   rw [hTe]
   simp only [zo.jh, zo.code, zo.rs, zSs, reduceIte, Nat.reduceEqDiff, Int.reduceEq, Int.reduceLT, Int.reduceLE, hd]
  refine ⟨_, _, hL.symm.trans (jq hr (by simp)), ?_⟩
  rw [if_neg (by simp)]
  simp only [List.append_nil] at hl
  subst hl
  exact ⟨rfl, rfl, rfl⟩
 | cons n suf ih =>
  intro pre T r hL hT ha hbb hc h4 hl
  have hTe := zo.eta hT
  rw [ha, hbb, hc, h4] at hTe
  have hr : zI Try.prog O false zo.jh T S = zI Try.prog O false zo.jh T S := rfl
  have hll : l.length = pre.length + (suf.length + 1) := by rw [hl]; simp
  have hlt : (pre.length : Int) < (l.length : Int) := by omega
  have e1 : ∀ S, jk Try.prog 56 (iz k l) (.int .i64 pre.length) S = some (EP [.int .i64 n], S) := fun S => by
   rw [ac2 hv (by omega) hlt]; rw [Ju hl]
  have hn := hb n (by rw [hl]; simp)
  by_cases h1 : n < -1
  ·
   conv at hr =>
    rhs
    rw [hTe]
    simp only [zo.jh, zo.code, zo.rs, zSs, reduceIte, Nat.reduceEqDiff, Int.reduceEq, Int.reduceLT, Int.reduceLE, hlt, e1, qJ, h1]
   refine ⟨_, _, hL.symm.trans (jq hr (by simp)), ?_⟩
   rw [if_pos ⟨n, by simp, h1⟩]
   exact ⟨rfl, rfl, rfl⟩
  ·
   have w1 := WO (n := n) (by omega) (by omega)
   have hpb : (encs pre).length ≤ pre.length * 10 := ZC fun m hm => hb m (by rw [hl]; simp [hm])
   have hp10 : (enc (n + 1).toNat).length ≤ 10 := kE (by omega)
   have hpp := YU (n + 1).toNat
   have g1 := fun S => zH.v (n + 1).toNat (by omega) S
   have e2 : ∀ S, jB Try.prog 26 26 (by_ (if pre = [] then 2 else 2) (encs pre)) (by_ 2 (enc (n + 1).toNat)) S = some (by_ 2 (encs (pre ++ [n])), S) := fun S => by
    have ok : Okl (if pre = [] then 2 else 2) (encs pre) := ⟨by split <;> omega, fun h => by split at h <;> first | (rename_i hp; subst hp; rfl) | omega⟩
    rw [yN ok (by split <;> omega) Okl.own (by omega), if_neg (fun h => by have := h.2; omega), J9, XK]
   have wi : IntKind.i64.wrap ((pre.length : Int) + 1) = ((pre ++ [n]).length : Int) := by rw [wrap_i64 (by omega) (by omega)]; simp
   conv at hr =>
    rhs
    rw [hTe]
    simp only [zo.jh, zo.code, zo.rs, zSs, reduceIte, Nat.reduceEqDiff, Int.reduceEq, Int.reduceLT, Int.reduceLE, hlt, e1, qJ, h1, yJ, w1, g1, e2, wi]
   obtain ⟨e, T', g1, g2⟩ := ih (pre ++ [n]) ((jY hr).symm.trans hL) rfl rfl rfl rfl (by rw [if_neg (show ¬ pre ++ [n] = [] by simp)]; rfl) (by simp [hl])
   refine ⟨e, T', g1, ?_⟩
   by_cases h2 : ∃ m ∈ suf, m < -1
   ·
    rw [if_pos h2] at g2
    obtain ⟨m, hm, hm2⟩ := h2
    rw [if_pos ⟨m, by simp [hm], hm2⟩]
    exact g2
   ·
    rw [if_neg h2] at g2
    rw [if_neg (by rintro ⟨m, hm, hm2⟩; rcases List.mem_cons.1 hm with rfl | hm; exact h1 hm2; exact h2 ⟨m, hm, hm2⟩)]
    exact g2
theorem zo.v {k : Nat} {l : List Int} (hv : Okl k l) (hk : k ≠ 2) (hb : ∀ n ∈ l, n < 9223372036854775808) (S : zi) : jc Try.prog O zo.id [iz k l] S = some (aae 2 l, S) := by
 obtain ⟨T, hTe⟩ : ∃ T, T = (iz k l :: undef :: undef :: undef :: undef :: undef :: undef :: undef :: undef :: undef :: undef :: undef :: undef :: undef :: undef :: undef :: undef :: undef :: undef :: undef :: undef :: undef :: undef :: undef :: undef :: undef :: undef :: []) := ⟨_, rfl⟩
 have hr : zI Try.prog O false zo.code T S = zI Try.prog O false zo.code T S := rfl
 unfold aae
 by_cases h1 : 64 < l.length
 ·
  have d1 : (64 : Int) < (l.length : Int) := by omega
  conv at hr =>
   rhs
   rw [hTe]
   simp only [zo.code, zo.rs, zSs, reduceIte, Nat.reduceEqDiff, Int.reduceEq, Int.reduceLT, Int.reduceLE, if_neg hk, QJ hv, goInt, d1]
  rw [hTe] at hr
  rw [if_pos (.inl h1)]
  exact zo.runs hr (.inr rfl) (by simp only [List.getD_cons_succ, List.getD_cons_zero, zO, zJ, zD, zG, zK]) (by simp only [List.getD_cons_succ, List.getD_cons_zero, zO, zJ, zD, zG, zK])
 ·
  have d1 : ¬ (64 : Int) < (l.length : Int) := by omega
  conv at hr =>
   rhs
   rw [hTe]
   simp only [zo.code, zo.rs, zSs, reduceIte, Nat.reduceEqDiff, Int.reduceEq, Int.reduceLT, Int.reduceLE, if_neg hk, QJ hv, goInt, d1, yS, abh]
  generalize hL : wQ (zI Try.prog O false zo.jh) _ _ = r at hr
  obtain ⟨e, T', rfl, g⟩ := zo.round hv hk (by omega) hb l [] hL rfl rfl rfl rfl rfl rfl
  by_cases h2 : ∃ n ∈ l, n < -1
  ·
   rw [if_pos h2] at g
   obtain ⟨rfl, g2, g3⟩ := g
   conv at hr =>
    rhs
    simp only [zSs, reduceIte, Nat.reduceEqDiff, Int.reduceEq, Int.reduceLT, Int.reduceLE]
   rw [hTe] at hr
   rw [if_pos (.inr h2)]
   have hrun := zo.runs hr (.inr rfl) (by rw [g2]; rfl) (by rw [g3]; rfl)
   rw [g2, g3] at hrun
   exact hrun
  ·
   rw [if_neg h2] at g
   obtain ⟨rfl, g2, g3⟩ := g
   have hTe' := zo.eta g2
   rw [g3] at hTe'
   conv at hr =>
    rhs
    rw [hTe']
    simp only [zo.code, zo.rs, zSs, reduceIte, Nat.reduceEqDiff, Int.reduceEq, Int.reduceLT, Int.reduceLE]
   rw [hTe] at hr
   rw [if_neg (by rintro (h | h); exact h1 h; exact h2 h)]
   exact zo.runs hr (.inr rfl) (by simp only [List.getD_cons_succ, List.getD_cons_zero, zO, zJ, zD, zG, zK]) (by simp only [List.getD_cons_succ, List.getD_cons_zero, zO, zJ, zD, zG, zK])
end Go.Proofs.Ytblpnklfimkfoaa
namespace Go.Proofs.Ytblpnklfimkfoaa
open Go.Abs
def wL : Nat → List UInt8 → Option (List Int × List UInt8)
 | 0, l => some ([], l)
 | m + 1, l => match scan 0 0 l with
  | some (n, r) => if n ≤ 4611686018427387905 then (match wL m r with
   | some (a, b) => some (((n : Int) - 1) :: a, b)
   | none => none) else none
  | none => none
def vw (k0 k1 : Nat) (many : Int) (l : List UInt8) : Value :=
 if many < 0 ∨ 64 < many then .tuple #[.slice none 0 0, .slice none 0 0, .int .i64 11]
 else match wL many.toNat l with
  | some (a, b) => .tuple #[iz (if many = 0 then k0 else 2) a, by_ (if many = 0 then k1 else 2) b, .int .i64 0]
  | none => .tuple #[.slice none 0 0, .slice none 0 0, .int .i64 11]
theorem zx.round {many : Int} (hmany : many ≤ 64) {S : zi} : ∀ (m : Nat) (i : Int) (rest : List UInt8) (kr : Nat) (out : List Int) (ko : Nat) {T : List Value} {r : St}, wQ (zI Try.prog O false zx.jh) T S = r → T.length = 45 →
  T.getD 20 undef = .int .i64 many → T.getD 21 undef = .int .i64 i → T.getD 7 undef = by_ kr rest → T.getD 8 undef = iz ko out → 0 ≤ i → many = i + m → Okl kr rest → rest.length ≤ 140737488355328 → Okl ko out → ko ≠ 1 → (out.length : Int) = i →
  ∃ e T', r = some (e, T', S) ∧ match wL m rest with
   | none => e = .ret ∧ T'.getD 4 undef = .slice none 0 0 ∧ T'.getD 5 undef = .slice none 0 0 ∧ T'.getD 6 undef = .int .i64 11
   | some (a, b) => e = .exit 0 ∧ T'.length = 45 ∧ T'.getD 8 undef = iz (if m = 0 then ko else 2) (out ++ a) ∧ T'.getD 7 undef = by_ (if m = 0 then kr else 2) b := by
 intro m
 induction m with
 | zero =>
  intro i rest kr out ko T r hL hT h1 h2 h3 h4 h0 hm hkr hlen hko hk1 hol
  have hTe := zx.eta hT
  rw [h1, h2, h3, h4] at hTe
  have hr : zI Try.prog O false zx.jh T S = zI Try.prog O false zx.jh T S := rfl
  have hd : ¬ i < many := by omega
  conv at hr =>
   rhs
   rw [hTe]
   simp only [zx.jh, zx.code, zx.rs, zSs, reduceIte, Nat.reduceEqDiff, Int.reduceEq, Int.reduceLT, Int.reduceLE, hd]
  exact ⟨_, _, hL.symm.trans (jq hr (by simp)), rfl, rfl, by simp, rfl⟩
 | succ m ih =>
  intro i rest kr out ko T r hL hT h1 h2 h3 h4 h0 hm hkr hlen hko hk1 hol
  have hTe := zx.eta hT
  rw [h1, h2, h3, h4] at hTe
  have hr : zI Try.prog O false zx.jh T S = zI Try.prog O false zx.jh T S := rfl
  have hd : i < many := by omega
  have g1 : ∀ S, jc Try.prog O zM.id [by_ (if kr = 2 then 1 else kr) rest] S = some (Ji rest, S) := zM.v hkr.dem (by split <;> omega) hlen
  unfold Ji at g1
  rw [wL]
  cases hsc : scan 0 0 rest with
  | none =>
   rw [hsc] at g1
   have d11 : ¬ (11 : Int) = 0 := by omega
   conv at hr =>
    rhs
    rw [hTe]
    simp only [zx.jh, zx.code, zx.rs, zSs, reduceIte, Nat.reduceEqDiff, Int.reduceEq, Int.reduceLT, Int.reduceLE, aej, hd, g1, d11]
   exact ⟨_, _, hL.symm.trans (jq hr (by simp)), rfl, rfl, rfl, rfl⟩
  | some nr =>
   obtain ⟨n, r'⟩ := nr
   rw [hsc] at g1
   obtain ⟨hn, hrl⟩ := Wn rest 0 0 (by decide) (by omega) n r' hsc
   dsimp only
   by_cases h5 : n ≤ 4611686018427387905
   ·
    have d1 : ¬ (4611686018427387905 : Int) < (n : Int) := by omega
    have w1 : IntKind.i64.wrap (n : Int) = (n : Int) := wrap_i64 (by omega) (by omega)
    have w2 : IntKind.i64.wrap ((n : Int) - 1) = (n : Int) - 1 := wrap_i64 (by omega) (by omega)
    have w3 : IntKind.i64.wrap (i + 1) = i + 1 := wrap_i64 (by omega) (by omega)
    have e1 : ∀ x S, jB Try.prog 56 56 (iz ko out) (iz 2 [x]) S = some (iz 2 (out ++ [x]), S) := fun x S => abY hko hk1 (by omega)
    conv at hr =>
     rhs
     rw [hTe]
     simp only [zx.jh, zx.code, zx.rs, zSs, reduceIte, Nat.reduceEqDiff, Int.reduceEq, Int.reduceLT, Int.reduceLE, aej, hd, g1, d1, qV, w1, w2, w3, WQ, afP, e1]
    obtain ⟨e, T', g2, g3⟩ := ih (i + 1) r' 2 (out ++ [(n : Int) - 1]) 2 ((jY hr).symm.trans hL) rfl rfl rfl rfl rfl (by omega) (by omega) Okl.own (by omega) Okl.own (by decide) (by simp; omega)
    refine ⟨e, T', g2, ?_⟩
    rw [if_pos h5]
    cases hrn : wL m r' with
    | none => rw [hrn] at g3; exact g3
    | some ab =>
     obtain ⟨a, b⟩ := ab
     rw [hrn] at g3
     obtain ⟨q1, q2, q3, q4⟩ := g3
     refine ⟨q1, q2, ?_, ?_⟩
     ·
      rw [q3]; simp
     ·
      rw [q4]; simp
   ·
    have d1 : (4611686018427387905 : Int) < (n : Int) := by omega
    conv at hr =>
     rhs
     rw [hTe]
     simp only [zx.jh, zx.code, zx.rs, zSs, reduceIte, Nat.reduceEqDiff, Int.reduceEq, Int.reduceLT, Int.reduceLE, aej, hd, g1, d1]
    refine ⟨_, _, hL.symm.trans (jq hr (by simp)), ?_⟩
    rw [if_neg h5]
    exact ⟨rfl, rfl, rfl, rfl⟩
theorem zh.round {many : Int} (hmany : many ≤ 64) {S : zi} : ∀ (m : Nat) (i : Int) (rest : List UInt8) (kr : Nat) (out : List Int) (ko : Nat) {T : List Value} {r : St}, wQ (zI Try.prog O false zh.jh) T S = r → T.length = 49 →
  T.getD 1 undef = .int .i64 many → T.getD 9 undef = .int .i64 i → T.getD 8 undef = by_ kr rest → T.getD 7 undef = iz ko out → 0 ≤ i → many = i + m → Okl kr rest → rest.length ≤ 140737488355328 → Okl ko out → ko ≠ 1 → (out.length : Int) = i →
  ∃ e T', r = some (e, T', S) ∧ match wL m rest with
   | none => e = .ret ∧ T'.getD 4 undef = .slice none 0 0 ∧ T'.getD 5 undef = .slice none 0 0 ∧ T'.getD 6 undef = .int .i64 11
   | some (a, b) => e = .exit 0 ∧ T'.length = 49 ∧ T'.getD 7 undef = iz (if m = 0 then ko else 2) (out ++ a) ∧ T'.getD 8 undef = by_ (if m = 0 then kr else 2) b := by
 intro m
 induction m with
 | zero =>
  intro i rest kr out ko T r hL hT h1 h2 h3 h4 h0 hm hkr hlen hko hk1 hol
  have hTe := zh.eta hT
  rw [h1, h2, h3, h4] at hTe
  have hr : zI Try.prog O false zh.jh T S = zI Try.prog O false zh.jh T S := rfl
  have hd : ¬ i < many := by omega
  conv at hr =>
   rhs
   rw [hTe]
   simp only [zh.jh, zh.code, zh.rs, zSs, reduceIte, Nat.reduceEqDiff, Int.reduceEq, Int.reduceLT, Int.reduceLE, hd]
  exact ⟨_, _, hL.symm.trans (jq hr (by simp)), rfl, rfl, by simp, rfl⟩
 | succ m ih =>
  intro i rest kr out ko T r hL hT h1 h2 h3 h4 h0 hm hkr hlen hko hk1 hol
  have hTe := zh.eta hT
  rw [h1, h2, h3, h4] at hTe
  have hr : zI Try.prog O false zh.jh T S = zI Try.prog O false zh.jh T S := rfl
  have hd : i < many := by omega
  have g1 : ∀ S, jc Try.prog O zn.id [by_ (if kr = 2 then 1 else kr) rest] S = some (Ji rest, S) := zn.v hkr.dem (by split <;> omega) hlen
  unfold Ji at g1
  rw [wL]
  cases hsc : scan 0 0 rest with
  | none =>
   rw [hsc] at g1
   have d11 : ¬ (11 : Int) = 0 := by omega
   conv at hr =>
    rhs
    rw [hTe]
    simp only [zh.jh, zh.code, zh.rs, zSs, reduceIte, Nat.reduceEqDiff, Int.reduceEq, Int.reduceLT, Int.reduceLE, aej, hd, g1, d11]
   exact ⟨_, _, hL.symm.trans (jq hr (by simp)), rfl, rfl, rfl, rfl⟩
  | some nr =>
   obtain ⟨n, r'⟩ := nr
   rw [hsc] at g1
   obtain ⟨hn, hrl⟩ := Wn rest 0 0 (by decide) (by omega) n r' hsc
   dsimp only
   by_cases h5 : n ≤ 4611686018427387905
   ·
    have d1 : ¬ (4611686018427387905 : Int) < (n : Int) := by omega
    have w1 : IntKind.i64.wrap (n : Int) = (n : Int) := wrap_i64 (by omega) (by omega)
    have w2 : IntKind.i64.wrap ((n : Int) - 1) = (n : Int) - 1 := wrap_i64 (by omega) (by omega)
    have w3 : IntKind.i64.wrap (i + 1) = i + 1 := wrap_i64 (by omega) (by omega)
    have e1 : ∀ x S, jB Try.prog 56 56 (iz ko out) (iz 2 [x]) S = some (iz 2 (out ++ [x]), S) := fun x S => abY hko hk1 (by omega)
    conv at hr =>
     rhs
     rw [hTe]
     simp only [zh.jh, zh.code, zh.rs, zSs, reduceIte, Nat.reduceEqDiff, Int.reduceEq, Int.reduceLT, Int.reduceLE, aej, hd, g1, d1, qV, w1, w2, w3, WQ, afP, e1]
    obtain ⟨e, T', g2, g3⟩ := ih (i + 1) r' 2 (out ++ [(n : Int) - 1]) 2 ((jY hr).symm.trans hL) rfl rfl rfl rfl rfl (by omega) (by omega) Okl.own (by omega) Okl.own (by decide) (by simp; omega)
    refine ⟨e, T', g2, ?_⟩
    rw [if_pos h5]
    cases hrn : wL m r' with
    | none => rw [hrn] at g3; exact g3
    | some ab =>
     obtain ⟨a, b⟩ := ab
     rw [hrn] at g3
     obtain ⟨q1, q2, q3, q4⟩ := g3
     refine ⟨q1, q2, ?_, ?_⟩
     ·
      rw [q3]; simp
     ·
      rw [q4]; simp
   ·
    have d1 : (4611686018427387905 : Int) < (n : Int) := by omega
    conv at hr =>
     rhs
     rw [hTe]
     simp only [zh.jh, zh.code, zh.rs, zSs, reduceIte, Nat.reduceEqDiff, Int.reduceEq, Int.reduceLT, Int.reduceLE, aej, hd, g1, d1]
    refine ⟨_, _, hL.symm.trans (jq hr (by simp)), ?_⟩
    rw [if_neg h5]
    exact ⟨rfl, rfl, rfl, rfl⟩
theorem zx.v {k : Nat} {l : List UInt8} {many : Int} (hv : Okl k l) (hk : k ≠ 2) (hlen : l.length ≤ 140737488355328) (S : zi) : jc Try.prog O zx.id [by_ k l, .int .i64 many] S = some (vw 0 (if k = 0 then 0 else 2) many l, S) := by
 obtain ⟨T, hTe⟩ : ∃ T, T = (by_ k l :: .int .i64 many :: undef :: undef :: undef :: undef :: undef :: undef :: undef :: undef :: undef :: undef :: undef :: undef :: undef :: undef :: undef :: undef :: undef :: undef :: undef :: undef :: undef :: undef :: undef :: undef :: undef :: undef :: undef :: undef :: undef :: undef :: undef :: undef :: undef :: undef :: undef :: undef :: undef :: undef :: undef :: undef :: undef :: undef :: undef :: []) := ⟨_, rfl⟩
 have hr : zI Try.prog O false zx.code T S = zI Try.prog O false zx.code T S := rfl
 have c1 : ∀ S, jc Try.prog O 43 [by_ k l] S = some (by_ (if k = 0 then 0 else 2) l, S) := slices_Clone.v hv hk hlen
 unfold vw
 by_cases h1 : many < 0
 ·
  conv at hr =>
   rhs
   rw [hTe]
   simp only [zx.code, zx.rs, zSs, reduceIte, Nat.reduceEqDiff, Int.reduceEq, Int.reduceLT, Int.reduceLE, h1]
  rw [hTe] at hr
  rw [if_pos (.inl h1)]
  exact zx.runs hr (.inr rfl) (by simp only [List.getD_cons_succ, List.getD_cons_zero, zO, zJ, zD, zG, zK]) (by simp only [List.getD_cons_succ, List.getD_cons_zero, zO, zJ, zD, zG, zK]) (by simp only [List.getD_cons_succ, List.getD_cons_zero, zO, zJ, zD, zG, zK])
 ·
  by_cases h2 : 64 < many
  ·
   conv at hr =>
    rhs
    rw [hTe]
    simp only [zx.code, zx.rs, zSs, reduceIte, Nat.reduceEqDiff, Int.reduceEq, Int.reduceLT, Int.reduceLE, h1, h2]
   rw [hTe] at hr
   rw [if_pos (.inr h2)]
   exact zx.runs hr (.inr rfl) (by simp only [List.getD_cons_succ, List.getD_cons_zero, zO, zJ, zD, zG, zK]) (by simp only [List.getD_cons_succ, List.getD_cons_zero, zO, zJ, zD, zG, zK]) (by simp only [List.getD_cons_succ, List.getD_cons_zero, zO, zJ, zD, zG, zK])
  ·
   rw [if_neg (by omega)]
   conv at hr =>
    rhs
    rw [hTe]
    simp only [zx.code, zx.rs, zSs, reduceIte, Nat.reduceEqDiff, Int.reduceEq, Int.reduceLT, Int.reduceLE, h1, h2, if_neg hk, c1]
   generalize hL : wQ (zI Try.prog O false zx.jh) _ _ = r at hr
   have okr : Okl (if k = 0 then 0 else 2) l := ⟨by split <;> omega, fun h => by split at h <;> first | (rename_i hp; exact hv.nil hp) | omega⟩
   obtain ⟨e, T', rfl, g⟩ := zx.round (many := many) (by omega) many.toNat 0 l (if k = 0 then 0 else 2) [] 0 hL rfl rfl rfl rfl rfl (by omega) (by omega) okr hlen Okl.none (by decide) rfl
   cases hrn : wL many.toNat l with
   | none =>
    rw [hrn] at g
    obtain ⟨rfl, g2, g3, g4⟩ := g
    conv at hr =>
     rhs
     simp only [zSs, reduceIte, Nat.reduceEqDiff, Int.reduceEq, Int.reduceLT, Int.reduceLE]
    rw [hTe] at hr
    have hrun := zx.runs hr (.inr rfl) (by rw [g2]; rfl) (by rw [g3]; rfl) (by rw [g4]; rfl)
    rw [g2, g3, g4] at hrun
    exact hrun
   | some ab =>
    obtain ⟨a, b⟩ := ab
    rw [hrn] at g
    obtain ⟨rfl, g2, g3, g4⟩ := g
    have hTe' := zx.eta g2
    rw [g3, g4] at hTe'
    have hz : (many.toNat = 0) ↔ (many = 0) := by omega
    simp only [hz, List.nil_append] at hTe'
    conv at hr =>
     rhs
     rw [hTe']
     simp only [zx.code, zx.rs, zSs, reduceIte, Nat.reduceEqDiff, Int.reduceEq, Int.reduceLT, Int.reduceLE]
    rw [hTe] at hr
    exact zx.runs hr (.inr rfl) (by simp only [List.getD_cons_succ, List.getD_cons_zero, zO, zJ, zD, zG, zK]) (by simp only [List.getD_cons_succ, List.getD_cons_zero, zO, zJ, zD, zG, zK]) (by simp only [List.getD_cons_succ, List.getD_cons_zero, zO, zJ, zD, zG, zK])
theorem zh.v {k : Nat} {l : List UInt8} {many : Int} (hv : Okl k l) (hk : k ≠ 2) (hlen : l.length ≤ 140737488355328) (S : zi) : jc Try.prog O zh.id [by_ k l, .int .i64 many] S = some (vw 2 2 many l, S) := by
 obtain ⟨T, hTe⟩ : ∃ T, T = (by_ k l :: .int .i64 many :: undef :: undef :: undef :: undef :: undef :: undef :: undef :: undef :: undef :: undef :: undef :: undef :: undef :: undef :: undef :: undef :: undef :: undef :: undef :: undef :: undef :: undef :: undef :: undef :: undef :: undef :: undef :: undef :: undef :: undef :: undef :: undef :: undef :: undef :: undef :: undef :: undef :: undef :: undef :: undef :: undef :: undef :: undef :: undef :: undef :: undef :: undef :: []) := ⟨_, rfl⟩
 have hr : zI Try.prog O false zh.code T S = zI Try.prog O false zh.code T S := rfl
 have c1 := fun S => abV hv hlen (S := S)
 unfold vw
 by_cases h1 : many < 0
 ·
  conv at hr =>
   rhs
   rw [hTe]
   simp only [zh.code, zh.rs, zSs, reduceIte, Nat.reduceEqDiff, Int.reduceEq, Int.reduceLT, Int.reduceLE, h1]
  rw [hTe] at hr
  rw [if_pos (.inl h1)]
  exact zh.runs hr (.inr rfl) (by simp only [List.getD_cons_succ, List.getD_cons_zero, zO, zJ, zD, zG, zK]) (by simp only [List.getD_cons_succ, List.getD_cons_zero, zO, zJ, zD, zG, zK]) (by simp only [List.getD_cons_succ, List.getD_cons_zero, zO, zJ, zD, zG, zK])
 ·
  by_cases h2 : 64 < many
  ·
   conv at hr =>
    rhs
    rw [hTe]
    simp only [zh.code, zh.rs, zSs, reduceIte, Nat.reduceEqDiff, Int.reduceEq, Int.reduceLT, Int.reduceLE, h1, h2]
   rw [hTe] at hr
   rw [if_pos (.inr h2)]
   exact zh.runs hr (.inr rfl) (by simp only [List.getD_cons_succ, List.getD_cons_zero, zO, zJ, zD, zG, zK]) (by simp only [List.getD_cons_succ, List.getD_cons_zero, zO, zJ, zD, zG, zK]) (by simp only [List.getD_cons_succ, List.getD_cons_zero, zO, zJ, zD, zG, zK])
  ·
   rw [if_neg (by omega)]
   conv at hr =>
    rhs
    rw [hTe]
    simp only [zh.code, zh.rs, zSs, reduceIte, Nat.reduceEqDiff, Int.reduceEq, Int.reduceLT, Int.reduceLE, h1, h2, if_neg hk, bz0, bb0, c1]
   generalize hL : wQ (zI Try.prog O false zh.jh) _ _ = r at hr
   obtain ⟨e, T', rfl, g⟩ := zh.round (many := many) (by omega) many.toNat 0 l 2 [] 2 hL rfl rfl rfl rfl rfl (by omega) (by omega) Okl.own hlen Okl.own (by decide) rfl
   cases hrn : wL many.toNat l with
   | none =>
    rw [hrn] at g
    obtain ⟨rfl, g2, g3, g4⟩ := g
    conv at hr =>
     rhs
     simp only [zSs, reduceIte, Nat.reduceEqDiff, Int.reduceEq, Int.reduceLT, Int.reduceLE]
    rw [hTe] at hr
    have hrun := zh.runs hr (.inr rfl) (by rw [g2]; rfl) (by rw [g3]; rfl) (by rw [g4]; rfl)
    rw [g2, g3, g4] at hrun
    exact hrun
   | some ab =>
    obtain ⟨a, b⟩ := ab
    rw [hrn] at g
    obtain ⟨rfl, g2, g3, g4⟩ := g
    have hTe' := zh.eta g2
    rw [g3, g4] at hTe'
    simp only [ite_self, List.nil_append] at hTe'
    conv at hr =>
     rhs
     rw [hTe']
     simp only [zh.code, zh.rs, zSs, reduceIte, Nat.reduceEqDiff, Int.reduceEq, Int.reduceLT, Int.reduceLE]
    rw [hTe] at hr
    simp only [ite_self]
    exact zh.runs hr (.inr rfl) (by simp only [List.getD_cons_succ, List.getD_cons_zero, zO, zJ, zD, zG, zK]) (by simp only [List.getD_cons_succ, List.getD_cons_zero, zO, zJ, zD, zG, zK]) (by simp only [List.getD_cons_succ, List.getD_cons_zero, zO, zJ, zD, zG, zK])
end Go.Proofs.Ytblpnklfimkfoaa
namespace Go.Proofs.Ytblpnklfimkfoaa
open Go.Abs
def Few (n : Int) : Prop := -1 ≤ n ∧ n ≤ 4611686018427387904
theorem vH : ∀ (m : Nat) (l : List UInt8) (a : List Int) (b : List UInt8), wL m l = some (a, b) ↔ a.length = m ∧ l = encs a ++ b ∧ ∀ n ∈ a, Few n := by
 intro m
 induction m with
 | zero =>
  intro l a b
  constructor
  ·
   intro h; cases h; exact ⟨rfl, rfl, fun n h => by cases h⟩
  ·
   rintro ⟨h1, h2, _⟩
   have : a = [] := List.length_eq_zero_iff.mp h1
   subst this
   rw [h2]; rfl
 | succ m ih =>
  intro l a b
  rw [wL]
  constructor
  ·
   intro h
   cases hsc : scan 0 0 l with
   | none => rw [hsc] at h; cases h
   | some nr =>
    obtain ⟨n, r⟩ := nr
    rw [hsc] at h
    dsimp only at h
    split at h
    ·
     rename_i hn
     cases hr : wL m r with
     | none => rw [hr] at h; cases h
     | some ab =>
      obtain ⟨a', b'⟩ := ab
      rw [hr] at h
      obtain ⟨h1, h2, h3⟩ := (ih r a' b').mp hr
      cases h
      obtain ⟨f1, f2⟩ := QW hsc
      refine ⟨by simp [h1], ?_, fun x hx => ?_⟩
      ·
       rw [f1, h2]
       have : ((n : Int) - 1 + 1).toNat = n := by omega
       simp [encs, this]
      ·
       rcases List.mem_cons.1 hx with rfl | hx
       ·
        unfold Few; omega
       ·
        exact h3 x hx
    ·
     cases h
  ·
   rintro ⟨h1, h2, h3⟩
   cases a with
   | nil => simp at h1
   | cons x a =>
    have hx : Few x := h3 x (by simp)
    unfold Few at hx
    have he : encs (x :: a) ++ b = enc (x + 1).toNat ++ (encs a ++ b) := by simp [encs]
    rw [h2, he, XT (by omega)]
    dsimp only
    rw [if_pos (by omega), (ih (encs a ++ b) a b).mpr ⟨by simpa using h1, rfl, fun n hn => h3 n (by simp [hn])⟩]
    have : ((x + 1).toNat : Int) - 1 = x := by omega
    simp only [this]
theorem Vw {m : Nat} {l : List UInt8} {a : List Int} {b : List UInt8} (h : wL m l = some (a, b)) : a.length = m ∧ b.length ≤ l.length := by
 obtain ⟨h1, h2, _⟩ := (vH m l a b).mp h
 exact ⟨h1, by rw [h2]; simp⟩
theorem XA {k : Nat} {l : List Int} (h : l.length ≤ 64) (h1 : ∀ n ∈ l, -1 ≤ n) (h0 : l ≠ []) : aae k l = .tuple #[by_ 2 (encs l), .int .i64 0] := by
 unfold aae
 rw [if_neg (by rintro (h2 | ⟨n, h2, h3⟩); { omega }; { have := h1 n h2; omega }), if_neg h0]
theorem Wj {k0 k1 m : Nat} {l : List UInt8} (h0 : 0 < m) (h : m ≤ 64) : vw k0 k1 m l = match wL m l with
  | some (a, b) => .tuple #[iz 2 a, by_ 2 b, .int .i64 0]
  | none => .tuple #[.slice none 0 0, .slice none 0 0, .int .i64 11] := by
 unfold vw
 rw [if_neg (by omega), Int.toNat_natCast]
 have : (m : Int) ≠ 0 := by omega
 simp only [if_neg this]
 all_goals (cases wL m l <;> rfl)
end Go.Proofs.Ytblpnklfimkfoaa
namespace Go.Abs
open Go.RowKit
def gv (x b : Bool) (v : Value) : Value := if x = b then v else undef
theorem aeg (x b : Bool) (v : Value) : dem (gv x b v) = gv x b (dem v) := by
 unfold gv; split
 ·
  rfl
 ·
  exact JL
theorem JK {R : Type} {K : Value → zi → Option R} {p : Zo K} {m : M Value} {S : zi} (x b : Bool) : gdK (.bool x) b m S K p = if x = b then zW (m S) K p else K undef S := by
 cases x <;> cases b <;> rfl
section
variable {R : Type} {K : Value → zi → Option R} {p : Zo K} {S : zi} {x b c y z : Bool} {m m' : M Value} {P : Program} {O : Ora} {t : TypeId} {v w u : Value}
theorem jV (h : x = b → m S = m' S) : gdK (.bool x) b m S K p = gdK (.bool x) b m' S K p := by
 rw [JK, JK]
 split
 ·
  rename_i hx; rw [h hx]
 ·
  rfl
theorem jE (h : m S = some (v, S)) : gdK (.bool x) b m S K p = K (gv x b v) S := by
 rw [JK]
 unfold gv
 split
 ·
  rw [h]; rfl
 ·
  rfl
theorem xZ (h : x = b) : gv x b v = v := if_pos h
theorem aam {fx : Bool} : gdK (.bool x) b (jw P fx t (gv x b v)) S K p = gdK (.bool x) b (jw P fx t v) S K p := jV fun h => by rw [xZ h]
theorem Jf {f : Nat} : gdK (.bool x) b (jf P t (gv x b v) f) S K p = gdK (.bool x) b (jf P t v f) S K p := jV fun h => by rw [xZ h]
theorem Jt : gdK (.bool x) b (qp (gv x b v)) S K p = gdK (.bool x) b (qp v) S K p := jV fun h => by rw [xZ h]
theorem aeb : gdK (.bool x) b (qM P t (gv x b v)) S K p = gdK (.bool x) b (qM P t v) S K p := jV fun h => by rw [xZ h]
theorem Zv : gdK (.bool x) b (jk P t (gv x b v) w) S K p = gdK (.bool x) b (jk P t v w) S K p := jV fun h => by rw [xZ h]
theorem Zm : gdK (.bool x) b (jk P t v (gv x b w)) S K p = gdK (.bool x) b (jk P t v w) S K p := jV fun h => by rw [xZ h]
theorem afD {op : UnOp} : gdK (.bool x) b (aUn P op (gv x b v)) S K p = gdK (.bool x) b (aUn P op v) S K p := jV fun h => by rw [xZ h]
theorem aaz {hp dr : Bool} {t2 : TypeId} : gdK (.bool x) b (jK P hp dr t t2 (gv x b v)) S K p = gdK (.bool x) b (jK P hp dr t t2 v) S K p := jV fun h => by rw [xZ h]
theorem acp {op : BinOp} : gdK (.bool x) b (jJ P op t (gv x b v) w) S K p = gdK (.bool x) b (jJ P op t v w) S K p := jV fun h => by rw [xZ h]
theorem aaU {op : BinOp} : gdK (.bool x) b (jJ P op t v (gv x b w)) S K p = gdK (.bool x) b (jJ P op t v w) S K p := jV fun h => by rw [xZ h]
theorem XI {g : FuncId} {l : List Value} : gdK (.bool x) b (jc P O g (gv x b v :: l)) S K p = gdK (.bool x) b (jc P O g (v :: l)) S K p := jV fun h => by rw [xZ h]
theorem XH {g : FuncId} {l : List Value} : gdK (.bool x) b (jc P O g (u :: gv x b v :: l)) S K p = gdK (.bool x) b (jc P O g (u :: v :: l)) S K p := jV fun h => by rw [xZ h]
theorem QG {g : FuncId} {l : List Value} : gdK (.bool x) b (acU (jc P O) g (gv x b v :: l)) S K p = gdK (.bool x) b (acU (jc P O) g (v :: l)) S K p := jV fun h => by rw [xZ h]
theorem Kz {g : FuncId} {l : List Value} : gdK (.bool x) b (acU (jc P O) g (u :: gv x b v :: l)) S K p = gdK (.bool x) b (acU (jc P O) g (u :: v :: l)) S K p := jV fun h => by rw [xZ h]
theorem aed : gdK (.bool x) b (ret v) S K p = K (gv x b v) S := jE rfl
theorem afG : gv x b (gv x b v) = gv x b v := by unfold gv; split <;> rfl
theorem X0 : gdK (gv x c (.bool y)) b m S K p = gdK (.bool ((x == c) && (y == b))) true m S K p := by
 unfold gv
 cases x <;> cases c <;> cases y <;> cases b <;> rfl
theorem aaN {fx : Bool} : gdK (.bool ((x == c) && (y == b))) true (jw P fx t (gv x c v)) S K p = gdK (.bool ((x == c) && (y == b))) true (jw P fx t v) S K p := jV fun h => by rw [xZ (by simp at h; exact h.1)]
theorem abn {op : BinOp} : gdK (.bool ((x == c) && (y == b))) true (jJ P op t (gv x c v) w) S K p = gdK (.bool ((x == c) && (y == b))) true (jJ P op t v w) S K p := jV fun h => by rw [xZ (by simp at h; exact h.1)]
theorem abK {op : BinOp} : gdK (.bool ((x == c) && (y == b))) true (jJ P op t v (gv x c w)) S K p = gdK (.bool ((x == c) && (y == b))) true (jJ P op t v w) S K p := jV fun h => by rw [xZ (by simp at h; exact h.1)]
theorem adT : gdK (.bool x) c (wZ (gv x c (.bool y)) (.bool true) (gv ((x == c) && (y == false)) true (.bool z))) S K p = K (gv x c (.bool (y || z))) S := by
 unfold gv
 cases x <;> cases c <;> cases y <;> cases z <;> rfl
theorem aa5 : gdK (.bool x) c (wZ (gv x c (.bool y)) (gv ((x == c) && (y == true)) true (.bool z)) (.bool false)) S K p = K (gv x c (.bool (y && z))) S := by
 unfold gv
 cases x <;> cases c <;> cases y <;> cases z <;> rfl
theorem afB : (if x = true then Value.bool true else gv x false (.bool y)) = .bool (x || y) := by cases x <;> rfl
theorem adP : (if x = true then gv x true (.bool y) else Value.bool false) = .bool (x && y) := by cases x <;> rfl
theorem afX : gv true true v = v := rfl
theorem afx : gv false false v = v := rfl
theorem af7 : gv true false v = undef := rfl
theorem afz : gv false true v = undef := rfl
theorem aem {k : IntKind} {a d : Int} : gdK (.bool x) b (jJ P .lss t (.int k a) (.int k d)) S K p = K (gv x b (.bool (decide (a < d)))) S := jE (YL k a d)
theorem aex {k : IntKind} {a d : Int} : gdK (.bool x) b (jJ P .leq t (.int k a) (.int k d)) S K p = K (gv x b (.bool (decide (a ≤ d)))) S := jE (Qc k a d)
theorem adS {k : IntKind} {a d : Int} : gdK (.bool x) b (jJ P .gtr t (.int k a) (.int k d)) S K p = K (gv x b (.bool (decide (d < a)))) S := jE (Y3 k a d)
theorem adM {k : IntKind} {a d : Int} : gdK (.bool x) b (jJ P .geq t (.int k a) (.int k d)) S K p = K (gv x b (.bool (decide (d ≤ a)))) S := jE (Qe k a d)
theorem ad8 {k : IntKind} {a d : Int} : gdK (.bool x) b (jJ P .eql t (.int k a) (.int k d)) S K p = K (gv x b (.bool (decide (a = d)))) S := jE (Qd k a d)
theorem aev {k : IntKind} {a d : Int} : gdK (.bool x) b (jJ P .neq t (.int k a) (.int k d)) S K p = K (gv x b (.bool (!decide (a = d)))) S := jE (YB k a d)
theorem adX {k : IntKind} {a d : Int} : gdK (.bool x) b (jJ P .add t (.int k a) (.int k d)) S K p = K (gv x b (.int k (k.wrap (a + d)))) S := jE (YW k a d)
theorem aeh {k : IntKind} {a d : Int} : gdK (.bool x) b (jJ P .sub t (.int k a) (.int k d)) S K p = K (gv x b (.int k (k.wrap (a - d)))) S := jE (Yt k a d)
theorem aec : gdK (.bool x) b (aUn P .not (.bool y)) S K p = K (gv x b (.bool (!y))) S := jE (by cases y <;> rfl)
end
theorem gvw : type_of% (And.intro @aeg (And.intro @aam (And.intro @Jf (And.intro @Jt (And.intro @aeb (And.intro @Zv (And.intro @Zm (And.intro @afD (And.intro @aaz (And.intro @acp (And.intro @aaU (And.intro @XI (And.intro @XH (And.intro @QG (And.intro @Kz (And.intro @aed (And.intro @afG (And.intro @X0 (And.intro @aaN (And.intro @abn (And.intro @abK (And.intro @adT (And.intro @aa5 (And.intro @afB (And.intro @adP (And.intro @afX (And.intro @afx (And.intro @af7 (And.intro @afz (And.intro @aem (And.intro @aex (And.intro @adS (And.intro @adM (And.intro @ad8 (And.intro @aev (And.intro @adX (And.intro @aeh @aec))))))))))))))))))))))))))))))))))))) :=
 And.intro @aeg (And.intro @aam (And.intro @Jf (And.intro @Jt (And.intro @aeb (And.intro @Zv (And.intro @Zm (And.intro @afD (And.intro @aaz (And.intro @acp (And.intro @aaU (And.intro @XI (And.intro @XH (And.intro @QG (And.intro @Kz (And.intro @aed (And.intro @afG (And.intro @X0 (And.intro @aaN (And.intro @abn (And.intro @abK (And.intro @adT (And.intro @aa5 (And.intro @afB (And.intro @adP (And.intro @afX (And.intro @afx (And.intro @af7 (And.intro @afz (And.intro @aem (And.intro @aex (And.intro @adS (And.intro @adM (And.intro @ad8 (And.intro @aev (And.intro @adX (And.intro @aeh @aec))))))))))))))))))))))))))))))))))))
end Go.Abs
namespace Go.Proofs.Ytblpnklfimkfoaa
open Go.Abs
structure wU where
 kind : Int
 index : Int
 view : Int
 value : Int
 k : Nat
 txt : List UInt8
def fR (r : wU) : List Value := [.int .i64 r.kind, .int .i64 r.index, .int .i64 r.view, .int .i64 r.value, by_ r.k r.txt]
abbrev rv (r : wU) : Value := .agg [Value.int .i64 r.kind, .int .i64 r.index, .int .i64 r.view, .int .i64 r.value, by_ r.k r.txt].toArray
def Big (n : Int) : Prop := -9223372036854775808 ≤ n ∧ n < 9223372036854775808
structure wU.Ok (r : wU) : Prop where
 okl : Okl r.k r.txt
 ne : r.k ≠ 2
 len : r.txt.length ≤ 140737488351232
 kind : Big r.kind
 index : Big r.index
 view : Big r.view
 value : Big r.value
abbrev rz : wU := ⟨0, 0, 0, 0, 0, []⟩
theorem Kw : rz.Ok := by
 have z : Big 0 := ⟨by omega, by omega⟩
 exact ⟨Okl.none, by decide, by simp, z, z, z, z⟩
theorem ad7 (r : wU) : (fR r).length = 5 := rfl
theorem xk {r : wU} {d : Nat} (h : r.k ≤ 2) : jy (d + 6) (rv r) = true := by
 have h1 : jy (d + 5) (by_ r.k r.txt) = true := Jq (d := d + 1) h fun _ _ => rfl
 refine abC ?_
 simp only [List.all_cons, List.all_nil, h1, Bool.and_true]
 rfl
theorem aeM (r : wU) : (fR r).all (·.oneCell') = true := by
 simp only [fR, List.all_cons, List.all_nil, afe, agc, Bool.and_true]
theorem ab4 (r : wU) : okq 3 (rv r) = true := by
 have h : okq 2 (by_ r.k r.txt) = true := by unfold by_ vs sv; split <;> rfl
 simp only [okq, List.toList_toArray, List.all_cons, List.all_nil, h, Bool.and_true]
section
variable {S : zi} {q e : Nat} {m : wU} {own : Own}
theorem Vx (h : S.get q = some (.cells (fR m) own e)) : jw Try.prog false 3 (.pointer (some ⟨q, 0 + 0, none⟩)) S = some (.int .i64 m.kind, S) := Jm (t := 3) (o := 0 + 0) h aaT rfl
theorem Qm (h : S.get q = some (.cells (fR m) own e)) : jw Try.prog false 3 (.pointer (some ⟨q, 0 + 1, none⟩)) S = some (.int .i64 m.index, S) := Jm (t := 3) (o := 0 + 1) h aaT rfl
theorem QN (h : S.get q = some (.cells (fR m) own e)) : jw Try.prog false 3 (.pointer (some ⟨q, 0 + 2, none⟩)) S = some (.int .i64 m.view, S) := Jm (t := 3) (o := 0 + 2) h aaT rfl
theorem Ky (h : S.get q = some (.cells (fR m) own e)) : jw Try.prog false 3 (.pointer (some ⟨q, 0 + 3, none⟩)) S = some (.int .i64 m.value, S) := Jm (t := 3) (o := 0 + 3) h aaT rfl
theorem QE (h : S.get q = some (.cells (fR m) own e)) (hk : m.k ≠ 2) : jw Try.prog false 26 (.pointer (some ⟨q, 0 + 4, none⟩)) S = some (by_ m.k m.txt, S) := by
 rw [YT (o := 0 + 4) (v := by_ m.k m.txt) h xR rfl (fun l h => by unfold by_ vs sv at h; split at h <;> cases h), ab1, if_neg hk]
theorem JU (h : S.get q = some (.cells (fR m) own e)) (hk : m.k ≠ 2) : jw Try.prog false 28 (.pointer (some ⟨q, 0, none⟩)) S = some (rv m, S) := by
 rw [Vs h]
 simp only [ac4, afk, if_neg hk]
end
abbrev VK (m : wU) : zi := zi.empty.push (.cells (fR m) (.own []) 0)
theorem ad9 (m : wU) : Xd (rv m) zi.empty = some (.pointer (some ⟨0, 0, none⟩), VK m) := rfl
theorem vM (m : wU) : (VK m).get 0 = some (.cells (fR m) (.own []) 0) := rfl
abbrev ZK (a b : wU) : zi := (VK a).push (.cells (fR b) (.own []) 0)
theorem agr (a b : wU) : Xd (rv b) (VK a) = some (.pointer (some ⟨1, 0, none⟩), ZK a b) := by kernel_rfl
theorem KC (a b : wU) : (ZK a b).get 0 = some (.cells (fR a) (.own []) 0) := by kernel_rfl
theorem Xj (a b : wU) : (ZK a b).get 1 = some (.cells (fR b) (.own []) 0) := by kernel_rfl
theorem adb (S : zi) : qc Try.prog 28 S = some (.pointer (some ⟨S.next, 0, none⟩), S.push (.cells (fR rz) (.own []) 0)) := by kernel_rfl
abbrev acr (S : zi) (q : Nat) (x : wU) : zi := (S.kills []).set q (.cells (fR x) (.own []) 0)
theorem yH (S : zi) (q : Nat) (x : wU) : (acr S q x).get q = some (.cells (fR x) (.own []) 0) := by rw [zi.jF, if_pos rfl]
theorem KN {S : zi} {q k : Nat} {x : wU} (h : k ≠ q) : (acr S q x).get k = S.get k := by rw [zi.jF, if_neg h]; rfl
theorem adw {S : zi} {q : Nat} {x : wU} (h : S.get q = some (.cells (fR x) (.own []) 0)) (y : wU) : yU Try.prog 28 (.pointer (some ⟨q, 0, none⟩)) (rv y) S = some (undef, acr S q y) := by
 rw [Kv (x := rv y) (n := 5) h kW (by rw [vg]; rfl) (by rw [vg, List.toList_toArray]; exact aeM y) (by simp [fR]), vg, List.toList_toArray]; rfl
theorem KJ (m : wU) (S : zi) : ∃ S2, yU Try.prog 28 (.pointer (some ⟨S.next, 0, none⟩)) (rv m) (S.push (.cells (fR rz) (.own []) 0)) = some (undef, S2) ∧ S2.get S.next = some (.cells (fR m) (.own []) 0) ∧ Ext S S2 ∧ S.next < S2.next :=
 aaL S (by rw [vg]; rfl) kW rfl (aeM m)
def QB (n : Int) : Bool := decide (-1 ≤ n) && decide (n ≤ 1073741824)
def kR (r : wU) : List Int := [r.kind, r.index, r.view, r.value]
def jR (r : wU) : Bool := (kR r).all QB && decide ((r.txt.length : Int) ≤ 1024)
theorem Jo {n : Int} : QB n = true ↔ -1 ≤ n ∧ n ≤ 1073741824 := by simp [QB]
theorem qU {r : wU} (h : jR r = true) : (∀ n ∈ kR r, -1 ≤ n ∧ n ≤ 1073741824) ∧ r.txt.length ≤ 1024 := by
 unfold jR at h
 rw [Bool.and_eq_true, List.all_eq_true, decide_eq_true_eq] at h
 exact ⟨fun n hn => Jo.1 (h.1 n hn), by omega⟩
theorem zZ.v (n : Int) (S : zi) : jc Try.prog O zZ.id [.int .i64 n] S = some (.bool (QB n), S) := by
 obtain ⟨T, hTe⟩ : ∃ T, T = (.int .i64 n :: undef :: undef :: undef :: undef :: undef :: undef :: undef :: undef :: []) := ⟨_, rfl⟩
 have hr : zI Try.prog O false zZ.code T S = zI Try.prog O false zZ.code T S := rfl
 conv at hr =>
  rhs
  rw [hTe]
  simp only [zZ.code, zZ.rs, zSs, reduceIte, Nat.reduceEqDiff, Int.reduceEq, Int.reduceLT, Int.reduceLE, gvw]
 rw [hTe] at hr
 exact zZ.runs hr (.inr rfl)
theorem bs4 (a b c d : Int) (S : zi) : jg Try.prog 56 4 [(0, .int .i64 a), (1, .int .i64 b), (2, .int .i64 c), (3, .int .i64 d)] S = some (iz 2 [a, b, c, d], S) := by kernel_rfl
theorem zC.round {k : Nat} {l : List Int} (hk : Okl k l) (hl : l.length = 4) {S : zi} : ∀ (suf pre : List Int) {T : List Value} {r : St}, wQ (zI Try.prog O false zC.jh) T S = r → T.length = 30 →
  T.getD 13 undef = iz k l → T.getD 14 undef = .int .i64 4 → T.getD 15 undef = .int .i64 pre.length → l = pre ++ suf →
  ∃ e T', r = some (e, T', S) ∧ if suf.all QB then e = .exit 0 ∧ T'.length = 30 ∧ T'.getD 1 undef = T.getD 1 undef else e = .ret ∧ T'.getD 2 undef = .bool false := by
 intro suf
 induction suf with
 | nil =>
  intro pre T r hL hT h13 h14 h15 hpre
  have hTe := zC.eta hT
  rw [h13, h14, h15] at hTe
  have hr : zI Try.prog O false zC.jh T S = zI Try.prog O false zC.jh T S := rfl
  have d1 : ¬ (pre.length : Int) < 4 := by rw [hpre] at hl; simp at hl; omega
  conv at hr =>
   rhs
   rw [hTe]
   simp only [zC.jh, zC.code, zC.rs, zSs, reduceIte, Nat.reduceEqDiff, Int.reduceEq, Int.reduceLT, Int.reduceLE, d1]
  exact ⟨_, _, hL.symm.trans (jq hr (by simp)), rfl, rfl, rfl⟩
 | cons x suf ih =>
  intro pre T r hL hT h13 h14 h15 hpre
  have hTe := zC.eta hT
  rw [h13, h14, h15] at hTe
  have hr : zI Try.prog O false zC.jh T S = zI Try.prog O false zC.jh T S := rfl
  have d1 : (pre.length : Int) < 4 := by rw [hpre] at hl; simp at hl; omega
  have e1 : ∀ S, jk Try.prog 56 (iz k l) (.int .i64 pre.length) S = some (EP [.int .i64 x], S) := fun S => by
   rw [ac2 hk (by omega) (by omega)]; rw [Ju hpre]
  have wi : IntKind.i64.wrap ((pre.length : Int) + 1) = ((pre ++ [x]).length : Int) := by rw [wrap_i64 (by omega) (by omega)]; simp
  rw [List.all_cons]
  by_cases h1 : x < -1
  ·
   have hx : QB x = false := by rw [Bool.eq_false_iff]; intro h; have := Jo.1 h; omega
   rw [hx, Bool.false_and]
   conv at hr =>
    rhs
    rw [hTe]
    simp only [zC.jh, zC.code, zC.rs, zSs, reduceIte, Nat.reduceEqDiff, Int.reduceEq, Int.reduceLT, Int.reduceLE, d1, e1, qJ, decide_eq_true h1]
   exact ⟨_, _, hL.symm.trans (jq hr (by simp)), rfl, rfl⟩
  ·
   by_cases h2 : 1073741824 < x
   ·
    have hx : QB x = false := by rw [Bool.eq_false_iff]; intro h; have := Jo.1 h; omega
    rw [hx, Bool.false_and]
    conv at hr =>
     rhs
     rw [hTe]
     simp only [zC.jh, zC.code, zC.rs, zSs, reduceIte, Nat.reduceEqDiff, Int.reduceEq, Int.reduceLT, Int.reduceLE, d1, e1, qJ, decide_eq_false h1, decide_eq_true h2]
    exact ⟨_, _, hL.symm.trans (jq hr (by simp)), rfl, rfl⟩
   ·
    have hx : QB x = true := Jo.2 (by omega)
    rw [hx, Bool.true_and]
    conv at hr =>
     rhs
     rw [hTe]
     simp only [zC.jh, zC.code, zC.rs, zSs, reduceIte, Nat.reduceEqDiff, Int.reduceEq, Int.reduceLT, Int.reduceLE, d1, e1, qJ, decide_eq_false h1, decide_eq_false h2, wi]
    obtain ⟨e, T', g1, g2⟩ := ih (pre ++ [x]) ((jY hr).symm.trans hL) rfl rfl rfl rfl (by simp [hpre])
    exact ⟨e, T', g1, g2⟩
theorem zC.v {r : wU} (hr0 : r.Ok) (S : zi) : jc Try.prog O zC.id [rv r] S = some (.bool (jR r), S) := by
 obtain ⟨T, hTe⟩ : ∃ T, T = (rv r :: undef :: undef :: undef :: undef :: undef :: undef :: undef :: undef :: undef :: undef :: undef :: undef :: undef :: undef :: undef :: undef :: undef :: undef :: undef :: undef :: undef :: undef :: undef :: undef :: undef :: undef :: undef :: undef :: undef :: []) := ⟨_, rfl⟩
 have hr : zI Try.prog O false zC.code T zi.empty = zI Try.prog O false zC.code T zi.empty := rfl
 have g0 := vM r
 have hc : [rv r].all (jy 16) = true := all1 (xk hr0.okl.le)
 have ln : ∀ S, qM Try.prog 56 (iz 2 [r.kind, r.index, r.view, r.value]) S = some (.int .i64 4, S) := fun S => QJ Okl.own
 conv at hr =>
  rhs
  rw [hTe]
  simp only [zC.code, zC.rs, zSs, reduceIte, Nat.reduceEqDiff, Int.reduceEq, Int.reduceLT, Int.reduceLE, ad9, qw, yB, yu, yx, Vx g0, Qm g0, QN g0, Ky g0, bs4, ln]
 generalize hL : wQ (zI Try.prog O false zC.jh) _ _ = w at hr
 obtain ⟨e, T', rfl, g⟩ := zC.round (Okl.own (l := [r.kind, r.index, r.view, r.value])) rfl [r.kind, r.index, r.view, r.value] [] hL rfl rfl rfl rfl rfl
 unfold jR kR
 cases h : [r.kind, r.index, r.view, r.value].all QB with
 | true =>
  rw [h] at g
  obtain ⟨rfl, g2, g3⟩ := g
  have g3 : T'.getD 1 undef = .pointer (some ⟨0, 0, none⟩) := g3
  have hTe' := zC.eta g2
  rw [g3] at hTe'
  have lt : ∀ S, qM Try.prog 26 (by_ r.k r.txt) S = some (.int .i64 r.txt.length, S) := fun S => yK hr0.okl
  conv at hr =>
   rhs
   rw [hTe']
   simp only [zC.code, zC.rs, zSs, reduceIte, Nat.reduceEqDiff, Int.reduceEq, Int.reduceLT, Int.reduceLE, yE, QE g0 hr0.ne, lt]
  rw [hTe] at hr
  rw [Bool.true_and]
  exact zC.runs hr (.inr rfl) hc rfl
 | false =>
  rw [h] at g
  obtain ⟨rfl, g2⟩ := g
  conv at hr =>
   rhs
   simp only [zSs, reduceIte, Nat.reduceEqDiff, Int.reduceEq, Int.reduceLT, Int.reduceLE]
  rw [hTe] at hr
  have hrun := zC.runs (S := S) hr (.inr rfl) hc (by rw [g2]; rfl)
  rw [g2] at hrun
  rw [Bool.false_and]
  exact hrun
def ZI (r : wU) : List UInt8 := encs (kR r) ++ J8 r.txt
def wK (r : wU) : List UInt8 := J8 (ZI r)
def VJ (r : wU) : Value := if jR r then .tuple #[by_ 2 (wK r), .int .i64 0] else .tuple #[.slice none 0 0, .int .i64 51]
theorem Qg {l : List UInt8} (h : l.length ≤ 1000000000) : (J8 l).length ≤ l.length + 10 := by
 unfold J8
 have := kE (n := l.length) (by omega)
 rw [List.length_append]; omega
theorem Zh {r : wU} (h : jR r = true) : (ZI r).length ≤ 1100 := by
 obtain ⟨h1, h2⟩ := qU h
 have e1 : (encs (kR r)).length ≤ 40 := ZC (l := kR r) (fun n hn => by have := h1 n hn; omega)
 have e2 := Qg (l := r.txt) (by omega)
 unfold ZI
 rw [List.length_append]; omega
theorem vU (r : wU) : 0 < (wK r).length := by
 unfold wK J8
 have := YU (ZI r).length
 rw [List.length_append]; omega
theorem zT.w {r : wU} (hr0 : r.Ok) (hR : jR r = true) : (∀ S, jc Try.prog O 32 [iz 1 [r.kind, r.index, r.view, r.value]] S = some (.tuple #[by_ 2 (encs (kR r)), .int .i64 0], S)) ∧ (∀ S, jc Try.prog O 33 [by_ r.k r.txt] S = some (.tuple #[by_ 2 (J8 r.txt), .int .i64 0], S)) ∧
  (∀ S, jc Try.prog O 33 [by_ 1 (ZI r)] S = some (.tuple #[by_ 2 (wK r), .int .i64 0], S)) ∧ (∀ S, jB Try.prog 26 26 (by_ 2 (encs (kR r))) (by_ 1 (J8 r.txt)) S = some (by_ 2 (ZI r), S)) := by
 obtain ⟨few, hl⟩ := qU hR
 have hi := Zh hR
 have el := Qg (l := r.txt) (by omega)
 refine ⟨fun S => ?_, fun S => ?_, fun S => ?_, fun S => ?_⟩
 ·
  rw [zS.v (l := [r.kind, r.index, r.view, r.value]) Okl.read (by decide) (fun n hn => by have := few n hn; omega) S, XA (l := [r.kind, r.index, r.view, r.value]) (by simp) (fun n hn => (few n hn).1) (by simp)]; rfl
 ·
  rw [jG.v hr0.okl hr0.ne S, Kq, if_neg (by omega)]
 ·
  rw [jG.v (l := ZI r) Okl.read (by decide) S, Kq, if_neg (by omega)]; rfl
 ·
  have e1 : (encs (kR r)).length ≤ 40 := ZC (l := kR r) (fun n hn => by have := few n hn; omega)
  rw [yN Okl.own (by decide) Okl.read (by omega), if_neg (by omega)]; rfl
theorem zF.w {r : wU} (hr0 : r.Ok) (hR : jR r = true) : (∀ S, jc Try.prog O 35 [iz 1 [r.kind, r.index, r.view, r.value]] S = some (.tuple #[by_ 2 (encs (kR r)), .int .i64 0], S)) ∧ (∀ S, jc Try.prog O 36 [by_ r.k r.txt] S = some (.tuple #[by_ 2 (J8 r.txt), .int .i64 0], S)) ∧
  (∀ S, jc Try.prog O 36 [by_ 1 (ZI r)] S = some (.tuple #[by_ 2 (wK r), .int .i64 0], S)) ∧ (∀ S, jB Try.prog 26 26 (by_ 2 (encs (kR r))) (by_ 1 (J8 r.txt)) S = some (by_ 2 (ZI r), S)) := by
 obtain ⟨few, hl⟩ := qU hR
 have hi := Zh hR
 have el := Qg (l := r.txt) (by omega)
 refine ⟨fun S => ?_, fun S => ?_, fun S => ?_, fun S => ?_⟩
 ·
  rw [zo.v (l := [r.kind, r.index, r.view, r.value]) Okl.read (by decide) (fun n hn => by have := few n hn; omega) S, XA (l := [r.kind, r.index, r.view, r.value]) (by simp) (fun n hn => (few n hn).1) (by simp)]; rfl
 ·
  rw [zY.v hr0.okl hr0.ne S, Kq, if_neg (by omega)]
 ·
  rw [zY.v (l := ZI r) Okl.read (by decide) S, Kq, if_neg (by omega)]; rfl
 ·
  have e1 : (encs (kR r)).length ≤ 40 := ZC (l := kR r) (fun n hn => by have := few n hn; omega)
  rw [yN Okl.own (by decide) Okl.read (by omega), if_neg (by omega)]; rfl
theorem zT.v {r : wU} (hr0 : r.Ok) (S : zi) : jc Try.prog O zT.id [rv r] S = some (VJ r, S) := by
 obtain ⟨T, hTe⟩ : ∃ T, T = (rv r :: undef :: undef :: undef :: undef :: undef :: undef :: undef :: undef :: undef :: undef :: undef :: undef :: undef :: undef :: undef :: undef :: undef :: undef :: undef :: undef :: undef :: undef :: undef :: undef :: undef :: undef :: undef :: undef :: undef :: undef :: undef :: undef :: undef :: undef :: undef :: undef :: undef :: undef :: undef :: undef :: undef :: []) := ⟨_, rfl⟩
 have hr : zI Try.prog O false zT.code T zi.empty = zI Try.prog O false zT.code T zi.empty := rfl
 have g0 := vM r
 have hc : [rv r].all (jy 16) = true := all1 (xk hr0.okl.le)
 have c0 := fun S => zC.v hr0 S
 unfold VJ
 cases hR : jR r
 ·
  rw [hR] at c0
  conv at hr =>
   rhs
   rw [hTe]
   simp only [zT.code, zT.rs, zSs, reduceIte, Nat.reduceEqDiff, Int.reduceEq, Int.reduceLT, Int.reduceLE, ad9, JU g0 hr0.ne, c0]
  rw [hTe] at hr
  exact zT.runs hr (.inr rfl) rfl rfl hc rfl
 ·
  rw [hR] at c0
  obtain ⟨w1, w2, w3, w4⟩ := zT.w hr0 hR
  conv at hr =>
   rhs
   rw [hTe]
   simp only [zT.code, zT.rs, zSs, reduceIte, Nat.reduceEqDiff, Int.reduceEq, Int.reduceLT, Int.reduceLE, ad9, JU g0 hr0.ne, c0, qw, yB, yu, yx, yE, Vx g0, Qm g0, QN g0, Ky g0, QE g0 hr0.ne, if_neg hr0.ne, bs4, w1, w2, w3, w4]
  rw [hTe] at hr
  exact zT.runs hr (.inr rfl) (by simp only [List.getD_cons_succ, List.getD_cons_zero, zO, zJ, zD, zG, zK]) rfl hc (qh (all2 (vG (k := 2) (Nat.le_refl 2)) rfl))
theorem zF.v {r : wU} (hr0 : r.Ok) (S : zi) : jc Try.prog O zF.id [rv r] S = some (VJ r, S) := by
 obtain ⟨T, hTe⟩ : ∃ T, T = (rv r :: undef :: undef :: undef :: undef :: undef :: undef :: undef :: undef :: undef :: undef :: undef :: undef :: undef :: undef :: undef :: undef :: undef :: undef :: undef :: undef :: undef :: undef :: undef :: undef :: undef :: undef :: undef :: undef :: undef :: undef :: undef :: undef :: undef :: undef :: undef :: undef :: undef :: undef :: undef :: undef :: undef :: undef :: undef :: undef :: undef :: undef :: undef :: undef :: undef :: undef :: undef :: undef :: undef :: undef :: undef :: undef :: undef :: undef :: undef :: undef :: undef :: undef :: undef :: undef :: []) := ⟨_, rfl⟩
 have hr : zI Try.prog O false zF.code T zi.empty = zI Try.prog O false zF.code T zi.empty := rfl
 have g0 := vM r
 have hc : [rv r].all (jy 16) = true := all1 (xk hr0.okl.le)
 have lt : ∀ S, qM Try.prog 26 (by_ r.k r.txt) S = some (.int .i64 r.txt.length, S) := fun S => yK hr0.okl
 have e : ((((!QB r.kind) || !QB r.index) || !QB r.view) || !QB r.value || decide (1024 < (r.txt.length : Int))) = !jR r := by
  unfold jR kR
  simp only [List.all_cons, List.all_nil, Bool.and_true]
  have : decide (1024 < (r.txt.length : Int)) = !decide ((r.txt.length : Int) ≤ 1024) := by rw [← decide_not, decide_eq_decide]; omega
  rw [this]
  cases QB r.kind <;> cases QB r.index <;> cases QB r.view <;> cases QB r.value <;> rfl
 unfold VJ
 cases hR : jR r
 ·
  rw [hR] at e
  conv at hr =>
   rhs
   rw [hTe]
   simp only [zF.code, zF.rs, zSs, reduceIte, Nat.reduceEqDiff, Int.reduceEq, Int.reduceLT, Int.reduceLE, ad9, qw, yB, yu, yx, yE, Vx g0, Qm g0, QN g0, Ky g0, QE g0 hr0.ne, zZ.v, jE (yB _ _ _), jE (yu _ _ _), jE (yx _ _ _), jE (yE _ _ _), jE (Qm g0), jE (QN g0), jE (Ky g0), jE (QE g0 hr0.ne), jE (zZ.v _ _), jE (lt _), gvw, e, Bool.not_false]
  rw [hTe] at hr
  exact zF.runs hr (.inr rfl) rfl rfl hc rfl
 ·
  rw [hR] at e
  obtain ⟨w1, w2, w3, w4⟩ := zF.w hr0 hR
  conv at hr =>
   rhs
   rw [hTe]
   simp only [zF.code, zF.rs, zSs, reduceIte, Nat.reduceEqDiff, Int.reduceEq, Int.reduceLT, Int.reduceLE, ad9, qw, yB, yu, yx, yE, Vx g0, Qm g0, QN g0, Ky g0, QE g0 hr0.ne, zZ.v, jE (yB _ _ _), jE (yu _ _ _), jE (yx _ _ _), jE (yE _ _ _), jE (Qm g0), jE (QN g0), jE (Ky g0), jE (QE g0 hr0.ne), jE (zZ.v _ _), jE (lt _), gvw, e, Bool.not_true, if_neg hr0.ne, bs4, w1, w2, w3, w4]
  rw [hTe] at hr
  exact zF.runs hr (.inr rfl) (by simp only [List.getD_cons_succ, List.getD_cons_zero, zO, zJ, zD, zG, zK]) rfl hc (qh (all2 (vG (k := 2) (Nat.le_refl 2)) rfl))
end Go.Proofs.Ytblpnklfimkfoaa
namespace Go.Proofs.Ytblpnklfimkfoaa
open Go.Abs
theorem Z7 {k : Nat} {l : List Int} {i : Int} {x : Int} {m : Nat} (h : Okl k l) (hi : i = (m : Int)) (hx : l[m]? = some x) (S : zi) : jk Try.prog 56 (iz k l) (.int .i64 i) S = some (EP [.int .i64 x], S) := by
 obtain ⟨h1, h2⟩ := List.getElem?_eq_some_iff.mp hx
 subst hi
 rw [ac2 h (by omega) (by omega)]
 simp [← h2]
theorem aan (l : List UInt8) : wL 4 l = none ∨ ∃ a b c d r, wL 4 l = some ([a, b, c, d], r) ∧ r.length ≤ l.length := by
 cases h : wL 4 l with
 | none => exact .inl rfl
 | some ar =>
  obtain ⟨a, r⟩ := ar
  obtain ⟨h1, h2⟩ := Vw h
  match a, h1 with
  | [x, y, z, w], _ => exact .inr ⟨x, y, z, w, r, rfl, h2⟩
theorem vP {x : wU} (hx : jR x = true) (s : List UInt8) : wL 4 (ZI x ++ s) = some (kR x, J8 x.txt ++ s) := by
 obtain ⟨f1, _⟩ := qU hx
 exact (vH _ _ _ _).mpr ⟨rfl, by rw [ZI, List.append_assoc], fun n hn => by have := f1 n hn; unfold Few; omega⟩
def xG (x y : wU) : Prop := x.kind = y.kind ∧ x.index = y.index ∧ x.view = y.view ∧ x.value = y.value ∧ x.txt = y.txt
theorem xG.refl (x : wU) : xG x x := ⟨rfl, rfl, rfl, rfl, rfl⟩
theorem xG.symm {x y : wU} (h : xG x y) : xG y x := ⟨h.1.symm, h.2.1.symm, h.2.2.1.symm, h.2.2.2.1.symm, h.2.2.2.2.symm⟩
theorem xG.trans {x y z : wU} (h : xG x y) (k : xG y z) : xG x z := ⟨h.1.trans k.1, h.2.1.trans k.2.1, h.2.2.1.trans k.2.2.1, h.2.2.2.1.trans k.2.2.2.1, h.2.2.2.2.trans k.2.2.2.2⟩
theorem xG.like {x y : wU} (h : xG x y) : jR x = jR y ∧ ZI x = ZI y ∧ wK x = wK y := by
 obtain ⟨h1, h2, h3, h4, h5⟩ := h
 simp only [jR, wK, ZI, kR, h1, h2, h3, h4, h5, and_self]
theorem adE {x y : wU} {s t : List UInt8} (hx : jR x = true) (hy : jR y = true) (h : wK x ++ s = wK y ++ t) : xG x y ∧ s = t := by
 have ix := Zh hx; have iy := Zh hy
 have e1 := wW (l := ZI x) (r := s) (by omega)
 have e2 := wW (l := ZI y) (r := t) (by omega)
 have h : J8 (ZI x) ++ s = J8 (ZI y) ++ t := h
 rw [h, e2] at e1
 simp only [Option.some.injEq, Prod.mk.injEq] at e1
 obtain ⟨e3, e4⟩ := e1
 have f1 := vP hx []
 have f2 := vP hy []
 rw [List.append_nil, List.append_nil] at f1 f2
 rw [← e3, f2] at f1
 simp only [Option.some.injEq, Prod.mk.injEq, kR, List.cons.injEq, and_true] at f1
 obtain ⟨⟨a1, a2, a3, a4⟩, a5⟩ := f1
 have t1 := wW (l := x.txt) (r := []) (by have := (qU hx).2; omega)
 have t2 := wW (l := y.txt) (r := []) (by have := (qU hy).2; omega)
 rw [List.append_nil] at t1 t2
 rw [← a5, t2] at t1
 simp only [Option.some.injEq, Prod.mk.injEq, and_true] at t1
 exact ⟨⟨a1.symm, a2.symm, a3.symm, a4.symm, t1.symm⟩, e4.symm⟩
def Yy (l : List UInt8) (r : wU) (ok : Bool) : Prop := r.Ok ∧ ((ok = true ∧ jR r = true ∧ l = ZI r) ∨ (ok = false ∧ ∀ x, jR x = true → l ≠ ZI x))
theorem xQ {n : Int} (h : Few n) : Big n := by unfold Few at h; unfold Big; omega
theorem adB {l : List UInt8} (h : wL 4 l = none) : Yy l rz false := ⟨Kw, .inr ⟨rfl, fun x hx hl => by
 have := vP hx []
 rw [List.append_nil, ← hl, h] at this; cases this⟩⟩
theorem abe {l s : List UInt8} {a b c d : Int} (h : wL 4 l = some ([a, b, c, d], s)) (h2 : kN s = none) : Yy l rz false := ⟨Kw, .inr ⟨rfl, fun x hx hl => by
 have := vP hx []
 rw [List.append_nil, ← hl, h] at this
 simp only [Option.some.injEq, Prod.mk.injEq] at this
 have t := wW (l := x.txt) (r := []) (by have := (qU hx).2; omega)
 rw [← this.2, h2] at t; cases t⟩⟩
theorem ads {l s t u : List UInt8} {a b c d : Int} (hl : l.length ≤ 140737488351232) (h : wL 4 l = some ([a, b, c, d], s)) (h2 : kN s = some (t, u)) : Yy l ⟨a, b, c, d, 1, t⟩ (decide ((u.length : Int) = 0) && jR ⟨a, b, c, d, 1, t⟩) := by
 obtain ⟨_, g2, few⟩ := (vH _ _ _ _).mp h
 obtain ⟨f1, f2⟩ := vI h2
 refine ⟨⟨Okl.read, by show (1 : Nat) ≠ 2; decide, by show t.length ≤ _; omega, xQ (few _ (by simp)), xQ (few _ (by simp)), xQ (few _ (by simp)), xQ (few _ (by simp))⟩, ?_⟩
 cases hR : (decide ((u.length : Int) = 0) && jR ⟨a, b, c, d, 1, t⟩)
 ·
  refine .inr ⟨rfl, fun x hx hl => ?_⟩
  have := vP hx []
  rw [List.append_nil, ← hl, h] at this
  simp only [Option.some.injEq, Prod.mk.injEq, kR, List.cons.injEq, and_true] at this
  obtain ⟨⟨i1, i2, i3, i4⟩, i5⟩ := this
  have t2 := wW (l := x.txt) (r := []) (by have := (qU hx).2; omega)
  rw [← i5, h2] at t2
  simp only [Option.some.injEq, Prod.mk.injEq] at t2
  have hs : xG ⟨a, b, c, d, 1, t⟩ x := ⟨i1, i2, i3, i4, t2.1⟩
  rw [hs.like.1, hx, t2.2] at hR
  simp at hR
 ·
  rw [Bool.and_eq_true, decide_eq_true_eq] at hR
  refine .inl ⟨rfl, hR.2, ?_⟩
  have hu : u = [] := List.length_eq_zero_iff.1 (by omega)
  rw [g2, f1, hu, List.append_nil]
  rfl
theorem zN.v {k : Nat} {l : List UInt8} (hk : Okl k l) (k2 : k ≠ 2) (hl : l.length ≤ 140737488351232) : ∃ r ok, Yy l r ok ∧ ∀ S, jc Try.prog O zN.id [by_ k l] S = some (.tuple #[rv r, .bool ok], S) := by
 have a1 : qc Try.prog 28 zi.empty = some (.pointer (some ⟨0, 0, none⟩), VK rz) := adb zi.empty
 have g1 := vM rz
 have ne0 : (0 : Nat) ≠ 2 := by decide
 have cl : [by_ k l].all (jy 16) = true := all1 (vG (k := k) hk.le)
 obtain ⟨T, hTe⟩ : ∃ T, T = (by_ k l :: undef :: undef :: undef :: undef :: undef :: undef :: undef :: undef :: undef :: undef :: undef :: undef :: undef :: undef :: undef :: undef :: undef :: undef :: undef :: undef :: undef :: undef :: undef :: undef :: undef :: undef :: undef :: undef :: undef :: undef :: undef :: undef :: undef :: undef :: undef :: undef :: undef :: undef :: undef :: undef :: undef :: undef :: undef :: undef :: undef :: undef :: undef :: undef :: undef :: undef :: undef :: undef :: []) := ⟨_, rfl⟩
 have hr : zI Try.prog O false zN.code T zi.empty = zI Try.prog O false zN.code T zi.empty := rfl
 have c1 := fun S => zx.v (many := 4) hk k2 (by omega) S
 have r1 : ∀ k0 k1, vw k0 k1 4 l = _ := fun k0 k1 => Wj (m := 4) (by decide) (by decide)
 rw [r1] at c1
 have z0 : ∀ S, yh Try.prog 28 [] S = some (rv rz, S) := fun S => WM S
 rcases aan l with h | ⟨a, b, c, d, s, h, hlr⟩
 ·
  rw [h] at c1
  have s1 := adw g1 rz
  refine ⟨rz, false, adB h, fun S => ?_⟩
  conv at hr =>
   rhs
   rw [hTe]
   simp only [zN.code, zN.rs, zSs, reduceIte, Nat.reduceEqDiff, Int.reduceEq, Int.reduceLT, Int.reduceLE, if_neg k2, a1, c1, z0, s1]
  rw [hTe] at hr
  exact zN.runs hr (.inr rfl) (JU (yH _ 0 rz) ne0) rfl rfl cl rfl
 ·
  rw [h] at c1
  have c2 := fun S => zX.v (k := 1) (l := s) Okl.read (by decide) (by omega) S
  unfold Jg at c2
  have a2 : qc Try.prog 28 (VK rz) = some (.pointer (some ⟨1, 0, none⟩), ZK rz rz) := adb (VK rz)
  have s1 := adw (Xj rz rz) rz
  have g2 := yH (ZK rz rz) 1 rz
  have g3 : (acr (ZK rz rz) 1 rz).get 0 = some (.cells (fR rz) (.own []) 0) := (KN (by decide)).trans (KC rz rz)
  generalize acr (ZK rz rz) 1 rz = A2 at s1 g2 g3
  cases ht : kN s with
  | none =>
   rw [ht] at c2
   have s3 := adw g3 rz
   refine ⟨rz, false, abe h ht, fun S => ?_⟩
   conv at hr =>
    rhs
    rw [hTe]
    simp only [zN.code, zN.rs, zSs, reduceIte, Nat.reduceEqDiff, Int.reduceEq, Int.reduceLT, Int.reduceLE, if_neg k2, a1, c1, c2, z0, a2, s1, JU g2 ne0, WX (ab4 _), JG g2, s3]
   rw [hTe] at hr
   exact zN.runs hr (.inr rfl) (JU (yH _ 0 rz) ne0) rfl rfl cl rfl
  | some tu =>
   obtain ⟨t, u⟩ := tu
   rw [ht] at c2
   have i0 := fun S => Z7 (k := 1) (i := 0) (m := 0) (l := [a, b, c, d]) Okl.read rfl rfl S
   have i1 := fun S => Z7 (k := 1) (i := 1) (m := 1) (l := [a, b, c, d]) Okl.read rfl rfl S
   have i2 := fun S => Z7 (k := 1) (i := 2) (m := 2) (l := [a, b, c, d]) Okl.read rfl rfl S
   have i3 := fun S => Z7 (k := 1) (i := 3) (m := 3) (l := [a, b, c, d]) Okl.read rfl rfl S
   have hP := ads hl h ht
   have ne1 : (1 : Nat) ≠ 2 := by decide
   have bd := fun S => qO (y0 := .int .i64 a) (y1 := .int .i64 b) (y2 := .int .i64 c) (y3 := .int .i64 d) (y4 := by_ 1 t) qC qC qC qC XU S
   have s2 : yU Try.prog 28 (.pointer (some ⟨1, 0, none⟩)) (.agg [Value.int .i64 a, .int .i64 b, .int .i64 c, .int .i64 d, by_ 1 t].toArray) A2 = some (undef, acr A2 1 ⟨a, b, c, d, 1, t⟩) := adw g2 ⟨a, b, c, d, 1, t⟩
   have q1 := yH A2 1 ⟨a, b, c, d, 1, t⟩
   have q0 : (acr A2 1 ⟨a, b, c, d, 1, t⟩).get 0 = some (.cells (fR rz) (.own []) 0) := (KN (by decide)).trans g3
   generalize acr A2 1 ⟨a, b, c, d, 1, t⟩ = A3 at s2 q1 q0
   have s3 := adw q0 ⟨a, b, c, d, 1, t⟩
   have c3 := fun S => zC.v hP.1 S
   have lu : ∀ S, qM Try.prog 26 (by_ 1 u) S = some (.int .i64 u.length, S) := fun S => yK Okl.read
   refine ⟨_, _, hP, fun S => ?_⟩
   conv at hr =>
    rhs
    rw [hTe]
    simp only [zN.code, zN.rs, zSs, reduceIte, Nat.reduceEqDiff, Int.reduceEq, Int.reduceLT, Int.reduceLE, if_neg k2, a1, c1, c2, z0, a2, s1, i0, i1, i2, i3, qJ, bd, s2, JU q1 ne1, WX (ab4 _), lu, jE (JU q1 ne1), jE (c3 _), gvw, JG q1, s3]
   rw [hTe] at hr
   exact zN.runs hr (.inr rfl) (JU (yH A3 0 ⟨a, b, c, d, 1, t⟩) ne1) rfl rfl cl (qh (all2 (xk hP.1.okl.le) rfl))
def WI (l : List UInt8) (rs : List wU) (n : Nat) : Prop := (∀ r ∈ rs, r.Ok ∧ jR r = true) ∧ n = (rs.flatMap wK).length ∧ ∃ rest, l = rs.flatMap wK ++ rest ∧ ∀ x t, jR x = true → rest ≠ wK x ++ t
inductive xP : List wU → List wU → Prop
 | nil : xP [] []
 | cons {x y : wU} {l m : List wU} (h : xG x y) (k : xP l m) : xP (x :: l) (y :: m)
theorem V4 : ∀ (a b : List wU) (l : List UInt8) (n m : Nat), WI l a n → WI l b m → xP a b ∧ n = m := by
 intro a
 induction a with
 | nil =>
  intro b l n m ⟨_, h2, rest, h3, h4⟩ ⟨k1, k2, rest2, k3, k4⟩
  cases b with
  | nil => exact ⟨.nil, by rw [h2, k2]⟩
  | cons y b =>
   rw [List.flatMap_nil, List.nil_append] at h3
   exact absurd (h3.symm.trans (k3.trans (by rw [List.flatMap_cons, List.append_assoc]))) (h4 y _ (k1 y (by simp)).2)
 | cons x a ih =>
  intro b l n m ⟨h1, h2, rest, h3, h4⟩ ⟨k1, k2, rest2, k3, k4⟩
  cases b with
  | nil =>
   rw [List.flatMap_nil, List.nil_append] at k3
   exact absurd (k3.symm.trans (h3.trans (by rw [List.flatMap_cons, List.append_assoc]))) (k4 x _ (h1 x (by simp)).2)
  | cons y b =>
   rw [List.flatMap_cons, List.append_assoc] at h3 k3
   obtain ⟨e1, e2⟩ := adE (h1 x (by simp)).2 (k1 y (by simp)).2 (h3.symm.trans k3)
   obtain ⟨i1, i2⟩ := ih b (a.flatMap wK ++ rest) _ _ ⟨fun r hr => h1 r (by simp [hr]), rfl, rest, rfl, h4⟩ ⟨fun r hr => k1 r (by simp [hr]), rfl, rest2, e2, k4⟩
   refine ⟨.cons e1 i1, ?_⟩
   rw [h2, k2, List.flatMap_cons, List.flatMap_cons, List.length_append, List.length_append, i2, e1.like.2.2]
abbrev rl (k : Nat) (l : List wU) : Value := vs fR 5 k l
theorem abg (r : wU) (S : zi) : jg Try.prog 22 1 [(0, rv r)] S = some (rl 2 [r], S) := by kernel_rfl
theorem aaK {k : Nat} {l : List wU} {r : wU} {S : zi} (h : Okl k l) (hk : k ≠ 1) (hl : l.length ≤ 2000000000000) : jB Try.prog 22 22 (rl k l) (rl 2 [r]) S = some (rl 2 (l ++ [r]), S) := by
 rw [Js xq kW abZ rfl aa4 (by omega) xq ad7 aeM h hk Okl.own (by simp; omega) (by simp; omega), if_neg (fun h => by have := h.2; simp at this)]
end Go.Proofs.Ytblpnklfimkfoaa
namespace Go.Proofs.Ytblpnklfimkfoaa
open Go.Abs
theorem Xx {k : Nat} {l : List UInt8} {m : Int} {S : zi} (h : Okl k l) (h0 : 0 ≤ m) (h1 : m ≤ l.length) : yT Try.prog 26 (by_ k l) (some (.int .i64 m)) none S = some (by_ (if k = 2 then 1 else k) (l.drop m.toNat), S) := by
 rw [kJ h (i := m) (j := l.length) rfl rfl h0 h1 (by omega)]
 congr 2
 rw [List.take_of_length_le (by rw [List.length_drop]; omega)]
theorem Jr : ∀ (rs : List wU), rs.length ≤ (rs.flatMap wK).length
 | [] => by simp
 | r :: rs => by
  have := Jr rs; have := vU r
  rw [List.flatMap_cons, List.length_append, List.length_cons]; omega
theorem XR {k d : Nat} {l : List wU} (h : k ≤ 2) (hl : ∀ r ∈ l, r.Ok) : jy (d + 12) (rl k l) = true := Jq (d := d + 8) h fun r hr => by
 have h3 : jy (d + 8) (by_ r.k r.txt) = true := Jq (d := d + 4) (hl r hr).okl.le fun _ _ => rfl
 simp only [fR, List.all_cons, List.all_nil, h3, Bool.and_true]
 rfl
section
variable {k : Nat} {l : List UInt8}
theorem zB.round (hk : Okl k l) (k2 : k ≠ 2) (hl : l.length ≤ 1000000000000) : ∀ (n : Nat) (suf : List UInt8) (out : List wU) {T : List Value} {r : St} {S : zi}, wQ (zI Try.prog O false zB.jh) T S = r → T.length = 43 → suf.length ≤ n →
  T.getD 0 undef = by_ k l → T.getD 4 undef = rl (if out = [] then 0 else 2) out → T.getD 5 undef = .int .i64 (out.flatMap wK).length → l = out.flatMap wK ++ suf → (∀ r ∈ out, r.Ok ∧ jR r = true) →
  ∃ T' S' rs m, r = some (.exit 0, T', S') ∧ T'.length = 43 ∧ T'.getD 4 undef = rl (if rs = [] then 0 else 2) rs ∧ T'.getD 5 undef = .int .i64 (m : Nat) ∧ WI l rs m := by
 intro n
 induction n with
 | zero =>
  intro suf out T r S hL hT hn h0 h4 h5 hpre hout
  have hs : suf = [] := List.length_eq_zero_iff.1 (by omega)
  have hTe := zB.eta hT
  rw [h0, h4, h5] at hTe
  have hr : zI Try.prog O false zB.jh T S = zI Try.prog O false zB.jh T S := rfl
  have d1 : ¬ ((out.flatMap wK).length : Int) < (l.length : Int) := by rw [hpre, hs]; simp
  conv at hr =>
   rhs
   rw [hTe]
   simp only [zB.jh, zB.code, zB.rs, zSs, reduceIte, Nat.reduceEqDiff, Int.reduceEq, Int.reduceLT, Int.reduceLE, if_neg k2, yK hk, goInt, d1]
  refine ⟨_, _, out, _, hL.symm.trans (jq hr (by simp)), rfl, rfl, rfl, hout, rfl, [], by rw [hpre, hs], fun x t hx h => ?_⟩
  have := congrArg List.length h
  have := vU x
  rw [List.length_append, List.length_nil] at *
  omega
 | succ n ih =>
  intro suf out T r S hL hT hn h0 h4 h5 hpre hout
  have hTe := zB.eta hT
  rw [h0, h4, h5] at hTe
  have hr : zI Try.prog O false zB.jh T S = zI Try.prog O false zB.jh T S := rfl
  have hll : l.length = (out.flatMap wK).length + suf.length := by rw [hpre, List.length_append]
  by_cases d1 : ((out.flatMap wK).length : Int) < (l.length : Int)
  ·
   have sl := fun S => Xx (S := S) hk (m := (out.flatMap wK).length) (by omega) (by omega)
   rw [Int.toNat_natCast, show l.drop (out.flatMap wK).length = suf by rw [hpre, List.drop_left], if_neg k2] at sl
   have hk0 : k = 1 := by
    have := hk.le
    by_cases h0 : k = 0
    ·
     have := hk.nil h0; rw [this] at d1; simp at d1; omega
    ·
     omega
   have c1 := fun S => zX.v (k := k) (l := suf) ⟨hk.le, fun h => by omega⟩ k2 (by omega) S
   unfold Jg at c1
   cases ht : kN suf with
   | none =>
    rw [ht] at c1
    conv at hr =>
     rhs
     rw [hTe]
     simp only [zB.jh, zB.code, zB.rs, zSs, reduceIte, Nat.reduceEqDiff, Int.reduceEq, Int.reduceLT, Int.reduceLE, if_neg k2, yK hk, goInt, d1, sl, c1]
    refine ⟨_, _, out, _, hL.symm.trans (jq hr (by simp)), rfl, rfl, rfl, hout, rfl, suf, hpre, fun x t hx h => ?_⟩
    have := wW (l := ZI x) (r := t) (by have := Zh hx; omega)
    rw [show J8 (ZI x) ++ t = suf from h.symm, ht] at this
    cases this
   | some tu =>
    obtain ⟨t, u⟩ := tu
    rw [ht] at c1
    obtain ⟨f1, f2⟩ := vI ht
    obtain ⟨r1, ok, ⟨ro, hP⟩, c2⟩ := zN.v (k := 1) (l := t) Okl.read (by decide) (by omega)
    obtain ⟨S2, b1, b2, b3, b4⟩ := KJ r1 S
    rcases hP with ⟨rfl, hR, ht1⟩ | ⟨rfl, hno⟩
    ·
     have hsuf : suf = wK r1 ++ u := by rw [f1, ht1]; rfl
     have hout2 : ∀ r ∈ out ++ [r1], r.Ok ∧ jR r = true := fun r hr => by
      rcases List.mem_append.1 hr with hr | hr
      ·
       exact hout r hr
      ·
       rw [List.mem_singleton.1 hr]; exact ⟨ro, hR⟩
     have efl : (out ++ [r1]).flatMap wK = out.flatMap wK ++ wK r1 := by simp
     have hpre2 : l = (out ++ [r1]).flatMap wK ++ u := by rw [efl, List.append_assoc, ← hsuf]; exact hpre
     have hlu : l.length = ((out ++ [r1]).flatMap wK).length + u.length := by have h9 := congrArg List.length hpre2; rwa [List.length_append] at h9
     have rp := vU r1
     have hol := Jr out
     have lu : ∀ S, qM Try.prog 26 (by_ 1 u) S = some (.int .i64 u.length, S) := fun S => yK Okl.read
     have wi : IntKind.i64.wrap ((l.length : Int) - u.length) = (((out ++ [r1]).flatMap wK).length : Int) := by rw [wrap_i64 (by omega) (by omega)]; omega
     have c3 : jw Try.prog false 28 (.pointer (some ⟨S.next, 0, none⟩)) S2 = some (rv r1, S2) := JU b2 ro.ne
     have ap := fun S => aaK (S := S) (r := r1) (k := if out = [] then 0 else 2) (l := out) ⟨by split <;> omega, fun h => by split at h <;> first | assumption | omega⟩ (by split <;> omega) (by omega)
     conv at hr =>
      rhs
      rw [hTe]
      simp only [zB.jh, zB.code, zB.rs, zSs, reduceIte, Nat.reduceEqDiff, Int.reduceEq, Int.reduceLT, Int.reduceLE, if_neg k2, yK hk, goInt, d1, sl, c1, c2, adb, b1, c3, abg, ap, lu, wi]
     exact ih u (out ++ [r1]) ((jY hr).symm.trans hL) rfl (by rw [hsuf, List.length_append] at hn; omega) rfl (by rw [show (if out ++ [r1] = [] then 0 else 2) = 2 from if_neg (by simp)]; rfl) rfl hpre2 hout2
    ·
     conv at hr =>
      rhs
      rw [hTe]
      simp only [zB.jh, zB.code, zB.rs, zSs, reduceIte, Nat.reduceEqDiff, Int.reduceEq, Int.reduceLT, Int.reduceLE, if_neg k2, yK hk, goInt, d1, sl, c1, c2, adb, b1]
     refine ⟨_, _, out, _, hL.symm.trans (jq hr (by simp)), rfl, rfl, rfl, hout, rfl, suf, hpre, fun x t hx h => ?_⟩
     have := wW (l := ZI x) (r := t) (by have := Zh hx; omega)
     rw [show J8 (ZI x) ++ t = suf from h.symm, ht] at this
     simp only [Option.some.injEq, Prod.mk.injEq] at this
     exact hno x hx this.1
  ·
   conv at hr =>
    rhs
    rw [hTe]
    simp only [zB.jh, zB.code, zB.rs, zSs, reduceIte, Nat.reduceEqDiff, Int.reduceEq, Int.reduceLT, Int.reduceLE, if_neg k2, yK hk, goInt, d1]
   have hs : suf = [] := List.length_eq_zero_iff.1 (by omega)
   refine ⟨_, _, out, _, hL.symm.trans (jq hr (by simp)), rfl, rfl, rfl, hout, rfl, [], by rw [← hs]; exact hpre, fun x t hx h => ?_⟩
   have := congrArg List.length h
   have := vU x
   rw [List.length_append, List.length_nil] at *
   omega
theorem zB.v (hk : Okl k l) (k2 : k ≠ 2) (hl : l.length ≤ 1000000000000) : ∃ rs m, WI l rs m ∧ ∀ S, jc Try.prog O zB.id [by_ k l] S = some (.tuple #[rl (if rs = [] then 0 else 2) rs, .int .i64 (m : Nat)], S) := by
 obtain ⟨T, hTe⟩ : ∃ T, T = (by_ k l :: undef :: undef :: undef :: undef :: undef :: undef :: undef :: undef :: undef :: undef :: undef :: undef :: undef :: undef :: undef :: undef :: undef :: undef :: undef :: undef :: undef :: undef :: undef :: undef :: undef :: undef :: undef :: undef :: undef :: undef :: undef :: undef :: undef :: undef :: undef :: undef :: undef :: undef :: undef :: undef :: undef :: undef :: []) := ⟨_, rfl⟩
 have hr : zI Try.prog O false zB.code T zi.empty = zI Try.prog O false zB.code T zi.empty := rfl
 conv at hr =>
  rhs
  rw [hTe]
  simp only [zB.code, zB.rs, zSs, reduceIte, Nat.reduceEqDiff, Int.reduceEq, Int.reduceLT, Int.reduceLE]
 generalize hL : wQ (zI Try.prog O false zB.jh) _ _ = r at hr
 obtain ⟨T', S', rs, m, rfl, g1, g2, g3, g4⟩ := zB.round hk k2 hl l.length l [] hL rfl (Nat.le_refl _) rfl rfl rfl rfl (fun r h => by cases h)
 have hT' := zB.eta g1
 rw [g2, g3] at hT'
 conv at hr =>
  rhs
  rw [hT']
  simp only [zB.code, zB.rs, zSs, reduceIte, Nat.reduceEqDiff, Int.reduceEq, Int.reduceLT, Int.reduceLE]
 rw [hTe] at hr
 refine ⟨rs, m, g4, fun S => ?_⟩
 have hkk : (if rs = [] then 0 else 2) ≤ 2 := by split <;> omega
 exact zB.runs hr (.inr rfl) (by simp only [List.getD_cons_succ, List.getD_cons_zero, zO, zJ, zD, zG, zK]) rfl (all1 (vG (k := k) hk.le)) (qh (all2 (XR (d := 3) hkk fun r h => (g4.1 r h).1) rfl))
end
end Go.Proofs.Ytblpnklfimkfoaa
namespace Go.Proofs.Ytblpnklfimkfoaa
open Go.Abs
def JB (S : zi) (q : Nat) (a : Option Addr) (data : List UInt8) : Prop :=
 (a = none ∧ data = []) ∨ ∃ r anc rest, a = some ⟨r, 0, none⟩ ∧ S.get r = some (.cells (data.flatMap cb ++ rest) (.own anc) 1) ∧ q < r ∧ r < S.next ∧ ∀ a ∈ anc, q < a ∧ a < r
def Old (q : Nat) (S S1 : zi) : Prop := ∀ k, k < q → S1.get k = S.get k
theorem Old.refl (q : Nat) (S : zi) : Old q S S := fun _ _ => rfl
theorem Old.trans {q : Nat} {S S1 S2 : zi} (h : Old q S S1) (k : Old q S1 S2) : Old q S S2 := fun i hi => (k i hi).trans (h i hi)
theorem Old.set {q r : Nat} {S S1 : zi} (h : Old q S S1) (hr : q ≤ r) (o : yG) : Old q S (S1.set r o) := fun i hi => by rw [zi.jF, if_neg (by omega)]; exact h i hi
structure Dk (S : zi) (q : Nat) (data : List UInt8) (sy room : Int) : Prop where
 lt : q < S.next
 len : data.length ≤ 65536
 sy0 : 0 ≤ sy
 syl : sy ≤ data.length
 rm0 : 0 ≤ room
 rml : room ≤ 65536
 cell : ∃ a, S.get q = some (.cells [.slice a data.length data.length, .int .i64 sy, .int .i64 room] (.own []) 0) ∧ JB S q a data
theorem Dk.ext {S S1 : zi} {q : Nat} {data : List UInt8} {sy room : Int} (h : Dk S q data sy room) (k : Ext S S1) : Dk S1 q data sy room := by
 obtain ⟨a, h1, h2⟩ := h.cell
 refine ⟨Nat.lt_of_lt_of_le h.lt k.1, h.len, h.sy0, h.syl, h.rm0, h.rml, a, by rw [k.2 q h.lt]; exact h1, ?_⟩
 rcases h2 with h2 | ⟨r, anc, rest, h3, h4, h5, h6, h7⟩
 ·
  exact .inl h2
 ·
  exact .inr ⟨r, anc, rest, h3, by rw [k.2 r h6]; exact h4, h5, Nat.lt_of_lt_of_le h6 k.1, h7⟩
theorem Dk.put {S : zi} {q : Nat} {data data' : List UInt8} {sy room sy' room' : Int} {a : Option Addr} (h : Dk S q data sy room) (hd : JB S q a data') (h0 : data'.length ≤ 65536) (h1 : 0 ≤ sy') (h2 : sy' ≤ data'.length) (h3 : 0 ≤ room') (h4 : room' ≤ 65536) {cs : List Value} (hc : cs = [.slice a data'.length data'.length, .int .i64 sy', .int .i64 room']) :
  Dk (S.set q (.cells cs (.own []) 0)) q data' sy' room' := by
 subst hc
 refine ⟨by simpa using h.lt, h0, h1, h2, h3, h4, a, by rw [zi.jF, if_pos rfl], ?_⟩
 rcases hd with hd | ⟨r, anc, rest, k1, k2, k3, k4, k5⟩
 ·
  exact .inl hd
 ·
  exact .inr ⟨r, anc, rest, k1, by rw [zi.jF, if_neg (by omega)]; exact k2, k3, by simpa using k4, k5⟩
theorem JB.take {S : zi} {q : Nat} {a : Option Addr} {data : List UInt8} (h : JB S q a data) (n : Nat) : JB S q a (data.take n) := by
 rcases h with ⟨h1, h2⟩ | ⟨r, anc, rest, k1, k2, k3, k4, k5⟩
 ·
  exact .inl ⟨h1, by rw [h2, List.take_nil]⟩
 ·
  refine .inr ⟨r, anc, (data.drop n).flatMap cb ++ rest, k1, ?_, k3, k4, k5⟩
  rw [k2, ← List.append_assoc, ← List.flatMap_append, List.take_append_drop]
section
variable {S : zi} {q : Nat} {data : List UInt8} {sy room : Int}
end
end Go.Proofs.Ytblpnklfimkfoaa
namespace Go.Proofs.Ytblpnklfimkfoaa
open Go.Abs
section
variable {S : zi} {q : Nat} {data : List UInt8} {sy room : Int}
theorem Zc (l : List UInt8) : (l.flatMap cb).length = l.length := by rw [xg Qw, Nat.mul_one]
theorem ad5 (l : List UInt8) : (l.flatMap cb).all (·.oneCell') = true := by rw [List.all_flatMap, List.all_eq_true]; exact fun x _ => rfl
theorem JB.append {a : Option Addr} {k : Nat} {b : List UInt8} (hd : JB S q a data) (hq : q < S.next) (hk : Okl k b) (hl : data.length + b.length ≤ 65536) :
  ∃ a' S1, y8 Try.prog true 26 26 (.slice a data.length data.length) (by_ k b) S = some (.slice a' (data ++ b).length (data ++ b).length, S1) ∧ JB S1 q a' (data ++ b) ∧ S1.get q = S.get q ∧ q < S1.next ∧ Old q S S1 ∧ ∀ p, p < S.next → (∀ r, a = some ⟨r, 0, none⟩ → r < p) → S1.get p = S.get p := by
 have hsrc : WA Try.prog 26 1 (by_ k b) S = some (b.length, b.flatMap cb) := acZ jL hk.okv (by rw [Zc, Nat.mul_one]) (ad5 b)
 rcases hd with ⟨rfl, rfl⟩ | ⟨r, anc, rest, rfl, k2, k3, k4, k5⟩
 ·
  have e1 := VE (t := 26) (tx := 26) (S := S) jL qL Wu rfl J5 (by decide) hsrc (by simp at hl; omega) (by simp at hl; omega)
  by_cases h0 : b.length = 0
  ·
   have hb : b = [] := List.length_eq_zero_iff.1 h0
   subst hb
   exact ⟨none, S, e1, .inl ⟨rfl, rfl⟩, rfl, hq, Old.refl _ _, fun _ _ _ => rfl⟩
  ·
   rw [if_neg h0, if_neg h0] at e1
   refine ⟨some ⟨S.next, 0, none⟩, _, e1, .inr ⟨S.next, [], [], rfl, ?_, by omega, by simp, by simp⟩, ?_, by simp; omega, fun k hk => by rw [zi.jm, if_neg (by omega)], fun p hp _ => by rw [zi.jm, if_neg (by omega)]⟩
   ·
    rw [zi.jm, if_pos rfl, List.append_nil, List.nil_append]
   ·
    rw [zi.jm, if_neg (by omega)]
 ·
  have hlen : (data.flatMap cb).length = data.length := Zc data
  have htk : ((data.flatMap cb ++ rest).drop 0).take (data.length * 1) = data.flatMap cb := by
   rw [List.drop_zero, Nat.mul_one, ← hlen, List.take_left]
  have e1 := Vp (hp := true) (t := 26) (tx := 26) (o := 0) (n := data.length) (c := data.length) jL qL Wu rfl J5 (by decide) hsrc k2 (by rw [List.length_append, hlen]; omega) (by omega) (by omega) (by rw [htk]; exact ad5 data)
  rw [htk, ← List.length_append] at e1
  by_cases h0 : 0 + data.length * 1 = (data.flatMap cb ++ rest).length
  ·
   rw [if_pos h0] at e1
   refine ⟨some ⟨S.next, 0, none⟩, _, e1, .inr ⟨S.next, _, [], rfl, by rw [zi.jm, zi.qQ, if_pos rfl, List.append_nil, List.flatMap_append], by omega, by simp, ?_⟩, ?_, by simp; omega, fun k hk => by rw [zi.jm, zi.qQ, if_neg (by omega), zi.jF, if_neg (by omega)], fun p hp hr => by have := hr r rfl; rw [zi.jm, zi.qQ, if_neg (by omega), zi.jF, if_neg (by omega)]⟩
   ·
    split
    ·
     simp
    ·
     intro x h; rcases List.mem_cons.1 h with h | h
     ·
      omega
     ·
      have := k5 x h; omega
   ·
    rw [zi.jm, zi.qQ, if_neg (by omega), zi.jF, if_neg (by omega)]
  ·
   rw [if_neg h0] at e1
   refine ⟨some ⟨S.next, 0, none⟩, _, e1, .inr ⟨S.next, [], [], rfl, by rw [zi.jm, zi.qQ, zi.vN, if_pos rfl, List.append_nil, List.flatMap_append], by omega, by simp, by simp⟩, ?_, by simp; omega, fun k hk => by rw [zi.jm, zi.qQ, zi.vN, if_neg (by omega), zi.jF, if_neg (by omega), zi.qE, if_neg (fun h => by have := k5 k h; omega)], fun p hp hr => by have := hr r rfl; rw [zi.jm, zi.qQ, zi.vN, if_neg (by omega), zi.jF, if_neg (by omega), zi.qE, if_neg (fun h => by have := k5 p h; omega)]⟩
   rw [zi.jm, zi.qQ, zi.vN, if_neg (by omega), zi.jF, if_neg (by omega), zi.qE, if_neg (fun h => by have := k5 q h; omega)]
theorem JB.slice {a : Option Addr} {dr : Bool} (hd : JB S q a data) {hi : Int} (h0 : 0 ≤ hi) (h1 : hi ≤ data.length) (hdr : dr = false) :
  ∃ a', wz Try.prog dr 26 (.slice a data.length data.length) none (some (.int .i64 hi)) S = some (.slice a' (data.take hi.toNat).length (data.take hi.toNat).length, S) ∧ JB S q a' (data.take hi.toNat) := by
 have hd0 := hd
 rcases hd with ⟨rfl, rfl⟩ | ⟨r, anc, rest, rfl, k2, k3, k4, k5⟩
 ·
  have h1 : hi ≤ 0 := h1
  refine ⟨none, ?_, hd0.take _⟩
  rw [List.take_nil]
  exact aat jL qL (l := 0) (h := hi) rfl rfl (by omega) h0 h1
 ·
  refine ⟨some ⟨r, 0, none⟩, ?_, hd0.take _⟩
  have := abq (P := Try.prog) (t := 26) (o := 0) (n := data.length) (c := data.length) (lo := none) (hi := some (.int .i64 hi)) (l := 0) (h := hi) hdr k2 jL qL rfl rfl (by omega) h0 h1
  rw [this]
  have e : hi.toNat - Int.toNat 0 = (data.take hi.toNat).length := by rw [List.length_take]; omega
  rw [e]
  rfl
end
end Go.Proofs.Ytblpnklfimkfoaa
namespace Go.Proofs.Ytblpnklfimkfoaa
open Go.Abs
theorem ach {t : TypeId} {a b : List UInt8} {S : zi} : xI Try.prog .eql t (.string ⟨a.toArray⟩) (.string ⟨b.toArray⟩) S = some (.bool (decide (a = b)), S) := by rw [Vt]
theorem afv {t : TypeId} {a b : List UInt8} {S : zi} : xI Try.prog .neq t (.string ⟨a.toArray⟩) (.string ⟨b.toArray⟩) S = some (.bool (!decide (a = b)), S) := by rw [V8]
end Go.Proofs.Ytblpnklfimkfoaa
namespace Go.Proofs.Ytblpnklfimkfoaa
open Go.Abs
theorem jd.v {a b : wU} (ha : a.Ok) (hb : b.Ok) (S : zi) : jc Try.prog O jd.id [rv a, rv b] S = some (.bool ((((decide (a.kind = b.kind) && decide (a.index = b.index)) && decide (a.view = b.view)) && decide (a.value = b.value)) && decide (a.txt = b.txt)), S) := by
 obtain ⟨T, hTe⟩ : ∃ T, T = (rv a :: rv b :: undef :: undef :: undef :: undef :: undef :: undef :: undef :: undef :: undef :: undef :: undef :: undef :: undef :: undef :: undef :: undef :: undef :: undef :: undef :: undef :: undef :: undef :: undef :: undef :: undef :: undef :: undef :: undef :: undef :: undef :: undef :: undef :: undef :: undef :: undef :: undef :: undef :: undef :: []) := ⟨_, rfl⟩
 have hr : zI Try.prog O false jd.code T zi.empty = zI Try.prog O false jd.code T zi.empty := rfl
 have g0 := KC a b
 have g1 := Xj a b
 have hc : [rv a, rv b].all (jy 16) = true := all2 (xk ha.okl.le) (xk hb.okl.le)
 have s1 : ∀ S, kG Try.prog 26 9 (by_ a.k a.txt) S = some (.string ⟨a.txt.toArray⟩, S) := fun S => Yh ha.okl
 have s2 : ∀ S, kG Try.prog 26 9 (by_ b.k b.txt) S = some (.string ⟨b.txt.toArray⟩, S) := fun S => Yh hb.okl
 have s3 : ∀ S, jK Try.prog false false 26 9 (by_ a.k a.txt) S = some (.string ⟨a.txt.toArray⟩, S) := fun S => by rw [qy]; exact s1 S
 have s4 : ∀ S, jK Try.prog false false 26 9 (by_ b.k b.txt) S = some (.string ⟨b.txt.toArray⟩, S) := fun S => by rw [qy]; exact s2 S
 have cq : ∀ S, jJ Try.prog .eql 9 (.string ⟨a.txt.toArray⟩) (.string ⟨b.txt.toArray⟩) S = some (.bool (decide (a.txt = b.txt)), S) := fun S => ach (t := 9)
 conv at hr =>
  rhs
  rw [hTe]
  simp only [jd.code, jd.rs, zSs, reduceIte, Nat.reduceEqDiff, Int.reduceEq, Int.reduceLT, Int.reduceLE, ad9, agr, qw, Vx g0, Vx g1, jE (yB _ _ _), jE (yu _ _ _), jE (yx _ _ _), jE (yE _ _ _), jE (Qm g0), jE (Qm g1), jE (QN g0), jE (QN g1), jE (Ky g0), jE (Ky g1), jE (QE g0 ha.ne), jE (QE g1 hb.ne), jE (s1 _), jE (s2 _), jE (s3 _), jE (s4 _), jE (cq _), gvw]
 rw [hTe] at hr
 exact jd.runs hr (.inr rfl) hc rfl
theorem aaS {a b : wU} (ha : a.Ok) (hb : b.Ok) (h : xG a b) (S : zi) : jc Try.prog O 38 [rv a, rv b] S = some (.bool true, S) := by
 obtain ⟨h1, h2, h3, h4, h5⟩ := h
 have := jd.v ha hb S
 simp only [h1, h2, h3, h4, h5, decide_true, Bool.and_self] at this
 exact this
theorem xP.len {a b : List wU} (h : xP a b) : a.length = b.length := by
 induction h with
 | nil => rfl
 | cons _ _ ih => simp [ih]
theorem xP.refl : ∀ l : List wU, xP l l
 | [] => .nil
 | x :: l => .cons (xG.refl x) (xP.refl l)
theorem afJ {k : Nat} {l pre suf : List wU} {x : wU} (hk : Okl k l) (hl : l = pre ++ x :: suf) (S : zi) : jk Try.prog 22 (rl k l) (.int .i64 pre.length) S = some (EP [.int .i64 x.kind, .int .i64 x.index, .int .i64 x.view, .int .i64 x.value, by_ x.k x.txt], S) := by
 rw [afd xq kW ad7 hk (by omega) (by rw [hl]; simp; omega), acA hl]; rfl
theorem adU {k : Nat} {l : List wU} (hk : Okl k l) (S : zi) : qM Try.prog 22 (rl k l) S = some (.int .i64 l.length, S) := aal xq hk
theorem zq.round {k j : Nat} {a b : List wU} (hk : Okl k a) (hj : Okl j b) (k2 : k ≠ 2) (j2 : j ≠ 2) (ha : ∀ r ∈ a, r.Ok) (hb : ∀ r ∈ b, r.Ok) (hl : a.length ≤ 2000000000000) {S : zi} : ∀ (sa sb pa pb : List wU) {T : List Value} {r : St}, xP sa sb → wQ (zI Try.prog O false zq.jh) T S = r → T.length = 27 →
  T.getD 0 undef = rl k a → T.getD 1 undef = rl j b → T.getD 12 undef = .int .i64 a.length → T.getD 13 undef = .int .i64 pa.length → a = pa ++ sa → b = pb ++ sb → pa.length = pb.length →
  ∃ T', r = some (.exit 0, T', S) ∧ T'.length = 27 := by
 intro sa
 induction sa with
 | nil =>
  intro sb pa pb T r hs hL hT h0 h1 h12 h13 hpa hpb hp
  have hTe := zq.eta hT
  rw [h0, h1, h12, h13] at hTe
  have hr : zI Try.prog O false zq.jh T S = zI Try.prog O false zq.jh T S := rfl
  have d1 : ¬ (pa.length : Int) < (a.length : Int) := by rw [hpa]; simp
  conv at hr =>
   rhs
   rw [hTe]
   simp only [zq.jh, zq.code, zq.rs, zSs, reduceIte, Nat.reduceEqDiff, Int.reduceEq, Int.reduceLT, Int.reduceLE, d1]
  exact ⟨_, hL.symm.trans (jq hr (by simp)), rfl⟩
 | cons x sa ih =>
  intro sb pa pb T r hs hL hT h0 h1 h12 h13 hpa hpb hp
  cases hs with
  | @cons _ y _ sb hxy hs =>
  have hTe := zq.eta hT
  rw [h0, h1, h12, h13] at hTe
  have hr : zI Try.prog O false zq.jh T S = zI Try.prog O false zq.jh T S := rfl
  have hal : a.length = pa.length + sa.length + 1 := by rw [hpa]; simp; omega
  have d1 : (pa.length : Int) < (a.length : Int) := by omega
  have e1 := fun S => afJ hk hpa S
  have e2 := fun S => afJ hj hpb S
  rw [← hp] at e2
  have c1 := fun S => aaS (ha x (by rw [hpa]; simp)) (hb y (by rw [hpb]; simp)) hxy S
  have wi : IntKind.i64.wrap ((pa.length : Int) + 1) = ((pa ++ [x]).length : Int) := by rw [wrap_i64 (by omega) (by omega)]; simp
  conv at hr =>
   rhs
   rw [hTe]
   simp only [zq.jh, zq.code, zq.rs, zSs, reduceIte, Nat.reduceEqDiff, Int.reduceEq, Int.reduceLT, Int.reduceLE, if_neg k2, if_neg j2, d1, e1, e2, aaf, c1, wi]
  exact ih sb (pa ++ [x]) (pb ++ [y]) hs ((jY hr).symm.trans hL) rfl rfl rfl rfl rfl (by simp [hpa]) (by simp [hpb]) (by simp [hp])
theorem zq.v {k j : Nat} {a b : List wU} (hk : Okl k a) (hj : Okl j b) (k2 : k ≠ 2) (j2 : j ≠ 2) (ha : ∀ r ∈ a, r.Ok) (hb : ∀ r ∈ b, r.Ok) (hl : a.length ≤ 2000000000000) (hs : xP a b) (S : zi) : jc Try.prog O zq.id [rl k a, rl j b] S = some (.bool true, S) := by
 obtain ⟨T, hTe⟩ : ∃ T, T = (rl k a :: rl j b :: undef :: undef :: undef :: undef :: undef :: undef :: undef :: undef :: undef :: undef :: undef :: undef :: undef :: undef :: undef :: undef :: undef :: undef :: undef :: undef :: undef :: undef :: undef :: undef :: undef :: []) := ⟨_, rfl⟩
 have hr : zI Try.prog O false zq.code T S = zI Try.prog O false zq.code T S := rfl
 have el : (b.length : Int) = (a.length : Int) := by rw [hs.len]
 conv at hr =>
  rhs
  rw [hTe]
  simp only [zq.code, zq.rs, zSs, reduceIte, Nat.reduceEqDiff, Int.reduceEq, Int.reduceLT, Int.reduceLE, if_neg k2, if_neg j2, adU hk, adU hj, el, decide_true, Bool.not_true]
 generalize hL : wQ (zI Try.prog O false zq.jh) _ _ = r at hr
 obtain ⟨T', rfl, g1⟩ := zq.round hk hj k2 j2 ha hb hl a b [] [] hs hL rfl rfl rfl rfl rfl rfl rfl rfl
 have hT' := zq.eta g1
 conv at hr =>
  rhs
  rw [hT']
  simp only [zq.code, zq.rs, zSs, reduceIte, Nat.reduceEqDiff, Int.reduceEq, Int.reduceLT, Int.reduceLE]
 rw [hTe] at hr
 exact zq.runs hr (.inr rfl)
abbrev afg : Ty := .pair (.int .i64) (.pair (.int .i64) (.pair (.int .i64) (.pair (.int .i64) (.pair (.slc 1 (.int .u8)) .unit))))
theorem af9 (x : afg.Val) (hg : afg.Good x) : ∃ r : wU, afg.WH x = fR r ∧ r.Ok := by
 obtain ⟨a, b, c, d, t, u⟩ := x
 obtain ⟨h1, h2, h3, h4, h5, _⟩ := hg
 obtain ⟨k, l, p1, p2, p3, p4⟩ := XM t h5
 refine ⟨⟨a, b, c, d, k, l⟩, ?_, ⟨p1, p2, p4, XZ h1, XZ h2, XZ h3, XZ h4⟩⟩
 show [Value.int .i64 a] ++ ([Value.int .i64 b] ++ ([Value.int .i64 c] ++ ([Value.int .i64 d] ++ ((Ty.slc 1 (.int .u8)).WH t ++ [])))) = _
 rw [p3]; rfl
end Go.Proofs.Ytblpnklfimkfoaa
namespace Go.Proofs.Ytblpnklfimkfoaa
open Go.Abs
abbrev zk.id : FuncId := 37
noncomputable def zk.code : Code := (Code.seq (Code.region 0 (reg Try.f37 0) false) (Code.seq (Code.region 1 (reg Try.f37 1) false) (Code.seq (Code.seq (Code.region 2 (reg Try.f37 2) false) (Code.cond (Operand.tmp 24) (Code.seq (Code.region 3 (reg Try.f37 3) false) Code.ret) Code.skip)) (Code.seq (Code.region 4 (reg Try.f37 4) false) (Code.seq (Code.seq (Code.region 5 (reg Try.f37 5) false) (Code.cond (Operand.tmp 33) (Code.seq (Code.region 6 (reg Try.f37 6) false) Code.ret) Code.skip)) (Code.seq (Code.region 7 (reg Try.f37 7) false) (Code.seq (Code.seq (Code.region 8 (reg Try.f37 8) false) (Code.cond (Operand.tmp 42) (Code.seq (Code.region 9 (reg Try.f37 9) false) Code.ret) Code.skip)) (Code.seq (Code.region 10 (reg Try.f37 10) true) (Code.seq (Code.region 11 (reg Try.f37 11) false) (Code.seq (Code.seq (Code.region 12 (reg Try.f37 12) true) (Code.cond (Operand.tmp 81) (Code.seq (Code.region 13 (reg Try.f37 13) false) Code.ret) Code.skip)) (Code.seq (Code.region 14 (reg Try.f37 14) false) Code.ret)))))))))))
theorem zk.body : Try.f37.body = some zk.code := by kernel_rfl
variable (x0 x1 x2 x3 x4 x5 x6 x7 k x9 f b l g i a d m n o p q r s t u w x y z A B C D E F G H I J K L M N P Q R U V W X Y Z a0 a1 a2 a3 a4 a5 a6 a7 a8 a9 b0 b1 b2 b3 b4 b5 b6 b7 b8 b9 c1 c2 c3 c4 c5 c6 c7 c8 c9 d0 d1 d2 d3 : Value) (S : zi)
theorem zk.r0  : jl Try.prog ⟨false, false, false⟩ (jc Try.prog O) (reg Try.f37 0) (reg Try.f37 0).toList ([x0,x1,x2,x3,x4,x5,x6,x7,k,x9,f,b,l,g,i,a,d,m,n,o,p,q,r,s,t,u,w,x,y,z,A,B,C,D,E,F,G,H,I,J,K,L,M,N,P,Q,R,U,V,W,X,Y,Z,a0,a1,a2,a3,a4,a5,a6,a7,a8,a9,b0,b1,b2,b3,b4,b5,b6,b7,b8,b9,c1,c2,c3,c4,c5,c6,c7,c8,c9,d0,d1,d2,d3]) S =
  (zW (qc Try.prog 28 S) (fun v0 S1 => some ([x0,x1,v0,Value.int IntKind.i64 0,Value.bool false,x5,x6,x7,k,x9,f,b,l,g,i,a,d,m,n,o,p,q,r,s,t,u,w,x,y,z,A,B,C,D,E,F,G,H,I,J,K,L,M,N,P,Q,R,U,V,W,X,Y,Z,a0,a1,a2,a3,a4,a5,a6,a7,a8,a9,b0,b1,b2,b3,b4,b5,b6,b7,b8,b9,c1,c2,c3,c4,c5,c6,c7,c8,c9,d0,d1,d2,d3], S1)) ()) := by
 kernel_rfl
theorem zk.r1  : jl Try.prog ⟨false, false, false⟩ (jc Try.prog O) (reg Try.f37 1) (reg Try.f37 1).toList ([x0,x1,x2,x3,x4,x5,x6,x7,k,x9,f,b,l,g,i,a,d,m,n,o,p,q,r,s,t,u,w,x,y,z,A,B,C,D,E,F,G,H,I,J,K,L,M,N,P,Q,R,U,V,W,X,Y,Z,a0,a1,a2,a3,a4,a5,a6,a7,a8,a9,b0,b1,b2,b3,b4,b5,b6,b7,b8,b9,c1,c2,c3,c4,c5,c6,c7,c8,c9,d0,d1,d2,d3]) S =
  (zW ((jc Try.prog O) 47 [(dem (dem x0))] S) (fun c S1 => zW (zL c 0 S1) (fun v3 S2 => zW (zL (zQ 0 c) 1 S2) (fun v4 S3 => zW (zL (zQ 1 (zQ 0 c)) 2 S3) (fun v5 S4 => some ([x0,x1,x2,x3,x4,v3,v4,v5,k,x9,f,b,l,g,i,a,d,zQ 2 (zQ 1 (zQ 0 c)),dem x0,dem c,dem v3,dem v4,dem v5,s,t,u,w,x,y,z,A,B,C,D,E,F,G,H,I,J,K,L,M,N,P,Q,R,U,V,W,X,Y,Z,a0,a1,a2,a3,a4,a5,a6,a7,a8,a9,b0,b1,b2,b3,b4,b5,b6,b7,b8,b9,c1,c2,c3,c4,c5,c6,c7,c8,c9,d0,d1,d2,d3], S4)) ()) ()) ()) ()) := by
 kernel_rfl
theorem zk.r2  : jl Try.prog ⟨false, false, false⟩ (jc Try.prog O) (reg Try.f37 2) (reg Try.f37 2).toList ([x0,x1,x2,x3,x4,x5,x6,x7,k,x9,f,b,l,g,i,a,d,m,n,o,p,q,r,s,t,u,w,x,y,z,A,B,C,D,E,F,G,H,I,J,K,L,M,N,P,Q,R,U,V,W,X,Y,Z,a0,a1,a2,a3,a4,a5,a6,a7,a8,a9,b0,b1,b2,b3,b4,b5,b6,b7,b8,b9,c1,c2,c3,c4,c5,c6,c7,c8,c9,d0,d1,d2,d3]) S =
  (zW (jJ Try.prog BinOp.neq 3 (dem x7) (Value.int IntKind.i64 0) S) (fun c S1 => some ([x0,x1,x2,x3,x4,x5,x6,x7,k,x9,f,b,l,g,i,a,d,m,n,o,p,q,r,dem x7,c,u,w,x,y,z,A,B,C,D,E,F,G,H,I,J,K,L,M,N,P,Q,R,U,V,W,X,Y,Z,a0,a1,a2,a3,a4,a5,a6,a7,a8,a9,b0,b1,b2,b3,b4,b5,b6,b7,b8,b9,c1,c2,c3,c4,c5,c6,c7,c8,c9,d0,d1,d2,d3], S1)) ()) := by
 kernel_rfl
theorem zk.r3  : jl Try.prog ⟨false, false, false⟩ (jc Try.prog O) (reg Try.f37 3) (reg Try.f37 3).toList ([x0,x1,x2,x3,x4,x5,x6,x7,k,x9,f,b,l,g,i,a,d,m,n,o,p,q,r,s,t,u,w,x,y,z,A,B,C,D,E,F,G,H,I,J,K,L,M,N,P,Q,R,U,V,W,X,Y,Z,a0,a1,a2,a3,a4,a5,a6,a7,a8,a9,b0,b1,b2,b3,b4,b5,b6,b7,b8,b9,c1,c2,c3,c4,c5,c6,c7,c8,c9,d0,d1,d2,d3]) S =
  (zW (yh Try.prog 28 [] S) (fun v0 S1 => zW (yU Try.prog 28 x2 (dem v0) S1) (fun c S2 => some ([x0,x1,x2,Value.int IntKind.i64 0,Value.bool false,x5,x6,x7,k,x9,f,b,l,g,i,a,d,m,n,o,p,q,r,s,t,v0,w,x,y,z,A,B,C,D,E,F,G,H,I,J,K,L,M,N,P,Q,R,U,V,W,X,Y,Z,a0,a1,a2,a3,a4,a5,a6,a7,a8,a9,b0,b1,b2,b3,b4,b5,b6,b7,b8,b9,c1,c2,c3,c4,c5,c6,c7,c8,c9,d0,d1,d2,d3], S2)) ()) ()) := by
 kernel_rfl
theorem zk.r4  : jl Try.prog ⟨false, false, false⟩ (jc Try.prog O) (reg Try.f37 4) (reg Try.f37 4).toList ([x0,x1,x2,x3,x4,x5,x6,x7,k,x9,f,b,l,g,i,a,d,m,n,o,p,q,r,s,t,u,w,x,y,z,A,B,C,D,E,F,G,H,I,J,K,L,M,N,P,Q,R,U,V,W,X,Y,Z,a0,a1,a2,a3,a4,a5,a6,a7,a8,a9,b0,b1,b2,b3,b4,b5,b6,b7,b8,b9,c1,c2,c3,c4,c5,c6,c7,c8,c9,d0,d1,d2,d3]) S =
  (zW ((jc Try.prog O) 48 [(dem (dem x5)), (Value.int IntKind.i64 4)] S) (fun c S1 => zW (zL c 0 S1) (fun v3 S2 => zW (zL (zQ 0 c) 1 S2) (fun v4 S3 => zW (zL (zQ 1 (zQ 0 c)) 2 S3) (fun v5 S4 => some ([x0,x1,x2,x3,x4,x5,x6,x7,v3,v4,v5,b,l,g,i,a,d,m,n,o,p,q,r,s,t,u,zQ 2 (zQ 1 (zQ 0 c)),dem x5,dem c,dem v3,dem v4,dem v5,C,D,E,F,G,H,I,J,K,L,M,N,P,Q,R,U,V,W,X,Y,Z,a0,a1,a2,a3,a4,a5,a6,a7,a8,a9,b0,b1,b2,b3,b4,b5,b6,b7,b8,b9,c1,c2,c3,c4,c5,c6,c7,c8,c9,d0,d1,d2,d3], S4)) ()) ()) ()) ()) := by
 kernel_rfl
theorem zk.r5  : jl Try.prog ⟨false, false, false⟩ (jc Try.prog O) (reg Try.f37 5) (reg Try.f37 5).toList ([x0,x1,x2,x3,x4,x5,x6,x7,k,x9,f,b,l,g,i,a,d,m,n,o,p,q,r,s,t,u,w,x,y,z,A,B,C,D,E,F,G,H,I,J,K,L,M,N,P,Q,R,U,V,W,X,Y,Z,a0,a1,a2,a3,a4,a5,a6,a7,a8,a9,b0,b1,b2,b3,b4,b5,b6,b7,b8,b9,c1,c2,c3,c4,c5,c6,c7,c8,c9,d0,d1,d2,d3]) S =
  (zW (jJ Try.prog BinOp.neq 3 (dem f) (Value.int IntKind.i64 0) S) (fun c S1 => some ([x0,x1,x2,x3,x4,x5,x6,x7,k,x9,f,b,l,g,i,a,d,m,n,o,p,q,r,s,t,u,w,x,y,z,A,B,dem f,c,E,F,G,H,I,J,K,L,M,N,P,Q,R,U,V,W,X,Y,Z,a0,a1,a2,a3,a4,a5,a6,a7,a8,a9,b0,b1,b2,b3,b4,b5,b6,b7,b8,b9,c1,c2,c3,c4,c5,c6,c7,c8,c9,d0,d1,d2,d3], S1)) ()) := by
 kernel_rfl
theorem zk.r6  : jl Try.prog ⟨false, false, false⟩ (jc Try.prog O) (reg Try.f37 6) (reg Try.f37 6).toList ([x0,x1,x2,x3,x4,x5,x6,x7,k,x9,f,b,l,g,i,a,d,m,n,o,p,q,r,s,t,u,w,x,y,z,A,B,C,D,E,F,G,H,I,J,K,L,M,N,P,Q,R,U,V,W,X,Y,Z,a0,a1,a2,a3,a4,a5,a6,a7,a8,a9,b0,b1,b2,b3,b4,b5,b6,b7,b8,b9,c1,c2,c3,c4,c5,c6,c7,c8,c9,d0,d1,d2,d3]) S =
  (zW (yh Try.prog 28 [] S) (fun v0 S1 => zW (yU Try.prog 28 x2 (dem v0) S1) (fun c S2 => some ([x0,x1,x2,Value.int IntKind.i64 0,Value.bool false,x5,x6,x7,k,x9,f,b,l,g,i,a,d,m,n,o,p,q,r,s,t,u,w,x,y,z,A,B,C,D,v0,F,G,H,I,J,K,L,M,N,P,Q,R,U,V,W,X,Y,Z,a0,a1,a2,a3,a4,a5,a6,a7,a8,a9,b0,b1,b2,b3,b4,b5,b6,b7,b8,b9,c1,c2,c3,c4,c5,c6,c7,c8,c9,d0,d1,d2,d3], S2)) ()) ()) := by
 kernel_rfl
theorem zk.r7  : jl Try.prog ⟨false, false, false⟩ (jc Try.prog O) (reg Try.f37 7) (reg Try.f37 7).toList ([x0,x1,x2,x3,x4,x5,x6,x7,k,x9,f,b,l,g,i,a,d,m,n,o,p,q,r,s,t,u,w,x,y,z,A,B,C,D,E,F,G,H,I,J,K,L,M,N,P,Q,R,U,V,W,X,Y,Z,a0,a1,a2,a3,a4,a5,a6,a7,a8,a9,b0,b1,b2,b3,b4,b5,b6,b7,b8,b9,c1,c2,c3,c4,c5,c6,c7,c8,c9,d0,d1,d2,d3]) S =
  (zW ((jc Try.prog O) 47 [(dem (dem x9))] S) (fun c S1 => zW (zL c 0 S1) (fun v3 S2 => zW (zL (zQ 0 c) 1 S2) (fun v4 S3 => zW (zL (zQ 1 (zQ 0 c)) 2 S3) (fun v5 S4 => some ([x0,x1,x2,x3,x4,x5,x6,x7,k,x9,f,v3,v4,v5,i,a,d,m,n,o,p,q,r,s,t,u,w,x,y,z,A,B,C,D,E,zQ 2 (zQ 1 (zQ 0 c)),dem x9,dem c,dem v3,dem v4,dem v5,L,M,N,P,Q,R,U,V,W,X,Y,Z,a0,a1,a2,a3,a4,a5,a6,a7,a8,a9,b0,b1,b2,b3,b4,b5,b6,b7,b8,b9,c1,c2,c3,c4,c5,c6,c7,c8,c9,d0,d1,d2,d3], S4)) ()) ()) ()) ()) := by
 kernel_rfl
theorem zk.r8  : jl Try.prog ⟨false, false, false⟩ (jc Try.prog O) (reg Try.f37 8) (reg Try.f37 8).toList ([x0,x1,x2,x3,x4,x5,x6,x7,k,x9,f,b,l,g,i,a,d,m,n,o,p,q,r,s,t,u,w,x,y,z,A,B,C,D,E,F,G,H,I,J,K,L,M,N,P,Q,R,U,V,W,X,Y,Z,a0,a1,a2,a3,a4,a5,a6,a7,a8,a9,b0,b1,b2,b3,b4,b5,b6,b7,b8,b9,c1,c2,c3,c4,c5,c6,c7,c8,c9,d0,d1,d2,d3]) S =
  (zW (jJ Try.prog BinOp.neq 3 (dem g) (Value.int IntKind.i64 0) S) (fun c S1 => some ([x0,x1,x2,x3,x4,x5,x6,x7,k,x9,f,b,l,g,i,a,d,m,n,o,p,q,r,s,t,u,w,x,y,z,A,B,C,D,E,F,G,H,I,J,K,dem g,c,N,P,Q,R,U,V,W,X,Y,Z,a0,a1,a2,a3,a4,a5,a6,a7,a8,a9,b0,b1,b2,b3,b4,b5,b6,b7,b8,b9,c1,c2,c3,c4,c5,c6,c7,c8,c9,d0,d1,d2,d3], S1)) ()) := by
 kernel_rfl
theorem zk.r9  : jl Try.prog ⟨false, false, false⟩ (jc Try.prog O) (reg Try.f37 9) (reg Try.f37 9).toList ([x0,x1,x2,x3,x4,x5,x6,x7,k,x9,f,b,l,g,i,a,d,m,n,o,p,q,r,s,t,u,w,x,y,z,A,B,C,D,E,F,G,H,I,J,K,L,M,N,P,Q,R,U,V,W,X,Y,Z,a0,a1,a2,a3,a4,a5,a6,a7,a8,a9,b0,b1,b2,b3,b4,b5,b6,b7,b8,b9,c1,c2,c3,c4,c5,c6,c7,c8,c9,d0,d1,d2,d3]) S =
  (zW (yh Try.prog 28 [] S) (fun v0 S1 => zW (yU Try.prog 28 x2 (dem v0) S1) (fun c S2 => some ([x0,x1,x2,Value.int IntKind.i64 0,Value.bool false,x5,x6,x7,k,x9,f,b,l,g,i,a,d,m,n,o,p,q,r,s,t,u,w,x,y,z,A,B,C,D,E,F,G,H,I,J,K,L,M,v0,P,Q,R,U,V,W,X,Y,Z,a0,a1,a2,a3,a4,a5,a6,a7,a8,a9,b0,b1,b2,b3,b4,b5,b6,b7,b8,b9,c1,c2,c3,c4,c5,c6,c7,c8,c9,d0,d1,d2,d3], S2)) ()) ()) := by
 kernel_rfl
theorem zk.d10 : qI Try.prog (reg Try.f37 10) = true := by kernel_rfl
theorem zk.agJ : fixed Try.prog (reg Try.f37 10) = false := by kernel_rfl
theorem zk.k10 : checked Try.prog (reg Try.f37 10) = [0, 1, 2, 3, 4, 5, 6, 7, 8, 9, 10, 11, 12, 13] := by kernel_rfl
theorem zk.g10 : again Try.prog (reg Try.f37 10) = [(2, 14), (5, 14), (8, 14), (11, 14)] := by kernel_rfl
theorem zk.r10  : zI Try.prog O false (.region 10 (reg Try.f37 10) true) ([x0,x1,x2,x3,x4,x5,x6,x7,k,x9,f,b,l,g,i,a,d,m,n,o,p,q,r,s,t,u,w,x,y,z,A,B,C,D,E,F,G,H,I,J,K,L,M,N,P,Q,R,U,V,W,X,Y,Z,a0,a1,a2,a3,a4,a5,a6,a7,a8,a9,b0,b1,b2,b3,b4,b5,b6,b7,b8,b9,c1,c2,c3,c4,c5,c6,c7,c8,c9,d0,d1,d2,d3]) S =
  WW (okK k ( zW (jk Try.prog 56 (dem k) (Value.int IntKind.i64 0) S) (fun c S1 => okK c ( zW (jw Try.prog false 3 c S1) (fun v2 S2 => okK v2 ( okK k ( zW (jk Try.prog 56 (dem k) (Value.int IntKind.i64 1) S2) (fun v4 S3 => okK v4 ( zW (jw Try.prog false 3 v4 S3) (fun v5 S4 => okK v5 ( okK k ( zW (jk Try.prog 56 (dem k) (Value.int IntKind.i64 2) S4) (fun v7 S5 => okK v7 ( zW (jw Try.prog false 3 v7 S5) (fun v8 S6 => okK v8 ( okK k ( zW (jk Try.prog 56 (dem k) (Value.int IntKind.i64 3) S6) (fun d4 S7 => okK d4 ( zW (jw Try.prog false 3 d4 S7) (fun d6 S8 => okK d6 ( okK b ( zW (yh Try.prog 28 [(0, (dem v2)), (1, (dem v5)), (2, (dem v8)), (3, (dem d6)), (4, (dem (dem b)))] S8) (fun d7 S9 => okK d7 ( zW (qc Try.prog 28 S9) (fun d8 d5 => zW (yU Try.prog 28 d8 (dem d7) d5) (fun d9 f0 => ckK (qN c S1 d5 && (qN v4 S3 d5 && (qN v7 S5 d5 && (qN d4 S7 d5 && (true))))) (some ([x0,x1,x2,x3,x4,x5,x6,x7,k,x9,f,b,l,g,d8,a,d,m,n,o,p,q,r,s,t,u,w,x,y,z,A,B,C,D,E,F,G,H,I,J,K,L,M,N,dem k,c,v2,dem k,v4,v5,dem k,v7,v8,dem k,d4,d6,dem b,d7,a5,a6,a7,a8,a9,b0,b1,b2,b3,b4,b5,b6,b7,b8,b9,c1,c2,c3,c4,c5,c6,c7,c8,c9,d0,d1,d2,d3], f0)) ()) ()) ()) ()) ()) ()) ()) ()) ()) ()) ()) ()) ()) ()) ()) ()) ()) ()) ()) ()) ()) ()) ()) ()) ()) ()) := by
 rw [yj zk.d10 zk.agJ zk.k10 zk.g10]
 refine congrArg WW ?_
 refine uPC Try.f37 10 0 (v := k) (pe := undef) ?_
 refine uDC Try.f37 10 1 (pe := undef) (fun c S1 => ?_)
 refine uDC Try.f37 10 2 (pe := c) (fun v2 S2 => ?_)
 refine uPC Try.f37 10 3 (v := k) (pe := undef) ?_
 refine uDC Try.f37 10 4 (pe := undef) (fun v4 S3 => ?_)
 refine uDC Try.f37 10 5 (pe := v4) (fun v5 S4 => ?_)
 refine uPC Try.f37 10 6 (v := k) (pe := undef) ?_
 refine uDC Try.f37 10 7 (pe := undef) (fun v7 S5 => ?_)
 refine uDC Try.f37 10 8 (pe := v7) (fun v8 S6 => ?_)
 refine uPC Try.f37 10 9 (v := k) (pe := undef) ?_
 refine uDC Try.f37 10 10 (pe := undef) (fun d4 S7 => ?_)
 refine uDC Try.f37 10 11 (pe := d4) (fun d6 S8 => ?_)
 refine uPC Try.f37 10 12 (v := b) (pe := undef) ?_
 refine uDC Try.f37 10 13 (pe := undef) (fun d7 S9 => ?_)
 refine uD Try.f37 10 14 (pe := undef) (fun d8 d5 => ?_)
 refine uD Try.f37 10 15 (pe := undef) (fun d9 f0 => ?_)
 kernel_rfl
theorem zk.r11  : jl Try.prog ⟨false, false, false⟩ (jc Try.prog O) (reg Try.f37 11) (reg Try.f37 11).toList ([x0,x1,x2,x3,x4,x5,x6,x7,k,x9,f,b,l,g,i,a,d,m,n,o,p,q,r,s,t,u,w,x,y,z,A,B,C,D,E,F,G,H,I,J,K,L,M,N,P,Q,R,U,V,W,X,Y,Z,a0,a1,a2,a3,a4,a5,a6,a7,a8,a9,b0,b1,b2,b3,b4,b5,b6,b7,b8,b9,c1,c2,c3,c4,c5,c6,c7,c8,c9,d0,d1,d2,d3]) S =
  (zW (jw Try.prog false 28 i S) (fun v0 S1 => zW ((jc Try.prog O) 12 [(dem v0)] S1) (fun c S2 => zW (zL c 0 S2) (fun v3 S3 => zW (zL (zQ 0 c) 1 S3) (fun v4 S4 => some ([x0,x1,x2,x3,x4,x5,x6,x7,k,x9,f,b,l,g,i,v3,v4,m,n,o,p,q,r,s,t,u,w,x,y,z,A,B,C,D,E,F,G,H,I,J,K,L,M,N,P,Q,R,U,V,W,X,Y,Z,a0,a1,a2,a3,a4,zQ 1 (zQ 0 c),v0,dem c,dem v3,dem v4,b0,b1,b2,b3,b4,b5,b6,b7,b8,b9,c1,c2,c3,c4,c5,c6,c7,c8,c9,d0,d1,d2,d3], S4)) ()) ()) ()) ()) := by
 kernel_rfl
theorem zk.d12 : qI Try.prog (reg Try.f37 12) = true := by kernel_rfl
theorem zk.agF : fixed Try.prog (reg Try.f37 12) = false := by kernel_rfl
theorem zk.k12 : checked Try.prog (reg Try.f37 12) = [] := by kernel_rfl
theorem zk.g12 : again Try.prog (reg Try.f37 12) = [] := by kernel_rfl
theorem zk.r12  : zI Try.prog O false (.region 12 (reg Try.f37 12) true) ([x0,x1,x2,x3,x4,x5,x6,x7,k,x9,f,b,l,g,i,a,d,m,n,o,p,q,r,s,t,u,w,x,y,z,A,B,C,D,E,F,G,H,I,J,K,L,M,N,P,Q,R,U,V,W,X,Y,Z,a0,a1,a2,a3,a4,a5,a6,a7,a8,a9,b0,b1,b2,b3,b4,b5,b6,b7,b8,b9,c1,c2,c3,c4,c5,c6,c7,c8,c9,d0,d1,d2,d3]) S =
  WW (zW (jJ Try.prog BinOp.neq 3 (dem d) (Value.int IntKind.i64 0) S) (fun c S1 => gdK (dem c) false (ret a) S1 (fun v3 S2 => gdK (dem c) false (qM Try.prog 26 (dem v3)) S2 (fun v4 S3 => gdK (dem c) false (ret x0) S3 (fun v5 S4 => gdK (dem c) false (qM Try.prog 26 (dem v5)) S4 (fun v6 S5 => gdK (dem c) false (jJ Try.prog BinOp.gtr 3 v4 v6) S5 (fun v7 S6 => zW (wZ (dem c) (Value.bool true) v7 S6) (fun v8 S7 => gdK (dem v8) false (ret a) S7 (fun d4 S8 => gdK (dem v8) false (jK Try.prog false false 26 9 (dem d4)) S8 (fun d6 S9 => gdK (dem v8) false (ret x0) S9 (fun f1 d5 => gdK (dem v8) false (ret a) d5 (fun d7 f0 => gdK (dem v8) false (qM Try.prog 26 (dem d7)) f0 (fun d8 f4 => gdK (dem v8) false (wz Try.prog false 26 (dem f1) none (some d8)) f4 (fun d9 f5 => gdK (dem v8) false (jK Try.prog false false 26 9 d9) f5 (fun f2 f6 => gdK (dem v8) false (jJ Try.prog BinOp.neq 9 d6 f2) f6 (fun f3 f7 => zW (wZ (dem v8) (Value.bool true) f3 f7) (fun f8 f9 => some ([x0,x1,x2,x3,x4,x5,x6,x7,k,x9,f,b,l,g,i,a,d,m,n,o,p,q,r,s,t,u,w,x,y,z,A,B,C,D,E,F,G,H,I,J,K,L,M,N,P,Q,R,U,V,W,X,Y,Z,a0,a1,a2,a3,a4,a5,a6,a7,a8,a9,dem d,c,dem c,dem v3,v4,dem v5,v6,v7,v8,dem v8,dem d4,d6,dem f1,dem d7,d8,d9,f2,f3,f8,d0,d1,d2,d3], f9)) ()) ()) ()) ()) ()) ()) ()) ()) ()) ()) ()) ()) ()) ()) ()) ()) := by
 rw [yj zk.d12 zk.agF zk.k12 zk.g12]
 refine congrArg WW ?_
 refine tP Try.f37 12 0 (v := d) ?_
 refine tD Try.f37 12 1 (fun c S1 => ?_)
 refine tP Try.f37 12 2 (v := c) ?_
 refine tG Try.f37 12 3 (j := 2) (fun v3 S2 => ?_)
 refine tG Try.f37 12 4 (j := 2) (fun v4 S3 => ?_)
 refine tG Try.f37 12 5 (j := 2) (fun v5 S4 => ?_)
 refine tG Try.f37 12 6 (j := 2) (fun v6 S5 => ?_)
 refine tG Try.f37 12 7 (j := 2) (fun v7 S6 => ?_)
 refine tD Try.f37 12 8 (fun v8 S7 => ?_)
 refine tP Try.f37 12 9 (v := v8) ?_
 refine tG Try.f37 12 10 (j := 9) (fun d4 S8 => ?_)
 refine tG Try.f37 12 11 (j := 9) (fun d6 S9 => ?_)
 refine tG Try.f37 12 12 (j := 9) (fun f1 d5 => ?_)
 refine tG Try.f37 12 13 (j := 9) (fun d7 f0 => ?_)
 refine tG Try.f37 12 14 (j := 9) (fun d8 f4 => ?_)
 refine tG Try.f37 12 15 (j := 9) (fun d9 f5 => ?_)
 refine tG Try.f37 12 16 (j := 9) (fun f2 f6 => ?_)
 refine tG Try.f37 12 17 (j := 9) (fun f3 f7 => ?_)
 refine tD Try.f37 12 18 (fun f8 f9 => ?_)
 kernel_rfl
theorem zk.r13  : jl Try.prog ⟨false, false, false⟩ (jc Try.prog O) (reg Try.f37 13) (reg Try.f37 13).toList ([x0,x1,x2,x3,x4,x5,x6,x7,k,x9,f,b,l,g,i,a,d,m,n,o,p,q,r,s,t,u,w,x,y,z,A,B,C,D,E,F,G,H,I,J,K,L,M,N,P,Q,R,U,V,W,X,Y,Z,a0,a1,a2,a3,a4,a5,a6,a7,a8,a9,b0,b1,b2,b3,b4,b5,b6,b7,b8,b9,c1,c2,c3,c4,c5,c6,c7,c8,c9,d0,d1,d2,d3]) S =
  (zW (yh Try.prog 28 [] S) (fun v0 S1 => zW (yU Try.prog 28 x2 (dem v0) S1) (fun c S2 => some ([x0,x1,x2,Value.int IntKind.i64 0,Value.bool false,x5,x6,x7,k,x9,f,b,l,g,i,a,d,m,n,o,p,q,r,s,t,u,w,x,y,z,A,B,C,D,E,F,G,H,I,J,K,L,M,N,P,Q,R,U,V,W,X,Y,Z,a0,a1,a2,a3,a4,a5,a6,a7,a8,a9,b0,b1,b2,b3,b4,b5,b6,b7,b8,b9,c1,c2,c3,c4,c5,c6,c7,c8,c9,v0,d1,d2,d3], S2)) ()) ()) := by
 kernel_rfl
theorem zk.r14  : jl Try.prog ⟨false, false, false⟩ (jc Try.prog O) (reg Try.f37 14) (reg Try.f37 14).toList ([x0,x1,x2,x3,x4,x5,x6,x7,k,x9,f,b,l,g,i,a,d,m,n,o,p,q,r,s,t,u,w,x,y,z,A,B,C,D,E,F,G,H,I,J,K,L,M,N,P,Q,R,U,V,W,X,Y,Z,a0,a1,a2,a3,a4,a5,a6,a7,a8,a9,b0,b1,b2,b3,b4,b5,b6,b7,b8,b9,c1,c2,c3,c4,c5,c6,c7,c8,c9,d0,d1,d2,d3]) S =
  (zW (jw Try.prog false 28 i S) (fun v0 S1 => zW (qM Try.prog 26 (dem a) S1) (fun v2 S2 => zW (yU Try.prog 28 x2 (dem v0) S2) (fun v3 S3 => some ([x0,x1,x2,v2,Value.bool true,x5,x6,x7,k,x9,f,b,l,g,i,a,d,m,n,o,p,q,r,s,t,u,w,x,y,z,A,B,C,D,E,F,G,H,I,J,K,L,M,N,P,Q,R,U,V,W,X,Y,Z,a0,a1,a2,a3,a4,a5,a6,a7,a8,a9,b0,b1,b2,b3,b4,b5,b6,b7,b8,b9,c1,c2,c3,c4,c5,c6,c7,c8,c9,d0,v0,dem a,dem v2], S3)) ()) ()) ()) := by
 kernel_rfl
theorem zk.rs : type_of% (And.intro @zk.r0 (And.intro @zk.r1 (And.intro @zk.r2 (And.intro @zk.r3 (And.intro @zk.r4 (And.intro @zk.r5 (And.intro @zk.r6 (And.intro @zk.r7 (And.intro @zk.r8 (And.intro @zk.r9 (And.intro @zk.r10 (And.intro @zk.r11 (And.intro @zk.r12 (And.intro @zk.r13 (@zk.r14))))))))))))))) := And.intro @zk.r0 (And.intro @zk.r1 (And.intro @zk.r2 (And.intro @zk.r3 (And.intro @zk.r4 (And.intro @zk.r5 (And.intro @zk.r6 (And.intro @zk.r7 (And.intro @zk.r8 (And.intro @zk.r9 (And.intro @zk.r10 (And.intro @zk.r11 (And.intro @zk.r12 (And.intro @zk.r13 (@zk.r14))))))))))))))
theorem zk.runs {x0 : Value} {S S1 : zi} {e : AEx} {T : List Value} (h : zI Try.prog O false zk.code ([x0,undef,undef,undef,undef,undef,undef,undef,undef,undef,undef,undef,undef,undef,undef,undef,undef,undef,undef,undef,undef,undef,undef,undef,undef,undef,undef,undef,undef,undef,undef,undef,undef,undef,undef,undef,undef,undef,undef,undef,undef,undef,undef,undef,undef,undef,undef,undef,undef,undef,undef,undef,undef,undef,undef,undef,undef,undef,undef,undef,undef,undef,undef,undef,undef,undef,undef,undef,undef,undef,undef,undef,undef,undef,undef,undef,undef,undef,undef,undef,undef,undef,undef,undef,undef,undef]) zi.empty = some (e, T, S1)) (he : e = .normal ∨ e = .ret) {w0 : Value} (c0 : jw Try.prog false 28 (T.getD 2 undef) S1 = some (w0, S1)) (h0 : ji (w0) = true) (h1 : ji (T.getD 3 undef) = true) (h2 : ji (T.getD 4 undef) = true) (hca : [x0].all (jy 16) = true) (hcv : jy 16 (Value.tuple #[w0, T.getD 3 undef, T.getD 4 undef]) = true) : jc Try.prog O 37 [x0] S = some (Value.tuple #[w0, T.getD 3 undef, T.getD 4 undef], S) :=
 qH rfl rfl Try.func37 (by decide) zk.body (by exact h) he ((wu ((show zV Try.prog T S1 Try.f37.results.toList = zV Try.prog T S1 [(ResultVar.cell 2 28), (ResultVar.tmp 3), (ResultVar.tmp 4)] from by kernel_rfl).trans (by simp only [zV, c0])) (by kernel_rfl) (by simp only [List.all_cons, List.all_nil, h0, h1, h2, Bool.and_true])).trans rfl) hca hcv
end Go.Proofs.Ytblpnklfimkfoaa
