/-
The law GateOnce returns true for every input, and leaves it as it was; no condition. Part 4 of 7 of the texts (put together by a program: own names are short, what isn't needed is left out).
-/
import Derived.Test.YtfjogganfjkckaaZGateOnce3
import Derived.Test.YtfjogganfjkckaaChecked
import Derived.KernelRfl
set_option linter.unusedVariables false
set_option linter.unusedSimpArgs false
set_option maxRecDepth 100000
open Go renaming undef → zh
open Go.Proofs.Try renaming prog → zi
open Nat renaming reduceEqDiff → zk
open Int renaming reduceEq → zn
open Int renaming reduceLT → zo
open Int renaming reduceLE → zq
namespace Go.Proofs.Ytfjogganfjkckaa
open Go.Abs
theorem aa0:zi.underlying 3=some (TypeDesc.int IntKind.i64):=by kernel_rfl
theorem aed:Jb zi 3=some 1:=by kernel_rfl
theorem ak4:bytesOf zi 3=some 8:=by kernel_rfl
theorem ak6:zeroOf zi 3=(some (Value.int IntKind.i64 0)):=by kernel_rfl
theorem ZX:xC zi 3=some false:=by kernel_rfl
theorem aiI:zeroOf zi 4=(some (Value.bool false)):=by kernel_rfl
theorem aak:zi.underlying 5=some (TypeDesc.int IntKind.u8):=by kernel_rfl
theorem abT:Jb zi 5=some 1:=by kernel_rfl
theorem ajZ:bytesOf zi 5=some 1:=by kernel_rfl
theorem ajm:zeroOf zi 5=(some (Value.int IntKind.u8 0)):=by kernel_rfl
theorem ajg:xC zi 5=some false:=by kernel_rfl
theorem aat:zi.underlying 9=some TypeDesc.string:=by kernel_rfl
theorem ac5:zeroOf zi 9=(some (Value.string { data:=#[] })):=by kernel_rfl
theorem Xv:zi.underlying 24=some (TypeDesc.slice 3):=by kernel_rfl
theorem ajt:xC zi 24=some false:=by kernel_rfl
theorem ZJ:zi.underlying 28=some (TypeDesc.slice 35):=by kernel_rfl
theorem acN:zi.underlying 29=some (TypeDesc.slice 33):=by kernel_rfl
theorem Z4:zi.underlying 30=some (TypeDesc.slice 46):=by kernel_rfl
theorem Jg:zi.underlying 33=some (TypeDesc.slice 5):=by kernel_rfl
theorem ags:Jb zi 33=some 1:=by kernel_rfl
theorem aa6:xC zi 33=some false:=by kernel_rfl
theorem vY:Jb zi 35=some 2:=by kernel_rfl
theorem Yz:xC zi 35=some true:=by kernel_rfl
theorem ahM:zi.underlying 43=some (TypeDesc.struct #[{ name:= "ID",type:=3,offset:=0,embedded:=false,tag:= "",pkgPath:= "",byteOffset:=0 },{ name:= "Fee",type:=3,offset:=1,embedded:=false,tag:= "",pkgPath:= "",byteOffset:=8 }]):=by kernel_rfl
theorem ZY:Jb zi 43=some 2:=by kernel_rfl
theorem aha:bytesOf zi 43=some 16:=by kernel_rfl
theorem ag9:zeroOf zi 43=(some (Value.agg #[(Value.int IntKind.i64 0),(Value.int IntKind.i64 0)])):=by kernel_rfl
theorem aaC:xC zi 43=some true:=by kernel_rfl
theorem JF:zi.underlying 44=some (TypeDesc.slice 43):=by kernel_rfl
theorem ad8:xC zi 44=some false:=by kernel_rfl
theorem xZ:Jb zi 46=some 5:=by kernel_rfl
theorem acG:bytesOf zi 46=some 56:=by kernel_rfl
theorem acs:zeroOf zi 46=(some (Value.agg #[(Value.int IntKind.i64 0),(Value.int IntKind.i64 0),(Value.int IntKind.i64 0),(Value.int IntKind.i64 0),(Value.slice none 0 0)])):=by kernel_rfl
theorem Yy:xC zi 46=some true:=by kernel_rfl
theorem Xf:Jb zi 48=some 13:=by kernel_rfl
theorem agQ:xC zi 48=some true:=by kernel_rfl
theorem Wx:zi.underlying 59=some (TypeDesc.map 9 4):=by kernel_rfl
theorem Wv:xC zi 59=some false:=by kernel_rfl
theorem Jv:zi.underlying 60=some (TypeDesc.map 3 9):=by kernel_rfl
theorem Yf:xC zi 60=some false:=by kernel_rfl
theorem Q9:zi.underlying 73=some (TypeDesc.int IntKind.u64):=by kernel_rfl
theorem QH:zi.underlying 126=some (TypeDesc.map 3 4):=by kernel_rfl
theorem kL (q o:Nat) (S:zy):zF zi 35 (.pointer (some ⟨q,o,none⟩)) 0 S=some (.pointer (some ⟨q,o+0,none⟩),S):=by kernel_rfl
theorem qA (q o:Nat) (S:zy):zF zi 35 (.pointer (some ⟨q,o,none⟩)) 1 S=some (.pointer (some ⟨q,o+1,none⟩),S):=by kernel_rfl
theorem xw (q o:Nat) (S:zy):zF zi 43 (.pointer (some ⟨q,o,none⟩)) 0 S=some (.pointer (some ⟨q,o+0,none⟩),S):=by kernel_rfl
theorem Ji (q o:Nat) (S:zy):zF zi 43 (.pointer (some ⟨q,o,none⟩)) 1 S=some (.pointer (some ⟨q,o+1,none⟩),S):=by kernel_rfl
theorem jV (q o:Nat) (S:zy):zF zi 46 (.pointer (some ⟨q,o,none⟩)) 0 S=some (.pointer (some ⟨q,o+0,none⟩),S):=by kernel_rfl
theorem jP (q o:Nat) (S:zy):zF zi 46 (.pointer (some ⟨q,o,none⟩)) 1 S=some (.pointer (some ⟨q,o+1,none⟩),S):=by kernel_rfl
theorem jU (q o:Nat) (S:zy):zF zi 46 (.pointer (some ⟨q,o,none⟩)) 2 S=some (.pointer (some ⟨q,o+2,none⟩),S):=by kernel_rfl
theorem jZ (q o:Nat) (S:zy):zF zi 46 (.pointer (some ⟨q,o,none⟩)) 3 S=some (.pointer (some ⟨q,o+3,none⟩),S):=by kernel_rfl
theorem wo (q o:Nat) (S:zy):zF zi 46 (.pointer (some ⟨q,o,none⟩)) 4 S=some (.pointer (some ⟨q,o+4,none⟩),S):=by kernel_rfl
theorem zO (q o:Nat) (S:zy):zF zi 48 (.pointer (some ⟨q,o,none⟩)) 0 S=some (.pointer (some ⟨q,o+0,none⟩),S):=by kernel_rfl
theorem je (q o:Nat) (S:zy):zF zi 48 (.pointer (some ⟨q,o,none⟩)) 1 S=some (.pointer (some ⟨q,o+1,none⟩),S):=by kernel_rfl
theorem ji (q o:Nat) (S:zy):zF zi 48 (.pointer (some ⟨q,o,none⟩)) 2 S=some (.pointer (some ⟨q,o+2,none⟩),S):=by kernel_rfl
theorem jk (q o:Nat) (S:zy):zF zi 48 (.pointer (some ⟨q,o,none⟩)) 3 S=some (.pointer (some ⟨q,o+3,none⟩),S):=by kernel_rfl
theorem zY (q o:Nat) (S:zy):zF zi 48 (.pointer (some ⟨q,o,none⟩)) 4 S=some (.pointer (some ⟨q,o+4,none⟩),S):=by kernel_rfl
theorem jm (q o:Nat) (S:zy):zF zi 48 (.pointer (some ⟨q,o,none⟩)) 5 S=some (.pointer (some ⟨q,o+5,none⟩),S):=by kernel_rfl
theorem jl (q o:Nat) (S:zy):zF zi 48 (.pointer (some ⟨q,o,none⟩)) 6 S=some (.pointer (some ⟨q,o+6,none⟩),S):=by kernel_rfl
theorem jd (q o:Nat) (S:zy):zF zi 48 (.pointer (some ⟨q,o,none⟩)) 7 S=some (.pointer (some ⟨q,o+8,none⟩),S):=by kernel_rfl
theorem XH (q o:Nat) (S:zy):zF zi 62 (.pointer (some ⟨q,o,none⟩)) 0 S=some (.pointer (some ⟨q,o+0,none⟩),S):=by kernel_rfl
theorem qI (q o:Nat) (S:zy):zF zi 62 (.pointer (some ⟨q,o,none⟩)) 1 S=some (.pointer (some ⟨q,o+1,none⟩),S):=by kernel_rfl
theorem vT (q o:Nat) (S:zy):zF zi 62 (.pointer (some ⟨q,o,none⟩)) 2 S=some (.pointer (some ⟨q,o+2,none⟩),S):=by kernel_rfl
theorem xg {fx:Bool} {x0 x1:Value} {S:zy}:jh zi fx 35 (EP [x0,x1]) S=some (.agg [x0,x1].toArray,S):=Xk Yz vY rfl
theorem xH {fx:Bool} {x0 x1:Value} {S:zy}:jh zi fx 43 (EP [x0,x1]) S=some (.agg [x0,x1].toArray,S):=Xk aaC ZY rfl
theorem KE {q:Nat} {x0 x1:Value} {own:Own} {e:Nat} {S:zy} (h:S.get q=some (.cells [x0,x1] own e)):jh zi false 43 (.pointer (some ⟨q,0,none⟩)) S=some (.agg [vV x0,vV x1].toArray,S):=(Y8 (o:=0) h aaC ZY (by simp)).trans (by simp)
theorem xq {fx:Bool} {x0 x1 x2 x3 x4:Value} {S:zy}:jh zi fx 46 (EP [x0,x1,x2,x3,x4]) S=some (.agg [x0,x1,x2,x3,x4].toArray,S):=Xk Yy xZ rfl
theorem aaR {q:Nat} {x0 x1 x2 x3 x4:Value} {own:Own} {e:Nat} {S:zy} (h:S.get q=some (.cells [x0,x1,x2,x3,x4] own e)):jh zi false 46 (.pointer (some ⟨q,0,none⟩)) S=some (.agg [vV x0,vV x1,vV x2,vV x3,vV x4].toArray,S):=(Y8 (o:=0) h Yy xZ (by simp)).trans (by simp)
theorem aeh {q:Nat} {x0 x1 x2 x3 x4 x5 x6 x7 x8 x9 x10 x11 x12:Value} {own:Own} {e:Nat} {S:zy} (h:S.get q=some (.cells [x0,x1,x2,x3,x4,x5,x6,x7,x8,x9,x10,x11,x12] own e)):jh zi false 48 (.pointer (some ⟨q,0,none⟩)) S=some (.agg [vV x0,vV x1,vV x2,vV x3,vV x4,vV x5,vV x6,vV x7,vV x8,vV x9,vV x10,vV x11,vV x12].toArray,S):=(Y8 (o:=0) h agQ Xf (by simp)).trans (by simp)
theorem wF  (S:zy):yA zi 43 [] S=some (.agg [(Value.int IntKind.i64 0),(Value.int IntKind.i64 0)].toArray,S):=by
 kernel_rfl
theorem acL {y0:Value} (h0:y0.cells=#[y0]) (S:zy):yA zi 43 [(0,y0)] S=some (.agg [y0,(Value.int IntKind.i64 0)].toArray,S):=by
 rw [show yA zi 43 [(0,y0)] S=(match vU ([(0,1),(1,1)][·]?) [(Value.int IntKind.i64 0),(Value.int IntKind.i64 0)] [(0,y0)] with | some l=>some (.agg l.toArray,S) | none=>none) from by kernel_rfl]
 simp [vU,splice,qL,h0]
theorem Z5 {y0 y1:Value} (h0:y0.cells=#[y0]) (h1:y1.cells=#[y1]) (S:zy):yA zi 43 [(0,y0),(1,y1)] S=some (.agg [y0,y1].toArray,S):=by
 rw [show yA zi 43 [(0,y0),(1,y1)] S=(match vU ([(0,1),(1,1)][·]?) [(Value.int IntKind.i64 0),(Value.int IntKind.i64 0)] [(0,y0),(1,y1)] with | some l=>some (.agg l.toArray,S) | none=>none) from by kernel_rfl]
 simp [vU,splice,qL,h0,h1]
theorem WG  (S:zy):yA zi 46 [] S=some (.agg [(Value.int IntKind.i64 0),(Value.int IntKind.i64 0),(Value.int IntKind.i64 0),(Value.int IntKind.i64 0),(Value.slice none 0 0)].toArray,S):=by
 kernel_rfl
theorem QN {y0 y1:Value} (h0:y0.cells=#[y0]) (h1:y1.cells=#[y1]) (S:zy):yA zi 46 [(0,y0),(1,y1)] S=some (.agg [y0,y1,(Value.int IntKind.i64 0),(Value.int IntKind.i64 0),(Value.slice none 0 0)].toArray,S):=by
 rw [show yA zi 46 [(0,y0),(1,y1)] S=(match vU ([(0,1),(1,1),(2,1),(3,1),(4,1)][·]?) [(Value.int IntKind.i64 0),(Value.int IntKind.i64 0),(Value.int IntKind.i64 0),(Value.int IntKind.i64 0),(Value.slice none 0 0)] [(0,y0),(1,y1)] with | some l=>some (.agg l.toArray,S) | none=>none) from by kernel_rfl]
 simp [vU,splice,qL,h0,h1]
theorem Zx {y0 y1 y2 y3 y4:Value} (h0:y0.cells=#[y0]) (h1:y1.cells=#[y1]) (h2:y2.cells=#[y2]) (h3:y3.cells=#[y3]) (h4:y4.cells=#[y4]) (S:zy):yA zi 46 [(0,y0),(1,y1),(2,y2),(3,y3),(4,y4)] S=some (.agg [y0,y1,y2,y3,y4].toArray,S):=by
 rw [show yA zi 46 [(0,y0),(1,y1),(2,y2),(3,y3),(4,y4)] S=(match vU ([(0,1),(1,1),(2,1),(3,1),(4,1)][·]?) [(Value.int IntKind.i64 0),(Value.int IntKind.i64 0),(Value.int IntKind.i64 0),(Value.int IntKind.i64 0),(Value.slice none 0 0)] [(0,y0),(1,y1),(2,y2),(3,y3),(4,y4)] with | some l=>some (.agg l.toArray,S) | none=>none) from by kernel_rfl]
 simp [vU,splice,qL,h0,h1,h2,h3,h4]
theorem Y3 {y0 y1 y4:Value} (h0:y0.cells=#[y0]) (h1:y1.cells=#[y1]) (h4:y4.cells=#[y4]) (S:zy):yA zi 46 [(0,y0),(1,y1),(4,y4)] S=some (.agg [y0,y1,(Value.int IntKind.i64 0),(Value.int IntKind.i64 0),y4].toArray,S):=by
 rw [show yA zi 46 [(0,y0),(1,y1),(4,y4)] S=(match vU ([(0,1),(1,1),(2,1),(3,1),(4,1)][·]?) [(Value.int IntKind.i64 0),(Value.int IntKind.i64 0),(Value.int IntKind.i64 0),(Value.int IntKind.i64 0),(Value.slice none 0 0)] [(0,y0),(1,y1),(4,y4)] with | some l=>some (.agg l.toArray,S) | none=>none) from by kernel_rfl]
 simp [vU,splice,qL,h0,h1,h4]
theorem Vk  (S:zy):yA zi 48 [] S=some (.agg [(Value.int IntKind.i64 0),(Value.int IntKind.i64 0),(Value.int IntKind.i64 0),(Value.int IntKind.i64 0),(Value.int IntKind.i64 0),(Value.int IntKind.i64 0),(Value.int IntKind.i64 0),(Value.int IntKind.i64 0),(Value.int IntKind.i64 0),(Value.int IntKind.i64 0),(Value.int IntKind.i64 0),(Value.int IntKind.i64 0),(Value.slice none 0 0)].toArray,S):=by
 kernel_rfl
theorem kX {y0 y1:Value} (h0:y0.cells=#[y0]) (h1:y1.cells=#[y1]) (S:zy):yA zi 48 [(0,y0),(1,y1)] S=some (.agg [y0,y1,(Value.int IntKind.i64 0),(Value.int IntKind.i64 0),(Value.int IntKind.i64 0),(Value.int IntKind.i64 0),(Value.int IntKind.i64 0),(Value.int IntKind.i64 0),(Value.int IntKind.i64 0),(Value.int IntKind.i64 0),(Value.int IntKind.i64 0),(Value.int IntKind.i64 0),(Value.slice none 0 0)].toArray,S):=by
 rw [show yA zi 48 [(0,y0),(1,y1)] S=(match vU ([(0,1),(1,1),(2,1),(3,1),(4,1),(5,1),(6,2),(8,5)][·]?) [(Value.int IntKind.i64 0),(Value.int IntKind.i64 0),(Value.int IntKind.i64 0),(Value.int IntKind.i64 0),(Value.int IntKind.i64 0),(Value.int IntKind.i64 0),(Value.int IntKind.i64 0),(Value.int IntKind.i64 0),(Value.int IntKind.i64 0),(Value.int IntKind.i64 0),(Value.int IntKind.i64 0),(Value.int IntKind.i64 0),(Value.slice none 0 0)] [(0,y0),(1,y1)] with | some l=>some (.agg l.toArray,S) | none=>none) from by kernel_rfl]
 simp [vU,splice,qL,h0,h1]
theorem Zw {y0 y1 y2 y3 y4 y5:Value} (h0:y0.cells=#[y0]) (h1:y1.cells=#[y1]) (h2:y2.cells=#[y2]) (h3:y3.cells=#[y3]) (h4:y4.cells=#[y4]) (h5:y5.cells=#[y5]) (S:zy):yA zi 48 [(0,y0),(1,y1),(2,y2),(3,y3),(4,y4),(5,y5)] S=some (.agg [y0,y1,y2,y3,y4,y5,(Value.int IntKind.i64 0),(Value.int IntKind.i64 0),(Value.int IntKind.i64 0),(Value.int IntKind.i64 0),(Value.int IntKind.i64 0),(Value.int IntKind.i64 0),(Value.slice none 0 0)].toArray,S):=by
 rw [show yA zi 48 [(0,y0),(1,y1),(2,y2),(3,y3),(4,y4),(5,y5)] S=(match vU ([(0,1),(1,1),(2,1),(3,1),(4,1),(5,1),(6,2),(8,5)][·]?) [(Value.int IntKind.i64 0),(Value.int IntKind.i64 0),(Value.int IntKind.i64 0),(Value.int IntKind.i64 0),(Value.int IntKind.i64 0),(Value.int IntKind.i64 0),(Value.int IntKind.i64 0),(Value.int IntKind.i64 0),(Value.int IntKind.i64 0),(Value.int IntKind.i64 0),(Value.int IntKind.i64 0),(Value.int IntKind.i64 0),(Value.slice none 0 0)] [(0,y0),(1,y1),(2,y2),(3,y3),(4,y4),(5,y5)] with | some l=>some (.agg l.toArray,S) | none=>none) from by kernel_rfl]
 simp [vU,splice,qL,h0,h1,h2,h3,h4,h5]
theorem QO {y0 y1 y7_0 y7_1 y7_2 y7_3 y7_4:Value} (h0:y0.cells=#[y0]) (h1:y1.cells=#[y1]) (S:zy):yA zi 48 [(0,y0),(1,y1),(7,.agg [y7_0,y7_1,y7_2,y7_3,y7_4].toArray)] S=some (.agg [y0,y1,(Value.int IntKind.i64 0),(Value.int IntKind.i64 0),(Value.int IntKind.i64 0),(Value.int IntKind.i64 0),(Value.int IntKind.i64 0),(Value.int IntKind.i64 0),y7_0,y7_1,y7_2,y7_3,y7_4].toArray,S):=by
 rw [show yA zi 48 [(0,y0),(1,y1),(7,.agg [y7_0,y7_1,y7_2,y7_3,y7_4].toArray)] S=(match vU ([(0,1),(1,1),(2,1),(3,1),(4,1),(5,1),(6,2),(8,5)][·]?) [(Value.int IntKind.i64 0),(Value.int IntKind.i64 0),(Value.int IntKind.i64 0),(Value.int IntKind.i64 0),(Value.int IntKind.i64 0),(Value.int IntKind.i64 0),(Value.int IntKind.i64 0),(Value.int IntKind.i64 0),(Value.int IntKind.i64 0),(Value.int IntKind.i64 0),(Value.int IntKind.i64 0),(Value.int IntKind.i64 0),(Value.slice none 0 0)] [(0,y0),(1,y1),(7,.agg [y7_0,y7_1,y7_2,y7_3,y7_4].toArray)] with | some l=>some (.agg l.toArray,S) | none=>none) from by kernel_rfl]
 simp [vU,splice,qL,h0,h1]
theorem Jm {y0 y1 y2:Value} (h0:y0.cells=#[y0]) (h1:y1.cells=#[y1]) (h2:y2.cells=#[y2]) (S:zy):yA zi 62 [(0,y0),(1,y1),(2,y2)] S=some (.agg [y0,y1,y2].toArray,S):=by
 rw [show yA zi 62 [(0,y0),(1,y1),(2,y2)] S=(match vU ([(0,1),(1,1),(2,1)][·]?) [(Value.slice none 0 0),(Value.map none),(Value.map none)] [(0,y0),(1,y1),(2,y2)] with | some l=>some (.agg l.toArray,S) | none=>none) from by kernel_rfl]
 simp [vU,splice,qL,h0,h1,h2]
@[simp] theorem aio (k:IntKind) (n:Int) (H:zy):kJ zi 3 5 (.int k n) H=some (.int IntKind.u8 (IntKind.wrap IntKind.u8 n),H):=Wq aa0 aak k n
@[simp] theorem JK (k:IntKind) (n:Int) (H:zy):kJ zi 3 73 (.int k n) H=some (.int IntKind.u64 (IntKind.wrap IntKind.u64 n),H):=Wq aa0 Q9 k n
@[simp] theorem Zn (k:IntKind) (n:Int) (H:zy):kJ zi 5 73 (.int k n) H=some (.int IntKind.u64 (IntKind.wrap IntKind.u64 n),H):=Wq aak Q9 k n
@[simp] theorem YC (k:IntKind) (n:Int) (H:zy):kJ zi 73 3 (.int k n) H=some (.int IntKind.i64 (IntKind.wrap IntKind.i64 n),H):=Wq Q9 aa0 k n
@[simp] theorem Jh (k:IntKind) (n:Int) (H:zy):kJ zi 73 5 (.int k n) H=some (.int IntKind.u8 (IntKind.wrap IntKind.u8 n),H):=Wq Q9 aak k n
theorem Qj (S:zy):jK zi 24 0 [] S=some (sv 2 1 0 [],S):=by kernel_rfl
theorem WO (x0:Int) (S:zy):jK zi 24 1 [(0,.int IntKind.i64 x0)] S=some (sv 2 1 1 [.int IntKind.i64 x0],S):=by kernel_rfl
theorem Qs (x0 x1:Int) (S:zy):jK zi 24 2 [(0,.int IntKind.i64 x0),(1,.int IntKind.i64 x1)] S=some (sv 2 1 2 [.int IntKind.i64 x0,.int IntKind.i64 x1],S):=by kernel_rfl
theorem QT (S:zy):jK zi 30 0 [] S=some (sv 2 5 0 [],S):=by kernel_rfl
theorem Ze (S:zy):jK zi 33 0 [] S=some (sv 2 1 0 [],S):=by kernel_rfl
theorem Jp (x0:Int) (S:zy):jK zi 33 1 [(0,.int IntKind.u8 x0)] S=some (sv 2 1 1 [.int IntKind.u8 x0],S):=by kernel_rfl
theorem VW (S:zy):jK zi 44 0 [] S=some (sv 2 2 0 [],S):=by kernel_rfl
theorem ZP {k:Nat} {l:List UInt8} {S:zy} (h:Okl k l):Zu zi 33 (by_ k l) S=some (goInt l.length,S):=abA Jg h
theorem aif {k:Nat} {l:List UInt8} {S:zy} {ki:IntKind} {i:Int} (h:Okl k l) (h0:0≤i) (hi:i < l.length):jy zi 33 (by_ k l) (.int ki i) S=some (EP [.int .u8 (l[i.toNat]'(by omega)).toNat],S):=agu Jg abT adp h h0 hi
theorem Ky {fx:Bool} {v:Value} {S:zy}:jh zi fx 5 (EP [v]) S=some (v,S):=KR ajg
theorem adI {k:Nat} {l:List UInt8} {S:zy} {lo hi:Option Value} {i j:Int} (h:Okl k l) (hlo:ZF 0 lo=some i) (hhi:ZF l.length hi=some j) (h0:0≤i) (hij:i≤j) (hj:j≤l.length):Jj zi 33 (by_ k l) lo hi S=some (by_ (if k=2 then 1 else k) ((l.drop i.toNat).take (j.toNat - i.toNat)),S):=adE Jg abT adp h hlo hhi h0 hij hj
theorem xG {k:Nat} {l:List UInt8} {S:zy} {j:Nat} {m:List UInt8} (h:Okl k l) (hk:k≠1) (hm:Okl j m) (hl:l.length+m.length≤140737488355328):wR zi 33 33 (by_ k l) (by_ j m) S=some (by_ (if k=0∧m.length=0 then 0 else 2) (l++m),S):=Y1 Jg abT ajm rfl ajZ (by omega) Jg adp akq h hk hm (by omega) (by omega)
theorem afw {k:Nat} {l:List UInt8} {S:zy} (h:Okl k l) (hl:l.length≤140737488355328):wR zi 33 33 (by_ 2 []) (by_ k l) S=some (by_ 2 l,S):=by
 rw [xG Okl.own (by decide) h (by simpa using hl)];rfl
theorem ahe {k:Nat} {l:List UInt8} {S:zy} (h:Okl k l):wI zi .eql 33 (by_ k l) (.slice none 0 0) S=some (.bool (decide (k=0)),S):=ac0 Jg h
theorem Xi {k:Nat} {l:List UInt8} {S:zy} (h:Okl k l):Jt zi 33 9 (by_ k l) S=some (.string ⟨l.toArray⟩,S):=afC Jg aak aat h
theorem X8 {k:Nat} {l:List Int} {S:zy} (h:Okl k l):Zu zi 24 (iz k l) S=some (goInt l.length,S):=abA Xv h
theorem acP {k:Nat} {l:List Int} {S:zy} {ki:IntKind} {i:Int} (h:Okl k l) (h0:0≤i) (hi:i < l.length):jy zi 24 (iz k l) (.int ki i) S=some (EP [.int .i64 (l[i.toNat]'(by omega))],S):=agu Xv aed ait h h0 hi
theorem qy {fx:Bool} {v:Value} {S:zy}:jh zi fx 3 (EP [v]) S=some (v,S):=KR ZX
theorem YE {k:Nat} {l:List Int} {S:zy} {j:Nat} {m:List Int} (h:Okl k l) (hk:k≠1) (hm:Okl j m) (hl:l.length+m.length≤17592186044416):wR zi 24 24 (iz k l) (iz j m) S=some (iz (if k=0∧m.length=0 then 0 else 2) (l++m),S):=Y1 Xv aed ak6 rfl ak4 (by omega) Xv ait akr h hk hm (by omega) (by omega)
theorem aht {k:Nat} {l:List Int} {S:zy} (h:Okl k l):wI zi .eql 24 (iz k l) (.slice none 0 0) S=some (.bool (decide (k=0)),S):=ac0 Xv h
theorem wk:type_of% (alG @Va (alG @Y9 (alG @Qw (alG @Kr (alG @XT (alG @KG (alG @Ko (alG @Kz (alG @Qy (alG @aa3 (alG @KO (alG @aaX (alG @adv (alG @YJ (alG @Vd (alG @Xq (alG @VA (alG @KP (alG @KL (alG @air (alG @aiL (alG @aiY (alG @aiU (alG @aiP (alG @acU (alG @acB (alG @af8 (alG @afF (alG @agw (alG @adu (alG @QE (alG @xW (alG @Bool.and_true (alG @Bool.true_and (alG @Bool.and_self (alG @acZ (alG @Jf (alG @Vy (alG @abO (alG @KN (alG @aiV (alG @aiB (alG @aiK (alG @aiH (alG @akM (alG @akh (alG @akj (alG @akI (alG @akX (alG @aiG (alG @aiz (alG @ais (alG @aiT (alG @aip (alG @afW (alG @Vf (alG @Bool.false_eq_true (alG @ac2 (alG @af2 (alG @X5 (alG @abk (alG @abz (alG @aiD (alG @aa7 (alG @aiJ (alG @Xo (alG @aeK (alG @adF (alG @XR (alG @afZ (alG @agO (alG @ac1 (alG @KT (alG @abx (alG @afk (alG @KC (alG @ado (alG @aaK (alG @adh (alG @Xp (alG @abD (alG @aaS (alG @X3 (alG @Qa (alG @Yg (alG @KZ (alG @YV (alG @Qm (alG @Vl (alG @Yi (alG @Yl (alG @Yd (alG @aam (alG @VE (alG @Y2 (alG @VG (alG @V3 (alG @aae (alG @aac (alG @aaL (alG @aaq (alG @af6 (alG @Bool.not_true (alG @Bool.not_false (alG @Bool.true_eq_false (alG @decide_true (alG @decide_false (alG @agR (alG @agv (alG @agY (alG @agM (alG @af0 (alG @aeR (alG @agl (alG @afg (alG @aeP (alG @aeO (alG @aeT (alG @afO (alG @agV (alG @afI (@afH)))))))))))))))))))))))))))))))))))))))))))))))))))))))))))))))))))))))))))))))))))))))))))))))))))))))))))))))))))))))))):=alG @Va (alG @Y9 (alG @Qw (alG @Kr (alG @XT (alG @KG (alG @Ko (alG @Kz (alG @Qy (alG @aa3 (alG @KO (alG @aaX (alG @adv (alG @YJ (alG @Vd (alG @Xq (alG @VA (alG @KP (alG @KL (alG @air (alG @aiL (alG @aiY (alG @aiU (alG @aiP (alG @acU (alG @acB (alG @af8 (alG @afF (alG @agw (alG @adu (alG @QE (alG @xW (alG @Bool.and_true (alG @Bool.true_and (alG @Bool.and_self (alG @acZ (alG @Jf (alG @Vy (alG @abO (alG @KN (alG @aiV (alG @aiB (alG @aiK (alG @aiH (alG @akM (alG @akh (alG @akj (alG @akI (alG @akX (alG @aiG (alG @aiz (alG @ais (alG @aiT (alG @aip (alG @afW (alG @Vf (alG @Bool.false_eq_true (alG @ac2 (alG @af2 (alG @X5 (alG @abk (alG @abz (alG @aiD (alG @aa7 (alG @aiJ (alG @Xo (alG @aeK (alG @adF (alG @XR (alG @afZ (alG @agO (alG @ac1 (alG @KT (alG @abx (alG @afk (alG @KC (alG @ado (alG @aaK (alG @adh (alG @Xp (alG @abD (alG @aaS (alG @X3 (alG @Qa (alG @Yg (alG @KZ (alG @YV (alG @Qm (alG @Vl (alG @Yi (alG @Yl (alG @Yd (alG @aam (alG @VE (alG @Y2 (alG @VG (alG @V3 (alG @aae (alG @aac (alG @aaL (alG @aaq (alG @af6 (alG @Bool.not_true (alG @Bool.not_false (alG @Bool.true_eq_false (alG @decide_true (alG @decide_false (alG @agR (alG @agv (alG @agY (alG @agM (alG @af0 (alG @aeR (alG @agl (alG @afg (alG @aeP (alG @aeO (alG @aeT (alG @afO (alG @agV (alG @afI (@afH)))))))))))))))))))))))))))))))))))))))))))))))))))))))))))))))))))))))))))))))))))))))))))))))))))))))))))))))))))))))))
theorem zSs:type_of% (alG wk (alG (@List.getD_cons_succ Value) (alG (@List.getD_cons_zero Value) (alG @if_true.{1} (alG @if_false.{1} (alG (@List.getElem?_cons_succ Value) (alG (@List.getElem?_cons_zero Value) (alG @Option.map_some.{0,0} @eq_self.{1})))))))):=alG wk (alG (@List.getD_cons_succ Value) (alG (@List.getD_cons_zero Value) (alG @if_true.{1} (alG @if_false.{1} (alG (@List.getElem?_cons_succ Value) (alG (@List.getElem?_cons_zero Value) (alG @Option.map_some.{0,0} @eq_self.{1})))))))
end Go.Proofs.Ytfjogganfjkckaa
namespace Go.Proofs.Ytfjogganfjkckaa
open Go.Abs
theorem bz0 (S:zy):jK zi 24 0 [] S=some (iz 2 [],S):=by rw [Qj];rfl
theorem ahT (x:Int):sv 2 1 1 [.int .i64 x]=iz 2 [x]:=rfl
theorem afJ {k:Nat} {l:List Int} {x:Int} {S:zy} (h:Okl k l) (hk:k≠1) (hl:l.length≤17592186044000):wR zi 24 24 (iz k l) (iz 2 [x]) S=some (iz 2 (l++[x]),S):=by
 rw [YE h hk Okl.own (by simp;omega),if_neg (fun h=>by have:=h.2;simp at this)]
end Go.Proofs.Ytfjogganfjkckaa
namespace Go.Proofs.Ytfjogganfjkckaa
open Go.Abs
def idxFrom {α:Type} (p:α→Bool):Int→List α→Int
 | _,[]=>-1
 | i,x::r=>if p x then i else idxFrom p (i+1) r
theorem VF {α:Type} {p:α→Bool}:∀ {l:List α} {i:Int},l.any p=false→idxFrom p i l=-1
 | [],_,_=>rfl
 | x::r,i,h=>by
  rw [List.any_cons,Bool.or_eq_false_iff] at h
  rw [idxFrom,h.1]
  exact VF h.2
theorem ac4 {α:Type} {p:α→Bool}:∀ {l:List α} {i:Int},l.any p=true→i≤idxFrom p i l
 | [],_,h=>by cases h
 | x::r,i,h=>by
  rw [idxFrom]
  split
  ·
   omega
  ·
   rename_i hx
   rw [List.any_cons,Bool.or_eq_true] at h
   have:=ac4 (i:=i+1) (h.resolve_left hx)
   omega
theorem aje {α:Type} {p:α→Bool} {l:List α}:decide (0≤idxFrom p 0 l)=l.any p:=by
 cases h:l.any p with
 | false=>rw [VF h];decide
 | true=>rw [decide_eq_true_eq];exact ac4 h
section
variable {k:Nat} {l:List Int}
theorem slices_Index.round (hv:Okl k l) (hk:k≠2) (hlen:l.length≤17592186044416) {v:Int} {S:zy}:∀ (suf pre:List Int) {T:List Value} {r:St},qE (zJ zi O false slices_Index.jT) T S=r→T.length=19 →
  T.getD 0 zh=iz k l→T.getD 1 zh=.int .i64 v→T.getD 7 zh=.int .i64 l.length→T.getD 8 zh=.int .i64 pre.length→l=pre++suf →
  ∃ e T',r=some (e,T',S)∧if suf.any (fun x=>decide (v=x)) then e=.ret∧T'.getD 4 zh=.int .i64 (idxFrom (fun x=>decide (v=x)) pre.length suf) else e=.exit 0∧T'.length=19:=by
 intro suf
 induction suf with
 | nil =>
  intro pre T r hL hT h0 h1 h7 h8 hl
  have hTe:=slices_Index.eta hT
  rw [h0,h1,h7,h8] at hTe
  have hr:zJ zi O false slices_Index.jT T S=zJ zi O false slices_Index.jT T S:=rfl
  have hd:¬ (pre.length:Int) < (l.length:Int):=by rw [hl];simp
  conv at hr =>
   rhs
   rw [hTe]
   simp only [slices_Index.jT,slices_Index.code,slices_Index.rs,zSs,reduceIte,zk,zn,zo,zq,hd]
  exact ⟨_,_,hL.symm.trans (wu hr (by simp)),rfl,rfl⟩
 | cons x suf ih =>
  intro pre T r hL hT h0 h1 h7 h8 hl
  have hTe:=slices_Index.eta hT
  rw [h0,h1,h7,h8] at hTe
  have hr:zJ zi O false slices_Index.jT T S=zJ zi O false slices_Index.jT T S:=rfl
  have hd:(pre.length:Int) < (l.length:Int):=by rw [hl];simp;omega
  have e1:∀ S,jy zi 24 (iz k l) (.int .i64 pre.length) S=some (EP [.int .i64 x],S):=fun S=>by
   rw [acP hv (by omega) hd];rw [KD hl]
  have wi:IntKind.i64.wrap ((pre.length:Int)+1)=((pre++[x]).length:Int):=by rw [wrap_i64 (by omega) (by omega)];simp
  rw [List.any_cons,idxFrom]
  by_cases hx:v=x
  ·
   have hx2:=decide_eq_true hx
   conv at hr =>
    rhs
    rw [hTe]
    simp only [slices_Index.jT,slices_Index.code,slices_Index.rs,zSs,reduceIte,zk,zn,zo,zq,if_neg hk,hd,e1,qy,hx2]
   refine ⟨_,_,hL.symm.trans (wu hr (by simp)),?_⟩
   rw [hx2,Bool.true_or]
   exact ⟨rfl,rfl⟩
  ·
   have hx2:=decide_eq_false hx
   conv at hr =>
    rhs
    rw [hTe]
    simp only [slices_Index.jT,slices_Index.code,slices_Index.rs,zSs,reduceIte,zk,zn,zo,zq,if_neg hk,hd,e1,qy,hx2,wi]
   obtain ⟨e,T',g1,g2⟩:=ih (pre++[x]) ((wZ hr).symm.trans hL) rfl rfl rfl rfl rfl (by simp [hl])
   refine ⟨e,T',g1,?_⟩
   rw [hx2,Bool.false_or]
   rw [show (((pre++[x]).length:Nat):Int)=(pre.length:Int)+1 by simp] at g2
   exact g2
theorem slices_Index.v (hv:Okl k l) (hk:k≠2) (hlen:l.length≤17592186044416) {v:Int} (S:zy):zZ zi O slices_Index.id [iz k l,.int .i64 v] S=some (.int .i64 (idxFrom (fun x=>decide (v=x)) 0 l),S):=by
 obtain ⟨T,hTe⟩:∃ T,T=(iz k l::.int .i64 v::zh::zh::zh::zh::zh::zh::zh::zh::zh::zh::zh::zh::zh::zh::zh::zh::zh::[]):=⟨_,rfl⟩
 have hr:zJ zi O false slices_Index.code T S=zJ zi O false slices_Index.code T S:=rfl
 conv at hr =>
  rhs
  rw [hTe]
  simp only [slices_Index.code,slices_Index.rs,zSs,reduceIte,zk,zn,zo,zq,if_neg hk,X8 hv,goInt]
 generalize hL:qE (zJ zi O false slices_Index.jT) _ _=r at hr
 obtain ⟨e,T',rfl,g⟩:=slices_Index.round hv hk hlen l [] hL rfl rfl rfl rfl rfl rfl
 cases h:l.any (fun x=>decide (v=x)) with
 | true =>
  rw [h] at g
  obtain ⟨rfl,g2⟩:=g
  conv at hr =>
   rhs
   simp only [zSs,reduceIte,zk,zn,zo,zq]
  rw [hTe] at hr
  have hrun:=slices_Index.runs hr (.inr rfl)
  rw [g2] at hrun
  exact hrun
 | false =>
  rw [h] at g
  obtain ⟨rfl,g2⟩:=g
  have hTe':=slices_Index.eta g2
  conv at hr =>
   rhs
   rw [hTe']
   simp only [slices_Index.code,slices_Index.rs,zSs,reduceIte,zk,zn,zo,zq]
  rw [hTe] at hr
  rw [VF h]
  exact slices_Index.runs hr (.inr rfl)
theorem slices_Contains.v (hv:Okl k l) (hk:k≠2) (hlen:l.length≤17592186044416) {v:Int} (S:zy):zZ zi O slices_Contains.id [iz k l,.int .i64 v] S=some (.bool (l.any fun x=>decide (v=x)),S):=by
 obtain ⟨T,hTe⟩:∃ T,T=(iz k l::.int .i64 v::zh::zh::zh::zh::zh::zh::zh::[]):=⟨_,rfl⟩
 have hr:zJ zi O false slices_Contains.code T S=zJ zi O false slices_Contains.code T S:=rfl
 have c1:=fun S=>slices_Index.v hv hk hlen (v:=v) S
 conv at hr =>
  rhs
  rw [hTe]
  simp only [slices_Contains.code,slices_Contains.rs,zSs,reduceIte,zk,zn,zo,zq,if_neg hk,c1,aje]
 rw [hTe] at hr
 exact slices_Contains.runs hr (.inr rfl)
end
end Go.Proofs.Ytfjogganfjkckaa
namespace Go.Proofs.Ytfjogganfjkckaa
open Go.Abs
abbrev wV.id:FuncId:=22
noncomputable def wV.code:Code:=(.seq (.region 0 (reg Try.f22 0) false) (.seq (.region 1 (reg Try.f22 1) false) (.seq (.seq (.region 2 (reg Try.f22 2) false) (.cond (.tmp 16) (.seq (.region 3 (reg Try.f22 3) false) Code.ret) Code.skip)) (.seq (.region 4 (reg Try.f22 4) false) (.seq (.seq (.region 5 (reg Try.f22 5) false) (.cond (.tmp 33) (.seq (.region 6 (reg Try.f22 6) false) Code.ret) Code.skip)) (.seq (.region 7 (reg Try.f22 7) false) Code.ret))))))
theorem wV.body:Try.f22.body=some wV.code:=by kernel_rfl
variable (F M H Q N I K L J P b c d f g i k l m n o p q r s t u w x y z A B C D E:Value) (S:zy)
theorem wV.r0 :jD zi ⟨false,false,false⟩ (zZ zi O) (reg Try.f22 0) (reg Try.f22 0).toList ([F,M,H,Q,N,I,K,L,J,P,b,c,d,f,g,i,k,l,m,n,o,p,q,r,s,t,u,w,x,y,z,A,B,C,D,E]) S =
  (zN (yI zi 48 S) (fun U G=>some ([F,M,U,.int .i64 0,N,I,K,L,J,P,b,c,d,f,g,i,k,l,m,n,o,p,q,r,s,t,u,w,x,y,z,A,B,C,D,E],G)) ()):=by
 kernel_rfl
theorem wV.r1 :jD zi ⟨false,false,false⟩ (zZ zi O) (reg Try.f22 1) (reg Try.f22 1).toList ([F,M,H,Q,N,I,K,L,J,P,b,c,d,f,g,i,k,l,m,n,o,p,q,r,s,t,u,w,x,y,z,A,B,C,D,E]) S =
  (zN ((zZ zi O) 41 [(dem (dem F))] S) (fun a G=>zN (jc a 0 G) (fun V R=>zN (jc (zV 0 a) 1 R) (fun W Y=>zN (jc (zV 1 (zV 0 a)) 2 Y) (fun X Z=>some ([F,M,H,Q,V,W,X,L,J,zV 2 (zV 1 (zV 0 a)),dem F,dem a,dem V,dem W,dem X,i,k,l,m,n,o,p,q,r,s,t,u,w,x,y,z,A,B,C,D,E],Z)) ()) ()) ()) ()):=by
 kernel_rfl
theorem wV.r2 :jD zi ⟨false,false,false⟩ (zZ zi O) (reg Try.f22 2) (reg Try.f22 2).toList ([F,M,H,Q,N,I,K,L,J,P,b,c,d,f,g,i,k,l,m,n,o,p,q,r,s,t,u,w,x,y,z,A,B,C,D,E]) S =
  (zN (wI zi BinOp.neq 64 (dem K) (.int .i64 0) S) (fun a G=>some ([F,M,H,Q,N,I,K,L,J,P,b,c,d,f,g,dem K,a,l,m,n,o,p,q,r,s,t,u,w,x,y,z,A,B,C,D,E],G)) ()):=by
 kernel_rfl
theorem wV.r3 :jD zi ⟨false,false,false⟩ (zZ zi O) (reg Try.f22 3) (reg Try.f22 3).toList ([F,M,H,Q,N,I,K,L,J,P,b,c,d,f,g,i,k,l,m,n,o,p,q,r,s,t,u,w,x,y,z,A,B,C,D,E]) S =
  (zN (yA zi 48 [] S) (fun U G=>zN (wU zi 48 H (dem U) G) (fun a R=>some ([F,M,H,.int .i64 121,N,I,K,L,J,P,b,c,d,f,g,i,k,U,m,n,o,p,q,r,s,t,u,w,x,y,z,A,B,C,D,E],R)) ()) ()):=by
 kernel_rfl
theorem wV.r4 :jD zi ⟨false,false,false⟩ (zZ zi O) (reg Try.f22 4) (reg Try.f22 4).toList ([F,M,H,Q,N,I,K,L,J,P,b,c,d,f,g,i,k,l,m,n,o,p,q,r,s,t,u,w,x,y,z,A,B,C,D,E]) S =
  (zN ((zZ zi O) 42 [(dem (dem I))] S) (fun a G=>zN (jc a 0 G) (fun V R=>zN (jc (zV 0 a) 1 R) (fun W Y=>zN (yI zi 48 Y) (fun X Z=>zN (wU zi 48 X (dem V) Z) (fun v6 S5=>some ([F,M,H,Q,N,I,K,X,W,P,b,c,d,f,g,i,k,l,zV 1 (zV 0 a),dem I,dem a,V,dem W,r,s,t,u,w,x,y,z,A,B,C,D,E],S5)) ()) ()) ()) ()) ()):=by
 kernel_rfl
theorem wV.r5 :jD zi ⟨false,false,false⟩ (zZ zi O) (reg Try.f22 5) (reg Try.f22 5).toList ([F,M,H,Q,N,I,K,L,J,P,b,c,d,f,g,i,k,l,m,n,o,p,q,r,s,t,u,w,x,y,z,A,B,C,D,E]) S =
  (zN (aUn zi UnOp.not (dem J) S) (fun a G=>gdK (dem a) false (zF zi 48 L 1) G (fun V R=>gdK (dem a) false (jh zi false 3 V) R (fun W Y=>gdK (dem a) false ((zZ zi O) 44 [(dem W)]) Y (fun X Z=>gdK (dem a) false (ret N) Z (fun v6 S5=>gdK (dem a) false (ret I) S5 (fun v7 S6=>gdK (dem a) false ((zZ zi O) 43 [(dem X),(dem (dem v6)),(dem (dem v7))]) S6 (fun v8 S7=>gdK (dem a) false (aUn zi UnOp.not v8) S7 (fun v9 S8=>zN (wX (dem a) (Value.bool true) v9 S8) (fun a0 S9=>some ([F,M,H,Q,N,I,K,L,J,P,b,c,d,f,g,i,k,l,m,n,o,p,q,dem J,a,dem a,V,W,X,dem v6,dem v7,v8,v9,a0,D,E],S9)) ()) ()) ()) ()) ()) ()) ()) ()) ()):=by
 refine sP Try.f22 5 0 (v:=J) ?_
 refine sD Try.f22 5 1 (fun a G=>?_)
 refine sP Try.f22 5 2 (v:=a) ?_
 refine sG Try.f22 5 3 (j:=2) (fun V R=>?_)
 refine sG Try.f22 5 4 (j:=2) (fun W Y=>?_)
 refine sG Try.f22 5 5 (j:=2) (fun X Z=>?_)
 refine sG Try.f22 5 6 (j:=2) (fun v6 S5=>?_)
 refine sG Try.f22 5 7 (j:=2) (fun v7 S6=>?_)
 refine sG Try.f22 5 8 (j:=2) (fun v8 S7=>?_)
 refine sG Try.f22 5 9 (j:=2) (fun v9 S8=>?_)
 refine sD Try.f22 5 10 (fun a0 S9=>?_)
 kernel_rfl
theorem wV.r6 :jD zi ⟨false,false,false⟩ (zZ zi O) (reg Try.f22 6) (reg Try.f22 6).toList ([F,M,H,Q,N,I,K,L,J,P,b,c,d,f,g,i,k,l,m,n,o,p,q,r,s,t,u,w,x,y,z,A,B,C,D,E]) S =
  (zN (yA zi 48 [] S) (fun U G=>zN (wU zi 48 H (dem U) G) (fun a R=>some ([F,M,H,.int .i64 121,N,I,K,L,J,P,b,c,d,f,g,i,k,l,m,n,o,p,q,r,s,t,u,w,x,y,z,A,B,C,U,E],R)) ()) ()):=by
 kernel_rfl
theorem wV.r7 :jD zi ⟨false,false,false⟩ (zZ zi O) (reg Try.f22 7) (reg Try.f22 7).toList ([F,M,H,Q,N,I,K,L,J,P,b,c,d,f,g,i,k,l,m,n,o,p,q,r,s,t,u,w,x,y,z,A,B,C,D,E]) S =
  (zN (jh zi false 48 L S) (fun U G=>zN (wU zi 48 H (dem U) G) (fun a R=>some ([F,M,H,.int .i64 0,N,I,K,L,J,P,b,c,d,f,g,i,k,l,m,n,o,p,q,r,s,t,u,w,x,y,z,A,B,C,D,U],R)) ()) ()):=by
 kernel_rfl
theorem wV.rs:type_of% (alG @wV.r0 (alG @wV.r1 (alG @wV.r2 (alG @wV.r3 (alG @wV.r4 (alG @wV.r5 (alG @wV.r6 (@wV.r7)))))))):=alG @wV.r0 (alG @wV.r1 (alG @wV.r2 (alG @wV.r3 (alG @wV.r4 (alG @wV.r5 (alG @wV.r6 (@wV.r7)))))))
theorem wV.runs {F:Value} {S G:zy} {e:AEx} {T:List Value} (h:zJ zi O false wV.code ([F,zh,zh,zh,zh,zh,zh,zh,zh,zh,zh,zh,zh,zh,zh,zh,zh,zh,zh,zh,zh,zh,zh,zh,zh,zh,zh,zh,zh,zh,zh,zh,zh,zh,zh,zh]) zy.empty=some (e,T,G)) (he:e=.normal∨e=.ret) {w0:Value} (c0:jh zi false 48 (T.getD 2 zh) G=some (w0,G)) (h0:wG (w0)=true) (h1:wG (T.getD 3 zh)=true) (hca:[F].all (jW 16)=true) (hcv:jW 16 (Value.tuple #[w0,T.getD 3 zh])=true):zZ zi O 22 [F] S=some (Value.tuple #[w0,T.getD 3 zh],S) :=
 yC rfl rfl Try.func22 (by decide) wV.body (by exact h) he ((ql ((show zQ zi T G Try.f22.results.toList=zQ zi T G [(ResultVar.cell 2 48),(ResultVar.tmp 3)] from by kernel_rfl).trans (by simp only [zQ,c0])) (by kernel_rfl) (by simp only [List.all_cons,List.all_nil,h0,h1,Bool.and_true])).trans rfl) hca hcv
end Go.Proofs.Ytfjogganfjkckaa
namespace Go.Proofs.Ytfjogganfjkckaa
open Go.Abs
abbrev zG.id:FuncId:=16
noncomputable def zG.code:Code:=(.seq (.region 0 (reg Try.f16 0) false) (.seq (.region 1 (reg Try.f16 1) false) (.seq (.seq (.region 2 (reg Try.f16 2) false) (.cond (.tmp 20) (.seq (.region 3 (reg Try.f16 3) false) Code.ret) Code.skip)) (.seq (.region 4 (reg Try.f16 4) false) (.seq (.seq (.region 5 (reg Try.f16 5) false) (.cond (.tmp 29) (.seq (.region 6 (reg Try.f16 6) false) Code.ret) Code.skip)) (.seq (.region 7 (reg Try.f16 7) true) (.seq (.seq (.region 8 (reg Try.f16 8) false) (.cond (.tmp 52) (.region 9 (reg Try.f16 9) false) Code.skip)) (.seq (.seq (.region 10 (reg Try.f16 10) false) (.cond (.tmp 61) (.region 11 (reg Try.f16 11) false) Code.skip)) (.seq (.region 12 (reg Try.f16 12) false) (.seq (.seq (.region 13 (reg Try.f16 13) false) (.cond (.tmp 81) (.seq (.region 14 (reg Try.f16 14) false) Code.ret) Code.skip)) (.seq (.region 15 (reg Try.f16 15) false) Code.ret)))))))))))
theorem zG.body:Try.f16.body=some zG.code:=by kernel_rfl
variable (x0 x1 x2 x3 x4 x5 x6 c x8 x9 b f d g i k l m n o p q r s t u w x y z A B C D E F G H I J K L M N P Q R U V W X Y Z a0 a1 a2 a3 a4 a5 a6 a7 a8 a9 b0 b1 b2 b3 b4 b5 b6 b7 b8 b9 c1 c2 c3 c4 c5 c6 c7 c8 c9 d0 d1:Value) (S:zy)
theorem zG.r0 :jD zi ⟨false,false,false⟩ (zZ zi O) (reg Try.f16 0) (reg Try.f16 0).toList ([x0,x1,x2,x3,x4,x5,x6,c,x8,x9,b,f,d,g,i,k,l,m,n,o,p,q,r,s,t,u,w,x,y,z,A,B,C,D,E,F,G,H,I,J,K,L,M,N,P,Q,R,U,V,W,X,Y,Z,a0,a1,a2,a3,a4,a5,a6,a7,a8,a9,b0,b1,b2,b3,b4,b5,b6,b7,b8,b9,c1,c2,c3,c4,c5,c6,c7,c8,c9,d0,d1]) S =
  (zN (yI zi 48 S) (fun v0 S1=>some ([x0,x1,v0,.int .i64 0,x4,x5,x6,c,x8,x9,b,f,d,g,i,k,l,m,n,o,p,q,r,s,t,u,w,x,y,z,A,B,C,D,E,F,G,H,I,J,K,L,M,N,P,Q,R,U,V,W,X,Y,Z,a0,a1,a2,a3,a4,a5,a6,a7,a8,a9,b0,b1,b2,b3,b4,b5,b6,b7,b8,b9,c1,c2,c3,c4,c5,c6,c7,c8,c9,d0,d1],S1)) ()):=by
 kernel_rfl
theorem zG.r1 :jD zi ⟨false,false,false⟩ (zZ zi O) (reg Try.f16 1) (reg Try.f16 1).toList ([x0,x1,x2,x3,x4,x5,x6,c,x8,x9,b,f,d,g,i,k,l,m,n,o,p,q,r,s,t,u,w,x,y,z,A,B,C,D,E,F,G,H,I,J,K,L,M,N,P,Q,R,U,V,W,X,Y,Z,a0,a1,a2,a3,a4,a5,a6,a7,a8,a9,b0,b1,b2,b3,b4,b5,b6,b7,b8,b9,c1,c2,c3,c4,c5,c6,c7,c8,c9,d0,d1]) S =
  (zN ((zZ zi O) 28 [(dem (dem x0))] S) (fun a S1=>zN (jc a 0 S1) (fun v3 S2=>zN (jc (zV 0 a) 1 S2) (fun v4 S3=>zN (jc (zV 1 (zV 0 a)) 2 S3) (fun v5 S4=>some ([x0,x1,x2,x3,v3,v4,v5,c,x8,x9,b,f,d,zV 2 (zV 1 (zV 0 a)),dem x0,dem a,dem v3,dem v4,dem v5,o,p,q,r,s,t,u,w,x,y,z,A,B,C,D,E,F,G,H,I,J,K,L,M,N,P,Q,R,U,V,W,X,Y,Z,a0,a1,a2,a3,a4,a5,a6,a7,a8,a9,b0,b1,b2,b3,b4,b5,b6,b7,b8,b9,c1,c2,c3,c4,c5,c6,c7,c8,c9,d0,d1],S4)) ()) ()) ()) ()):=by
 kernel_rfl
theorem zG.r2 :jD zi ⟨false,false,false⟩ (zZ zi O) (reg Try.f16 2) (reg Try.f16 2).toList ([x0,x1,x2,x3,x4,x5,x6,c,x8,x9,b,f,d,g,i,k,l,m,n,o,p,q,r,s,t,u,w,x,y,z,A,B,C,D,E,F,G,H,I,J,K,L,M,N,P,Q,R,U,V,W,X,Y,Z,a0,a1,a2,a3,a4,a5,a6,a7,a8,a9,b0,b1,b2,b3,b4,b5,b6,b7,b8,b9,c1,c2,c3,c4,c5,c6,c7,c8,c9,d0,d1]) S =
  (zN (wI zi BinOp.neq 3 (dem x6) (.int .i64 0) S) (fun a S1=>some ([x0,x1,x2,x3,x4,x5,x6,c,x8,x9,b,f,d,g,i,k,l,m,n,dem x6,a,q,r,s,t,u,w,x,y,z,A,B,C,D,E,F,G,H,I,J,K,L,M,N,P,Q,R,U,V,W,X,Y,Z,a0,a1,a2,a3,a4,a5,a6,a7,a8,a9,b0,b1,b2,b3,b4,b5,b6,b7,b8,b9,c1,c2,c3,c4,c5,c6,c7,c8,c9,d0,d1],S1)) ()):=by
 kernel_rfl
theorem zG.r3 :jD zi ⟨false,false,false⟩ (zZ zi O) (reg Try.f16 3) (reg Try.f16 3).toList ([x0,x1,x2,x3,x4,x5,x6,c,x8,x9,b,f,d,g,i,k,l,m,n,o,p,q,r,s,t,u,w,x,y,z,A,B,C,D,E,F,G,H,I,J,K,L,M,N,P,Q,R,U,V,W,X,Y,Z,a0,a1,a2,a3,a4,a5,a6,a7,a8,a9,b0,b1,b2,b3,b4,b5,b6,b7,b8,b9,c1,c2,c3,c4,c5,c6,c7,c8,c9,d0,d1]) S =
  (zN (yA zi 48 [] S) (fun v0 S1=>zN (wU zi 48 x2 (dem v0) S1) (fun a S2=>some ([x0,x1,x2,.int .i64 121,x4,x5,x6,c,x8,x9,b,f,d,g,i,k,l,m,n,o,p,v0,r,s,t,u,w,x,y,z,A,B,C,D,E,F,G,H,I,J,K,L,M,N,P,Q,R,U,V,W,X,Y,Z,a0,a1,a2,a3,a4,a5,a6,a7,a8,a9,b0,b1,b2,b3,b4,b5,b6,b7,b8,b9,c1,c2,c3,c4,c5,c6,c7,c8,c9,d0,d1],S2)) ()) ()):=by
 kernel_rfl
theorem zG.r4 :jD zi ⟨false,false,false⟩ (zZ zi O) (reg Try.f16 4) (reg Try.f16 4).toList ([x0,x1,x2,x3,x4,x5,x6,c,x8,x9,b,f,d,g,i,k,l,m,n,o,p,q,r,s,t,u,w,x,y,z,A,B,C,D,E,F,G,H,I,J,K,L,M,N,P,Q,R,U,V,W,X,Y,Z,a0,a1,a2,a3,a4,a5,a6,a7,a8,a9,b0,b1,b2,b3,b4,b5,b6,b7,b8,b9,c1,c2,c3,c4,c5,c6,c7,c8,c9,d0,d1]) S =
  (zN ((zZ zi O) 29 [(dem (dem x5)),(.int .i64 6)] S) (fun a S1=>zN (jc a 0 S1) (fun v3 S2=>zN (jc (zV 0 a) 1 S2) (fun v4 S3=>zN (jc (zV 1 (zV 0 a)) 2 S3) (fun v5 S4=>some ([x0,x1,x2,x3,x4,x5,x6,v3,v4,v5,b,f,d,g,i,k,l,m,n,o,p,q,zV 2 (zV 1 (zV 0 a)),dem x5,dem a,dem v3,dem v4,dem v5,y,z,A,B,C,D,E,F,G,H,I,J,K,L,M,N,P,Q,R,U,V,W,X,Y,Z,a0,a1,a2,a3,a4,a5,a6,a7,a8,a9,b0,b1,b2,b3,b4,b5,b6,b7,b8,b9,c1,c2,c3,c4,c5,c6,c7,c8,c9,d0,d1],S4)) ()) ()) ()) ()):=by
 kernel_rfl
theorem zG.r5 :jD zi ⟨false,false,false⟩ (zZ zi O) (reg Try.f16 5) (reg Try.f16 5).toList ([x0,x1,x2,x3,x4,x5,x6,c,x8,x9,b,f,d,g,i,k,l,m,n,o,p,q,r,s,t,u,w,x,y,z,A,B,C,D,E,F,G,H,I,J,K,L,M,N,P,Q,R,U,V,W,X,Y,Z,a0,a1,a2,a3,a4,a5,a6,a7,a8,a9,b0,b1,b2,b3,b4,b5,b6,b7,b8,b9,c1,c2,c3,c4,c5,c6,c7,c8,c9,d0,d1]) S =
  (zN (wI zi BinOp.neq 3 (dem x9) (.int .i64 0) S) (fun a S1=>some ([x0,x1,x2,x3,x4,x5,x6,c,x8,x9,b,f,d,g,i,k,l,m,n,o,p,q,r,s,t,u,w,x,dem x9,a,A,B,C,D,E,F,G,H,I,J,K,L,M,N,P,Q,R,U,V,W,X,Y,Z,a0,a1,a2,a3,a4,a5,a6,a7,a8,a9,b0,b1,b2,b3,b4,b5,b6,b7,b8,b9,c1,c2,c3,c4,c5,c6,c7,c8,c9,d0,d1],S1)) ()):=by
 kernel_rfl
theorem zG.r6 :jD zi ⟨false,false,false⟩ (zZ zi O) (reg Try.f16 6) (reg Try.f16 6).toList ([x0,x1,x2,x3,x4,x5,x6,c,x8,x9,b,f,d,g,i,k,l,m,n,o,p,q,r,s,t,u,w,x,y,z,A,B,C,D,E,F,G,H,I,J,K,L,M,N,P,Q,R,U,V,W,X,Y,Z,a0,a1,a2,a3,a4,a5,a6,a7,a8,a9,b0,b1,b2,b3,b4,b5,b6,b7,b8,b9,c1,c2,c3,c4,c5,c6,c7,c8,c9,d0,d1]) S =
  (zN (yA zi 48 [] S) (fun v0 S1=>zN (wU zi 48 x2 (dem v0) S1) (fun a S2=>some ([x0,x1,x2,.int .i64 121,x4,x5,x6,c,x8,x9,b,f,d,g,i,k,l,m,n,o,p,q,r,s,t,u,w,x,y,z,v0,B,C,D,E,F,G,H,I,J,K,L,M,N,P,Q,R,U,V,W,X,Y,Z,a0,a1,a2,a3,a4,a5,a6,a7,a8,a9,b0,b1,b2,b3,b4,b5,b6,b7,b8,b9,c1,c2,c3,c4,c5,c6,c7,c8,c9,d0,d1],S2)) ()) ()):=by
 kernel_rfl
theorem zG.d7:qW zi (reg Try.f16 7)=true:=by kernel_rfl
theorem zG.ff7:fixed zi (reg Try.f16 7)=false:=by kernel_rfl
theorem zG.k7:checked zi (reg Try.f16 7)=[0,1,2,3,4,5,6,7,8,9,10,11,12,13,14,15,16,17,18]:=by kernel_rfl
theorem zG.g7:again zi (reg Try.f16 7)=[(2,19),(5,19),(8,19),(11,19),(14,19),(17,19)]:=by kernel_rfl
theorem zG.r7 :zJ zi O false (.region 7 (reg Try.f16 7) true) ([x0,x1,x2,x3,x4,x5,x6,c,x8,x9,b,f,d,g,i,k,l,m,n,o,p,q,r,s,t,u,w,x,y,z,A,B,C,D,E,F,G,H,I,J,K,L,M,N,P,Q,R,U,V,W,X,Y,Z,a0,a1,a2,a3,a4,a5,a6,a7,a8,a9,b0,b1,b2,b3,b4,b5,b6,b7,b8,b9,c1,c2,c3,c4,c5,c6,c7,c8,c9,d0,d1]) S =
  Ja (okK c ( zN (jy zi 24 (dem c) (.int .i64 0) S) (fun a S1=>okK a ( zN (jh zi false 3 a S1) (fun v2 S2=>okK v2 ( okK c ( zN (jy zi 24 (dem c) (.int .i64 1) S2) (fun v4 S3=>okK v4 ( zN (jh zi false 3 v4 S3) (fun v5 S4=>okK v5 ( okK c ( zN (jy zi 24 (dem c) (.int .i64 2) S4) (fun v7 S5=>okK v7 ( zN (jh zi false 3 v7 S5) (fun v8 S6=>okK v8 ( okK c ( zN (jy zi 24 (dem c) (.int .i64 3) S6) (fun d3 S7=>okK d3 ( zN (jh zi false 3 d3 S7) (fun d6 S8=>okK d6 ( okK c ( zN (jy zi 24 (dem c) (.int .i64 4) S8) (fun d4 S9=>okK d4 ( zN (jh zi false 3 d4 S9) (fun d8 f3=>okK d8 ( okK c ( zN (jy zi 24 (dem c) (.int .i64 5) f3) (fun d5 f1=>okK d5 ( zN (jh zi false 3 d5 f1) (fun d9 f4=>okK d9 ( zN (yA zi 48 [(0,(dem v2)),(1,(dem v5)),(2,(dem v8)),(3,(dem d6)),(4,(dem d8)),(5,(dem d9))] f4) (fun f0 f5=>okK f0 ( zN (yI zi 48 f5) (fun f2 d2=>zN (wU zi 48 f2 (dem f0) d2) (fun f7 f6=>ckK (qN a S1 d2 && (qN v4 S3 d2 && (qN v7 S5 d2 && (qN d3 S7 d2 && (qN d4 S9 d2 && (qN d5 f1 d2 && (true))))))) (some ([x0,x1,x2,x3,x4,x5,x6,c,x8,x9,f2,f,d,g,i,k,l,m,n,o,p,q,r,s,t,u,w,x,y,z,A,dem c,a,v2,dem c,v4,v5,dem c,v7,v8,dem c,d3,d6,dem c,d4,d8,dem c,d5,d9,f0,X,Y,Z,a0,a1,a2,a3,a4,a5,a6,a7,a8,a9,b0,b1,b2,b3,b4,b5,b6,b7,b8,b9,c1,c2,c3,c4,c5,c6,c7,c8,c9,d0,d1],f6)) ()) ()) ()) ()) ()) ()) ()) ()) ()) ()) ()) ()) ()) ()) ()) ()) ()) ()) ()) ()) ()) ()) ()) ()) ()) ()) ()) ()) ()) ()) ()) ()) ()) ()) ()):=by
 rw [yF zG.d7 zG.ff7 zG.k7 zG.g7]
 refine congrArg Ja ?_
 refine uPC Try.f16 7 0 (v:=c) (pe:=zh) ?_
 refine uDC Try.f16 7 1 (pe:=zh) (fun a S1=>?_)
 refine uDC Try.f16 7 2 (pe:=a) (fun v2 S2=>?_)
 refine uPC Try.f16 7 3 (v:=c) (pe:=zh) ?_
 refine uDC Try.f16 7 4 (pe:=zh) (fun v4 S3=>?_)
 refine uDC Try.f16 7 5 (pe:=v4) (fun v5 S4=>?_)
 refine uPC Try.f16 7 6 (v:=c) (pe:=zh) ?_
 refine uDC Try.f16 7 7 (pe:=zh) (fun v7 S5=>?_)
 refine uDC Try.f16 7 8 (pe:=v7) (fun v8 S6=>?_)
 refine uPC Try.f16 7 9 (v:=c) (pe:=zh) ?_
 refine uDC Try.f16 7 10 (pe:=zh) (fun d3 S7=>?_)
 refine uDC Try.f16 7 11 (pe:=d3) (fun d6 S8=>?_)
 refine uPC Try.f16 7 12 (v:=c) (pe:=zh) ?_
 refine uDC Try.f16 7 13 (pe:=zh) (fun d4 S9=>?_)
 refine uDC Try.f16 7 14 (pe:=d4) (fun d8 f3=>?_)
 refine uPC Try.f16 7 15 (v:=c) (pe:=zh) ?_
 refine uDC Try.f16 7 16 (pe:=zh) (fun d5 f1=>?_)
 refine uDC Try.f16 7 17 (pe:=d5) (fun d9 f4=>?_)
 refine uDC Try.f16 7 18 (pe:=zh) (fun f0 f5=>?_)
 refine uD Try.f16 7 19 (pe:=zh) (fun f2 d2=>?_)
 refine uD Try.f16 7 20 (pe:=zh) (fun f7 f6=>?_)
 kernel_rfl
theorem zG.r8 :jD zi ⟨false,false,false⟩ (zZ zi O) (reg Try.f16 8) (reg Try.f16 8).toList ([x0,x1,x2,x3,x4,x5,x6,c,x8,x9,b,f,d,g,i,k,l,m,n,o,p,q,r,s,t,u,w,x,y,z,A,B,C,D,E,F,G,H,I,J,K,L,M,N,P,Q,R,U,V,W,X,Y,Z,a0,a1,a2,a3,a4,a5,a6,a7,a8,a9,b0,b1,b2,b3,b4,b5,b6,b7,b8,b9,c1,c2,c3,c4,c5,c6,c7,c8,c9,d0,d1]) S =
  (zN (zF zi 48 b 0 S) (fun v0 S1=>zN (jh zi false 3 v0 S1) (fun a S2=>zN (wI zi BinOp.eql 3 a (.int .i64 0) S2) (fun v2 S3=>some ([x0,x1,x2,x3,x4,x5,x6,c,x8,x9,b,f,d,g,i,k,l,m,n,o,p,q,r,s,t,u,w,x,y,z,A,B,C,D,E,F,G,H,I,J,K,L,M,N,P,Q,R,U,V,W,v0,a,v2,a0,a1,a2,a3,a4,a5,a6,a7,a8,a9,b0,b1,b2,b3,b4,b5,b6,b7,b8,b9,c1,c2,c3,c4,c5,c6,c7,c8,c9,d0,d1],S3)) ()) ()) ()):=by
 kernel_rfl
theorem zG.r9 :jD zi ⟨false,false,false⟩ (zZ zi O) (reg Try.f16 9) (reg Try.f16 9).toList ([x0,x1,x2,x3,x4,x5,x6,c,x8,x9,b,f,d,g,i,k,l,m,n,o,p,q,r,s,t,u,w,x,y,z,A,B,C,D,E,F,G,H,I,J,K,L,M,N,P,Q,R,U,V,W,X,Y,Z,a0,a1,a2,a3,a4,a5,a6,a7,a8,a9,b0,b1,b2,b3,b4,b5,b6,b7,b8,b9,c1,c2,c3,c4,c5,c6,c7,c8,c9,d0,d1]) S =
  (zN ((zZ zi O) 30 [(dem (dem x8))] S) (fun a S1=>zN (jc a 0 S1) (fun v3 S2=>zN (jc (zV 0 a) 1 S2) (fun v4 S3=>zN (zF zi 48 b 6 S3) (fun v5 S4=>zN (wU zi 43 v5 (dem v3) S4) (fun v6 S5=>some ([x0,x1,x2,x3,x4,x5,x6,c,x8,x9,b,f,d,g,i,k,l,m,n,o,p,q,r,s,t,u,w,x,y,z,A,B,C,D,E,F,G,H,I,J,K,L,M,N,P,Q,R,U,V,W,X,Y,Z,zV 1 (zV 0 a),dem x8,dem a,v3,v4,v5,a6,a7,a8,a9,b0,b1,b2,b3,b4,b5,b6,b7,b8,b9,c1,c2,c3,c4,c5,c6,c7,c8,c9,d0,d1],S5)) ()) ()) ()) ()) ()):=by
 kernel_rfl
theorem zG.r10 :jD zi ⟨false,false,false⟩ (zZ zi O) (reg Try.f16 10) (reg Try.f16 10).toList ([x0,x1,x2,x3,x4,x5,x6,c,x8,x9,b,f,d,g,i,k,l,m,n,o,p,q,r,s,t,u,w,x,y,z,A,B,C,D,E,F,G,H,I,J,K,L,M,N,P,Q,R,U,V,W,X,Y,Z,a0,a1,a2,a3,a4,a5,a6,a7,a8,a9,b0,b1,b2,b3,b4,b5,b6,b7,b8,b9,c1,c2,c3,c4,c5,c6,c7,c8,c9,d0,d1]) S =
  (zN (zF zi 48 b 0 S) (fun v0 S1=>zN (jh zi false 3 v0 S1) (fun a S2=>zN (wI zi BinOp.eql 3 a (.int .i64 1) S2) (fun v2 S3=>some ([x0,x1,x2,x3,x4,x5,x6,c,x8,x9,b,f,d,g,i,k,l,m,n,o,p,q,r,s,t,u,w,x,y,z,A,B,C,D,E,F,G,H,I,J,K,L,M,N,P,Q,R,U,V,W,X,Y,Z,a0,a1,a2,a3,a4,a5,v0,a,v2,a9,b0,b1,b2,b3,b4,b5,b6,b7,b8,b9,c1,c2,c3,c4,c5,c6,c7,c8,c9,d0,d1],S3)) ()) ()) ()):=by
 kernel_rfl
theorem zG.r11 :jD zi ⟨false,false,false⟩ (zZ zi O) (reg Try.f16 11) (reg Try.f16 11).toList ([x0,x1,x2,x3,x4,x5,x6,c,x8,x9,b,f,d,g,i,k,l,m,n,o,p,q,r,s,t,u,w,x,y,z,A,B,C,D,E,F,G,H,I,J,K,L,M,N,P,Q,R,U,V,W,X,Y,Z,a0,a1,a2,a3,a4,a5,a6,a7,a8,a9,b0,b1,b2,b3,b4,b5,b6,b7,b8,b9,c1,c2,c3,c4,c5,c6,c7,c8,c9,d0,d1]) S =
  (zN ((zZ zi O) 31 [(dem (dem x8))] S) (fun a S1=>zN (jc a 0 S1) (fun v3 S2=>zN (jc (zV 0 a) 1 S2) (fun v4 S3=>zN (zF zi 48 b 7 S3) (fun v5 S4=>zN (wU zi 46 v5 (dem v3) S4) (fun v6 S5=>some ([x0,x1,x2,x3,x4,x5,x6,c,x8,x9,b,f,d,g,i,k,l,m,n,o,p,q,r,s,t,u,w,x,y,z,A,B,C,D,E,F,G,H,I,J,K,L,M,N,P,Q,R,U,V,W,X,Y,Z,a0,a1,a2,a3,a4,a5,a6,a7,a8,zV 1 (zV 0 a),dem x8,dem a,v3,v4,v5,b5,b6,b7,b8,b9,c1,c2,c3,c4,c5,c6,c7,c8,c9,d0,d1],S5)) ()) ()) ()) ()) ()):=by
 kernel_rfl
theorem zG.r12 :jD zi ⟨false,false,false⟩ (zZ zi O) (reg Try.f16 12) (reg Try.f16 12).toList ([x0,x1,x2,x3,x4,x5,x6,c,x8,x9,b,f,d,g,i,k,l,m,n,o,p,q,r,s,t,u,w,x,y,z,A,B,C,D,E,F,G,H,I,J,K,L,M,N,P,Q,R,U,V,W,X,Y,Z,a0,a1,a2,a3,a4,a5,a6,a7,a8,a9,b0,b1,b2,b3,b4,b5,b6,b7,b8,b9,c1,c2,c3,c4,c5,c6,c7,c8,c9,d0,d1]) S =
  (zN (jh zi false 48 b S) (fun v0 S1=>zN ((zZ zi O) 19 [(dem v0)] S1) (fun a S2=>zN (jc a 0 S2) (fun v3 S3=>zN (jc (zV 0 a) 1 S3) (fun v4 S4=>some ([x0,x1,x2,x3,x4,x5,x6,c,x8,x9,b,v3,v4,g,i,k,l,m,n,o,p,q,r,s,t,u,w,x,y,z,A,B,C,D,E,F,G,H,I,J,K,L,M,N,P,Q,R,U,V,W,X,Y,Z,a0,a1,a2,a3,a4,a5,a6,a7,a8,a9,b0,b1,b2,b3,b4,zV 1 (zV 0 a),v0,dem a,dem v3,dem v4,c1,c2,c3,c4,c5,c6,c7,c8,c9,d0,d1],S4)) ()) ()) ()) ()):=by
 kernel_rfl
theorem zG.r13 :jD zi ⟨false,false,false⟩ (zZ zi O) (reg Try.f16 13) (reg Try.f16 13).toList ([x0,x1,x2,x3,x4,x5,x6,c,x8,x9,b,f,d,g,i,k,l,m,n,o,p,q,r,s,t,u,w,x,y,z,A,B,C,D,E,F,G,H,I,J,K,L,M,N,P,Q,R,U,V,W,X,Y,Z,a0,a1,a2,a3,a4,a5,a6,a7,a8,a9,b0,b1,b2,b3,b4,b5,b6,b7,b8,b9,c1,c2,c3,c4,c5,c6,c7,c8,c9,d0,d1]) S =
  (zN (wI zi BinOp.neq 3 (dem d) (.int .i64 0) S) (fun a S1=>gdK (dem a) false (ret f) S1 (fun v3 S2=>gdK (dem a) false (qU zi false false 33 9 (dem v3)) S2 (fun v4 S3=>gdK (dem a) false (ret x0) S3 (fun v5 S4=>gdK (dem a) false (qU zi false false 33 9 (dem v5)) S4 (fun v6 S5=>gdK (dem a) false (wI zi BinOp.neq 9 v4 v6) S5 (fun v7 S6=>zN (wX (dem a) (Value.bool true) v7 S6) (fun v8 S7=>some ([x0,x1,x2,x3,x4,x5,x6,c,x8,x9,b,f,d,g,i,k,l,m,n,o,p,q,r,s,t,u,w,x,y,z,A,B,C,D,E,F,G,H,I,J,K,L,M,N,P,Q,R,U,V,W,X,Y,Z,a0,a1,a2,a3,a4,a5,a6,a7,a8,a9,b0,b1,b2,b3,b4,b5,b6,b7,b8,b9,dem d,a,dem a,dem v3,v4,dem v5,v6,v7,v8,d0,d1],S7)) ()) ()) ()) ()) ()) ()) ()):=by
 refine sP Try.f16 13 0 (v:=d) ?_
 refine sD Try.f16 13 1 (fun a S1=>?_)
 refine sP Try.f16 13 2 (v:=a) ?_
 refine sG Try.f16 13 3 (j:=2) (fun v3 S2=>?_)
 refine sG Try.f16 13 4 (j:=2) (fun v4 S3=>?_)
 refine sG Try.f16 13 5 (j:=2) (fun v5 S4=>?_)
 refine sG Try.f16 13 6 (j:=2) (fun v6 S5=>?_)
 refine sG Try.f16 13 7 (j:=2) (fun v7 S6=>?_)
 refine sD Try.f16 13 8 (fun v8 S7=>?_)
 kernel_rfl
theorem zG.r14 :jD zi ⟨false,false,false⟩ (zZ zi O) (reg Try.f16 14) (reg Try.f16 14).toList ([x0,x1,x2,x3,x4,x5,x6,c,x8,x9,b,f,d,g,i,k,l,m,n,o,p,q,r,s,t,u,w,x,y,z,A,B,C,D,E,F,G,H,I,J,K,L,M,N,P,Q,R,U,V,W,X,Y,Z,a0,a1,a2,a3,a4,a5,a6,a7,a8,a9,b0,b1,b2,b3,b4,b5,b6,b7,b8,b9,c1,c2,c3,c4,c5,c6,c7,c8,c9,d0,d1]) S =
  (zN (yA zi 48 [] S) (fun v0 S1=>zN (wU zi 48 x2 (dem v0) S1) (fun a S2=>some ([x0,x1,x2,.int .i64 121,x4,x5,x6,c,x8,x9,b,f,d,g,i,k,l,m,n,o,p,q,r,s,t,u,w,x,y,z,A,B,C,D,E,F,G,H,I,J,K,L,M,N,P,Q,R,U,V,W,X,Y,Z,a0,a1,a2,a3,a4,a5,a6,a7,a8,a9,b0,b1,b2,b3,b4,b5,b6,b7,b8,b9,c1,c2,c3,c4,c5,c6,c7,c8,c9,v0,d1],S2)) ()) ()):=by
 kernel_rfl
theorem zG.r15 :jD zi ⟨false,false,false⟩ (zZ zi O) (reg Try.f16 15) (reg Try.f16 15).toList ([x0,x1,x2,x3,x4,x5,x6,c,x8,x9,b,f,d,g,i,k,l,m,n,o,p,q,r,s,t,u,w,x,y,z,A,B,C,D,E,F,G,H,I,J,K,L,M,N,P,Q,R,U,V,W,X,Y,Z,a0,a1,a2,a3,a4,a5,a6,a7,a8,a9,b0,b1,b2,b3,b4,b5,b6,b7,b8,b9,c1,c2,c3,c4,c5,c6,c7,c8,c9,d0,d1]) S =
  (zN (jh zi false 48 b S) (fun v0 S1=>zN (wU zi 48 x2 (dem v0) S1) (fun a S2=>some ([x0,x1,x2,.int .i64 0,x4,x5,x6,c,x8,x9,b,f,d,g,i,k,l,m,n,o,p,q,r,s,t,u,w,x,y,z,A,B,C,D,E,F,G,H,I,J,K,L,M,N,P,Q,R,U,V,W,X,Y,Z,a0,a1,a2,a3,a4,a5,a6,a7,a8,a9,b0,b1,b2,b3,b4,b5,b6,b7,b8,b9,c1,c2,c3,c4,c5,c6,c7,c8,c9,d0,v0],S2)) ()) ()):=by
 kernel_rfl
theorem zG.rs:type_of% (alG @zG.r0 (alG @zG.r1 (alG @zG.r2 (alG @zG.r3 (alG @zG.r4 (alG @zG.r5 (alG @zG.r6 (alG @zG.r7 (alG @zG.r8 (alG @zG.r9 (alG @zG.r10 (alG @zG.r11 (alG @zG.r12 (alG @zG.r13 (alG @zG.r14 (@zG.r15)))))))))))))))):=alG @zG.r0 (alG @zG.r1 (alG @zG.r2 (alG @zG.r3 (alG @zG.r4 (alG @zG.r5 (alG @zG.r6 (alG @zG.r7 (alG @zG.r8 (alG @zG.r9 (alG @zG.r10 (alG @zG.r11 (alG @zG.r12 (alG @zG.r13 (alG @zG.r14 (@zG.r15)))))))))))))))
theorem zG.runs {x0:Value} {S S1:zy} {e:AEx} {T:List Value} (h:zJ zi O false zG.code ([x0,zh,zh,zh,zh,zh,zh,zh,zh,zh,zh,zh,zh,zh,zh,zh,zh,zh,zh,zh,zh,zh,zh,zh,zh,zh,zh,zh,zh,zh,zh,zh,zh,zh,zh,zh,zh,zh,zh,zh,zh,zh,zh,zh,zh,zh,zh,zh,zh,zh,zh,zh,zh,zh,zh,zh,zh,zh,zh,zh,zh,zh,zh,zh,zh,zh,zh,zh,zh,zh,zh,zh,zh,zh,zh,zh,zh,zh,zh,zh,zh,zh,zh,zh]) zy.empty=some (e,T,S1)) (he:e=.normal∨e=.ret) {w0:Value} (c0:jh zi false 48 (T.getD 2 zh) S1=some (w0,S1)) (h0:wG (w0)=true) (h1:wG (T.getD 3 zh)=true) (hca:[x0].all (jW 16)=true) (hcv:jW 16 (Value.tuple #[w0,T.getD 3 zh])=true):zZ zi O 16 [x0] S=some (Value.tuple #[w0,T.getD 3 zh],S) :=
 yC rfl rfl Try.func16 (by decide) zG.body (by exact h) he ((ql ((show zQ zi T S1 Try.f16.results.toList=zQ zi T S1 [(ResultVar.cell 2 48),(ResultVar.tmp 3)] from by kernel_rfl).trans (by simp only [zQ,c0])) (by kernel_rfl) (by simp only [List.all_cons,List.all_nil,h0,h1,Bool.and_true])).trans rfl) hca hcv
end Go.Proofs.Ytfjogganfjkckaa
namespace Go.Proofs.Ytfjogganfjkckaa
open Go.Abs
abbrev jA.id:FuncId:=42
noncomputable def jA.code:Code:=(.seq (.region 0 (reg Try.f42 0) false) (.seq (.region 1 (reg Try.f42 1) false) (.seq (.seq (.region 2 (reg Try.f42 2) false) (.cond (.tmp 14) (.seq (.region 3 (reg Try.f42 3) false) Code.ret) Code.skip)) (.seq (.region 4 (reg Try.f42 4) true) (.seq (.seq (.region 5 (reg Try.f42 5) false) (.block 0 (.seq (.region 8 (reg Try.f42 8) false) (.cond (.tmp 46) (.region 9 (reg Try.f42 9) false) (.seq (.region 10 (reg Try.f42 10) false) (.cond (.tmp 54) (.region 11 (reg Try.f42 11) false) (.seq (.region 6 (reg Try.f42 6) false) (.seq (.region 7 (reg Try.f42 7) true) Code.ret)))))))) (.seq (.region 12 (reg Try.f42 12) true) Code.ret))))))
theorem jA.body:Try.f42.body=some jA.code:=by kernel_rfl
variable (x0 x1 a x3 b x5 x6 x7 x8 x9 d f g i k l m n o p q r s t u w x y z A B C D E F G c H I J K L M N P Q R U V W X Y Z a0 a1 a2 a3 a4 a5 a6 a7 a8 a9 b0 b1 b2 b3 b4 b5:Value) (S:zy)
theorem jA.r0 :jD zi ⟨false,false,false⟩ (zZ zi O) (reg Try.f42 0) (reg Try.f42 0).toList ([x0,x1,a,x3,b,x5,x6,x7,x8,x9,d,f,g,i,k,l,m,n,o,p,q,r,s,t,u,w,x,y,z,A,B,C,D,E,F,G,c,H,I,J,K,L,M,N,P,Q,R,U,V,W,X,Y,Z,a0,a1,a2,a3,a4,a5,a6,a7,a8,a9,b0,b1,b2,b3,b4,b5]) S =
  (zN (yI zi 48 S) (fun v0 S1=>some ([x0,x1,v0,Value.bool false,b,x5,x6,x7,x8,x9,d,f,g,i,k,l,m,n,o,p,q,r,s,t,u,w,x,y,z,A,B,C,D,E,F,G,c,H,I,J,K,L,M,N,P,Q,R,U,V,W,X,Y,Z,a0,a1,a2,a3,a4,a5,a6,a7,a8,a9,b0,b1,b2,b3,b4,b5],S1)) ()):=by
 kernel_rfl
theorem jA.r1 :jD zi ⟨false,false,false⟩ (zZ zi O) (reg Try.f42 1) (reg Try.f42 1).toList ([x0,x1,a,x3,b,x5,x6,x7,x8,x9,d,f,g,i,k,l,m,n,o,p,q,r,s,t,u,w,x,y,z,A,B,C,D,E,F,G,c,H,I,J,K,L,M,N,P,Q,R,U,V,W,X,Y,Z,a0,a1,a2,a3,a4,a5,a6,a7,a8,a9,b0,b1,b2,b3,b4,b5]) S =
  (zN ((zZ zi O) 55 [(dem (dem x0)),(.int .i64 6)] S) (fun v1 S1=>zN (jc v1 0 S1) (fun v3 S2=>zN (jc (zV 0 v1) 1 S2) (fun v4 S3=>zN (jc (zV 1 (zV 0 v1)) 2 S3) (fun v5 S4=>some ([x0,x1,a,x3,v3,v4,v5,zV 2 (zV 1 (zV 0 v1)),dem x0,dem v1,dem v3,dem v4,dem v5,i,k,l,m,n,o,p,q,r,s,t,u,w,x,y,z,A,B,C,D,E,F,G,c,H,I,J,K,L,M,N,P,Q,R,U,V,W,X,Y,Z,a0,a1,a2,a3,a4,a5,a6,a7,a8,a9,b0,b1,b2,b3,b4,b5],S4)) ()) ()) ()) ()):=by
 kernel_rfl
theorem jA.r2 :jD zi ⟨false,false,false⟩ (zZ zi O) (reg Try.f42 2) (reg Try.f42 2).toList ([x0,x1,a,x3,b,x5,x6,x7,x8,x9,d,f,g,i,k,l,m,n,o,p,q,r,s,t,u,w,x,y,z,A,B,C,D,E,F,G,c,H,I,J,K,L,M,N,P,Q,R,U,V,W,X,Y,Z,a0,a1,a2,a3,a4,a5,a6,a7,a8,a9,b0,b1,b2,b3,b4,b5]) S =
  (zN (wI zi BinOp.neq 64 (dem x6) (.int .i64 0) S) (fun v1 S1=>some ([x0,x1,a,x3,b,x5,x6,x7,x8,x9,d,f,g,dem x6,v1,l,m,n,o,p,q,r,s,t,u,w,x,y,z,A,B,C,D,E,F,G,c,H,I,J,K,L,M,N,P,Q,R,U,V,W,X,Y,Z,a0,a1,a2,a3,a4,a5,a6,a7,a8,a9,b0,b1,b2,b3,b4,b5],S1)) ()):=by
 kernel_rfl
theorem jA.r3 :jD zi ⟨false,false,false⟩ (zZ zi O) (reg Try.f42 3) (reg Try.f42 3).toList ([x0,x1,a,x3,b,x5,x6,x7,x8,x9,d,f,g,i,k,l,m,n,o,p,q,r,s,t,u,w,x,y,z,A,B,C,D,E,F,G,c,H,I,J,K,L,M,N,P,Q,R,U,V,W,X,Y,Z,a0,a1,a2,a3,a4,a5,a6,a7,a8,a9,b0,b1,b2,b3,b4,b5]) S =
  (zN (jh zi false 48 a S) (fun v0 S1=>zN (wU zi 48 a (dem v0) S1) (fun v1 S2=>some ([x0,x1,a,Value.bool false,b,x5,x6,x7,x8,x9,d,f,g,i,k,v0,m,n,o,p,q,r,s,t,u,w,x,y,z,A,B,C,D,E,F,G,c,H,I,J,K,L,M,N,P,Q,R,U,V,W,X,Y,Z,a0,a1,a2,a3,a4,a5,a6,a7,a8,a9,b0,b1,b2,b3,b4,b5],S2)) ()) ()):=by
 kernel_rfl
theorem jA.d4:qW zi (reg Try.f42 4)=true:=by kernel_rfl
theorem jA.ff4:fixed zi (reg Try.f42 4)=false:=by kernel_rfl
theorem jA.k4:checked zi (reg Try.f42 4)=[]:=by kernel_rfl
theorem jA.g4:again zi (reg Try.f42 4)=[]:=by kernel_rfl
theorem jA.r4 :zJ zi O false (.region 4 (reg Try.f42 4) true) ([x0,x1,a,x3,b,x5,x6,x7,x8,x9,d,f,g,i,k,l,m,n,o,p,q,r,s,t,u,w,x,y,z,A,B,C,D,E,F,G,c,H,I,J,K,L,M,N,P,Q,R,U,V,W,X,Y,Z,a0,a1,a2,a3,a4,a5,a6,a7,a8,a9,b0,b1,b2,b3,b4,b5]) S =
  Ja (zN (jy zi 24 (dem b) (.int .i64 0) S) (fun v1 S1=>zN (jh zi false 3 v1 S1) (fun v2 S2=>zN (jy zi 24 (dem b) (.int .i64 1) S2) (fun v4 S3=>zN (jh zi false 3 v4 S3) (fun v5 S4=>zN (jy zi 24 (dem b) (.int .i64 2) S4) (fun v7 S5=>zN (jh zi false 3 v7 S5) (fun v8 S6=>zN (jy zi 24 (dem b) (.int .i64 3) S6) (fun b6 S7=>zN (jh zi false 3 b6 S7) (fun b7 S8=>zN (jy zi 24 (dem b) (.int .i64 4) S8) (fun b8 S9=>zN (jh zi false 3 b8 S9) (fun b9 c4=>zN (jy zi 24 (dem b) (.int .i64 5) c4) (fun c1 c5=>zN (jh zi false 3 c1 c5) (fun c2 c6=>zN (yA zi 48 [(0,(dem v2)),(1,(dem v5)),(2,(dem v8)),(3,(dem b7)),(4,(dem b9)),(5,(dem c2))] c6) (fun c3 c7=>zN (wU zi 48 a (dem c3) c7) (fun c9 c8=>some ([x0,x1,a,x3,b,x5,x6,x7,x8,x9,d,f,g,i,k,l,dem b,v1,v2,dem b,v4,v5,dem b,v7,v8,dem b,b6,b7,dem b,b8,b9,dem b,c1,c2,c3,G,c,H,I,J,K,L,M,N,P,Q,R,U,V,W,X,Y,Z,a0,a1,a2,a3,a4,a5,a6,a7,a8,a9,b0,b1,b2,b3,b4,b5],c8)) ()) ()) ()) ()) ()) ()) ()) ()) ()) ()) ()) ()) ()) ()):=by
 rw [yF jA.d4 jA.ff4 jA.k4 jA.g4]
 refine congrArg Ja ?_
 refine tP Try.f42 4 0 (v:=b) ?_
 refine tD Try.f42 4 1 (fun v1 S1=>?_)
 refine tD Try.f42 4 2 (fun v2 S2=>?_)
 refine tP Try.f42 4 3 (v:=b) ?_
 refine tD Try.f42 4 4 (fun v4 S3=>?_)
 refine tD Try.f42 4 5 (fun v5 S4=>?_)
 refine tP Try.f42 4 6 (v:=b) ?_
 refine tD Try.f42 4 7 (fun v7 S5=>?_)
 refine tD Try.f42 4 8 (fun v8 S6=>?_)
 refine tP Try.f42 4 9 (v:=b) ?_
 refine tD Try.f42 4 10 (fun b6 S7=>?_)
 refine tD Try.f42 4 11 (fun b7 S8=>?_)
 refine tP Try.f42 4 12 (v:=b) ?_
 refine tD Try.f42 4 13 (fun b8 S9=>?_)
 refine tD Try.f42 4 14 (fun b9 c4=>?_)
 refine tP Try.f42 4 15 (v:=b) ?_
 refine tD Try.f42 4 16 (fun c1 c5=>?_)
 refine tD Try.f42 4 17 (fun c2 c6=>?_)
 refine tD Try.f42 4 18 (fun c3 c7=>?_)
 refine tD Try.f42 4 19 (fun c9 c8=>?_)
 kernel_rfl
theorem jA.r5 :jD zi ⟨false,false,false⟩ (zZ zi O) (reg Try.f42 5) (reg Try.f42 5).toList ([x0,x1,a,x3,b,x5,x6,x7,x8,x9,d,f,g,i,k,l,m,n,o,p,q,r,s,t,u,w,x,y,z,A,B,C,D,E,F,G,c,H,I,J,K,L,M,N,P,Q,R,U,V,W,X,Y,Z,a0,a1,a2,a3,a4,a5,a6,a7,a8,a9,b0,b1,b2,b3,b4,b5]) S =
  (zN (zF zi 48 a 0 S) (fun v0 S1=>zN (jh zi false 3 v0 S1) (fun v1 S2=>some ([x0,x1,a,x3,b,x5,x6,x7,x8,x9,d,f,g,i,k,l,m,n,o,p,q,r,s,t,u,w,x,y,z,A,B,C,D,E,F,v0,v1,H,I,J,K,L,M,N,P,Q,R,U,V,W,X,Y,Z,a0,a1,a2,a3,a4,a5,a6,a7,a8,a9,b0,b1,b2,b3,b4,b5],S2)) ()) ()):=by
 kernel_rfl
theorem jA.r8 :jD zi ⟨false,false,false⟩ (zZ zi O) (reg Try.f42 8) (reg Try.f42 8).toList ([x0,x1,a,x3,b,x5,x6,x7,x8,x9,d,f,g,i,k,l,m,n,o,p,q,r,s,t,u,w,x,y,z,A,B,C,D,E,F,G,c,H,I,J,K,L,M,N,P,Q,R,U,V,W,X,Y,Z,a0,a1,a2,a3,a4,a5,a6,a7,a8,a9,b0,b1,b2,b3,b4,b5]) S =
  (zN (wI zi BinOp.eql 3 c (.int .i64 0) S) (fun v0 S1=>some ([x0,x1,a,x3,b,x5,x6,x7,x8,x9,d,f,g,i,k,l,m,n,o,p,q,r,s,t,u,w,x,y,z,A,B,C,D,E,F,G,c,H,I,J,K,L,M,N,P,Q,v0,dem v0,V,W,X,Y,Z,a0,a1,a2,a3,a4,a5,a6,a7,a8,a9,b0,b1,b2,b3,b4,b5],S1)) ()):=by
 kernel_rfl
theorem jA.r9 :jD zi ⟨false,false,false⟩ (zZ zi O) (reg Try.f42 9) (reg Try.f42 9).toList ([x0,x1,a,x3,b,x5,x6,x7,x8,x9,d,f,g,i,k,l,m,n,o,p,q,r,s,t,u,w,x,y,z,A,B,C,D,E,F,G,c,H,I,J,K,L,M,N,P,Q,R,U,V,W,X,Y,Z,a0,a1,a2,a3,a4,a5,a6,a7,a8,a9,b0,b1,b2,b3,b4,b5]) S =
  (zN ((zZ zi O) 56 [(dem (dem x5))] S) (fun v1 S1=>zN (jc v1 0 S1) (fun v3 S2=>zN (jc (zV 0 v1) 1 S2) (fun v4 S3=>zN (zF zi 48 a 6 S3) (fun v5 S4=>zN (wU zi 43 v5 (dem v3) S4) (fun v6 S5=>some ([x0,x1,a,x3,b,x5,v4,x7,x8,x9,d,f,g,i,k,l,m,n,o,p,q,r,s,t,u,w,x,y,z,A,B,C,D,E,F,G,c,H,I,J,K,L,M,N,P,Q,R,U,zV 1 (zV 0 v1),dem x5,dem v1,v3,dem v4,v5,a1,a2,a3,a4,a5,a6,a7,a8,a9,b0,b1,b2,b3,b4,b5],S5)) ()) ()) ()) ()) ()):=by
 kernel_rfl
theorem jA.r10 :jD zi ⟨false,false,false⟩ (zZ zi O) (reg Try.f42 10) (reg Try.f42 10).toList ([x0,x1,a,x3,b,x5,x6,x7,x8,x9,d,f,g,i,k,l,m,n,o,p,q,r,s,t,u,w,x,y,z,A,B,C,D,E,F,G,c,H,I,J,K,L,M,N,P,Q,R,U,V,W,X,Y,Z,a0,a1,a2,a3,a4,a5,a6,a7,a8,a9,b0,b1,b2,b3,b4,b5]) S =
  (zN (wI zi BinOp.eql 3 c (.int .i64 1) S) (fun v0 S1=>some ([x0,x1,a,x3,b,x5,x6,x7,x8,x9,d,f,g,i,k,l,m,n,o,p,q,r,s,t,u,w,x,y,z,A,B,C,D,E,F,G,c,H,I,J,K,L,M,N,P,Q,R,U,V,W,X,Y,Z,a0,v0,dem v0,a3,a4,a5,a6,a7,a8,a9,b0,b1,b2,b3,b4,b5],S1)) ()):=by
 kernel_rfl
theorem jA.r11 :jD zi ⟨false,false,false⟩ (zZ zi O) (reg Try.f42 11) (reg Try.f42 11).toList ([x0,x1,a,x3,b,x5,x6,x7,x8,x9,d,f,g,i,k,l,m,n,o,p,q,r,s,t,u,w,x,y,z,A,B,C,D,E,F,G,c,H,I,J,K,L,M,N,P,Q,R,U,V,W,X,Y,Z,a0,a1,a2,a3,a4,a5,a6,a7,a8,a9,b0,b1,b2,b3,b4,b5]) S =
  (zN ((zZ zi O) 57 [(dem (dem x5))] S) (fun v1 S1=>zN (jc v1 0 S1) (fun v3 S2=>zN (jc (zV 0 v1) 1 S2) (fun v4 S3=>zN (zF zi 48 a 7 S3) (fun v5 S4=>zN (wU zi 46 v5 (dem v3) S4) (fun v6 S5=>some ([x0,x1,a,x3,b,x5,v4,x7,x8,x9,d,f,g,i,k,l,m,n,o,p,q,r,s,t,u,w,x,y,z,A,B,C,D,E,F,G,c,H,I,J,K,L,M,N,P,Q,R,U,V,W,X,Y,Z,a0,a1,a2,zV 1 (zV 0 v1),dem x5,dem v1,v3,dem v4,v5,a9,b0,b1,b2,b3,b4,b5],S5)) ()) ()) ()) ()) ()):=by
 kernel_rfl
theorem jA.r6 :jD zi ⟨false,false,false⟩ (zZ zi O) (reg Try.f42 6) (reg Try.f42 6).toList ([x0,x1,a,x3,b,x5,x6,x7,x8,x9,d,f,g,i,k,l,m,n,o,p,q,r,s,t,u,w,x,y,z,A,B,C,D,E,F,G,c,H,I,J,K,L,M,N,P,Q,R,U,V,W,X,Y,Z,a0,a1,a2,a3,a4,a5,a6,a7,a8,a9,b0,b1,b2,b3,b4,b5]) S =
  (zN (Zu zi 33 (dem x5) S) (fun v1 S1=>zN (wI zi BinOp.eql 3 v1 (.int .i64 0) S1) (fun v2 S2=>some ([x0,x1,a,v2,b,x5,x6,x7,x8,x9,d,f,g,i,k,l,m,n,o,p,q,r,s,t,u,w,x,y,z,A,B,C,D,E,F,G,c,dem x5,v1,dem v2,K,L,M,N,P,Q,R,U,V,W,X,Y,Z,a0,a1,a2,a3,a4,a5,a6,a7,a8,a9,b0,b1,b2,b3,b4,b5],S2)) ()) ()):=by
 kernel_rfl
theorem jA.d7:qW zi (reg Try.f42 7)=true:=by kernel_rfl
theorem jA.ff7:fixed zi (reg Try.f42 7)=false:=by kernel_rfl
theorem jA.k7:checked zi (reg Try.f42 7)=[0,5]:=by kernel_rfl
theorem jA.g7:again zi (reg Try.f42 7)=[(0,4)]:=by kernel_rfl
theorem jA.r7 :zJ zi O false (.region 7 (reg Try.f42 7) true) ([x0,x1,a,x3,b,x5,x6,x7,x8,x9,d,f,g,i,k,l,m,n,o,p,q,r,s,t,u,w,x,y,z,A,B,C,D,E,F,G,c,H,I,J,K,L,M,N,P,Q,R,U,V,W,X,Y,Z,a0,a1,a2,a3,a4,a5,a6,a7,a8,a9,b0,b1,b2,b3,b4,b5]) S =
  Ja (zN (jh zi false 48 a S) (fun v0 S1=>okK v0 ( gdK (dem x3) true (jh zi false 48 a) S1 (fun v3 S2=>gdK (dem x3) true ((zZ zi O) 58 [(dem v3)]) S2 (fun v4 S3=>zN (wX (dem x3) v4 (Value.bool false) S3) (fun v5 S4=>okK v5 ( zN (wU zi 48 a (dem v0) S4) (fun v6 S5=>ckK (qN a S S3 && (true)) (some ([x0,x1,a,v5,b,x5,x6,x7,x8,x9,d,f,g,i,k,l,m,n,o,p,q,r,s,t,u,w,x,y,z,A,B,C,D,E,F,G,c,H,I,J,v0,x3,dem x3,v3,v4,dem v5,R,U,V,W,X,Y,Z,a0,a1,a2,a3,a4,a5,a6,a7,a8,a9,b0,b1,b2,b3,b4,b5],S5)) ()) ()) ()) ()) ()) ()) ()) ()):=by
 rw [yF jA.d7 jA.ff7 jA.k7 jA.g7]
 refine congrArg Ja ?_
 refine uDC Try.f42 7 0 (pe:=a) (fun v0 S1=>?_)
 refine uP Try.f42 7 1 (v:=x3) (pe:=zh) ?_
 refine uP Try.f42 7 2 (v:=x3) (pe:=zh) ?_
 refine uG Try.f42 7 3 (j:=2) (pe:=a) (fun v3 S2=>?_)
 refine uG Try.f42 7 4 (j:=2) (pe:=zh) (fun v4 S3=>?_)
 refine uDC Try.f42 7 5 (pe:=zh) (fun v5 S4=>?_)
 refine uD Try.f42 7 6 (pe:=zh) (fun v6 S5=>?_)
 refine uP Try.f42 7 7 (v:=v5) (pe:=zh) ?_
 kernel_rfl
theorem jA.d12:qW zi (reg Try.f42 12)=true:=by kernel_rfl
theorem jA.alz:fixed zi (reg Try.f42 12)=false:=by kernel_rfl
theorem jA.k12:checked zi (reg Try.f42 12)=[0,6]:=by kernel_rfl
theorem jA.g12:again zi (reg Try.f42 12)=[(0,5)]:=by kernel_rfl
theorem jA.r12 :zJ zi O false (.region 12 (reg Try.f42 12) true) ([x0,x1,a,x3,b,x5,x6,x7,x8,x9,d,f,g,i,k,l,m,n,o,p,q,r,s,t,u,w,x,y,z,A,B,C,D,E,F,G,c,H,I,J,K,L,M,N,P,Q,R,U,V,W,X,Y,Z,a0,a1,a2,a3,a4,a5,a6,a7,a8,a9,b0,b1,b2,b3,b4,b5]) S =
  Ja (zN (jh zi false 48 a S) (fun v0 S1=>okK v0 ( zN (wI zi BinOp.eql 64 (dem x6) (.int .i64 0) S1) (fun v2 S2=>gdK (dem v2) true (jh zi false 48 a) S2 (fun v4 S3=>gdK (dem v2) true ((zZ zi O) 58 [(dem v4)]) S3 (fun v5 S4=>zN (wX (dem v2) v5 (Value.bool false) S4) (fun v6 S5=>okK v6 ( zN (wU zi 48 a (dem v0) S5) (fun v7 S6=>ckK (qN a S S4 && (true)) (some ([x0,x1,a,v6,b,x5,x6,x7,x8,x9,d,f,g,i,k,l,m,n,o,p,q,r,s,t,u,w,x,y,z,A,B,C,D,E,F,G,c,H,I,J,K,L,M,N,P,Q,R,U,V,W,X,Y,Z,a0,a1,a2,a3,a4,a5,a6,a7,a8,v0,dem x6,v2,dem v2,v4,v5,dem v6],S6)) ()) ()) ()) ()) ()) ()) ()) ()) ()):=by
 rw [yF jA.d12 jA.alz jA.k12 jA.g12]
 refine congrArg Ja ?_
 refine uDC Try.f42 12 0 (pe:=a) (fun v0 S1=>?_)
 refine uP Try.f42 12 1 (v:=x6) (pe:=zh) ?_
 refine uD Try.f42 12 2 (pe:=zh) (fun v2 S2=>?_)
 refine uP Try.f42 12 3 (v:=v2) (pe:=zh) ?_
 refine uG Try.f42 12 4 (j:=3) (pe:=a) (fun v4 S3=>?_)
 refine uG Try.f42 12 5 (j:=3) (pe:=zh) (fun v5 S4=>?_)
 refine uDC Try.f42 12 6 (pe:=zh) (fun v6 S5=>?_)
 refine uD Try.f42 12 7 (pe:=zh) (fun v7 S6=>?_)
 refine uP Try.f42 12 8 (v:=v6) (pe:=zh) ?_
 kernel_rfl
theorem jA.rs:type_of% (alG @jA.r0 (alG @jA.r1 (alG @jA.r2 (alG @jA.r3 (alG @jA.r4 (alG @jA.r5 (alG @jA.r8 (alG @jA.r9 (alG @jA.r10 (alG @jA.r11 (alG @jA.r6 (alG @jA.r7 (@jA.r12))))))))))))):=alG @jA.r0 (alG @jA.r1 (alG @jA.r2 (alG @jA.r3 (alG @jA.r4 (alG @jA.r5 (alG @jA.r8 (alG @jA.r9 (alG @jA.r10 (alG @jA.r11 (alG @jA.r6 (alG @jA.r7 (@jA.r12))))))))))))
theorem jA.runs {x0:Value} {S S1:zy} {e:AEx} {T:List Value} (h:zJ zi O false jA.code ([x0,zh,zh,zh,zh,zh,zh,zh,zh,zh,zh,zh,zh,zh,zh,zh,zh,zh,zh,zh,zh,zh,zh,zh,zh,zh,zh,zh,zh,zh,zh,zh,zh,zh,zh,zh,zh,zh,zh,zh,zh,zh,zh,zh,zh,zh,zh,zh,zh,zh,zh,zh,zh,zh,zh,zh,zh,zh,zh,zh,zh,zh,zh,zh,zh,zh,zh,zh,zh]) zy.empty=some (e,T,S1)) (he:e=.normal∨e=.ret) {w0:Value} (c0:jh zi false 48 (T.getD 2 zh) S1=some (w0,S1)) (h0:wG (w0)=true) (h1:wG (T.getD 3 zh)=true) (hca:[x0].all (jW 16)=true) (hcv:jW 16 (Value.tuple #[w0,T.getD 3 zh])=true):zZ zi O 42 [x0] S=some (Value.tuple #[w0,T.getD 3 zh],S) :=
 yC rfl rfl Try.func42 (by decide) jA.body (by exact h) he ((ql ((show zQ zi T S1 Try.f42.results.toList=zQ zi T S1 [(ResultVar.cell 2 48),(ResultVar.tmp 3)] from by kernel_rfl).trans (by simp only [zQ,c0])) (by kernel_rfl) (by simp only [List.all_cons,List.all_nil,h0,h1,Bool.and_true])).trans rfl) hca hcv
end Go.Proofs.Ytfjogganfjkckaa
namespace Go.Proofs.Ytfjogganfjkckaa
open Go.Abs
abbrev zT.id:FuncId:=19
noncomputable def zT.code:Code:=(.seq (.region 0 (reg Try.f19 0) false) (.seq (.seq (.region 1 (reg Try.f19 1) false) (.cond (.tmp 12) (.seq (.region 2 (reg Try.f19 2) false) Code.ret) Code.skip)) (.seq (.region 3 (reg Try.f19 3) false) (.seq (.seq (.region 4 (reg Try.f19 4) false) (.cond (.tmp 32) (.seq (.region 5 (reg Try.f19 5) false) (.region 6 (reg Try.f19 6) false)) Code.skip)) (.seq (.seq (.region 7 (reg Try.f19 7) false) (.cond (.tmp 44) (.seq (.region 8 (reg Try.f19 8) false) (.region 9 (reg Try.f19 9) false)) Code.skip)) (.seq (.region 10 (reg Try.f19 10) false) Code.ret))))))
theorem zT.body:Try.f19.body=some zT.code:=by kernel_rfl
variable (x0 a x2 x3 x4 x5 x6 x7 x8 x9 b c d f g i j k l m n o p q r s t u v w x y z A B C D E F G H I J K L M N P Q R U V W X Y Z a0 a1 a2 a3 a4 a5:Value) (S:zy)
theorem zT.r0 :jD zi ⟨false,false,false⟩ (zZ zi O) (reg Try.f19 0) (reg Try.f19 0).toList ([x0,a,x2,x3,x4,x5,x6,x7,x8,x9,b,c,d,f,g,i,j,k,l,m,n,o,p,q,r,s,t,u,v,w,x,y,z,A,B,C,D,E,F,G,H,I,J,K,L,M,N,P,Q,R,U,V,W,X,Y,Z,a0,a1,a2,a3,a4,a5]) S =
  (zN (J3 (dem x0) S) (fun v0 S1=>some ([x0,v0,Value.slice none 0 0,.int .i64 0,x4,x5,x6,x7,x8,x9,b,c,d,f,g,i,j,k,l,m,n,o,p,q,r,s,t,u,v,w,x,y,z,A,B,C,D,E,F,G,H,I,J,K,L,M,N,P,Q,R,U,V,W,X,Y,Z,a0,a1,a2,a3,a4,a5],S1)) ()):=by
 kernel_rfl
theorem zT.r1 :jD zi ⟨false,false,false⟩ (zZ zi O) (reg Try.f19 1) (reg Try.f19 1).toList ([x0,a,x2,x3,x4,x5,x6,x7,x8,x9,b,c,d,f,g,i,j,k,l,m,n,o,p,q,r,s,t,u,v,w,x,y,z,A,B,C,D,E,F,G,H,I,J,K,L,M,N,P,Q,R,U,V,W,X,Y,Z,a0,a1,a2,a3,a4,a5]) S =
  (zN (jh zi false 48 a S) (fun v0 S1=>zN ((zZ zi O) 34 [(dem v0)] S1) (fun v1 S2=>zN (aUn zi UnOp.not v1 S2) (fun v2 S3=>some ([x0,a,x2,x3,x4,x5,x6,x7,x8,x9,v0,v1,v2,f,g,i,j,k,l,m,n,o,p,q,r,s,t,u,v,w,x,y,z,A,B,C,D,E,F,G,H,I,J,K,L,M,N,P,Q,R,U,V,W,X,Y,Z,a0,a1,a2,a3,a4,a5],S3)) ()) ()) ()):=by
 kernel_rfl
theorem zT.r2 :jD zi ⟨false,false,false⟩ (zZ zi O) (reg Try.f19 2) (reg Try.f19 2).toList ([x0,a,x2,x3,x4,x5,x6,x7,x8,x9,b,c,d,f,g,i,j,k,l,m,n,o,p,q,r,s,t,u,v,w,x,y,z,A,B,C,D,E,F,G,H,I,J,K,L,M,N,P,Q,R,U,V,W,X,Y,Z,a0,a1,a2,a3,a4,a5]) S =
  ( some ([x0,a,Value.slice none 0 0,.int .i64 121,x4,x5,x6,x7,x8,x9,b,c,d,f,g,i,j,k,l,m,n,o,p,q,r,s,t,u,v,w,x,y,z,A,B,C,D,E,F,G,H,I,J,K,L,M,N,P,Q,R,U,V,W,X,Y,Z,a0,a1,a2,a3,a4,a5],S)):=by
 kernel_rfl
theorem zT.r3 :jD zi ⟨false,false,false⟩ (zZ zi O) (reg Try.f19 3) (reg Try.f19 3).toList ([x0,a,x2,x3,x4,x5,x6,x7,x8,x9,b,c,d,f,g,i,j,k,l,m,n,o,p,q,r,s,t,u,v,w,x,y,z,A,B,C,D,E,F,G,H,I,J,K,L,M,N,P,Q,R,U,V,W,X,Y,Z,a0,a1,a2,a3,a4,a5]) S =
  (zN (zF zi 48 a 0 S) (fun v0 S1=>zN (jh zi false 3 v0 S1) (fun v1 S2=>zN (zF zi 48 a 1 S2) (fun v2 S3=>zN (jh zi false 3 v2 S3) (fun v3 S4=>zN (zF zi 48 a 2 S4) (fun v4 S5=>zN (jh zi false 3 v4 S5) (fun v5 S6=>zN (zF zi 48 a 3 S6) (fun v6 S7=>zN (jh zi false 3 v6 S7) (fun v7 S8=>zN (zF zi 48 a 4 S8) (fun v8 S9=>zN (jh zi false 3 v8 S9) (fun v9 b2=>zN (zF zi 48 a 5 b2) (fun a7 b3=>zN (jh zi false 3 a7 b3) (fun a8 b4=>zN (jK zi 24 6 [(0,v1),(1,v3),(2,v5),(3,v7),(4,v9),(5,a8)] b4) (fun a9 b5=>zN ((zZ zi O) 35 [(dem a9)] b5) (fun a6 b6=>zN (jc a6 0 b6) (fun b0 b7=>zN (jc (zV 0 a6) 1 b7) (fun b1 b8=>some ([x0,a,x2,x3,b0,b1,x6,x7,x8,x9,b,c,d,zV 1 (zV 0 a6),v0,v1,v2,v3,v4,v5,v6,v7,v8,v9,a7,a8,a9,dem a6,dem b0,dem b1,x,y,z,A,B,C,D,E,F,G,H,I,J,K,L,M,N,P,Q,R,U,V,W,X,Y,Z,a0,a1,a2,a3,a4,a5],b8)) ()) ()) ()) ()) ()) ()) ()) ()) ()) ()) ()) ()) ()) ()) ()) ()):=by
 kernel_rfl
theorem zT.r4 :jD zi ⟨false,false,false⟩ (zZ zi O) (reg Try.f19 4) (reg Try.f19 4).toList ([x0,a,x2,x3,x4,x5,x6,x7,x8,x9,b,c,d,f,g,i,j,k,l,m,n,o,p,q,r,s,t,u,v,w,x,y,z,A,B,C,D,E,F,G,H,I,J,K,L,M,N,P,Q,R,U,V,W,X,Y,Z,a0,a1,a2,a3,a4,a5]) S =
  (zN (zF zi 48 a 0 S) (fun v0 S1=>zN (jh zi false 3 v0 S1) (fun v1 S2=>zN (wI zi BinOp.eql 3 v1 (.int .i64 0) S2) (fun v2 S3=>some ([x0,a,x2,x3,x4,x5,x6,x7,x8,x9,b,c,d,f,g,i,j,k,l,m,n,o,p,q,r,s,t,u,v,w,v0,v1,v2,A,B,C,D,E,F,G,H,I,J,K,L,M,N,P,Q,R,U,V,W,X,Y,Z,a0,a1,a2,a3,a4,a5],S3)) ()) ()) ()):=by
 kernel_rfl
theorem zT.r5 :jD zi ⟨false,false,false⟩ (zZ zi O) (reg Try.f19 5) (reg Try.f19 5).toList ([x0,a,x2,x3,x4,x5,x6,x7,x8,x9,b,c,d,f,g,i,j,k,l,m,n,o,p,q,r,s,t,u,v,w,x,y,z,A,B,C,D,E,F,G,H,I,J,K,L,M,N,P,Q,R,U,V,W,X,Y,Z,a0,a1,a2,a3,a4,a5]) S =
  (zN (zF zi 48 a 6 S) (fun v0 S1=>zN (jh zi false 43 v0 S1) (fun v1 S2=>zN ((zZ zi O) 36 [(dem v1)] S2) (fun v2 S3=>zN (jc v2 0 S3) (fun v4 S4=>zN (jc (zV 0 v2) 1 S4) (fun v5 S5=>some ([x0,a,x2,x3,x4,x5,v4,v5,x8,x9,b,c,d,f,g,i,j,k,l,m,n,o,p,q,r,s,t,u,v,w,x,y,z,zV 1 (zV 0 v2),v0,v1,dem v2,dem v4,dem v5,G,H,I,J,K,L,M,N,P,Q,R,U,V,W,X,Y,Z,a0,a1,a2,a3,a4,a5],S5)) ()) ()) ()) ()) ()):=by
 kernel_rfl
theorem zT.r6 :jD zi ⟨false,false,false⟩ (zZ zi O) (reg Try.f19 6) (reg Try.f19 6).toList ([x0,a,x2,x3,x4,x5,x6,x7,x8,x9,b,c,d,f,g,i,j,k,l,m,n,o,p,q,r,s,t,u,v,w,x,y,z,A,B,C,D,E,F,G,H,I,J,K,L,M,N,P,Q,R,U,V,W,X,Y,Z,a0,a1,a2,a3,a4,a5]) S =
  (zN (wR zi 33 33 x4 (dem x6) S) (fun v2 S1=>some ([x0,a,x2,x3,v2,x5,x6,x7,x8,x9,b,c,d,f,g,i,j,k,l,m,n,o,p,q,r,s,t,u,v,w,x,y,z,A,B,C,D,E,F,dem x4,dem x6,dem v2,J,K,L,M,N,P,Q,R,U,V,W,X,Y,Z,a0,a1,a2,a3,a4,a5],S1)) ()):=by
 kernel_rfl
theorem zT.r7 :jD zi ⟨false,false,false⟩ (zZ zi O) (reg Try.f19 7) (reg Try.f19 7).toList ([x0,a,x2,x3,x4,x5,x6,x7,x8,x9,b,c,d,f,g,i,j,k,l,m,n,o,p,q,r,s,t,u,v,w,x,y,z,A,B,C,D,E,F,G,H,I,J,K,L,M,N,P,Q,R,U,V,W,X,Y,Z,a0,a1,a2,a3,a4,a5]) S =
  (zN (zF zi 48 a 0 S) (fun v0 S1=>zN (jh zi false 3 v0 S1) (fun v1 S2=>zN (wI zi BinOp.eql 3 v1 (.int .i64 1) S2) (fun v2 S3=>some ([x0,a,x2,x3,x4,x5,x6,x7,x8,x9,b,c,d,f,g,i,j,k,l,m,n,o,p,q,r,s,t,u,v,w,x,y,z,A,B,C,D,E,F,G,H,I,v0,v1,v2,M,N,P,Q,R,U,V,W,X,Y,Z,a0,a1,a2,a3,a4,a5],S3)) ()) ()) ()):=by
 kernel_rfl
theorem zT.r8 :jD zi ⟨false,false,false⟩ (zZ zi O) (reg Try.f19 8) (reg Try.f19 8).toList ([x0,a,x2,x3,x4,x5,x6,x7,x8,x9,b,c,d,f,g,i,j,k,l,m,n,o,p,q,r,s,t,u,v,w,x,y,z,A,B,C,D,E,F,G,H,I,J,K,L,M,N,P,Q,R,U,V,W,X,Y,Z,a0,a1,a2,a3,a4,a5]) S =
  (zN (zF zi 48 a 7 S) (fun v0 S1=>zN (jh zi false 46 v0 S1) (fun v1 S2=>zN ((zZ zi O) 37 [(dem v1)] S2) (fun v2 S3=>zN (jc v2 0 S3) (fun v4 S4=>zN (jc (zV 0 v2) 1 S4) (fun v5 S5=>some ([x0,a,x2,x3,x4,x5,x6,x7,v4,v5,b,c,d,f,g,i,j,k,l,m,n,o,p,q,r,s,t,u,v,w,x,y,z,A,B,C,D,E,F,G,H,I,J,K,L,zV 1 (zV 0 v2),v0,v1,dem v2,dem v4,dem v5,V,W,X,Y,Z,a0,a1,a2,a3,a4,a5],S5)) ()) ()) ()) ()) ()):=by
 kernel_rfl
theorem zT.r9 :jD zi ⟨false,false,false⟩ (zZ zi O) (reg Try.f19 9) (reg Try.f19 9).toList ([x0,a,x2,x3,x4,x5,x6,x7,x8,x9,b,c,d,f,g,i,j,k,l,m,n,o,p,q,r,s,t,u,v,w,x,y,z,A,B,C,D,E,F,G,H,I,J,K,L,M,N,P,Q,R,U,V,W,X,Y,Z,a0,a1,a2,a3,a4,a5]) S =
  (zN (wR zi 33 33 x4 (dem x8) S) (fun v2 S1=>some ([x0,a,x2,x3,v2,x5,x6,x7,x8,x9,b,c,d,f,g,i,j,k,l,m,n,o,p,q,r,s,t,u,v,w,x,y,z,A,B,C,D,E,F,G,H,I,J,K,L,M,N,P,Q,R,U,dem x4,dem x8,dem v2,Y,Z,a0,a1,a2,a3,a4,a5],S1)) ()):=by
 kernel_rfl
theorem zT.r10 :jD zi ⟨false,false,false⟩ (zZ zi O) (reg Try.f19 10) (reg Try.f19 10).toList ([x0,a,x2,x3,x4,x5,x6,x7,x8,x9,b,c,d,f,g,i,j,k,l,m,n,o,p,q,r,s,t,u,v,w,x,y,z,A,B,C,D,E,F,G,H,I,J,K,L,M,N,P,Q,R,U,V,W,X,Y,Z,a0,a1,a2,a3,a4,a5]) S =
  (zN (zF zi 48 a 1 S) (fun v0 S1=>zN (jh zi false 3 v0 S1) (fun v1 S2=>zN ((zZ zi O) 40 [(dem v1)] S2) (fun v2 S3=>zN ((zZ zi O) 39 [(dem v2),(dem (dem x4))] S3) (fun v4 S4=>zN ((zZ zi O) 38 [(dem v4)] S4) (fun v5 S5=>zN (wR zi 33 33 v5 (dem x4) S5) (fun v7 S6=>some ([x0,a,v7,.int .i64 0,x4,x5,x6,x7,x8,x9,b,c,d,f,g,i,j,k,l,m,n,o,p,q,r,s,t,u,v,w,x,y,z,A,B,C,D,E,F,G,H,I,J,K,L,M,N,P,Q,R,U,V,W,X,v0,v1,v2,dem x4,v4,dem v5,dem x4,dem v7],S6)) ()) ()) ()) ()) ()) ()):=by
 kernel_rfl
theorem zT.rs:type_of% (alG @zT.r0 (alG @zT.r1 (alG @zT.r2 (alG @zT.r3 (alG @zT.r4 (alG @zT.r5 (alG @zT.r6 (alG @zT.r7 (alG @zT.r8 (alG @zT.r9 (@zT.r10))))))))))):=alG @zT.r0 (alG @zT.r1 (alG @zT.r2 (alG @zT.r3 (alG @zT.r4 (alG @zT.r5 (alG @zT.r6 (alG @zT.r7 (alG @zT.r8 (alG @zT.r9 (@zT.r10))))))))))
theorem zT.runs {x0:Value} {S S1:zy} {e:AEx} {T:List Value} (h:zJ zi O false zT.code ([x0,zh,zh,zh,zh,zh,zh,zh,zh,zh,zh,zh,zh,zh,zh,zh,zh,zh,zh,zh,zh,zh,zh,zh,zh,zh,zh,zh,zh,zh,zh,zh,zh,zh,zh,zh,zh,zh,zh,zh,zh,zh,zh,zh,zh,zh,zh,zh,zh,zh,zh,zh,zh,zh,zh,zh,zh,zh,zh,zh,zh,zh]) zy.empty=some (e,T,S1)) (he:e=.normal∨e=.ret)  (h0:wG (T.getD 2 zh)=true) (h1:wG (T.getD 3 zh)=true) (hca:[x0].all (jW 16)=true) (hcv:jW 16 (Value.tuple #[T.getD 2 zh,T.getD 3 zh])=true):zZ zi O 19 [x0] S=some (Value.tuple #[T.getD 2 zh,T.getD 3 zh],S) :=
 yC rfl rfl Try.func19 (by decide) zT.body (by exact h) he ((ql ((show zQ zi T S1 Try.f19.results.toList=zQ zi T S1 [(ResultVar.tmp 2),(ResultVar.tmp 3)] from by kernel_rfl).trans (by simp only [zQ])) (by kernel_rfl) (by simp only [List.all_cons,List.all_nil,h0,h1,Bool.and_true])).trans rfl) hca hcv
end Go.Proofs.Ytfjogganfjkckaa
namespace Go.Proofs.Ytfjogganfjkckaa
open Go.Abs
abbrev jI.id:FuncId:=58
noncomputable def jI.code:Code:=(.seq (.region 0 (reg Try.f58 0) false) (.seq (.seq (.region 1 (reg Try.f58 1) true) (.cond (.tmp 27) (.seq (.region 2 (reg Try.f58 2) false) Code.ret) Code.skip)) (.seq (.seq (.region 3 (reg Try.f58 3) false) (.block 0 (.seq (.region 4 (reg Try.f58 4) false) (.cond (.tmp 30) (.seq (.region 5 (reg Try.f58 5) false) Code.ret) (.seq (.region 6 (reg Try.f58 6) false) (.cond (.tmp 35) (.seq (.region 7 (reg Try.f58 7) false) Code.ret) (.seq (.region 8 (reg Try.f58 8) false) (.cond (.tmp 40) (.seq (.region 9 (reg Try.f58 9) false) (.cond (.tmp 51) (.seq (.region 10 (reg Try.f58 10) false) Code.ret) Code.skip)) Code.skip)))))))) (.seq (.region 11 (reg Try.f58 11) false) Code.ret))))
theorem jI.body:Try.f58.body=some jI.code:=by kernel_rfl
variable (x0 b x2 x3 x4 x5 x6 x7 x8 x9 d f g i k l m n o p q r s t u w x y z c A B C D E F G H I J K L M N P Q R U V W X Y Z a0 a1 a2 a3 a4 a5 a6 a7 a8 a9 b0 b1 b2 b3 b4 b5 b6 b7 b8 b9 c0:Value) (S:zy)
theorem jI.r0 :jD zi ⟨false,false,false⟩ (zZ zi O) (reg Try.f58 0) (reg Try.f58 0).toList ([x0,b,x2,x3,x4,x5,x6,x7,x8,x9,d,f,g,i,k,l,m,n,o,p,q,r,s,t,u,w,x,y,z,c,A,B,C,D,E,F,G,H,I,J,K,L,M,N,P,Q,R,U,V,W,X,Y,Z,a0,a1,a2,a3,a4,a5,a6,a7,a8,a9,b0,b1,b2,b3,b4,b5,b6,b7,b8,b9,c0]) S =
  (zN (J3 (dem x0) S) (fun v0 S1=>some ([x0,v0,Value.bool false,x3,x4,x5,x6,x7,x8,x9,d,f,g,i,k,l,m,n,o,p,q,r,s,t,u,w,x,y,z,c,A,B,C,D,E,F,G,H,I,J,K,L,M,N,P,Q,R,U,V,W,X,Y,Z,a0,a1,a2,a3,a4,a5,a6,a7,a8,a9,b0,b1,b2,b3,b4,b5,b6,b7,b8,b9,c0],S1)) ()):=by
 kernel_rfl
theorem jI.d1:qW zi (reg Try.f58 1)=true:=by kernel_rfl
theorem jI.ff1:fixed zi (reg Try.f58 1)=false:=by kernel_rfl
theorem jI.k1:checked zi (reg Try.f58 1)=[19]:=by kernel_rfl
theorem jI.g1:again zi (reg Try.f58 1)=[(19,21)]:=by kernel_rfl
theorem jI.r1 :zJ zi O false (.region 1 (reg Try.f58 1) true) ([x0,b,x2,x3,x4,x5,x6,x7,x8,x9,d,f,g,i,k,l,m,n,o,p,q,r,s,t,u,w,x,y,z,c,A,B,C,D,E,F,G,H,I,J,K,L,M,N,P,Q,R,U,V,W,X,Y,Z,a0,a1,a2,a3,a4,a5,a6,a7,a8,a9,b0,b1,b2,b3,b4,b5,b6,b7,b8,b9,c0]) S =
  Ja (zN (zF zi 48 b 0 S) (fun v0 S1=>zN (jh zi false 3 v0 S1) (fun v1 S2=>zN (wI zi BinOp.lss 3 v1 (.int .i64 0) S2) (fun v2 S3=>gdK (dem v2) false (zF zi 48 b 0) S3 (fun v4 S4=>gdK (dem v2) false (jh zi false 3 v4) S4 (fun v5 S5=>gdK (dem v2) false (wI zi BinOp.gtr 3 v5 (.int .i64 6)) S5 (fun v6 S6=>zN (wX (dem v2) (Value.bool true) v6 S6) (fun v7 S7=>gdK (dem v7) false (zF zi 48 b 1) S7 (fun v9 S8=>gdK (dem v7) false (jh zi false 3 v9) S8 (fun c5 S9=>gdK (dem v7) false (wI zi BinOp.lss 3 c5 (.int .i64 0)) S9 (fun c6 d4=>zN (wX (dem v7) (Value.bool true) c6 d4) (fun c2 d5=>gdK (dem c2) false (zF zi 48 b 1) d5 (fun c3 d6=>gdK (dem c2) false (jh zi false 3 c3) d6 (fun c7 d7=>gdK (dem c2) false (wI zi BinOp.geq 3 c7 (.int .i64 7)) d7 (fun c8 d8=>zN (wX (dem c2) (Value.bool true) c8 d8) (fun c1 d2=>aeV (dem c1) false (jh zi false 48 b) d2 (fun c9 d9=>gdK (dem c1) false (jh zi false 48 b) d9 (fun d0 f0=>gdK (dem c1) false ((zZ zi O) 67 [(dem d0)]) f0 (fun c4 d3=>gdK (dem c1) false ((zZ zi O) 66 [(dem c9),(dem c4)]) d3 (fun f1 f3=>gdK (dem c1) false (aUn zi UnOp.not f1) f3 (fun f2 f4=>zN (wX (dem c1) (Value.bool true) f2 f4) (fun f5 f6=>ckK (qN b d2 d3 && (true)) (some ([x0,b,x2,v0,v1,v2,dem v2,v4,v5,v6,v7,dem v7,v9,c5,c6,c2,dem c2,c3,c7,c8,c1,dem c1,c9,d0,c4,f1,f2,f5,z,c,A,B,C,D,E,F,G,H,I,J,K,L,M,N,P,Q,R,U,V,W,X,Y,Z,a0,a1,a2,a3,a4,a5,a6,a7,a8,a9,b0,b1,b2,b3,b4,b5,b6,b7,b8,b9,c0],f6)) ()) ()) ()) ()) ()) ()) ()) ()) ()) ()) ()) ()) ()) ()) ()) ()) ()) ()) ()) ()) ()) ()):=by
 rw [yF jI.d1 jI.ff1 jI.k1 jI.g1]
 refine congrArg Ja ?_
 refine uD Try.f58 1 0 (pe:=zh) (fun v0 S1=>?_)
 refine uD Try.f58 1 1 (pe:=v0) (fun v1 S2=>?_)
 refine uD Try.f58 1 2 (pe:=zh) (fun v2 S3=>?_)
 refine uP Try.f58 1 3 (v:=v2) (pe:=zh) ?_
 refine uG Try.f58 1 4 (j:=3) (pe:=zh) (fun v4 S4=>?_)
 refine uG Try.f58 1 5 (j:=3) (pe:=v4) (fun v5 S5=>?_)
 refine uG Try.f58 1 6 (j:=3) (pe:=zh) (fun v6 S6=>?_)
 refine uD Try.f58 1 7 (pe:=zh) (fun v7 S7=>?_)
 refine uP Try.f58 1 8 (v:=v7) (pe:=zh) ?_
 refine uG Try.f58 1 9 (j:=8) (pe:=zh) (fun v9 S8=>?_)
 refine uG Try.f58 1 10 (j:=8) (pe:=v9) (fun c5 S9=>?_)
 refine uG Try.f58 1 11 (j:=8) (pe:=zh) (fun c6 d4=>?_)
 refine uD Try.f58 1 12 (pe:=zh) (fun c2 d5=>?_)
 refine uP Try.f58 1 13 (v:=c2) (pe:=zh) ?_
 refine uG Try.f58 1 14 (j:=13) (pe:=zh) (fun c3 d6=>?_)
 refine uG Try.f58 1 15 (j:=13) (pe:=c3) (fun c7 d7=>?_)
 refine uG Try.f58 1 16 (j:=13) (pe:=zh) (fun c8 d8=>?_)
 refine uD Try.f58 1 17 (pe:=zh) (fun c1 d2=>?_)
 refine uP Try.f58 1 18 (v:=c1) (pe:=zh) ?_
 refine uGC Try.f58 1 19 (j:=18) (pe:=b) (fun c9 d9=>?_)
 refine uG Try.f58 1 20 (j:=18) (pe:=b) (fun d0 f0=>?_)
 refine uG Try.f58 1 21 (j:=18) (pe:=zh) (fun c4 d3=>?_)
 refine uG Try.f58 1 22 (j:=18) (pe:=zh) (fun f1 f3=>?_)
 refine uG Try.f58 1 23 (j:=18) (pe:=zh) (fun f2 f4=>?_)
 refine uD Try.f58 1 24 (pe:=zh) (fun f5 f6=>?_)
 kernel_rfl
theorem jI.r2 :jD zi ⟨false,false,false⟩ (zZ zi O) (reg Try.f58 2) (reg Try.f58 2).toList ([x0,b,x2,x3,x4,x5,x6,x7,x8,x9,d,f,g,i,k,l,m,n,o,p,q,r,s,t,u,w,x,y,z,c,A,B,C,D,E,F,G,H,I,J,K,L,M,N,P,Q,R,U,V,W,X,Y,Z,a0,a1,a2,a3,a4,a5,a6,a7,a8,a9,b0,b1,b2,b3,b4,b5,b6,b7,b8,b9,c0]) S =
  ( some ([x0,b,Value.bool false,x3,x4,x5,x6,x7,x8,x9,d,f,g,i,k,l,m,n,o,p,q,r,s,t,u,w,x,y,z,c,A,B,C,D,E,F,G,H,I,J,K,L,M,N,P,Q,R,U,V,W,X,Y,Z,a0,a1,a2,a3,a4,a5,a6,a7,a8,a9,b0,b1,b2,b3,b4,b5,b6,b7,b8,b9,c0],S)):=by
 kernel_rfl
theorem jI.r3 :jD zi ⟨false,false,false⟩ (zZ zi O) (reg Try.f58 3) (reg Try.f58 3).toList ([x0,b,x2,x3,x4,x5,x6,x7,x8,x9,d,f,g,i,k,l,m,n,o,p,q,r,s,t,u,w,x,y,z,c,A,B,C,D,E,F,G,H,I,J,K,L,M,N,P,Q,R,U,V,W,X,Y,Z,a0,a1,a2,a3,a4,a5,a6,a7,a8,a9,b0,b1,b2,b3,b4,b5,b6,b7,b8,b9,c0]) S =
  (zN (zF zi 48 b 0 S) (fun v0 S1=>zN (jh zi false 3 v0 S1) (fun v1 S2=>some ([x0,b,x2,x3,x4,x5,x6,x7,x8,x9,d,f,g,i,k,l,m,n,o,p,q,r,s,t,u,w,x,y,v0,v1,A,B,C,D,E,F,G,H,I,J,K,L,M,N,P,Q,R,U,V,W,X,Y,Z,a0,a1,a2,a3,a4,a5,a6,a7,a8,a9,b0,b1,b2,b3,b4,b5,b6,b7,b8,b9,c0],S2)) ()) ()):=by
 kernel_rfl
theorem jI.r4 :jD zi ⟨false,false,false⟩ (zZ zi O) (reg Try.f58 4) (reg Try.f58 4).toList ([x0,b,x2,x3,x4,x5,x6,x7,x8,x9,d,f,g,i,k,l,m,n,o,p,q,r,s,t,u,w,x,y,z,c,A,B,C,D,E,F,G,H,I,J,K,L,M,N,P,Q,R,U,V,W,X,Y,Z,a0,a1,a2,a3,a4,a5,a6,a7,a8,a9,b0,b1,b2,b3,b4,b5,b6,b7,b8,b9,c0]) S =
  (zN (wI zi BinOp.eql 3 c (.int .i64 0) S) (fun v0 S1=>some ([x0,b,x2,x3,x4,x5,x6,x7,x8,x9,d,f,g,i,k,l,m,n,o,p,q,r,s,t,u,w,x,y,z,c,v0,dem v0,C,D,E,F,G,H,I,J,K,L,M,N,P,Q,R,U,V,W,X,Y,Z,a0,a1,a2,a3,a4,a5,a6,a7,a8,a9,b0,b1,b2,b3,b4,b5,b6,b7,b8,b9,c0],S1)) ()):=by
 kernel_rfl
theorem jI.r5 :jD zi ⟨false,false,false⟩ (zZ zi O) (reg Try.f58 5) (reg Try.f58 5).toList ([x0,b,x2,x3,x4,x5,x6,x7,x8,x9,d,f,g,i,k,l,m,n,o,p,q,r,s,t,u,w,x,y,z,c,A,B,C,D,E,F,G,H,I,J,K,L,M,N,P,Q,R,U,V,W,X,Y,Z,a0,a1,a2,a3,a4,a5,a6,a7,a8,a9,b0,b1,b2,b3,b4,b5,b6,b7,b8,b9,c0]) S =
  (zN (zF zi 48 b 6 S) (fun v0 S1=>zN (jh zi false 43 v0 S1) (fun v1 S2=>zN ((zZ zi O) 68 [(dem v1)] S2) (fun v2 S3=>some ([x0,b,v2,x3,x4,x5,x6,x7,x8,x9,d,f,g,i,k,l,m,n,o,p,q,r,s,t,u,w,x,y,z,c,A,B,v0,v1,dem v2,F,G,H,I,J,K,L,M,N,P,Q,R,U,V,W,X,Y,Z,a0,a1,a2,a3,a4,a5,a6,a7,a8,a9,b0,b1,b2,b3,b4,b5,b6,b7,b8,b9,c0],S3)) ()) ()) ()):=by
 kernel_rfl
theorem jI.r6 :jD zi ⟨false,false,false⟩ (zZ zi O) (reg Try.f58 6) (reg Try.f58 6).toList ([x0,b,x2,x3,x4,x5,x6,x7,x8,x9,d,f,g,i,k,l,m,n,o,p,q,r,s,t,u,w,x,y,z,c,A,B,C,D,E,F,G,H,I,J,K,L,M,N,P,Q,R,U,V,W,X,Y,Z,a0,a1,a2,a3,a4,a5,a6,a7,a8,a9,b0,b1,b2,b3,b4,b5,b6,b7,b8,b9,c0]) S =
  (zN (wI zi BinOp.eql 3 c (.int .i64 1) S) (fun v0 S1=>some ([x0,b,x2,x3,x4,x5,x6,x7,x8,x9,d,f,g,i,k,l,m,n,o,p,q,r,s,t,u,w,x,y,z,c,A,B,C,D,E,v0,dem v0,H,I,J,K,L,M,N,P,Q,R,U,V,W,X,Y,Z,a0,a1,a2,a3,a4,a5,a6,a7,a8,a9,b0,b1,b2,b3,b4,b5,b6,b7,b8,b9,c0],S1)) ()):=by
 kernel_rfl
theorem jI.r7 :jD zi ⟨false,false,false⟩ (zZ zi O) (reg Try.f58 7) (reg Try.f58 7).toList ([x0,b,x2,x3,x4,x5,x6,x7,x8,x9,d,f,g,i,k,l,m,n,o,p,q,r,s,t,u,w,x,y,z,c,A,B,C,D,E,F,G,H,I,J,K,L,M,N,P,Q,R,U,V,W,X,Y,Z,a0,a1,a2,a3,a4,a5,a6,a7,a8,a9,b0,b1,b2,b3,b4,b5,b6,b7,b8,b9,c0]) S =
  (zN (zF zi 48 b 7 S) (fun v0 S1=>zN (jh zi false 46 v0 S1) (fun v1 S2=>zN ((zZ zi O) 45 [(dem v1)] S2) (fun v2 S3=>some ([x0,b,v2,x3,x4,x5,x6,x7,x8,x9,d,f,g,i,k,l,m,n,o,p,q,r,s,t,u,w,x,y,z,c,A,B,C,D,E,F,G,v0,v1,dem v2,K,L,M,N,P,Q,R,U,V,W,X,Y,Z,a0,a1,a2,a3,a4,a5,a6,a7,a8,a9,b0,b1,b2,b3,b4,b5,b6,b7,b8,b9,c0],S3)) ()) ()) ()):=by
 kernel_rfl
theorem jI.r8 :jD zi ⟨false,false,false⟩ (zZ zi O) (reg Try.f58 8) (reg Try.f58 8).toList ([x0,b,x2,x3,x4,x5,x6,x7,x8,x9,d,f,g,i,k,l,m,n,o,p,q,r,s,t,u,w,x,y,z,c,A,B,C,D,E,F,G,H,I,J,K,L,M,N,P,Q,R,U,V,W,X,Y,Z,a0,a1,a2,a3,a4,a5,a6,a7,a8,a9,b0,b1,b2,b3,b4,b5,b6,b7,b8,b9,c0]) S =
  (zN (wI zi BinOp.eql 3 c (.int .i64 3) S) (fun v0 S1=>some ([x0,b,x2,x3,x4,x5,x6,x7,x8,x9,d,f,g,i,k,l,m,n,o,p,q,r,s,t,u,w,x,y,z,c,A,B,C,D,E,F,G,H,I,J,v0,dem v0,M,N,P,Q,R,U,V,W,X,Y,Z,a0,a1,a2,a3,a4,a5,a6,a7,a8,a9,b0,b1,b2,b3,b4,b5,b6,b7,b8,b9,c0],S1)) ()):=by
 kernel_rfl
theorem jI.r9 :jD zi ⟨false,false,false⟩ (zZ zi O) (reg Try.f58 9) (reg Try.f58 9).toList ([x0,b,x2,x3,x4,x5,x6,x7,x8,x9,d,f,g,i,k,l,m,n,o,p,q,r,s,t,u,w,x,y,z,c,A,B,C,D,E,F,G,H,I,J,K,L,M,N,P,Q,R,U,V,W,X,Y,Z,a0,a1,a2,a3,a4,a5,a6,a7,a8,a9,b0,b1,b2,b3,b4,b5,b6,b7,b8,b9,c0]) S =
  (zN (zF zi 48 b 5 S) (fun v0 S1=>zN (jh zi false 3 v0 S1) (fun v1 S2=>zN (wI zi BinOp.lss 3 v1 (.int .i64 (-1)) S2) (fun v2 S3=>gdK (dem v2) false (zF zi 48 b 5) S3 (fun v4 S4=>gdK (dem v2) false (jh zi false 3 v4) S4 (fun v5 S5=>gdK (dem v2) false (zF zi 48 b 3) S5 (fun v6 S6=>gdK (dem v2) false (jh zi false 3 v6) S6 (fun v7 S7=>gdK (dem v2) false (wI zi BinOp.geq 3 v5 v7) S7 (fun v8 S8=>zN (wX (dem v2) (Value.bool true) v8 S8) (fun v9 S9=>some ([x0,b,x2,x3,x4,x5,x6,x7,x8,x9,d,f,g,i,k,l,m,n,o,p,q,r,s,t,u,w,x,y,z,c,A,B,C,D,E,F,G,H,I,J,K,L,v0,v1,v2,dem v2,v4,v5,v6,v7,v8,v9,Z,a0,a1,a2,a3,a4,a5,a6,a7,a8,a9,b0,b1,b2,b3,b4,b5,b6,b7,b8,b9,c0],S9)) ()) ()) ()) ()) ()) ()) ()) ()) ()):=by
 refine sD Try.f58 9 0 (fun v0 S1=>?_)
 refine sD Try.f58 9 1 (fun v1 S2=>?_)
 refine sD Try.f58 9 2 (fun v2 S3=>?_)
 refine sP Try.f58 9 3 (v:=v2) ?_
 refine sG Try.f58 9 4 (j:=3) (fun v4 S4=>?_)
 refine sG Try.f58 9 5 (j:=3) (fun v5 S5=>?_)
 refine sG Try.f58 9 6 (j:=3) (fun v6 S6=>?_)
 refine sG Try.f58 9 7 (j:=3) (fun v7 S7=>?_)
 refine sG Try.f58 9 8 (j:=3) (fun v8 S8=>?_)
 refine sD Try.f58 9 9 (fun v9 S9=>?_)
 kernel_rfl
theorem jI.r10 :jD zi ⟨false,false,false⟩ (zZ zi O) (reg Try.f58 10) (reg Try.f58 10).toList ([x0,b,x2,x3,x4,x5,x6,x7,x8,x9,d,f,g,i,k,l,m,n,o,p,q,r,s,t,u,w,x,y,z,c,A,B,C,D,E,F,G,H,I,J,K,L,M,N,P,Q,R,U,V,W,X,Y,Z,a0,a1,a2,a3,a4,a5,a6,a7,a8,a9,b0,b1,b2,b3,b4,b5,b6,b7,b8,b9,c0]) S =
  ( some ([x0,b,Value.bool false,x3,x4,x5,x6,x7,x8,x9,d,f,g,i,k,l,m,n,o,p,q,r,s,t,u,w,x,y,z,c,A,B,C,D,E,F,G,H,I,J,K,L,M,N,P,Q,R,U,V,W,X,Y,Z,a0,a1,a2,a3,a4,a5,a6,a7,a8,a9,b0,b1,b2,b3,b4,b5,b6,b7,b8,b9,c0],S)):=by
 kernel_rfl
theorem jI.r11 :jD zi ⟨false,false,false⟩ (zZ zi O) (reg Try.f58 11) (reg Try.f58 11).toList ([x0,b,x2,x3,x4,x5,x6,x7,x8,x9,d,f,g,i,k,l,m,n,o,p,q,r,s,t,u,w,x,y,z,c,A,B,C,D,E,F,G,H,I,J,K,L,M,N,P,Q,R,U,V,W,X,Y,Z,a0,a1,a2,a3,a4,a5,a6,a7,a8,a9,b0,b1,b2,b3,b4,b5,b6,b7,b8,b9,c0]) S =
  (zN (zF zi 48 b 2 S) (fun v0 S1=>zN (jh zi false 3 v0 S1) (fun v1 S2=>zN (wI zi BinOp.geq 3 v1 (.int .i64 0) S2) (fun v2 S3=>gdK (dem v2) true (zF zi 48 b 2) S3 (fun v4 S4=>gdK (dem v2) true (jh zi false 3 v4) S4 (fun v5 S5=>gdK (dem v2) true (wI zi BinOp.leq 3 v5 (.int .i64 1000)) S5 (fun v6 S6=>zN (wX (dem v2) v6 (Value.bool false) S6) (fun v7 S7=>gdK (dem v7) true (zF zi 48 b 3) S7 (fun v9 S8=>gdK (dem v7) true (jh zi false 3 v9) S8 (fun c5 S9=>gdK (dem v7) true (wI zi BinOp.geq 3 c5 (.int .i64 0)) S9 (fun c6 d4=>zN (wX (dem v7) c6 (Value.bool false) d4) (fun c2 d5=>gdK (dem c2) true (zF zi 48 b 3) d5 (fun c3 d6=>gdK (dem c2) true (jh zi false 3 c3) d6 (fun c7 d7=>gdK (dem c2) true (wI zi BinOp.leq 3 c7 (.int .i64 1000)) d7 (fun c8 d8=>zN (wX (dem c2) c8 (Value.bool false) d8) (fun c1 d2=>gdK (dem c1) true (jh zi false 48 b) d2 (fun c9 d9=>gdK (dem c1) true ((zZ zi O) 69 [(dem c9)]) d9 (fun d0 f0=>zN (wX (dem c1) d0 (Value.bool false) f0) (fun c4 d3=>some ([x0,b,c4,x3,x4,x5,x6,x7,x8,x9,d,f,g,i,k,l,m,n,o,p,q,r,s,t,u,w,x,y,z,c,A,B,C,D,E,F,G,H,I,J,K,L,M,N,P,Q,R,U,V,W,X,Y,v0,v1,v2,dem v2,v4,v5,v6,v7,dem v7,v9,c5,c6,c2,dem c2,c3,c7,c8,c1,dem c1,c9,d0,dem c4],d3)) ()) ()) ()) ()) ()) ()) ()) ()) ()) ()) ()) ()) ()) ()) ()) ()) ()) ()):=by
 refine sD Try.f58 11 0 (fun v0 S1=>?_)
 refine sD Try.f58 11 1 (fun v1 S2=>?_)
 refine sD Try.f58 11 2 (fun v2 S3=>?_)
 refine sP Try.f58 11 3 (v:=v2) ?_
 refine sG Try.f58 11 4 (j:=3) (fun v4 S4=>?_)
 refine sG Try.f58 11 5 (j:=3) (fun v5 S5=>?_)
 refine sG Try.f58 11 6 (j:=3) (fun v6 S6=>?_)
 refine sD Try.f58 11 7 (fun v7 S7=>?_)
 refine sP Try.f58 11 8 (v:=v7) ?_
 refine sG Try.f58 11 9 (j:=8) (fun v9 S8=>?_)
 refine sG Try.f58 11 10 (j:=8) (fun c5 S9=>?_)
 refine sG Try.f58 11 11 (j:=8) (fun c6 d4=>?_)
 refine sD Try.f58 11 12 (fun c2 d5=>?_)
 refine sP Try.f58 11 13 (v:=c2) ?_
 refine sG Try.f58 11 14 (j:=13) (fun c3 d6=>?_)
 refine sG Try.f58 11 15 (j:=13) (fun c7 d7=>?_)
 refine sG Try.f58 11 16 (j:=13) (fun c8 d8=>?_)
 refine sD Try.f58 11 17 (fun c1 d2=>?_)
 refine sP Try.f58 11 18 (v:=c1) ?_
 refine sG Try.f58 11 19 (j:=18) (fun c9 d9=>?_)
 refine sG Try.f58 11 20 (j:=18) (fun d0 f0=>?_)
 refine sD Try.f58 11 21 (fun c4 d3=>?_)
 refine sP Try.f58 11 22 (v:=c4) ?_
 kernel_rfl
theorem jI.rs:type_of% (alG @jI.r0 (alG @jI.r1 (alG @jI.r2 (alG @jI.r3 (alG @jI.r4 (alG @jI.r5 (alG @jI.r6 (alG @jI.r7 (alG @jI.r8 (alG @jI.r9 (alG @jI.r10 (@jI.r11)))))))))))):=alG @jI.r0 (alG @jI.r1 (alG @jI.r2 (alG @jI.r3 (alG @jI.r4 (alG @jI.r5 (alG @jI.r6 (alG @jI.r7 (alG @jI.r8 (alG @jI.r9 (alG @jI.r10 (@jI.r11)))))))))))
theorem jI.runs {x0:Value} {S S1:zy} {e:AEx} {T:List Value} (h:zJ zi O false jI.code ([x0,zh,zh,zh,zh,zh,zh,zh,zh,zh,zh,zh,zh,zh,zh,zh,zh,zh,zh,zh,zh,zh,zh,zh,zh,zh,zh,zh,zh,zh,zh,zh,zh,zh,zh,zh,zh,zh,zh,zh,zh,zh,zh,zh,zh,zh,zh,zh,zh,zh,zh,zh,zh,zh,zh,zh,zh,zh,zh,zh,zh,zh,zh,zh,zh,zh,zh,zh,zh,zh,zh,zh,zh,zh]) zy.empty=some (e,T,S1)) (he:e=.normal∨e=.ret) (hca:[x0].all (jW 16)=true) (hcv:jW 16 (T.getD 2 zh)=true):zZ zi O 58 [x0] S=some (T.getD 2 zh,S) :=
 yC rfl rfl Try.func58 (by decide) jI.body (by exact h) he (yH (a:=T.getD 2 zh) ((show zQ zi T S1 Try.f58.results.toList=zQ zi T S1 [(ResultVar.tmp 2)] from by kernel_rfl).trans (by simp only [zQ])) (by kernel_rfl)) hca hcv
end Go.Proofs.Ytfjogganfjkckaa
namespace Go.Proofs.Ytfjogganfjkckaa
open Go.Abs
abbrev zx.id:FuncId:=34
noncomputable def zx.code:Code:=(.seq (.region 0 (reg Try.f34 0) false) (.seq (.seq (.region 1 (reg Try.f34 1) false) (.cond (.tmp 12) (.seq (.region 2 (reg Try.f34 2) false) Code.ret) Code.skip)) (.seq (.seq (.region 3 (reg Try.f34 3) false) (.cond (.tmp 42) (.seq (.region 4 (reg Try.f34 4) false) Code.ret) Code.skip)) (.seq (.region 5 (reg Try.f34 5) false) (.seq (.region 6 (reg Try.f34 6) false) (.seq (.seq (.region 7 (reg Try.f34 7) false) (.block 0 (.seq (.region 8 (reg Try.f34 8) false) (.cond (.tmp 61) (.seq (.region 9 (reg Try.f34 9) false) Code.ret) (.seq (.region 10 (reg Try.f34 10) false) (.cond (.tmp 81) (.seq (.region 11 (reg Try.f34 11) false) Code.ret) (.seq (.region 12 (reg Try.f34 12) false) (.cond (.tmp 101) (.seq (.region 13 (reg Try.f34 13) false) Code.ret) (.seq (.region 14 (reg Try.f34 14) false) (.cond (.tmp 116) (.seq (.region 15 (reg Try.f34 15) false) Code.ret) (.seq (.seq (.region 16 (reg Try.f34 16) false) (.cond (.tmp 139) Code.skip (.region 17 (reg Try.f34 17) false))) (.cond (.tmp 139) (.seq (.region 18 (reg Try.f34 18) false) Code.ret) (.seq (.region 19 (reg Try.f34 19) false) (.cond (.tmp 156) (.seq (.region 20 (reg Try.f34 20) false) Code.ret) Code.skip)))))))))))))) (.seq (.region 21 (reg Try.f34 21) false) Code.ret)))))))
theorem zx.body:Try.f34.body=some zx.code:=by kernel_rfl
variable (x0 x1 x2 x3 x4 x5 x6 x7 x8 x9 c6 c7 c8 c9 d0 d1 d2 d3 d4 d5 d6 d7 d8 d9 f0 f1 f2 f3 f4 f5 f6 f7 f8 f9 g0 g1 g2 g3 g4 g5 g6 g7 g8 g9 i0 i1 i2 i3 i4 i5 i6 i7 i8 i9 j0 j1 j2 j3 j4 j5 c5 j6 j7 j8 j9 k0 k1 k2 k3 k4 k5 k6 k7 k8 k9 l0 l1 l2 l3 l4 l5 l6 l7 l8 l9 m0 m1 m2 m3 m4 m5 m6 m7 m8 m9 n0 n1 n2 n3 n4 b c d f g i k l m n o p q r s t u w x y z A B C D E F G H I J K L M N P Q R U c4 V W X Y Z a0 a1 a2 a3 a4 a5 a6 a7 a8 a9 b0 b1 b2 b3 b4 b5 b6 b7 b8 b9 c0 c1 c2 c3:Value) (S:zy)
theorem zx.r0 :jD zi ⟨false,false,false⟩ (zZ zi O) (reg Try.f34 0) (reg Try.f34 0).toList ([x0,x1,x2,x3,x4,x5,x6,x7,x8,x9,c6,c7,c8,c9,d0,d1,d2,d3,d4,d5,d6,d7,d8,d9,f0,f1,f2,f3,f4,f5,f6,f7,f8,f9,g0,g1,g2,g3,g4,g5,g6,g7,g8,g9,i0,i1,i2,i3,i4,i5,i6,i7,i8,i9,j0,j1,j2,j3,j4,j5,c5,j6,j7,j8,j9,k0,k1,k2,k3,k4,k5,k6,k7,k8,k9,l0,l1,l2,l3,l4,l5,l6,l7,l8,l9,m0,m1,m2,m3,m4,m5,m6,m7,m8,m9,n0,n1,n2,n3,n4,b,c,d,f,g,i,k,l,m,n,o,p,q,r,s,t,u,w,x,y,z,A,B,C,D,E,F,G,H,I,J,K,L,M,N,P,Q,R,U,c4,V,W,X,Y,Z,a0,a1,a2,a3,a4,a5,a6,a7,a8,a9,b0,b1,b2,b3,b4,b5,b6,b7,b8,b9,c0,c1,c2,c3]) S =
  (zN (J3 (dem x0) S) (fun v0 S1=>some ([x0,v0,Value.bool false,x3,x4,x5,x6,x7,x8,x9,c6,c7,c8,c9,d0,d1,d2,d3,d4,d5,d6,d7,d8,d9,f0,f1,f2,f3,f4,f5,f6,f7,f8,f9,g0,g1,g2,g3,g4,g5,g6,g7,g8,g9,i0,i1,i2,i3,i4,i5,i6,i7,i8,i9,j0,j1,j2,j3,j4,j5,c5,j6,j7,j8,j9,k0,k1,k2,k3,k4,k5,k6,k7,k8,k9,l0,l1,l2,l3,l4,l5,l6,l7,l8,l9,m0,m1,m2,m3,m4,m5,m6,m7,m8,m9,n0,n1,n2,n3,n4,b,c,d,f,g,i,k,l,m,n,o,p,q,r,s,t,u,w,x,y,z,A,B,C,D,E,F,G,H,I,J,K,L,M,N,P,Q,R,U,c4,V,W,X,Y,Z,a0,a1,a2,a3,a4,a5,a6,a7,a8,a9,b0,b1,b2,b3,b4,b5,b6,b7,b8,b9,c0,c1,c2,c3],S1)) ()):=by
 kernel_rfl
theorem zx.r1 :jD zi ⟨false,false,false⟩ (zZ zi O) (reg Try.f34 1) (reg Try.f34 1).toList ([x0,x1,x2,x3,x4,x5,x6,x7,x8,x9,c6,c7,c8,c9,d0,d1,d2,d3,d4,d5,d6,d7,d8,d9,f0,f1,f2,f3,f4,f5,f6,f7,f8,f9,g0,g1,g2,g3,g4,g5,g6,g7,g8,g9,i0,i1,i2,i3,i4,i5,i6,i7,i8,i9,j0,j1,j2,j3,j4,j5,c5,j6,j7,j8,j9,k0,k1,k2,k3,k4,k5,k6,k7,k8,k9,l0,l1,l2,l3,l4,l5,l6,l7,l8,l9,m0,m1,m2,m3,m4,m5,m6,m7,m8,m9,n0,n1,n2,n3,n4,b,c,d,f,g,i,k,l,m,n,o,p,q,r,s,t,u,w,x,y,z,A,B,C,D,E,F,G,H,I,J,K,L,M,N,P,Q,R,U,c4,V,W,X,Y,Z,a0,a1,a2,a3,a4,a5,a6,a7,a8,a9,b0,b1,b2,b3,b4,b5,b6,b7,b8,b9,c0,c1,c2,c3]) S =
  (zN (zF zi 48 x1 1 S) (fun v0 S1=>zN (jh zi false 3 v0 S1) (fun v1 S2=>zN (wI zi BinOp.lss 3 v1 (.int .i64 0) S2) (fun v2 S3=>gdK (dem v2) false (zF zi 48 x1 1) S3 (fun v4 S4=>gdK (dem v2) false (jh zi false 3 v4) S4 (fun v5 S5=>gdK (dem v2) false (wI zi BinOp.gtr 3 v5 (.int .i64 6)) S5 (fun v6 S6=>zN (wX (dem v2) (Value.bool true) v6 S6) (fun v7 S7=>some ([x0,x1,x2,x3,x4,v0,v1,v2,dem v2,v4,v5,v6,v7,c9,d0,d1,d2,d3,d4,d5,d6,d7,d8,d9,f0,f1,f2,f3,f4,f5,f6,f7,f8,f9,g0,g1,g2,g3,g4,g5,g6,g7,g8,g9,i0,i1,i2,i3,i4,i5,i6,i7,i8,i9,j0,j1,j2,j3,j4,j5,c5,j6,j7,j8,j9,k0,k1,k2,k3,k4,k5,k6,k7,k8,k9,l0,l1,l2,l3,l4,l5,l6,l7,l8,l9,m0,m1,m2,m3,m4,m5,m6,m7,m8,m9,n0,n1,n2,n3,n4,b,c,d,f,g,i,k,l,m,n,o,p,q,r,s,t,u,w,x,y,z,A,B,C,D,E,F,G,H,I,J,K,L,M,N,P,Q,R,U,c4,V,W,X,Y,Z,a0,a1,a2,a3,a4,a5,a6,a7,a8,a9,b0,b1,b2,b3,b4,b5,b6,b7,b8,b9,c0,c1,c2,c3],S7)) ()) ()) ()) ()) ()) ()) ()):=by
 refine sD Try.f34 1 0 (fun v0 S1=>?_)
 refine sD Try.f34 1 1 (fun v1 S2=>?_)
 refine sD Try.f34 1 2 (fun v2 S3=>?_)
 refine sP Try.f34 1 3 (v:=v2) ?_
 refine sG Try.f34 1 4 (j:=3) (fun v4 S4=>?_)
 refine sG Try.f34 1 5 (j:=3) (fun v5 S5=>?_)
 refine sG Try.f34 1 6 (j:=3) (fun v6 S6=>?_)
 refine sD Try.f34 1 7 (fun v7 S7=>?_)
 kernel_rfl
theorem zx.r2 :jD zi ⟨false,false,false⟩ (zZ zi O) (reg Try.f34 2) (reg Try.f34 2).toList ([x0,x1,x2,x3,x4,x5,x6,x7,x8,x9,c6,c7,c8,c9,d0,d1,d2,d3,d4,d5,d6,d7,d8,d9,f0,f1,f2,f3,f4,f5,f6,f7,f8,f9,g0,g1,g2,g3,g4,g5,g6,g7,g8,g9,i0,i1,i2,i3,i4,i5,i6,i7,i8,i9,j0,j1,j2,j3,j4,j5,c5,j6,j7,j8,j9,k0,k1,k2,k3,k4,k5,k6,k7,k8,k9,l0,l1,l2,l3,l4,l5,l6,l7,l8,l9,m0,m1,m2,m3,m4,m5,m6,m7,m8,m9,n0,n1,n2,n3,n4,b,c,d,f,g,i,k,l,m,n,o,p,q,r,s,t,u,w,x,y,z,A,B,C,D,E,F,G,H,I,J,K,L,M,N,P,Q,R,U,c4,V,W,X,Y,Z,a0,a1,a2,a3,a4,a5,a6,a7,a8,a9,b0,b1,b2,b3,b4,b5,b6,b7,b8,b9,c0,c1,c2,c3]) S =
  ( some ([x0,x1,Value.bool false,x3,x4,x5,x6,x7,x8,x9,c6,c7,c8,c9,d0,d1,d2,d3,d4,d5,d6,d7,d8,d9,f0,f1,f2,f3,f4,f5,f6,f7,f8,f9,g0,g1,g2,g3,g4,g5,g6,g7,g8,g9,i0,i1,i2,i3,i4,i5,i6,i7,i8,i9,j0,j1,j2,j3,j4,j5,c5,j6,j7,j8,j9,k0,k1,k2,k3,k4,k5,k6,k7,k8,k9,l0,l1,l2,l3,l4,l5,l6,l7,l8,l9,m0,m1,m2,m3,m4,m5,m6,m7,m8,m9,n0,n1,n2,n3,n4,b,c,d,f,g,i,k,l,m,n,o,p,q,r,s,t,u,w,x,y,z,A,B,C,D,E,F,G,H,I,J,K,L,M,N,P,Q,R,U,c4,V,W,X,Y,Z,a0,a1,a2,a3,a4,a5,a6,a7,a8,a9,b0,b1,b2,b3,b4,b5,b6,b7,b8,b9,c0,c1,c2,c3],S)):=by
 kernel_rfl
theorem zx.r3 :jD zi ⟨false,false,false⟩ (zZ zi O) (reg Try.f34 3) (reg Try.f34 3).toList ([x0,x1,x2,x3,x4,x5,x6,x7,x8,x9,c6,c7,c8,c9,d0,d1,d2,d3,d4,d5,d6,d7,d8,d9,f0,f1,f2,f3,f4,f5,f6,f7,f8,f9,g0,g1,g2,g3,g4,g5,g6,g7,g8,g9,i0,i1,i2,i3,i4,i5,i6,i7,i8,i9,j0,j1,j2,j3,j4,j5,c5,j6,j7,j8,j9,k0,k1,k2,k3,k4,k5,k6,k7,k8,k9,l0,l1,l2,l3,l4,l5,l6,l7,l8,l9,m0,m1,m2,m3,m4,m5,m6,m7,m8,m9,n0,n1,n2,n3,n4,b,c,d,f,g,i,k,l,m,n,o,p,q,r,s,t,u,w,x,y,z,A,B,C,D,E,F,G,H,I,J,K,L,M,N,P,Q,R,U,c4,V,W,X,Y,Z,a0,a1,a2,a3,a4,a5,a6,a7,a8,a9,b0,b1,b2,b3,b4,b5,b6,b7,b8,b9,c0,c1,c2,c3]) S =
  (zN (zF zi 48 x1 0 S) (fun v0 S1=>zN (jh zi false 3 v0 S1) (fun v1 S2=>zN (wI zi BinOp.neq 3 v1 (.int .i64 0) S2) (fun v2 S3=>gdK (dem v2) true (zF zi 48 x1 6) S3 (fun v4 S4=>gdK (dem v2) true (jh zi false 43 v4) S4 (fun v5 S5=>gdK (dem v2) true (yA zi 43 []) S5 (fun v6 S6=>gdK (dem v2) true (wI zi BinOp.neq 43 v5 v6) S6 (fun v7 S7=>zN (wX (dem v2) v7 (Value.bool false) S7) (fun v8 S8=>gdK (dem v8) false (zF zi 48 x1 0) S8 (fun n6 S9=>gdK (dem v8) false (jh zi false 3 n6) S9 (fun n7 n9=>gdK (dem v8) false (wI zi BinOp.neq 3 n7 (.int .i64 1)) n9 (fun n5 o0=>gdK (dem v8) false (ret n5) o0 (fun n8 o5=>gdK (dem n8) true (zF zi 48 x1 7) o5 (fun o6 o7=>gdK (dem n8) true (jh zi false 46 o6) o7 (fun o2 o8=>gdK (dem n8) true ((zZ zi O) 52 [(dem o2)]) o8 (fun o3 o9=>gdK (dem n8) true (aUn zi UnOp.not o3) o9 (fun o1 p2=>gdK (dem v8) false (wX (dem n8) o1 (Value.bool false)) p2 (fun p0 q1=>zN (wX (dem v8) (Value.bool true) p0 q1) (fun o4 q2=>gdK (dem o4) false (zF zi 48 x1 0) q2 (fun p4 q3=>gdK (dem o4) false (jh zi false 3 p4) q3 (fun p5 q4=>gdK (dem o4) false (wI zi BinOp.neq 3 p5 (.int .i64 3)) q4 (fun p6 q5=>gdK (dem o4) false (ret p6) q5 (fun p1 q6=>gdK (dem p1) true (zF zi 48 x1 5) q6 (fun p7 q7=>gdK (dem p1) true (jh zi false 3 p7) q7 (fun p8 q8=>gdK (dem p1) true (wI zi BinOp.neq 3 p8 (.int .i64 0)) q8 (fun p9 q9=>gdK (dem o4) false (wX (dem p1) p9 (Value.bool false)) q9 (fun q0 s0=>zN (wX (dem o4) (Value.bool true) q0 s0) (fun s1 s2=>some ([x0,x1,x2,x3,x4,x5,x6,x7,x8,x9,c6,c7,c8,v0,v1,v2,dem v2,v4,v5,v6,v7,v8,dem v8,n6,n7,n5,dem n8,o6,o2,o3,o1,p0,o4,dem o4,p4,p5,p6,dem p1,p7,p8,p9,q0,s1,g9,i0,i1,i2,i3,i4,i5,i6,i7,i8,i9,j0,j1,j2,j3,j4,j5,c5,j6,j7,j8,j9,k0,k1,k2,k3,k4,k5,k6,k7,k8,k9,l0,l1,l2,l3,l4,l5,l6,l7,l8,l9,m0,m1,m2,m3,m4,m5,m6,m7,m8,m9,n0,n1,n2,n3,n4,b,c,d,f,g,i,k,l,m,n,o,p,q,r,s,t,u,w,x,y,z,A,B,C,D,E,F,G,H,I,J,K,L,M,N,P,Q,R,U,c4,V,W,X,Y,Z,a0,a1,a2,a3,a4,a5,a6,a7,a8,a9,b0,b1,b2,b3,b4,b5,b6,b7,b8,b9,c0,c1,c2,c3],s2)) ()) ()) ()) ()) ()) ()) ()) ()) ()) ()) ()) ()) ()) ()) ()) ()) ()) ()) ()) ()) ()) ()) ()) ()) ()) ()) ()):=by
 refine sD Try.f34 3 0 (fun v0 S1=>?_)
 refine sD Try.f34 3 1 (fun v1 S2=>?_)
 refine sD Try.f34 3 2 (fun v2 S3=>?_)
 refine sP Try.f34 3 3 (v:=v2) ?_
 refine sG Try.f34 3 4 (j:=3) (fun v4 S4=>?_)
 refine sG Try.f34 3 5 (j:=3) (fun v5 S5=>?_)
 refine sG Try.f34 3 6 (j:=3) (fun v6 S6=>?_)
 refine sG Try.f34 3 7 (j:=3) (fun v7 S7=>?_)
 refine sD Try.f34 3 8 (fun v8 S8=>?_)
 refine sP Try.f34 3 9 (v:=v8) ?_
 refine sG Try.f34 3 10 (j:=9) (fun n6 S9=>?_)
 refine sG Try.f34 3 11 (j:=9) (fun n7 n9=>?_)
 refine sG Try.f34 3 12 (j:=9) (fun n5 o0=>?_)
 refine sG Try.f34 3 13 (j:=9) (fun n8 o5=>?_)
 refine sG Try.f34 3 14 (j:=13) (fun o6 o7=>?_)
 refine sG Try.f34 3 15 (j:=13) (fun o2 o8=>?_)
 refine sG Try.f34 3 16 (j:=13) (fun o3 o9=>?_)
 refine sG Try.f34 3 17 (j:=13) (fun o1 p2=>?_)
 refine sG Try.f34 3 18 (j:=9) (fun p0 q1=>?_)
 refine sD Try.f34 3 19 (fun o4 q2=>?_)
 refine sP Try.f34 3 20 (v:=o4) ?_
 refine sG Try.f34 3 21 (j:=20) (fun p4 q3=>?_)
 refine sG Try.f34 3 22 (j:=20) (fun p5 q4=>?_)
 refine sG Try.f34 3 23 (j:=20) (fun p6 q5=>?_)
 refine sG Try.f34 3 24 (j:=20) (fun p1 q6=>?_)
 refine sG Try.f34 3 25 (j:=24) (fun p7 q7=>?_)
 refine sG Try.f34 3 26 (j:=24) (fun p8 q8=>?_)
 refine sG Try.f34 3 27 (j:=24) (fun p9 q9=>?_)
 refine sG Try.f34 3 28 (j:=20) (fun q0 s0=>?_)
 refine sD Try.f34 3 29 (fun s1 s2=>?_)
 kernel_rfl
theorem zx.r4 :jD zi ⟨false,false,false⟩ (zZ zi O) (reg Try.f34 4) (reg Try.f34 4).toList ([x0,x1,x2,x3,x4,x5,x6,x7,x8,x9,c6,c7,c8,c9,d0,d1,d2,d3,d4,d5,d6,d7,d8,d9,f0,f1,f2,f3,f4,f5,f6,f7,f8,f9,g0,g1,g2,g3,g4,g5,g6,g7,g8,g9,i0,i1,i2,i3,i4,i5,i6,i7,i8,i9,j0,j1,j2,j3,j4,j5,c5,j6,j7,j8,j9,k0,k1,k2,k3,k4,k5,k6,k7,k8,k9,l0,l1,l2,l3,l4,l5,l6,l7,l8,l9,m0,m1,m2,m3,m4,m5,m6,m7,m8,m9,n0,n1,n2,n3,n4,b,c,d,f,g,i,k,l,m,n,o,p,q,r,s,t,u,w,x,y,z,A,B,C,D,E,F,G,H,I,J,K,L,M,N,P,Q,R,U,c4,V,W,X,Y,Z,a0,a1,a2,a3,a4,a5,a6,a7,a8,a9,b0,b1,b2,b3,b4,b5,b6,b7,b8,b9,c0,c1,c2,c3]) S =
  ( some ([x0,x1,Value.bool false,x3,x4,x5,x6,x7,x8,x9,c6,c7,c8,c9,d0,d1,d2,d3,d4,d5,d6,d7,d8,d9,f0,f1,f2,f3,f4,f5,f6,f7,f8,f9,g0,g1,g2,g3,g4,g5,g6,g7,g8,g9,i0,i1,i2,i3,i4,i5,i6,i7,i8,i9,j0,j1,j2,j3,j4,j5,c5,j6,j7,j8,j9,k0,k1,k2,k3,k4,k5,k6,k7,k8,k9,l0,l1,l2,l3,l4,l5,l6,l7,l8,l9,m0,m1,m2,m3,m4,m5,m6,m7,m8,m9,n0,n1,n2,n3,n4,b,c,d,f,g,i,k,l,m,n,o,p,q,r,s,t,u,w,x,y,z,A,B,C,D,E,F,G,H,I,J,K,L,M,N,P,Q,R,U,c4,V,W,X,Y,Z,a0,a1,a2,a3,a4,a5,a6,a7,a8,a9,b0,b1,b2,b3,b4,b5,b6,b7,b8,b9,c0,c1,c2,c3],S)):=by
 kernel_rfl
theorem zx.r5 :jD zi ⟨false,false,false⟩ (zZ zi O) (reg Try.f34 5) (reg Try.f34 5).toList ([x0,x1,x2,x3,x4,x5,x6,x7,x8,x9,c6,c7,c8,c9,d0,d1,d2,d3,d4,d5,d6,d7,d8,d9,f0,f1,f2,f3,f4,f5,f6,f7,f8,f9,g0,g1,g2,g3,g4,g5,g6,g7,g8,g9,i0,i1,i2,i3,i4,i5,i6,i7,i8,i9,j0,j1,j2,j3,j4,j5,c5,j6,j7,j8,j9,k0,k1,k2,k3,k4,k5,k6,k7,k8,k9,l0,l1,l2,l3,l4,l5,l6,l7,l8,l9,m0,m1,m2,m3,m4,m5,m6,m7,m8,m9,n0,n1,n2,n3,n4,b,c,d,f,g,i,k,l,m,n,o,p,q,r,s,t,u,w,x,y,z,A,B,C,D,E,F,G,H,I,J,K,L,M,N,P,Q,R,U,c4,V,W,X,Y,Z,a0,a1,a2,a3,a4,a5,a6,a7,a8,a9,b0,b1,b2,b3,b4,b5,b6,b7,b8,b9,c0,c1,c2,c3]) S =
  (zN (zF zi 48 x1 3 S) (fun v0 S1=>zN (jh zi false 3 v0 S1) (fun v1 S2=>zN (wI zi BinOp.geq 3 v1 (.int .i64 0) S2) (fun v2 S3=>gdK (dem v2) true (zF zi 48 x1 3) S3 (fun v4 S4=>gdK (dem v2) true (jh zi false 3 v4) S4 (fun v5 S5=>gdK (dem v2) true (wI zi BinOp.leq 3 v5 (.int .i64 1000)) S5 (fun v6 S6=>zN (wX (dem v2) v6 (Value.bool false) S6) (fun v7 S7=>some ([x0,x1,x2,v7,x4,x5,x6,x7,x8,x9,c6,c7,c8,c9,d0,d1,d2,d3,d4,d5,d6,d7,d8,d9,f0,f1,f2,f3,f4,f5,f6,f7,f8,f9,g0,g1,g2,g3,g4,g5,g6,g7,g8,v0,v1,v2,dem v2,v4,v5,v6,dem v7,i7,i8,i9,j0,j1,j2,j3,j4,j5,c5,j6,j7,j8,j9,k0,k1,k2,k3,k4,k5,k6,k7,k8,k9,l0,l1,l2,l3,l4,l5,l6,l7,l8,l9,m0,m1,m2,m3,m4,m5,m6,m7,m8,m9,n0,n1,n2,n3,n4,b,c,d,f,g,i,k,l,m,n,o,p,q,r,s,t,u,w,x,y,z,A,B,C,D,E,F,G,H,I,J,K,L,M,N,P,Q,R,U,c4,V,W,X,Y,Z,a0,a1,a2,a3,a4,a5,a6,a7,a8,a9,b0,b1,b2,b3,b4,b5,b6,b7,b8,b9,c0,c1,c2,c3],S7)) ()) ()) ()) ()) ()) ()) ()):=by
 refine sD Try.f34 5 0 (fun v0 S1=>?_)
 refine sD Try.f34 5 1 (fun v1 S2=>?_)
 refine sD Try.f34 5 2 (fun v2 S3=>?_)
 refine sP Try.f34 5 3 (v:=v2) ?_
 refine sG Try.f34 5 4 (j:=3) (fun v4 S4=>?_)
 refine sG Try.f34 5 5 (j:=3) (fun v5 S5=>?_)
 refine sG Try.f34 5 6 (j:=3) (fun v6 S6=>?_)
 refine sD Try.f34 5 7 (fun v7 S7=>?_)
 refine sP Try.f34 5 8 (v:=v7) ?_
 kernel_rfl
theorem zx.r6 :jD zi ⟨false,false,false⟩ (zZ zi O) (reg Try.f34 6) (reg Try.f34 6).toList ([x0,x1,x2,x3,x4,x5,x6,x7,x8,x9,c6,c7,c8,c9,d0,d1,d2,d3,d4,d5,d6,d7,d8,d9,f0,f1,f2,f3,f4,f5,f6,f7,f8,f9,g0,g1,g2,g3,g4,g5,g6,g7,g8,g9,i0,i1,i2,i3,i4,i5,i6,i7,i8,i9,j0,j1,j2,j3,j4,j5,c5,j6,j7,j8,j9,k0,k1,k2,k3,k4,k5,k6,k7,k8,k9,l0,l1,l2,l3,l4,l5,l6,l7,l8,l9,m0,m1,m2,m3,m4,m5,m6,m7,m8,m9,n0,n1,n2,n3,n4,b,c,d,f,g,i,k,l,m,n,o,p,q,r,s,t,u,w,x,y,z,A,B,C,D,E,F,G,H,I,J,K,L,M,N,P,Q,R,U,c4,V,W,X,Y,Z,a0,a1,a2,a3,a4,a5,a6,a7,a8,a9,b0,b1,b2,b3,b4,b5,b6,b7,b8,b9,c0,c1,c2,c3]) S =
  (zN (zF zi 48 x1 2 S) (fun v0 S1=>zN (jh zi false 3 v0 S1) (fun v1 S2=>zN (wI zi BinOp.geq 3 v1 (.int .i64 0) S2) (fun v2 S3=>gdK (dem v2) true (zF zi 48 x1 2) S3 (fun v4 S4=>gdK (dem v2) true (jh zi false 3 v4) S4 (fun v5 S5=>gdK (dem v2) true (wI zi BinOp.leq 3 v5 (.int .i64 1000)) S5 (fun v6 S6=>zN (wX (dem v2) v6 (Value.bool false) S6) (fun v7 S7=>some ([x0,x1,x2,x3,v7,x5,x6,x7,x8,x9,c6,c7,c8,c9,d0,d1,d2,d3,d4,d5,d6,d7,d8,d9,f0,f1,f2,f3,f4,f5,f6,f7,f8,f9,g0,g1,g2,g3,g4,g5,g6,g7,g8,g9,i0,i1,i2,i3,i4,i5,i6,v0,v1,v2,dem v2,v4,v5,v6,dem v7,j5,c5,j6,j7,j8,j9,k0,k1,k2,k3,k4,k5,k6,k7,k8,k9,l0,l1,l2,l3,l4,l5,l6,l7,l8,l9,m0,m1,m2,m3,m4,m5,m6,m7,m8,m9,n0,n1,n2,n3,n4,b,c,d,f,g,i,k,l,m,n,o,p,q,r,s,t,u,w,x,y,z,A,B,C,D,E,F,G,H,I,J,K,L,M,N,P,Q,R,U,c4,V,W,X,Y,Z,a0,a1,a2,a3,a4,a5,a6,a7,a8,a9,b0,b1,b2,b3,b4,b5,b6,b7,b8,b9,c0,c1,c2,c3],S7)) ()) ()) ()) ()) ()) ()) ()):=by
 refine sD Try.f34 6 0 (fun v0 S1=>?_)
 refine sD Try.f34 6 1 (fun v1 S2=>?_)
 refine sD Try.f34 6 2 (fun v2 S3=>?_)
 refine sP Try.f34 6 3 (v:=v2) ?_
 refine sG Try.f34 6 4 (j:=3) (fun v4 S4=>?_)
 refine sG Try.f34 6 5 (j:=3) (fun v5 S5=>?_)
 refine sG Try.f34 6 6 (j:=3) (fun v6 S6=>?_)
 refine sD Try.f34 6 7 (fun v7 S7=>?_)
 refine sP Try.f34 6 8 (v:=v7) ?_
 kernel_rfl
theorem zx.r7 :jD zi ⟨false,false,false⟩ (zZ zi O) (reg Try.f34 7) (reg Try.f34 7).toList ([x0,x1,x2,x3,x4,x5,x6,x7,x8,x9,c6,c7,c8,c9,d0,d1,d2,d3,d4,d5,d6,d7,d8,d9,f0,f1,f2,f3,f4,f5,f6,f7,f8,f9,g0,g1,g2,g3,g4,g5,g6,g7,g8,g9,i0,i1,i2,i3,i4,i5,i6,i7,i8,i9,j0,j1,j2,j3,j4,j5,c5,j6,j7,j8,j9,k0,k1,k2,k3,k4,k5,k6,k7,k8,k9,l0,l1,l2,l3,l4,l5,l6,l7,l8,l9,m0,m1,m2,m3,m4,m5,m6,m7,m8,m9,n0,n1,n2,n3,n4,b,c,d,f,g,i,k,l,m,n,o,p,q,r,s,t,u,w,x,y,z,A,B,C,D,E,F,G,H,I,J,K,L,M,N,P,Q,R,U,c4,V,W,X,Y,Z,a0,a1,a2,a3,a4,a5,a6,a7,a8,a9,b0,b1,b2,b3,b4,b5,b6,b7,b8,b9,c0,c1,c2,c3]) S =
  (zN (zF zi 48 x1 0 S) (fun v0 S1=>zN (jh zi false 3 v0 S1) (fun v1 S2=>some ([x0,x1,x2,x3,x4,x5,x6,x7,x8,x9,c6,c7,c8,c9,d0,d1,d2,d3,d4,d5,d6,d7,d8,d9,f0,f1,f2,f3,f4,f5,f6,f7,f8,f9,g0,g1,g2,g3,g4,g5,g6,g7,g8,g9,i0,i1,i2,i3,i4,i5,i6,i7,i8,i9,j0,j1,j2,j3,j4,v0,v1,j6,j7,j8,j9,k0,k1,k2,k3,k4,k5,k6,k7,k8,k9,l0,l1,l2,l3,l4,l5,l6,l7,l8,l9,m0,m1,m2,m3,m4,m5,m6,m7,m8,m9,n0,n1,n2,n3,n4,b,c,d,f,g,i,k,l,m,n,o,p,q,r,s,t,u,w,x,y,z,A,B,C,D,E,F,G,H,I,J,K,L,M,N,P,Q,R,U,c4,V,W,X,Y,Z,a0,a1,a2,a3,a4,a5,a6,a7,a8,a9,b0,b1,b2,b3,b4,b5,b6,b7,b8,b9,c0,c1,c2,c3],S2)) ()) ()):=by
 kernel_rfl
theorem zx.r8 :jD zi ⟨false,false,false⟩ (zZ zi O) (reg Try.f34 8) (reg Try.f34 8).toList ([x0,x1,x2,x3,x4,x5,x6,x7,x8,x9,c6,c7,c8,c9,d0,d1,d2,d3,d4,d5,d6,d7,d8,d9,f0,f1,f2,f3,f4,f5,f6,f7,f8,f9,g0,g1,g2,g3,g4,g5,g6,g7,g8,g9,i0,i1,i2,i3,i4,i5,i6,i7,i8,i9,j0,j1,j2,j3,j4,j5,c5,j6,j7,j8,j9,k0,k1,k2,k3,k4,k5,k6,k7,k8,k9,l0,l1,l2,l3,l4,l5,l6,l7,l8,l9,m0,m1,m2,m3,m4,m5,m6,m7,m8,m9,n0,n1,n2,n3,n4,b,c,d,f,g,i,k,l,m,n,o,p,q,r,s,t,u,w,x,y,z,A,B,C,D,E,F,G,H,I,J,K,L,M,N,P,Q,R,U,c4,V,W,X,Y,Z,a0,a1,a2,a3,a4,a5,a6,a7,a8,a9,b0,b1,b2,b3,b4,b5,b6,b7,b8,b9,c0,c1,c2,c3]) S =
  (zN (wI zi BinOp.eql 3 c5 (.int .i64 0) S) (fun v0 S1=>some ([x0,x1,x2,x3,x4,x5,x6,x7,x8,x9,c6,c7,c8,c9,d0,d1,d2,d3,d4,d5,d6,d7,d8,d9,f0,f1,f2,f3,f4,f5,f6,f7,f8,f9,g0,g1,g2,g3,g4,g5,g6,g7,g8,g9,i0,i1,i2,i3,i4,i5,i6,i7,i8,i9,j0,j1,j2,j3,j4,j5,c5,v0,dem v0,j8,j9,k0,k1,k2,k3,k4,k5,k6,k7,k8,k9,l0,l1,l2,l3,l4,l5,l6,l7,l8,l9,m0,m1,m2,m3,m4,m5,m6,m7,m8,m9,n0,n1,n2,n3,n4,b,c,d,f,g,i,k,l,m,n,o,p,q,r,s,t,u,w,x,y,z,A,B,C,D,E,F,G,H,I,J,K,L,M,N,P,Q,R,U,c4,V,W,X,Y,Z,a0,a1,a2,a3,a4,a5,a6,a7,a8,a9,b0,b1,b2,b3,b4,b5,b6,b7,b8,b9,c0,c1,c2,c3],S1)) ()):=by
 kernel_rfl
theorem zx.r9 :jD zi ⟨false,false,false⟩ (zZ zi O) (reg Try.f34 9) (reg Try.f34 9).toList ([x0,x1,x2,x3,x4,x5,x6,x7,x8,x9,c6,c7,c8,c9,d0,d1,d2,d3,d4,d5,d6,d7,d8,d9,f0,f1,f2,f3,f4,f5,f6,f7,f8,f9,g0,g1,g2,g3,g4,g5,g6,g7,g8,g9,i0,i1,i2,i3,i4,i5,i6,i7,i8,i9,j0,j1,j2,j3,j4,j5,c5,j6,j7,j8,j9,k0,k1,k2,k3,k4,k5,k6,k7,k8,k9,l0,l1,l2,l3,l4,l5,l6,l7,l8,l9,m0,m1,m2,m3,m4,m5,m6,m7,m8,m9,n0,n1,n2,n3,n4,b,c,d,f,g,i,k,l,m,n,o,p,q,r,s,t,u,w,x,y,z,A,B,C,D,E,F,G,H,I,J,K,L,M,N,P,Q,R,U,c4,V,W,X,Y,Z,a0,a1,a2,a3,a4,a5,a6,a7,a8,a9,b0,b1,b2,b3,b4,b5,b6,b7,b8,b9,c0,c1,c2,c3]) S =
  (zN (zF zi 48 x1 2 S) (fun v0 S1=>zN (jh zi false 3 v0 S1) (fun v1 S2=>zN (wI zi BinOp.eql 3 v1 (.int .i64 0) S2) (fun v2 S3=>gdK (dem v2) true (zF zi 48 x1 3) S3 (fun v4 S4=>gdK (dem v2) true (jh zi false 3 v4) S4 (fun v5 S5=>gdK (dem v2) true (wI zi BinOp.eql 3 v5 (.int .i64 0)) S5 (fun v6 S6=>zN (wX (dem v2) v6 (Value.bool false) S6) (fun v7 S7=>gdK (dem v7) true (zF zi 48 x1 4) S7 (fun v9 S8=>gdK (dem v7) true (jh zi false 3 v9) S8 (fun n6 S9=>gdK (dem v7) true (wI zi BinOp.eql 3 n6 (.int .i64 0)) S9 (fun n7 n9=>zN (wX (dem v7) n7 (Value.bool false) n9) (fun n5 o0=>gdK (dem n5) true (zF zi 48 x1 6) o0 (fun o6 o5=>gdK (dem n5) true (jh zi false 43 o6) o5 (fun o2 o7=>gdK (dem n5) true ((zZ zi O) 48 [(dem o2)]) o7 (fun o3 o8=>zN (wX (dem n5) o3 (Value.bool false) o8) (fun o1 o9=>some ([x0,x1,o1,x3,x4,x5,x6,x7,x8,x9,c6,c7,c8,c9,d0,d1,d2,d3,d4,d5,d6,d7,d8,d9,f0,f1,f2,f3,f4,f5,f6,f7,f8,f9,g0,g1,g2,g3,g4,g5,g6,g7,g8,g9,i0,i1,i2,i3,i4,i5,i6,i7,i8,i9,j0,j1,j2,j3,j4,j5,c5,j6,j7,v0,v1,v2,dem v2,v4,v5,v6,v7,dem v7,v9,n6,n7,n5,dem n5,o6,o2,o3,dem o1,l6,l7,l8,l9,m0,m1,m2,m3,m4,m5,m6,m7,m8,m9,n0,n1,n2,n3,n4,b,c,d,f,g,i,k,l,m,n,o,p,q,r,s,t,u,w,x,y,z,A,B,C,D,E,F,G,H,I,J,K,L,M,N,P,Q,R,U,c4,V,W,X,Y,Z,a0,a1,a2,a3,a4,a5,a6,a7,a8,a9,b0,b1,b2,b3,b4,b5,b6,b7,b8,b9,c0,c1,c2,c3],o9)) ()) ()) ()) ()) ()) ()) ()) ()) ()) ()) ()) ()) ()) ()) ()):=by
 refine sD Try.f34 9 0 (fun v0 S1=>?_)
 refine sD Try.f34 9 1 (fun v1 S2=>?_)
 refine sD Try.f34 9 2 (fun v2 S3=>?_)
 refine sP Try.f34 9 3 (v:=v2) ?_
 refine sG Try.f34 9 4 (j:=3) (fun v4 S4=>?_)
 refine sG Try.f34 9 5 (j:=3) (fun v5 S5=>?_)
 refine sG Try.f34 9 6 (j:=3) (fun v6 S6=>?_)
 refine sD Try.f34 9 7 (fun v7 S7=>?_)
 refine sP Try.f34 9 8 (v:=v7) ?_
 refine sG Try.f34 9 9 (j:=8) (fun v9 S8=>?_)
 refine sG Try.f34 9 10 (j:=8) (fun n6 S9=>?_)
 refine sG Try.f34 9 11 (j:=8) (fun n7 n9=>?_)
 refine sD Try.f34 9 12 (fun n5 o0=>?_)
 refine sP Try.f34 9 13 (v:=n5) ?_
 refine sG Try.f34 9 14 (j:=13) (fun o6 o5=>?_)
 refine sG Try.f34 9 15 (j:=13) (fun o2 o7=>?_)
 refine sG Try.f34 9 16 (j:=13) (fun o3 o8=>?_)
 refine sD Try.f34 9 17 (fun o1 o9=>?_)
 refine sP Try.f34 9 18 (v:=o1) ?_
 kernel_rfl
theorem zx.r10 :jD zi ⟨false,false,false⟩ (zZ zi O) (reg Try.f34 10) (reg Try.f34 10).toList ([x0,x1,x2,x3,x4,x5,x6,x7,x8,x9,c6,c7,c8,c9,d0,d1,d2,d3,d4,d5,d6,d7,d8,d9,f0,f1,f2,f3,f4,f5,f6,f7,f8,f9,g0,g1,g2,g3,g4,g5,g6,g7,g8,g9,i0,i1,i2,i3,i4,i5,i6,i7,i8,i9,j0,j1,j2,j3,j4,j5,c5,j6,j7,j8,j9,k0,k1,k2,k3,k4,k5,k6,k7,k8,k9,l0,l1,l2,l3,l4,l5,l6,l7,l8,l9,m0,m1,m2,m3,m4,m5,m6,m7,m8,m9,n0,n1,n2,n3,n4,b,c,d,f,g,i,k,l,m,n,o,p,q,r,s,t,u,w,x,y,z,A,B,C,D,E,F,G,H,I,J,K,L,M,N,P,Q,R,U,c4,V,W,X,Y,Z,a0,a1,a2,a3,a4,a5,a6,a7,a8,a9,b0,b1,b2,b3,b4,b5,b6,b7,b8,b9,c0,c1,c2,c3]) S =
  (zN (wI zi BinOp.eql 3 c5 (.int .i64 1) S) (fun v0 S1=>some ([x0,x1,x2,x3,x4,x5,x6,x7,x8,x9,c6,c7,c8,c9,d0,d1,d2,d3,d4,d5,d6,d7,d8,d9,f0,f1,f2,f3,f4,f5,f6,f7,f8,f9,g0,g1,g2,g3,g4,g5,g6,g7,g8,g9,i0,i1,i2,i3,i4,i5,i6,i7,i8,i9,j0,j1,j2,j3,j4,j5,c5,j6,j7,j8,j9,k0,k1,k2,k3,k4,k5,k6,k7,k8,k9,l0,l1,l2,l3,l4,l5,v0,dem v0,l8,l9,m0,m1,m2,m3,m4,m5,m6,m7,m8,m9,n0,n1,n2,n3,n4,b,c,d,f,g,i,k,l,m,n,o,p,q,r,s,t,u,w,x,y,z,A,B,C,D,E,F,G,H,I,J,K,L,M,N,P,Q,R,U,c4,V,W,X,Y,Z,a0,a1,a2,a3,a4,a5,a6,a7,a8,a9,b0,b1,b2,b3,b4,b5,b6,b7,b8,b9,c0,c1,c2,c3],S1)) ()):=by
 kernel_rfl
theorem zx.r11 :jD zi ⟨false,false,false⟩ (zZ zi O) (reg Try.f34 11) (reg Try.f34 11).toList ([x0,x1,x2,x3,x4,x5,x6,x7,x8,x9,c6,c7,c8,c9,d0,d1,d2,d3,d4,d5,d6,d7,d8,d9,f0,f1,f2,f3,f4,f5,f6,f7,f8,f9,g0,g1,g2,g3,g4,g5,g6,g7,g8,g9,i0,i1,i2,i3,i4,i5,i6,i7,i8,i9,j0,j1,j2,j3,j4,j5,c5,j6,j7,j8,j9,k0,k1,k2,k3,k4,k5,k6,k7,k8,k9,l0,l1,l2,l3,l4,l5,l6,l7,l8,l9,m0,m1,m2,m3,m4,m5,m6,m7,m8,m9,n0,n1,n2,n3,n4,b,c,d,f,g,i,k,l,m,n,o,p,q,r,s,t,u,w,x,y,z,A,B,C,D,E,F,G,H,I,J,K,L,M,N,P,Q,R,U,c4,V,W,X,Y,Z,a0,a1,a2,a3,a4,a5,a6,a7,a8,a9,b0,b1,b2,b3,b4,b5,b6,b7,b8,b9,c0,c1,c2,c3]) S =
  (zN (zF zi 48 x1 2 S) (fun v0 S1=>zN (jh zi false 3 v0 S1) (fun v1 S2=>zN (wI zi BinOp.eql 3 v1 (.int .i64 0) S2) (fun v2 S3=>gdK (dem v2) true (zF zi 48 x1 3) S3 (fun v4 S4=>gdK (dem v2) true (jh zi false 3 v4) S4 (fun v5 S5=>gdK (dem v2) true (wI zi BinOp.eql 3 v5 (.int .i64 0)) S5 (fun v6 S6=>zN (wX (dem v2) v6 (Value.bool false) S6) (fun v7 S7=>gdK (dem v7) true (zF zi 48 x1 4) S7 (fun v9 S8=>gdK (dem v7) true (jh zi false 3 v9) S8 (fun n6 S9=>gdK (dem v7) true (wI zi BinOp.eql 3 n6 (.int .i64 0)) S9 (fun n7 n9=>zN (wX (dem v7) n7 (Value.bool false) n9) (fun n5 o0=>gdK (dem n5) true (zF zi 48 x1 7) o0 (fun o6 o5=>gdK (dem n5) true (jh zi false 46 o6) o5 (fun o2 o7=>gdK (dem n5) true ((zZ zi O) 32 [(dem o2)]) o7 (fun o3 o8=>zN (wX (dem n5) o3 (Value.bool false) o8) (fun o1 o9=>some ([x0,x1,o1,x3,x4,x5,x6,x7,x8,x9,c6,c7,c8,c9,d0,d1,d2,d3,d4,d5,d6,d7,d8,d9,f0,f1,f2,f3,f4,f5,f6,f7,f8,f9,g0,g1,g2,g3,g4,g5,g6,g7,g8,g9,i0,i1,i2,i3,i4,i5,i6,i7,i8,i9,j0,j1,j2,j3,j4,j5,c5,j6,j7,j8,j9,k0,k1,k2,k3,k4,k5,k6,k7,k8,k9,l0,l1,l2,l3,l4,l5,l6,l7,v0,v1,v2,dem v2,v4,v5,v6,v7,dem v7,v9,n6,n7,n5,dem n5,o6,o2,o3,dem o1,c,d,f,g,i,k,l,m,n,o,p,q,r,s,t,u,w,x,y,z,A,B,C,D,E,F,G,H,I,J,K,L,M,N,P,Q,R,U,c4,V,W,X,Y,Z,a0,a1,a2,a3,a4,a5,a6,a7,a8,a9,b0,b1,b2,b3,b4,b5,b6,b7,b8,b9,c0,c1,c2,c3],o9)) ()) ()) ()) ()) ()) ()) ()) ()) ()) ()) ()) ()) ()) ()) ()):=by
 refine sD Try.f34 11 0 (fun v0 S1=>?_)
 refine sD Try.f34 11 1 (fun v1 S2=>?_)
 refine sD Try.f34 11 2 (fun v2 S3=>?_)
 refine sP Try.f34 11 3 (v:=v2) ?_
 refine sG Try.f34 11 4 (j:=3) (fun v4 S4=>?_)
 refine sG Try.f34 11 5 (j:=3) (fun v5 S5=>?_)
 refine sG Try.f34 11 6 (j:=3) (fun v6 S6=>?_)
 refine sD Try.f34 11 7 (fun v7 S7=>?_)
 refine sP Try.f34 11 8 (v:=v7) ?_
 refine sG Try.f34 11 9 (j:=8) (fun v9 S8=>?_)
 refine sG Try.f34 11 10 (j:=8) (fun n6 S9=>?_)
 refine sG Try.f34 11 11 (j:=8) (fun n7 n9=>?_)
 refine sD Try.f34 11 12 (fun n5 o0=>?_)
 refine sP Try.f34 11 13 (v:=n5) ?_
 refine sG Try.f34 11 14 (j:=13) (fun o6 o5=>?_)
 refine sG Try.f34 11 15 (j:=13) (fun o2 o7=>?_)
 refine sG Try.f34 11 16 (j:=13) (fun o3 o8=>?_)
 refine sD Try.f34 11 17 (fun o1 o9=>?_)
 refine sP Try.f34 11 18 (v:=o1) ?_
 kernel_rfl
theorem zx.r12 :jD zi ⟨false,false,false⟩ (zZ zi O) (reg Try.f34 12) (reg Try.f34 12).toList ([x0,x1,x2,x3,x4,x5,x6,x7,x8,x9,c6,c7,c8,c9,d0,d1,d2,d3,d4,d5,d6,d7,d8,d9,f0,f1,f2,f3,f4,f5,f6,f7,f8,f9,g0,g1,g2,g3,g4,g5,g6,g7,g8,g9,i0,i1,i2,i3,i4,i5,i6,i7,i8,i9,j0,j1,j2,j3,j4,j5,c5,j6,j7,j8,j9,k0,k1,k2,k3,k4,k5,k6,k7,k8,k9,l0,l1,l2,l3,l4,l5,l6,l7,l8,l9,m0,m1,m2,m3,m4,m5,m6,m7,m8,m9,n0,n1,n2,n3,n4,b,c,d,f,g,i,k,l,m,n,o,p,q,r,s,t,u,w,x,y,z,A,B,C,D,E,F,G,H,I,J,K,L,M,N,P,Q,R,U,c4,V,W,X,Y,Z,a0,a1,a2,a3,a4,a5,a6,a7,a8,a9,b0,b1,b2,b3,b4,b5,b6,b7,b8,b9,c0,c1,c2,c3]) S =
  (zN (wI zi BinOp.eql 3 c5 (.int .i64 2) S) (fun v0 S1=>some ([x0,x1,x2,x3,x4,x5,x6,x7,x8,x9,c6,c7,c8,c9,d0,d1,d2,d3,d4,d5,d6,d7,d8,d9,f0,f1,f2,f3,f4,f5,f6,f7,f8,f9,g0,g1,g2,g3,g4,g5,g6,g7,g8,g9,i0,i1,i2,i3,i4,i5,i6,i7,i8,i9,j0,j1,j2,j3,j4,j5,c5,j6,j7,j8,j9,k0,k1,k2,k3,k4,k5,k6,k7,k8,k9,l0,l1,l2,l3,l4,l5,l6,l7,l8,l9,m0,m1,m2,m3,m4,m5,m6,m7,m8,m9,n0,n1,n2,n3,n4,b,v0,dem v0,f,g,i,k,l,m,n,o,p,q,r,s,t,u,w,x,y,z,A,B,C,D,E,F,G,H,I,J,K,L,M,N,P,Q,R,U,c4,V,W,X,Y,Z,a0,a1,a2,a3,a4,a5,a6,a7,a8,a9,b0,b1,b2,b3,b4,b5,b6,b7,b8,b9,c0,c1,c2,c3],S1)) ()):=by
 kernel_rfl
theorem zx.r13 :jD zi ⟨false,false,false⟩ (zZ zi O) (reg Try.f34 13) (reg Try.f34 13).toList ([x0,x1,x2,x3,x4,x5,x6,x7,x8,x9,c6,c7,c8,c9,d0,d1,d2,d3,d4,d5,d6,d7,d8,d9,f0,f1,f2,f3,f4,f5,f6,f7,f8,f9,g0,g1,g2,g3,g4,g5,g6,g7,g8,g9,i0,i1,i2,i3,i4,i5,i6,i7,i8,i9,j0,j1,j2,j3,j4,j5,c5,j6,j7,j8,j9,k0,k1,k2,k3,k4,k5,k6,k7,k8,k9,l0,l1,l2,l3,l4,l5,l6,l7,l8,l9,m0,m1,m2,m3,m4,m5,m6,m7,m8,m9,n0,n1,n2,n3,n4,b,c,d,f,g,i,k,l,m,n,o,p,q,r,s,t,u,w,x,y,z,A,B,C,D,E,F,G,H,I,J,K,L,M,N,P,Q,R,U,c4,V,W,X,Y,Z,a0,a1,a2,a3,a4,a5,a6,a7,a8,a9,b0,b1,b2,b3,b4,b5,b6,b7,b8,b9,c0,c1,c2,c3]) S =
  (zN (zF zi 48 x1 2 S) (fun v0 S1=>zN (jh zi false 3 v0 S1) (fun v1 S2=>zN (wI zi BinOp.eql 3 v1 (.int .i64 0) S2) (fun v2 S3=>gdK (dem v2) true (zF zi 48 x1 3) S3 (fun v4 S4=>gdK (dem v2) true (jh zi false 3 v4) S4 (fun v5 S5=>gdK (dem v2) true (wI zi BinOp.eql 3 v5 (.int .i64 0)) S5 (fun v6 S6=>zN (wX (dem v2) v6 (Value.bool false) S6) (fun v7 S7=>gdK (dem v7) true (zF zi 48 x1 4) S7 (fun v9 S8=>gdK (dem v7) true (jh zi false 3 v9) S8 (fun n6 S9=>gdK (dem v7) true ((zZ zi O) 53 [(dem n6)]) S9 (fun n7 n9=>zN (wX (dem v7) n7 (Value.bool false) n9) (fun n5 o0=>some ([x0,x1,n5,x3,x4,x5,x6,x7,x8,x9,c6,c7,c8,c9,d0,d1,d2,d3,d4,d5,d6,d7,d8,d9,f0,f1,f2,f3,f4,f5,f6,f7,f8,f9,g0,g1,g2,g3,g4,g5,g6,g7,g8,g9,i0,i1,i2,i3,i4,i5,i6,i7,i8,i9,j0,j1,j2,j3,j4,j5,c5,j6,j7,j8,j9,k0,k1,k2,k3,k4,k5,k6,k7,k8,k9,l0,l1,l2,l3,l4,l5,l6,l7,l8,l9,m0,m1,m2,m3,m4,m5,m6,m7,m8,m9,n0,n1,n2,n3,n4,b,c,d,v0,v1,v2,dem v2,v4,v5,v6,v7,dem v7,v9,n6,n7,dem n5,u,w,x,y,z,A,B,C,D,E,F,G,H,I,J,K,L,M,N,P,Q,R,U,c4,V,W,X,Y,Z,a0,a1,a2,a3,a4,a5,a6,a7,a8,a9,b0,b1,b2,b3,b4,b5,b6,b7,b8,b9,c0,c1,c2,c3],o0)) ()) ()) ()) ()) ()) ()) ()) ()) ()) ()) ()):=by
 refine sD Try.f34 13 0 (fun v0 S1=>?_)
 refine sD Try.f34 13 1 (fun v1 S2=>?_)
 refine sD Try.f34 13 2 (fun v2 S3=>?_)
 refine sP Try.f34 13 3 (v:=v2) ?_
 refine sG Try.f34 13 4 (j:=3) (fun v4 S4=>?_)
 refine sG Try.f34 13 5 (j:=3) (fun v5 S5=>?_)
 refine sG Try.f34 13 6 (j:=3) (fun v6 S6=>?_)
 refine sD Try.f34 13 7 (fun v7 S7=>?_)
 refine sP Try.f34 13 8 (v:=v7) ?_
 refine sG Try.f34 13 9 (j:=8) (fun v9 S8=>?_)
 refine sG Try.f34 13 10 (j:=8) (fun n6 S9=>?_)
 refine sG Try.f34 13 11 (j:=8) (fun n7 n9=>?_)
 refine sD Try.f34 13 12 (fun n5 o0=>?_)
 refine sP Try.f34 13 13 (v:=n5) ?_
 kernel_rfl
theorem zx.r14 :jD zi ⟨false,false,false⟩ (zZ zi O) (reg Try.f34 14) (reg Try.f34 14).toList ([x0,x1,x2,x3,x4,x5,x6,x7,x8,x9,c6,c7,c8,c9,d0,d1,d2,d3,d4,d5,d6,d7,d8,d9,f0,f1,f2,f3,f4,f5,f6,f7,f8,f9,g0,g1,g2,g3,g4,g5,g6,g7,g8,g9,i0,i1,i2,i3,i4,i5,i6,i7,i8,i9,j0,j1,j2,j3,j4,j5,c5,j6,j7,j8,j9,k0,k1,k2,k3,k4,k5,k6,k7,k8,k9,l0,l1,l2,l3,l4,l5,l6,l7,l8,l9,m0,m1,m2,m3,m4,m5,m6,m7,m8,m9,n0,n1,n2,n3,n4,b,c,d,f,g,i,k,l,m,n,o,p,q,r,s,t,u,w,x,y,z,A,B,C,D,E,F,G,H,I,J,K,L,M,N,P,Q,R,U,c4,V,W,X,Y,Z,a0,a1,a2,a3,a4,a5,a6,a7,a8,a9,b0,b1,b2,b3,b4,b5,b6,b7,b8,b9,c0,c1,c2,c3]) S =
  (zN (wI zi BinOp.eql 3 c5 (.int .i64 3) S) (fun v0 S1=>some ([x0,x1,x2,x3,x4,x5,x6,x7,x8,x9,c6,c7,c8,c9,d0,d1,d2,d3,d4,d5,d6,d7,d8,d9,f0,f1,f2,f3,f4,f5,f6,f7,f8,f9,g0,g1,g2,g3,g4,g5,g6,g7,g8,g9,i0,i1,i2,i3,i4,i5,i6,i7,i8,i9,j0,j1,j2,j3,j4,j5,c5,j6,j7,j8,j9,k0,k1,k2,k3,k4,k5,k6,k7,k8,k9,l0,l1,l2,l3,l4,l5,l6,l7,l8,l9,m0,m1,m2,m3,m4,m5,m6,m7,m8,m9,n0,n1,n2,n3,n4,b,c,d,f,g,i,k,l,m,n,o,p,q,r,s,t,v0,dem v0,x,y,z,A,B,C,D,E,F,G,H,I,J,K,L,M,N,P,Q,R,U,c4,V,W,X,Y,Z,a0,a1,a2,a3,a4,a5,a6,a7,a8,a9,b0,b1,b2,b3,b4,b5,b6,b7,b8,b9,c0,c1,c2,c3],S1)) ()):=by
 kernel_rfl
theorem zx.r15 :jD zi ⟨false,false,false⟩ (zZ zi O) (reg Try.f34 15) (reg Try.f34 15).toList ([x0,x1,x2,x3,x4,x5,x6,x7,x8,x9,c6,c7,c8,c9,d0,d1,d2,d3,d4,d5,d6,d7,d8,d9,f0,f1,f2,f3,f4,f5,f6,f7,f8,f9,g0,g1,g2,g3,g4,g5,g6,g7,g8,g9,i0,i1,i2,i3,i4,i5,i6,i7,i8,i9,j0,j1,j2,j3,j4,j5,c5,j6,j7,j8,j9,k0,k1,k2,k3,k4,k5,k6,k7,k8,k9,l0,l1,l2,l3,l4,l5,l6,l7,l8,l9,m0,m1,m2,m3,m4,m5,m6,m7,m8,m9,n0,n1,n2,n3,n4,b,c,d,f,g,i,k,l,m,n,o,p,q,r,s,t,u,w,x,y,z,A,B,C,D,E,F,G,H,I,J,K,L,M,N,P,Q,R,U,c4,V,W,X,Y,Z,a0,a1,a2,a3,a4,a5,a6,a7,a8,a9,b0,b1,b2,b3,b4,b5,b6,b7,b8,b9,c0,c1,c2,c3]) S =
  (gdK (dem x4) true (ret x3) S (fun v2 S1=>zN (wX (dem x4) (dem v2) (Value.bool false) S1) (fun v3 S2=>gdK (dem v3) true (zF zi 48 x1 4) S2 (fun v5 S3=>gdK (dem v3) true (jh zi false 3 v5) S3 (fun v6 S4=>gdK (dem v3) true ((zZ zi O) 53 [(dem v6)]) S4 (fun v7 S5=>zN (wX (dem v3) v7 (Value.bool false) S5) (fun v8 S6=>gdK (dem v8) true (zF zi 48 x1 5) S6 (fun n6 S7=>gdK (dem v8) true (jh zi false 3 n6) S7 (fun n7 S8=>gdK (dem v8) true (wI zi BinOp.geq 3 n7 (.int .i64 (-1))) S8 (fun n5 S9=>zN (wX (dem v8) n5 (Value.bool false) S9) (fun n8 n9=>gdK (dem n8) true (zF zi 48 x1 5) n9 (fun o2 o0=>gdK (dem n8) true (jh zi false 3 o2) o0 (fun o3 o5=>gdK (dem n8) true (zF zi 48 x1 3) o5 (fun o1 o7=>gdK (dem n8) true (jh zi false 3 o1) o7 (fun p0 o8=>gdK (dem n8) true (wI zi BinOp.lss 3 o3 p0) o8 (fun o4 o9=>zN (wX (dem n8) o4 (Value.bool false) o9) (fun p3 p2=>some ([x0,x1,p3,x3,dem x4,x5,x6,x7,x8,x9,c6,c7,c8,c9,d0,d1,d2,d3,d4,d5,d6,d7,d8,d9,f0,f1,f2,f3,f4,f5,f6,f7,f8,f9,g0,g1,g2,g3,g4,g5,g6,g7,g8,g9,i0,i1,i2,i3,i4,i5,i6,i7,i8,i9,j0,j1,j2,j3,j4,j5,c5,j6,j7,j8,j9,k0,k1,k2,k3,k4,k5,k6,k7,k8,k9,l0,l1,l2,l3,l4,l5,l6,l7,l8,l9,m0,m1,m2,m3,m4,m5,m6,m7,m8,m9,n0,n1,n2,n3,n4,b,c,d,f,g,i,k,l,m,n,o,p,q,r,s,t,u,w,x4,dem x4,dem v2,v3,dem v3,v5,v6,v7,v8,dem v8,n6,n7,n5,n8,dem n8,o2,o3,o1,p0,o4,dem p3,c4,V,W,X,Y,Z,a0,a1,a2,a3,a4,a5,a6,a7,a8,a9,b0,b1,b2,b3,b4,b5,b6,b7,b8,b9,c0,c1,c2,c3],p2)) ()) ()) ()) ()) ()) ()) ()) ()) ()) ()) ()) ()) ()) ()) ()) ()):=by
 refine sP Try.f34 15 0 (v:=x4) ?_
 refine sP Try.f34 15 1 (v:=x4) ?_
 refine sG Try.f34 15 2 (j:=1) (fun v2 S1=>?_)
 refine sD Try.f34 15 3 (fun v3 S2=>?_)
 refine sP Try.f34 15 4 (v:=v3) ?_
 refine sG Try.f34 15 5 (j:=4) (fun v5 S3=>?_)
 refine sG Try.f34 15 6 (j:=4) (fun v6 S4=>?_)
 refine sG Try.f34 15 7 (j:=4) (fun v7 S5=>?_)
 refine sD Try.f34 15 8 (fun v8 S6=>?_)
 refine sP Try.f34 15 9 (v:=v8) ?_
 refine sG Try.f34 15 10 (j:=9) (fun n6 S7=>?_)
 refine sG Try.f34 15 11 (j:=9) (fun n7 S8=>?_)
 refine sG Try.f34 15 12 (j:=9) (fun n5 S9=>?_)
 refine sD Try.f34 15 13 (fun n8 n9=>?_)
 refine sP Try.f34 15 14 (v:=n8) ?_
 refine sG Try.f34 15 15 (j:=14) (fun o2 o0=>?_)
 refine sG Try.f34 15 16 (j:=14) (fun o3 o5=>?_)
 refine sG Try.f34 15 17 (j:=14) (fun o1 o7=>?_)
 refine sG Try.f34 15 18 (j:=14) (fun p0 o8=>?_)
 refine sG Try.f34 15 19 (j:=14) (fun o4 o9=>?_)
 refine sD Try.f34 15 20 (fun p3 p2=>?_)
 refine sP Try.f34 15 21 (v:=p3) ?_
 kernel_rfl
theorem zx.r16 :jD zi ⟨false,false,false⟩ (zZ zi O) (reg Try.f34 16) (reg Try.f34 16).toList ([x0,x1,x2,x3,x4,x5,x6,x7,x8,x9,c6,c7,c8,c9,d0,d1,d2,d3,d4,d5,d6,d7,d8,d9,f0,f1,f2,f3,f4,f5,f6,f7,f8,f9,g0,g1,g2,g3,g4,g5,g6,g7,g8,g9,i0,i1,i2,i3,i4,i5,i6,i7,i8,i9,j0,j1,j2,j3,j4,j5,c5,j6,j7,j8,j9,k0,k1,k2,k3,k4,k5,k6,k7,k8,k9,l0,l1,l2,l3,l4,l5,l6,l7,l8,l9,m0,m1,m2,m3,m4,m5,m6,m7,m8,m9,n0,n1,n2,n3,n4,b,c,d,f,g,i,k,l,m,n,o,p,q,r,s,t,u,w,x,y,z,A,B,C,D,E,F,G,H,I,J,K,L,M,N,P,Q,R,U,c4,V,W,X,Y,Z,a0,a1,a2,a3,a4,a5,a6,a7,a8,a9,b0,b1,b2,b3,b4,b5,b6,b7,b8,b9,c0,c1,c2,c3]) S =
  (zN (wI zi BinOp.eql 3 c5 (.int .i64 4) S) (fun v0 S1=>some ([x0,x1,x2,x3,x4,x5,x6,x7,x8,x9,c6,c7,c8,c9,d0,d1,d2,d3,d4,d5,d6,d7,d8,d9,f0,f1,f2,f3,f4,f5,f6,f7,f8,f9,g0,g1,g2,g3,g4,g5,g6,g7,g8,g9,i0,i1,i2,i3,i4,i5,i6,i7,i8,i9,j0,j1,j2,j3,j4,j5,c5,j6,j7,j8,j9,k0,k1,k2,k3,k4,k5,k6,k7,k8,k9,l0,l1,l2,l3,l4,l5,l6,l7,l8,l9,m0,m1,m2,m3,m4,m5,m6,m7,m8,m9,n0,n1,n2,n3,n4,b,c,d,f,g,i,k,l,m,n,o,p,q,r,s,t,u,w,x,y,z,A,B,C,D,E,F,G,H,I,J,K,L,M,N,P,Q,R,U,v0,dem v0,W,X,Y,Z,a0,a1,a2,a3,a4,a5,a6,a7,a8,a9,b0,b1,b2,b3,b4,b5,b6,b7,b8,b9,c0,c1,c2,c3],S1)) ()):=by
 kernel_rfl
theorem zx.r17 :jD zi ⟨false,false,false⟩ (zZ zi O) (reg Try.f34 17) (reg Try.f34 17).toList ([x0,x1,x2,x3,x4,x5,x6,x7,x8,x9,c6,c7,c8,c9,d0,d1,d2,d3,d4,d5,d6,d7,d8,d9,f0,f1,f2,f3,f4,f5,f6,f7,f8,f9,g0,g1,g2,g3,g4,g5,g6,g7,g8,g9,i0,i1,i2,i3,i4,i5,i6,i7,i8,i9,j0,j1,j2,j3,j4,j5,c5,j6,j7,j8,j9,k0,k1,k2,k3,k4,k5,k6,k7,k8,k9,l0,l1,l2,l3,l4,l5,l6,l7,l8,l9,m0,m1,m2,m3,m4,m5,m6,m7,m8,m9,n0,n1,n2,n3,n4,b,c,d,f,g,i,k,l,m,n,o,p,q,r,s,t,u,w,x,y,z,A,B,C,D,E,F,G,H,I,J,K,L,M,N,P,Q,R,U,c4,V,W,X,Y,Z,a0,a1,a2,a3,a4,a5,a6,a7,a8,a9,b0,b1,b2,b3,b4,b5,b6,b7,b8,b9,c0,c1,c2,c3]) S =
  (zN (wI zi BinOp.eql 3 c5 (.int .i64 5) S) (fun v0 S1=>some ([x0,x1,x2,x3,x4,x5,x6,x7,x8,x9,c6,c7,c8,c9,d0,d1,d2,d3,d4,d5,d6,d7,d8,d9,f0,f1,f2,f3,f4,f5,f6,f7,f8,f9,g0,g1,g2,g3,g4,g5,g6,g7,g8,g9,i0,i1,i2,i3,i4,i5,i6,i7,i8,i9,j0,j1,j2,j3,j4,j5,c5,j6,j7,j8,j9,k0,k1,k2,k3,k4,k5,k6,k7,k8,k9,l0,l1,l2,l3,l4,l5,l6,l7,l8,l9,m0,m1,m2,m3,m4,m5,m6,m7,m8,m9,n0,n1,n2,n3,n4,b,c,d,f,g,i,k,l,m,n,o,p,q,r,s,t,u,w,x,y,z,A,B,C,D,E,F,G,H,I,J,K,L,M,N,P,Q,R,U,v0,V,dem v0,X,Y,Z,a0,a1,a2,a3,a4,a5,a6,a7,a8,a9,b0,b1,b2,b3,b4,b5,b6,b7,b8,b9,c0,c1,c2,c3],S1)) ()):=by
 kernel_rfl
theorem zx.r18 :jD zi ⟨false,false,false⟩ (zZ zi O) (reg Try.f34 18) (reg Try.f34 18).toList ([x0,x1,x2,x3,x4,x5,x6,x7,x8,x9,c6,c7,c8,c9,d0,d1,d2,d3,d4,d5,d6,d7,d8,d9,f0,f1,f2,f3,f4,f5,f6,f7,f8,f9,g0,g1,g2,g3,g4,g5,g6,g7,g8,g9,i0,i1,i2,i3,i4,i5,i6,i7,i8,i9,j0,j1,j2,j3,j4,j5,c5,j6,j7,j8,j9,k0,k1,k2,k3,k4,k5,k6,k7,k8,k9,l0,l1,l2,l3,l4,l5,l6,l7,l8,l9,m0,m1,m2,m3,m4,m5,m6,m7,m8,m9,n0,n1,n2,n3,n4,b,c,d,f,g,i,k,l,m,n,o,p,q,r,s,t,u,w,x,y,z,A,B,C,D,E,F,G,H,I,J,K,L,M,N,P,Q,R,U,c4,V,W,X,Y,Z,a0,a1,a2,a3,a4,a5,a6,a7,a8,a9,b0,b1,b2,b3,b4,b5,b6,b7,b8,b9,c0,c1,c2,c3]) S =
  (gdK (dem x4) true (ret x3) S (fun v2 S1=>zN (wX (dem x4) (dem v2) (Value.bool false) S1) (fun v3 S2=>gdK (dem v3) true (zF zi 48 x1 4) S2 (fun v5 S3=>gdK (dem v3) true (jh zi false 3 v5) S3 (fun v6 S4=>gdK (dem v3) true (wI zi BinOp.eql 3 v6 (.int .i64 (-1))) S4 (fun v7 S5=>gdK (dem v3) true (ret v7) S5 (fun v8 S6=>gdK (dem v8) false (zF zi 48 x1 4) S6 (fun v9 S7=>gdK (dem v8) false (jh zi false 3 v9) S7 (fun n6 S8=>gdK (dem v8) false ((zZ zi O) 53 [(dem n6)]) S8 (fun n7 S9=>gdK (dem v3) true (wX (dem v8) (Value.bool true) n7) S9 (fun n5 n9=>zN (wX (dem v3) n5 (Value.bool false) n9) (fun n8 o0=>some ([x0,x1,n8,x3,dem x4,x5,x6,x7,x8,x9,c6,c7,c8,c9,d0,d1,d2,d3,d4,d5,d6,d7,d8,d9,f0,f1,f2,f3,f4,f5,f6,f7,f8,f9,g0,g1,g2,g3,g4,g5,g6,g7,g8,g9,i0,i1,i2,i3,i4,i5,i6,i7,i8,i9,j0,j1,j2,j3,j4,j5,c5,j6,j7,j8,j9,k0,k1,k2,k3,k4,k5,k6,k7,k8,k9,l0,l1,l2,l3,l4,l5,l6,l7,l8,l9,m0,m1,m2,m3,m4,m5,m6,m7,m8,m9,n0,n1,n2,n3,n4,b,c,d,f,g,i,k,l,m,n,o,p,q,r,s,t,u,w,x,y,z,A,B,C,D,E,F,G,H,I,J,K,L,M,N,P,Q,R,U,c4,V,W,x4,dem x4,dem v2,v3,dem v3,v5,v6,v7,dem v8,v9,n6,n7,n5,dem n8,b1,b2,b3,b4,b5,b6,b7,b8,b9,c0,c1,c2,c3],o0)) ()) ()) ()) ()) ()) ()) ()) ()) ()) ()) ()):=by
 refine sP Try.f34 18 0 (v:=x4) ?_
 refine sP Try.f34 18 1 (v:=x4) ?_
 refine sG Try.f34 18 2 (j:=1) (fun v2 S1=>?_)
 refine sD Try.f34 18 3 (fun v3 S2=>?_)
 refine sP Try.f34 18 4 (v:=v3) ?_
 refine sG Try.f34 18 5 (j:=4) (fun v5 S3=>?_)
 refine sG Try.f34 18 6 (j:=4) (fun v6 S4=>?_)
 refine sG Try.f34 18 7 (j:=4) (fun v7 S5=>?_)
 refine sG Try.f34 18 8 (j:=4) (fun v8 S6=>?_)
 refine sG Try.f34 18 9 (j:=8) (fun v9 S7=>?_)
 refine sG Try.f34 18 10 (j:=8) (fun n6 S8=>?_)
 refine sG Try.f34 18 11 (j:=8) (fun n7 S9=>?_)
 refine sG Try.f34 18 12 (j:=4) (fun n5 n9=>?_)
 refine sD Try.f34 18 13 (fun n8 o0=>?_)
 refine sP Try.f34 18 14 (v:=n8) ?_
 kernel_rfl
theorem zx.r19 :jD zi ⟨false,false,false⟩ (zZ zi O) (reg Try.f34 19) (reg Try.f34 19).toList ([x0,x1,x2,x3,x4,x5,x6,x7,x8,x9,c6,c7,c8,c9,d0,d1,d2,d3,d4,d5,d6,d7,d8,d9,f0,f1,f2,f3,f4,f5,f6,f7,f8,f9,g0,g1,g2,g3,g4,g5,g6,g7,g8,g9,i0,i1,i2,i3,i4,i5,i6,i7,i8,i9,j0,j1,j2,j3,j4,j5,c5,j6,j7,j8,j9,k0,k1,k2,k3,k4,k5,k6,k7,k8,k9,l0,l1,l2,l3,l4,l5,l6,l7,l8,l9,m0,m1,m2,m3,m4,m5,m6,m7,m8,m9,n0,n1,n2,n3,n4,b,c,d,f,g,i,k,l,m,n,o,p,q,r,s,t,u,w,x,y,z,A,B,C,D,E,F,G,H,I,J,K,L,M,N,P,Q,R,U,c4,V,W,X,Y,Z,a0,a1,a2,a3,a4,a5,a6,a7,a8,a9,b0,b1,b2,b3,b4,b5,b6,b7,b8,b9,c0,c1,c2,c3]) S =
  (zN (wI zi BinOp.eql 3 c5 (.int .i64 6) S) (fun v0 S1=>some ([x0,x1,x2,x3,x4,x5,x6,x7,x8,x9,c6,c7,c8,c9,d0,d1,d2,d3,d4,d5,d6,d7,d8,d9,f0,f1,f2,f3,f4,f5,f6,f7,f8,f9,g0,g1,g2,g3,g4,g5,g6,g7,g8,g9,i0,i1,i2,i3,i4,i5,i6,i7,i8,i9,j0,j1,j2,j3,j4,j5,c5,j6,j7,j8,j9,k0,k1,k2,k3,k4,k5,k6,k7,k8,k9,l0,l1,l2,l3,l4,l5,l6,l7,l8,l9,m0,m1,m2,m3,m4,m5,m6,m7,m8,m9,n0,n1,n2,n3,n4,b,c,d,f,g,i,k,l,m,n,o,p,q,r,s,t,u,w,x,y,z,A,B,C,D,E,F,G,H,I,J,K,L,M,N,P,Q,R,U,c4,V,W,X,Y,Z,a0,a1,a2,a3,a4,a5,a6,a7,a8,a9,b0,v0,dem v0,b3,b4,b5,b6,b7,b8,b9,c0,c1,c2,c3],S1)) ()):=by
 kernel_rfl
theorem zx.r20 :jD zi ⟨false,false,false⟩ (zZ zi O) (reg Try.f34 20) (reg Try.f34 20).toList ([x0,x1,x2,x3,x4,x5,x6,x7,x8,x9,c6,c7,c8,c9,d0,d1,d2,d3,d4,d5,d6,d7,d8,d9,f0,f1,f2,f3,f4,f5,f6,f7,f8,f9,g0,g1,g2,g3,g4,g5,g6,g7,g8,g9,i0,i1,i2,i3,i4,i5,i6,i7,i8,i9,j0,j1,j2,j3,j4,j5,c5,j6,j7,j8,j9,k0,k1,k2,k3,k4,k5,k6,k7,k8,k9,l0,l1,l2,l3,l4,l5,l6,l7,l8,l9,m0,m1,m2,m3,m4,m5,m6,m7,m8,m9,n0,n1,n2,n3,n4,b,c,d,f,g,i,k,l,m,n,o,p,q,r,s,t,u,w,x,y,z,A,B,C,D,E,F,G,H,I,J,K,L,M,N,P,Q,R,U,c4,V,W,X,Y,Z,a0,a1,a2,a3,a4,a5,a6,a7,a8,a9,b0,b1,b2,b3,b4,b5,b6,b7,b8,b9,c0,c1,c2,c3]) S =
  (gdK (dem x4) true (zF zi 48 x1 3) S (fun v2 S1=>gdK (dem x4) true (jh zi false 3 v2) S1 (fun v3 S2=>gdK (dem x4) true (wI zi BinOp.eql 3 v3 (.int .i64 0)) S2 (fun v4 S3=>zN (wX (dem x4) v4 (Value.bool false) S3) (fun v5 S4=>gdK (dem v5) true (zF zi 48 x1 4) S4 (fun v7 S5=>gdK (dem v5) true (jh zi false 3 v7) S5 (fun v8 S6=>gdK (dem v5) true ((zZ zi O) 53 [(dem v8)]) S6 (fun v9 S7=>zN (wX (dem v5) v9 (Value.bool false) S7) (fun n6 S8=>some ([x0,x1,n6,x3,dem x4,x5,x6,x7,x8,x9,c6,c7,c8,c9,d0,d1,d2,d3,d4,d5,d6,d7,d8,d9,f0,f1,f2,f3,f4,f5,f6,f7,f8,f9,g0,g1,g2,g3,g4,g5,g6,g7,g8,g9,i0,i1,i2,i3,i4,i5,i6,i7,i8,i9,j0,j1,j2,j3,j4,j5,c5,j6,j7,j8,j9,k0,k1,k2,k3,k4,k5,k6,k7,k8,k9,l0,l1,l2,l3,l4,l5,l6,l7,l8,l9,m0,m1,m2,m3,m4,m5,m6,m7,m8,m9,n0,n1,n2,n3,n4,b,c,d,f,g,i,k,l,m,n,o,p,q,r,s,t,u,w,x,y,z,A,B,C,D,E,F,G,H,I,J,K,L,M,N,P,Q,R,U,c4,V,W,X,Y,Z,a0,a1,a2,a3,a4,a5,a6,a7,a8,a9,b0,b1,b2,x4,dem x4,v2,v3,v4,v5,dem v5,v7,v8,v9,dem n6],S8)) ()) ()) ()) ()) ()) ()) ()) ()):=by
 refine sP Try.f34 20 0 (v:=x4) ?_
 refine sP Try.f34 20 1 (v:=x4) ?_
 refine sG Try.f34 20 2 (j:=1) (fun v2 S1=>?_)
 refine sG Try.f34 20 3 (j:=1) (fun v3 S2=>?_)
 refine sG Try.f34 20 4 (j:=1) (fun v4 S3=>?_)
 refine sD Try.f34 20 5 (fun v5 S4=>?_)
 refine sP Try.f34 20 6 (v:=v5) ?_
 refine sG Try.f34 20 7 (j:=6) (fun v7 S5=>?_)
 refine sG Try.f34 20 8 (j:=6) (fun v8 S6=>?_)
 refine sG Try.f34 20 9 (j:=6) (fun v9 S7=>?_)
 refine sD Try.f34 20 10 (fun n6 S8=>?_)
 refine sP Try.f34 20 11 (v:=n6) ?_
 kernel_rfl
theorem zx.r21 :jD zi ⟨false,false,false⟩ (zZ zi O) (reg Try.f34 21) (reg Try.f34 21).toList ([x0,x1,x2,x3,x4,x5,x6,x7,x8,x9,c6,c7,c8,c9,d0,d1,d2,d3,d4,d5,d6,d7,d8,d9,f0,f1,f2,f3,f4,f5,f6,f7,f8,f9,g0,g1,g2,g3,g4,g5,g6,g7,g8,g9,i0,i1,i2,i3,i4,i5,i6,i7,i8,i9,j0,j1,j2,j3,j4,j5,c5,j6,j7,j8,j9,k0,k1,k2,k3,k4,k5,k6,k7,k8,k9,l0,l1,l2,l3,l4,l5,l6,l7,l8,l9,m0,m1,m2,m3,m4,m5,m6,m7,m8,m9,n0,n1,n2,n3,n4,b,c,d,f,g,i,k,l,m,n,o,p,q,r,s,t,u,w,x,y,z,A,B,C,D,E,F,G,H,I,J,K,L,M,N,P,Q,R,U,c4,V,W,X,Y,Z,a0,a1,a2,a3,a4,a5,a6,a7,a8,a9,b0,b1,b2,b3,b4,b5,b6,b7,b8,b9,c0,c1,c2,c3]) S =
  ( some ([x0,x1,Value.bool false,x3,x4,x5,x6,x7,x8,x9,c6,c7,c8,c9,d0,d1,d2,d3,d4,d5,d6,d7,d8,d9,f0,f1,f2,f3,f4,f5,f6,f7,f8,f9,g0,g1,g2,g3,g4,g5,g6,g7,g8,g9,i0,i1,i2,i3,i4,i5,i6,i7,i8,i9,j0,j1,j2,j3,j4,j5,c5,j6,j7,j8,j9,k0,k1,k2,k3,k4,k5,k6,k7,k8,k9,l0,l1,l2,l3,l4,l5,l6,l7,l8,l9,m0,m1,m2,m3,m4,m5,m6,m7,m8,m9,n0,n1,n2,n3,n4,b,c,d,f,g,i,k,l,m,n,o,p,q,r,s,t,u,w,x,y,z,A,B,C,D,E,F,G,H,I,J,K,L,M,N,P,Q,R,U,c4,V,W,X,Y,Z,a0,a1,a2,a3,a4,a5,a6,a7,a8,a9,b0,b1,b2,b3,b4,b5,b6,b7,b8,b9,c0,c1,c2,c3],S)):=by
 kernel_rfl
theorem zx.rs:type_of% (alG @zx.r0 (alG @zx.r1 (alG @zx.r2 (alG @zx.r3 (alG @zx.r4 (alG @zx.r5 (alG @zx.r6 (alG @zx.r7 (alG @zx.r8 (alG @zx.r9 (alG @zx.r10 (alG @zx.r11 (alG @zx.r12 (alG @zx.r13 (alG @zx.r14 (alG @zx.r15 (alG @zx.r16 (alG @zx.r17 (alG @zx.r18 (alG @zx.r19 (alG @zx.r20 (@zx.r21)))))))))))))))))))))):=alG @zx.r0 (alG @zx.r1 (alG @zx.r2 (alG @zx.r3 (alG @zx.r4 (alG @zx.r5 (alG @zx.r6 (alG @zx.r7 (alG @zx.r8 (alG @zx.r9 (alG @zx.r10 (alG @zx.r11 (alG @zx.r12 (alG @zx.r13 (alG @zx.r14 (alG @zx.r15 (alG @zx.r16 (alG @zx.r17 (alG @zx.r18 (alG @zx.r19 (alG @zx.r20 (@zx.r21)))))))))))))))))))))
theorem zx.runs {x0:Value} {S S1:zy} {e:AEx} {T:List Value} (h:zJ zi O false zx.code ([x0,zh,zh,zh,zh,zh,zh,zh,zh,zh,zh,zh,zh,zh,zh,zh,zh,zh,zh,zh,zh,zh,zh,zh,zh,zh,zh,zh,zh,zh,zh,zh,zh,zh,zh,zh,zh,zh,zh,zh,zh,zh,zh,zh,zh,zh,zh,zh,zh,zh,zh,zh,zh,zh,zh,zh,zh,zh,zh,zh,zh,zh,zh,zh,zh,zh,zh,zh,zh,zh,zh,zh,zh,zh,zh,zh,zh,zh,zh,zh,zh,zh,zh,zh,zh,zh,zh,zh,zh,zh,zh,zh,zh,zh,zh,zh,zh,zh,zh,zh,zh,zh,zh,zh,zh,zh,zh,zh,zh,zh,zh,zh,zh,zh,zh,zh,zh,zh,zh,zh,zh,zh,zh,zh,zh,zh,zh,zh,zh,zh,zh,zh,zh,zh,zh,zh,zh,zh,zh,zh,zh,zh,zh,zh,zh,zh,zh,zh,zh,zh,zh,zh,zh,zh,zh,zh,zh,zh,zh,zh,zh,zh,zh,zh,zh,zh,zh,zh,zh]) zy.empty=some (e,T,S1)) (he:e=.normal∨e=.ret) (hca:[x0].all (jW 16)=true) (hcv:jW 16 (T.getD 2 zh)=true):zZ zi O 34 [x0] S=some (T.getD 2 zh,S) :=
 yC rfl rfl Try.func34 (by decide) zx.body (by exact h) he (yH (a:=T.getD 2 zh) ((show zQ zi T S1 Try.f34.results.toList=zQ zi T S1 [(ResultVar.tmp 2)] from by kernel_rfl).trans (by simp only [zQ])) (by kernel_rfl)) hca hcv
end Go.Proofs.Ytfjogganfjkckaa
namespace Go.Proofs.Ytfjogganfjkckaa
open Go.Abs
abbrev jL.id:FuncId:=53
noncomputable def jL.code:Code:=(.seq (.region 0 (reg Try.f53 0) false) (.seq (.region 1 (reg Try.f53 1) false) (.seq (.region 2 (reg Try.f53 2) false) Code.ret)))
theorem jL.body:Try.f53.body=some jL.code:=by kernel_rfl
variable (b r B u w x s y z A f g i k l m n o p:Value) (S:zy)
theorem jL.r0 :jD zi ⟨false,false,false⟩ (zZ zi O) (reg Try.f53 0) (reg Try.f53 0).toList ([b,r,B,u,w,x,s,y,z,A,f,g,i,k,l,m,n,o,p]) S =
  ( some ([b,r,Value.bool false,u,w,x,s,y,z,A,f,g,i,k,l,m,n,o,p],S)):=by
 kernel_rfl
theorem jL.r1 :jD zi ⟨false,false,false⟩ (zZ zi O) (reg Try.f53 1) (reg Try.f53 1).toList ([b,r,B,u,w,x,s,y,z,A,f,g,i,k,l,m,n,o,p]) S =
  (zN ((zZ zi O) 51 [(dem (dem b))] S) (fun c d=>zN (jc c 0 d) (fun t C=>zN (jc (zV 0 c) 1 C) (fun q D=>zN (jc (zV 1 (zV 0 c)) 2 D) (fun E G=>zN (jc (zV 2 (zV 1 (zV 0 c))) 3 G) (fun F H=>some ([b,r,B,t,q,E,F,zV 3 (zV 2 (zV 1 (zV 0 c))),dem b,dem c,dem t,dem q,dem E,dem F,l,m,n,o,p],H)) ()) ()) ()) ()) ()):=by
 kernel_rfl
theorem jL.r2 :jD zi ⟨false,false,false⟩ (zZ zi O) (reg Try.f53 2) (reg Try.f53 2).toList ([b,r,B,u,w,x,s,y,z,A,f,g,i,k,l,m,n,o,p]) S =
  (zN (wI zi BinOp.eql 3 (dem b) (.int .i64 0) S) (fun c d=>gdK (dem c) false (ret s) d (fun t C=>zN (wX (dem c) (Value.bool true) (dem t) C) (fun q D=>some ([b,r,q,u,w,x,s,y,z,A,f,g,i,k,dem b,c,dem c,dem t,dem q],D)) ()) ()) ()):=by
 refine sP Try.f53 2 0 (v:=b) ?_
 refine sD Try.f53 2 1 (fun c d=>?_)
 refine sP Try.f53 2 2 (v:=c) ?_
 refine sG Try.f53 2 3 (j:=2) (fun t C=>?_)
 refine sD Try.f53 2 4 (fun q D=>?_)
 refine sP Try.f53 2 5 (v:=q) ?_
 kernel_rfl
theorem jL.rs:type_of% (alG @jL.r0 (alG @jL.r1 (@jL.r2))):=alG @jL.r0 (alG @jL.r1 (@jL.r2))
theorem jL.runs {b:Value} {S d:zy} {e:AEx} {T:List Value} (h:zJ zi O false jL.code ([b,zh,zh,zh,zh,zh,zh,zh,zh,zh,zh,zh,zh,zh,zh,zh,zh,zh,zh]) S=some (e,T,d)) (he:e=.normal∨e=.ret):zZ zi O 53 [b] S=some (T.getD 2 zh,d) :=
 yL rfl rfl Try.func53 (by decide) jL.body (by exact h) he (yH (a:=T.getD 2 zh) ((show zQ zi T d Try.f53.results.toList=zQ zi T d [(ResultVar.tmp 2)] from by kernel_rfl).trans (by simp only [zQ])) (by kernel_rfl))
end Go.Proofs.Ytfjogganfjkckaa
namespace Go.Proofs.Ytfjogganfjkckaa
open Go.Abs
abbrev jM.id:FuncId:=52
noncomputable def jM.code:Code:=(.seq (.region 0 (reg Try.f52 0) false) (.seq (.region 1 (reg Try.f52 1) false) Code.ret))
theorem jM.body:Try.f52.body=some jM.code:=by kernel_rfl
variable (b d k g i j:Value) (S:zy)
theorem jM.r0 :jD zi ⟨false,false,false⟩ (zZ zi O) (reg Try.f52 0) (reg Try.f52 0).toList ([b,d,k,g,i,j]) S =
  (zN (J3 (dem b) S) (fun f c=>some ([b,f,Value.bool false,g,i,j],c)) ()):=by
 kernel_rfl
theorem jM.r1 :jD zi ⟨false,false,false⟩ (zZ zi O) (reg Try.f52 1) (reg Try.f52 1).toList ([b,d,k,g,i,j]) S =
  (zN (jh zi false 46 d S) (fun f c=>zN (yA zi 46 [] c) (fun l n=>zN ((zZ zi O) 18 [(dem f),(dem l)] n) (fun m o=>some ([b,d,m,f,l,dem m],o)) ()) ()) ()):=by
 kernel_rfl
theorem jM.rs:type_of% (alG @jM.r0 (@jM.r1)):=alG @jM.r0 (@jM.r1)
theorem jM.runs {b:Value} {S c:zy} {e:AEx} {T:List Value} (h:zJ zi O false jM.code ([b,zh,zh,zh,zh,zh]) zy.empty=some (e,T,c)) (he:e=.normal∨e=.ret) (hca:[b].all (jW 16)=true) (hcv:jW 16 (T.getD 2 zh)=true):zZ zi O 52 [b] S=some (T.getD 2 zh,S) :=
 yC rfl rfl Try.func52 (by decide) jM.body (by exact h) he (yH (a:=T.getD 2 zh) ((show zQ zi T c Try.f52.results.toList=zQ zi T c [(ResultVar.tmp 2)] from by kernel_rfl).trans (by simp only [zQ])) (by kernel_rfl)) hca hcv
end Go.Proofs.Ytfjogganfjkckaa
namespace Go.Proofs.Ytfjogganfjkckaa
open Go.Abs
abbrev jr.id:FuncId:=67
noncomputable def jr.code:Code:=(.seq (.region 0 (reg Try.f67 0) false) (.seq (.region 1 (reg Try.f67 1) false) (.seq (.seq (.region 2 (reg Try.f67 2) false) (.block 0 (.seq (.block 6 (.seq (.block 5 (.seq (.block 4 (.seq (.block 3 (.seq (.block 2 (.seq (.block 1 (.seq (.seq (.seq (.region 3 (reg Try.f67 3) false) (.cond (.tmp 11) (.exit 1) Code.skip)) (.seq (.seq (.region 4 (reg Try.f67 4) false) (.cond (.tmp 13) (.exit 2) Code.skip)) (.seq (.seq (.region 5 (reg Try.f67 5) false) (.cond (.tmp 15) (.exit 3) Code.skip)) (.seq (.seq (.region 6 (reg Try.f67 6) false) (.cond (.tmp 17) (.exit 4) Code.skip)) (.seq (.seq (.seq (.region 7 (reg Try.f67 7) false) (.cond (.tmp 19) Code.skip (.region 8 (reg Try.f67 8) false))) (.cond (.tmp 19) (.exit 5) Code.skip)) (.seq (.region 9 (reg Try.f67 9) false) (.cond (.tmp 22) (.exit 6) Code.skip))))))) (.exit 0))) (.seq (.region 10 (reg Try.f67 10) false) (.exit 0)))) (.seq (.region 11 (reg Try.f67 11) false) (.exit 0)))) (.seq (.region 12 (reg Try.f67 12) false) (.exit 0)))) (.region 13 (reg Try.f67 13) false))) (.region 14 (reg Try.f67 14) false))) (.seq (.region 15 (reg Try.f67 15) true) (.exit 0))))) (.seq (.region 16 (reg Try.f67 16) false) Code.ret))))
theorem jr.body:Try.f67.body=some jr.code:=by kernel_rfl
variable (U P V Q W X Y Z x8 x9 b d f g i j k l m N n o p q r s t u v w x y z A B C D E F G H I J K L M:Value) (S:zy)
theorem jr.r0 :jD zi ⟨false,false,false⟩ (zZ zi O) (reg Try.f67 0) (reg Try.f67 0).toList ([U,P,V,Q,W,X,Y,Z,x8,x9,b,d,f,g,i,j,k,l,m,N,n,o,p,q,r,s,t,u,v,w,x,y,z,A,B,C,D,E,F,G,H,I,J,K,L,M]) S =
  (zN (J3 (dem U) S) (fun c R=>zN (yI zi 48 R) (fun v1 S2=>some ([U,c,v1,Q,W,X,Y,Z,x8,x9,b,d,f,g,i,j,k,l,m,N,n,o,p,q,r,s,t,u,v,w,x,y,z,A,B,C,D,E,F,G,H,I,J,K,L,M],S2)) ()) ()):=by
 kernel_rfl
theorem jr.r1 :jD zi ⟨false,false,false⟩ (zZ zi O) (reg Try.f67 1) (reg Try.f67 1).toList ([U,P,V,Q,W,X,Y,Z,x8,x9,b,d,f,g,i,j,k,l,m,N,n,o,p,q,r,s,t,u,v,w,x,y,z,A,B,C,D,E,F,G,H,I,J,K,L,M]) S =
  (zN (zF zi 48 P 0 S) (fun c R=>zN (jh zi false 3 c R) (fun v1 S2=>zN (zF zi 48 P 1 S2) (fun v2 S3=>zN (jh zi false 3 v2 S3) (fun v3 S4=>zN (yA zi 48 [(0,(dem v1)),(1,(dem v3))] S4) (fun v4 S5=>zN (yI zi 48 S5) (fun v5 S6=>zN (wU zi 48 v5 (dem v4) S6) (fun v6 S7=>some ([U,P,V,v5,c,v1,v2,v3,v4,x9,b,d,f,g,i,j,k,l,m,N,n,o,p,q,r,s,t,u,v,w,x,y,z,A,B,C,D,E,F,G,H,I,J,K,L,M],S7)) ()) ()) ()) ()) ()) ()) ()):=by
 kernel_rfl
theorem jr.r2 :jD zi ⟨false,false,false⟩ (zZ zi O) (reg Try.f67 2) (reg Try.f67 2).toList ([U,P,V,Q,W,X,Y,Z,x8,x9,b,d,f,g,i,j,k,l,m,N,n,o,p,q,r,s,t,u,v,w,x,y,z,A,B,C,D,E,F,G,H,I,J,K,L,M]) S =
  (zN (zF zi 48 P 0 S) (fun c R=>zN (jh zi false 3 c R) (fun v1 S2=>some ([U,P,V,Q,W,X,Y,Z,x8,c,v1,d,f,g,i,j,k,l,m,N,n,o,p,q,r,s,t,u,v,w,x,y,z,A,B,C,D,E,F,G,H,I,J,K,L,M],S2)) ()) ()):=by
 kernel_rfl
theorem jr.r3 :jD zi ⟨false,false,false⟩ (zZ zi O) (reg Try.f67 3) (reg Try.f67 3).toList ([U,P,V,Q,W,X,Y,Z,x8,x9,b,d,f,g,i,j,k,l,m,N,n,o,p,q,r,s,t,u,v,w,x,y,z,A,B,C,D,E,F,G,H,I,J,K,L,M]) S =
  (zN (wI zi BinOp.eql 3 b (.int .i64 0) S) (fun c R=>some ([U,P,V,Q,W,X,Y,Z,x8,x9,b,c,dem c,g,i,j,k,l,m,N,n,o,p,q,r,s,t,u,v,w,x,y,z,A,B,C,D,E,F,G,H,I,J,K,L,M],R)) ()):=by
 kernel_rfl
theorem jr.r4 :jD zi ⟨false,false,false⟩ (zZ zi O) (reg Try.f67 4) (reg Try.f67 4).toList ([U,P,V,Q,W,X,Y,Z,x8,x9,b,d,f,g,i,j,k,l,m,N,n,o,p,q,r,s,t,u,v,w,x,y,z,A,B,C,D,E,F,G,H,I,J,K,L,M]) S =
  (zN (wI zi BinOp.eql 3 b (.int .i64 1) S) (fun c R=>some ([U,P,V,Q,W,X,Y,Z,x8,x9,b,d,f,c,dem c,j,k,l,m,N,n,o,p,q,r,s,t,u,v,w,x,y,z,A,B,C,D,E,F,G,H,I,J,K,L,M],R)) ()):=by
 kernel_rfl
theorem jr.r5 :jD zi ⟨false,false,false⟩ (zZ zi O) (reg Try.f67 5) (reg Try.f67 5).toList ([U,P,V,Q,W,X,Y,Z,x8,x9,b,d,f,g,i,j,k,l,m,N,n,o,p,q,r,s,t,u,v,w,x,y,z,A,B,C,D,E,F,G,H,I,J,K,L,M]) S =
  (zN (wI zi BinOp.eql 3 b (.int .i64 2) S) (fun c R=>some ([U,P,V,Q,W,X,Y,Z,x8,x9,b,d,f,g,i,c,dem c,l,m,N,n,o,p,q,r,s,t,u,v,w,x,y,z,A,B,C,D,E,F,G,H,I,J,K,L,M],R)) ()):=by
 kernel_rfl
theorem jr.r6 :jD zi ⟨false,false,false⟩ (zZ zi O) (reg Try.f67 6) (reg Try.f67 6).toList ([U,P,V,Q,W,X,Y,Z,x8,x9,b,d,f,g,i,j,k,l,m,N,n,o,p,q,r,s,t,u,v,w,x,y,z,A,B,C,D,E,F,G,H,I,J,K,L,M]) S =
  (zN (wI zi BinOp.eql 3 b (.int .i64 3) S) (fun c R=>some ([U,P,V,Q,W,X,Y,Z,x8,x9,b,d,f,g,i,j,k,c,dem c,N,n,o,p,q,r,s,t,u,v,w,x,y,z,A,B,C,D,E,F,G,H,I,J,K,L,M],R)) ()):=by
 kernel_rfl
theorem jr.r7 :jD zi ⟨false,false,false⟩ (zZ zi O) (reg Try.f67 7) (reg Try.f67 7).toList ([U,P,V,Q,W,X,Y,Z,x8,x9,b,d,f,g,i,j,k,l,m,N,n,o,p,q,r,s,t,u,v,w,x,y,z,A,B,C,D,E,F,G,H,I,J,K,L,M]) S =
  (zN (wI zi BinOp.eql 3 b (.int .i64 4) S) (fun c R=>some ([U,P,V,Q,W,X,Y,Z,x8,x9,b,d,f,g,i,j,k,l,m,c,dem c,o,p,q,r,s,t,u,v,w,x,y,z,A,B,C,D,E,F,G,H,I,J,K,L,M],R)) ()):=by
 kernel_rfl
theorem jr.r8 :jD zi ⟨false,false,false⟩ (zZ zi O) (reg Try.f67 8) (reg Try.f67 8).toList ([U,P,V,Q,W,X,Y,Z,x8,x9,b,d,f,g,i,j,k,l,m,N,n,o,p,q,r,s,t,u,v,w,x,y,z,A,B,C,D,E,F,G,H,I,J,K,L,M]) S =
  (zN (wI zi BinOp.eql 3 b (.int .i64 5) S) (fun c R=>some ([U,P,V,Q,W,X,Y,Z,x8,x9,b,d,f,g,i,j,k,l,m,c,n,dem c,p,q,r,s,t,u,v,w,x,y,z,A,B,C,D,E,F,G,H,I,J,K,L,M],R)) ()):=by
 kernel_rfl
theorem jr.r9 :jD zi ⟨false,false,false⟩ (zZ zi O) (reg Try.f67 9) (reg Try.f67 9).toList ([U,P,V,Q,W,X,Y,Z,x8,x9,b,d,f,g,i,j,k,l,m,N,n,o,p,q,r,s,t,u,v,w,x,y,z,A,B,C,D,E,F,G,H,I,J,K,L,M]) S =
  (zN (wI zi BinOp.eql 3 b (.int .i64 6) S) (fun c R=>some ([U,P,V,Q,W,X,Y,Z,x8,x9,b,d,f,g,i,j,k,l,m,N,n,o,c,dem c,r,s,t,u,v,w,x,y,z,A,B,C,D,E,F,G,H,I,J,K,L,M],R)) ()):=by
 kernel_rfl
theorem jr.r10 :jD zi ⟨false,false,false⟩ (zZ zi O) (reg Try.f67 10) (reg Try.f67 10).toList ([U,P,V,Q,W,X,Y,Z,x8,x9,b,d,f,g,i,j,k,l,m,N,n,o,p,q,r,s,t,u,v,w,x,y,z,A,B,C,D,E,F,G,H,I,J,K,L,M]) S =
  (zN (zF zi 48 P 6 S) (fun c R=>zN (jh zi false 43 c R) (fun v1 S2=>zN (zF zi 48 Q 6 S2) (fun v2 S3=>zN (wU zi 43 v2 (dem v1) S3) (fun v3 S4=>some ([U,P,V,Q,W,X,Y,Z,x8,x9,b,d,f,g,i,j,k,l,m,N,n,o,p,q,c,v1,v2,u,v,w,x,y,z,A,B,C,D,E,F,G,H,I,J,K,L,M],S4)) ()) ()) ()) ()):=by
 kernel_rfl
theorem jr.r11 :jD zi ⟨false,false,false⟩ (zZ zi O) (reg Try.f67 11) (reg Try.f67 11).toList ([U,P,V,Q,W,X,Y,Z,x8,x9,b,d,f,g,i,j,k,l,m,N,n,o,p,q,r,s,t,u,v,w,x,y,z,A,B,C,D,E,F,G,H,I,J,K,L,M]) S =
  (zN (zF zi 48 P 7 S) (fun c R=>zN (jh zi false 46 c R) (fun v1 S2=>zN (zF zi 48 Q 7 S2) (fun v2 S3=>zN (wU zi 46 v2 (dem v1) S3) (fun v3 S4=>some ([U,P,V,Q,W,X,Y,Z,x8,x9,b,d,f,g,i,j,k,l,m,N,n,o,p,q,r,s,t,c,v1,v2,x,y,z,A,B,C,D,E,F,G,H,I,J,K,L,M],S4)) ()) ()) ()) ()):=by
 kernel_rfl
theorem jr.r12 :jD zi ⟨false,false,false⟩ (zZ zi O) (reg Try.f67 12) (reg Try.f67 12).toList ([U,P,V,Q,W,X,Y,Z,x8,x9,b,d,f,g,i,j,k,l,m,N,n,o,p,q,r,s,t,u,v,w,x,y,z,A,B,C,D,E,F,G,H,I,J,K,L,M]) S =
  (zN (zF zi 48 P 4 S) (fun c R=>zN (jh zi false 3 c R) (fun v1 S2=>zN (zF zi 48 Q 4 S2) (fun v2 S3=>zN (wU zi 3 v2 (dem v1) S3) (fun v3 S4=>some ([U,P,V,Q,W,X,Y,Z,x8,x9,b,d,f,g,i,j,k,l,m,N,n,o,p,q,r,s,t,u,v,w,c,v1,v2,A,B,C,D,E,F,G,H,I,J,K,L,M],S4)) ()) ()) ()) ()):=by
 kernel_rfl
theorem jr.r13 :jD zi ⟨false,false,false⟩ (zZ zi O) (reg Try.f67 13) (reg Try.f67 13).toList ([U,P,V,Q,W,X,Y,Z,x8,x9,b,d,f,g,i,j,k,l,m,N,n,o,p,q,r,s,t,u,v,w,x,y,z,A,B,C,D,E,F,G,H,I,J,K,L,M]) S =
  (zN (zF zi 48 P 5 S) (fun c R=>zN (jh zi false 3 c R) (fun v1 S2=>zN (zF zi 48 Q 5 S2) (fun v2 S3=>zN (wU zi 3 v2 (dem v1) S3) (fun v3 S4=>some ([U,P,V,Q,W,X,Y,Z,x8,x9,b,d,f,g,i,j,k,l,m,N,n,o,p,q,r,s,t,u,v,w,x,y,z,c,v1,v2,D,E,F,G,H,I,J,K,L,M],S4)) ()) ()) ()) ()):=by
 kernel_rfl
theorem jr.r14 :jD zi ⟨false,false,false⟩ (zZ zi O) (reg Try.f67 14) (reg Try.f67 14).toList ([U,P,V,Q,W,X,Y,Z,x8,x9,b,d,f,g,i,j,k,l,m,N,n,o,p,q,r,s,t,u,v,w,x,y,z,A,B,C,D,E,F,G,H,I,J,K,L,M]) S =
  (zN (zF zi 48 P 3 S) (fun c R=>zN (jh zi false 3 c R) (fun v1 S2=>zN (zF zi 48 Q 3 S2) (fun v2 S3=>zN (wU zi 3 v2 (dem v1) S3) (fun v3 S4=>some ([U,P,V,Q,W,X,Y,Z,x8,x9,b,d,f,g,i,j,k,l,m,N,n,o,p,q,r,s,t,u,v,w,x,y,z,A,B,C,c,v1,v2,G,H,I,J,K,L,M],S4)) ()) ()) ()) ()):=by
 kernel_rfl
theorem jr.d15:qW zi (reg Try.f67 15)=true:=by kernel_rfl
theorem jr.alB:fixed zi (reg Try.f67 15)=false:=by kernel_rfl
theorem jr.k15:checked zi (reg Try.f67 15)=[2,3]:=by kernel_rfl
theorem jr.g15:again zi (reg Try.f67 15)=[(3,5)]:=by kernel_rfl
theorem jr.r15 :zJ zi O false (.region 15 (reg Try.f67 15) true) ([U,P,V,Q,W,X,Y,Z,x8,x9,b,d,f,g,i,j,k,l,m,N,n,o,p,q,r,s,t,u,v,w,x,y,z,A,B,C,D,E,F,G,H,I,J,K,L,M]) S =
  Ja (zN (zF zi 48 P 2 S) (fun c R=>zN (jh zi false 3 c R) (fun v1 S2=>zN (zF zi 48 P 4 S2) (fun v2 S3=>okK v2 ( zN (jh zi false 3 v2 S3) (fun v3 S4=>okK v3 ( zN (zF zi 48 Q 2 S4) (fun v4 S5=>zN (wU zi 3 v4 (dem v1) S5) (fun v5 S6=>zN (zF zi 48 Q 4 S6) (fun v6 S7=>zN (wU zi 3 v6 (dem v3) S7) (fun v7 S8=>ckK (qN v2 S3 S6 && (true)) (some ([U,P,V,Q,W,X,Y,Z,x8,x9,b,d,f,g,i,j,k,l,m,N,n,o,p,q,r,s,t,u,v,w,x,y,z,A,B,C,D,E,F,c,v1,v2,v3,v4,v6,M],S8)) ()) ()) ()) ()) ()) ()) ()) ()) ()) ()) ()):=by
 rw [yF jr.d15 jr.alB jr.k15 jr.g15]
 refine congrArg Ja ?_
 refine uD Try.f67 15 0 (pe:=zh) (fun c R=>?_)
 refine uD Try.f67 15 1 (pe:=c) (fun v1 S2=>?_)
 refine uDC Try.f67 15 2 (pe:=zh) (fun v2 S3=>?_)
 refine uDC Try.f67 15 3 (pe:=v2) (fun v3 S4=>?_)
 refine uD Try.f67 15 4 (pe:=zh) (fun v4 S5=>?_)
 refine uD Try.f67 15 5 (pe:=zh) (fun v5 S6=>?_)
 refine uD Try.f67 15 6 (pe:=zh) (fun v6 S7=>?_)
 refine uD Try.f67 15 7 (pe:=zh) (fun v7 S8=>?_)
 kernel_rfl
theorem jr.r16 :jD zi ⟨false,false,false⟩ (zZ zi O) (reg Try.f67 16) (reg Try.f67 16).toList ([U,P,V,Q,W,X,Y,Z,x8,x9,b,d,f,g,i,j,k,l,m,N,n,o,p,q,r,s,t,u,v,w,x,y,z,A,B,C,D,E,F,G,H,I,J,K,L,M]) S =
  (zN (jh zi false 48 Q S) (fun c R=>zN (wU zi 48 V (dem c) R) (fun v1 S2=>some ([U,P,V,Q,W,X,Y,Z,x8,x9,b,d,f,g,i,j,k,l,m,N,n,o,p,q,r,s,t,u,v,w,x,y,z,A,B,C,D,E,F,G,H,I,J,K,L,c],S2)) ()) ()):=by
 kernel_rfl
theorem jr.rs:type_of% (alG @jr.r0 (alG @jr.r1 (alG @jr.r2 (alG @jr.r3 (alG @jr.r4 (alG @jr.r5 (alG @jr.r6 (alG @jr.r7 (alG @jr.r8 (alG @jr.r9 (alG @jr.r10 (alG @jr.r11 (alG @jr.r12 (alG @jr.r13 (alG @jr.r14 (alG @jr.r15 (@jr.r16))))))))))))))))):=alG @jr.r0 (alG @jr.r1 (alG @jr.r2 (alG @jr.r3 (alG @jr.r4 (alG @jr.r5 (alG @jr.r6 (alG @jr.r7 (alG @jr.r8 (alG @jr.r9 (alG @jr.r10 (alG @jr.r11 (alG @jr.r12 (alG @jr.r13 (alG @jr.r14 (alG @jr.r15 (@jr.r16))))))))))))))))
theorem jr.runs {U:Value} {S R:zy} {e:AEx} {T:List Value} (h:zJ zi O false jr.code ([U,zh,zh,zh,zh,zh,zh,zh,zh,zh,zh,zh,zh,zh,zh,zh,zh,zh,zh,zh,zh,zh,zh,zh,zh,zh,zh,zh,zh,zh,zh,zh,zh,zh,zh,zh,zh,zh,zh,zh,zh,zh,zh,zh,zh,zh]) zy.empty=some (e,T,R)) (he:e=.normal∨e=.ret) {w0:Value} (c0:jh zi false 48 (T.getD 2 zh) R=some (w0,R)) (hca:[U].all (jW 16)=true) (hcv:jW 16 (w0)=true):zZ zi O 67 [U] S=some (w0,S) :=
 yC rfl rfl Try.func67 (by decide) jr.body (by exact h) he (yH (a:=w0) ((show zQ zi T R Try.f67.results.toList=zQ zi T R [(ResultVar.cell 2 48)] from by kernel_rfl).trans (by simp only [zQ,c0])) (by kernel_rfl)) hca hcv
end Go.Proofs.Ytfjogganfjkckaa
namespace Go.Proofs.Ytfjogganfjkckaa
open Go.Abs
abbrev yc.id:FuncId:=66
noncomputable def yc.code:Code:=(.seq (.region 0 (reg Try.f66 0) false) (.seq (.region 1 (reg Try.f66 1) false) (.seq (.region 2 (reg Try.f66 2) false) Code.ret)))
theorem yc.body:Try.f66.body=some yc.code:=by kernel_rfl
variable (o p l m x4 g x6 x7 x8 x9 z A B C D E F G H I J K L M N P Q R U V W X Y Z a0 a1 a2 a3 a4 a5 a6 a7 a8 a9 b0 b1 b2 b3 b4 b5 b6 b7 b8 b9 c0 c1 c2 c3 c4 c5 c6:Value) (S:zy)
theorem yc.r0 :jD zi ⟨false,false,false⟩ (zZ zi O) (reg Try.f66 0) (reg Try.f66 0).toList ([o,p,l,m,x4,g,x6,x7,x8,x9,z,A,B,C,D,E,F,G,H,I,J,K,L,M,N,P,Q,R,U,V,W,X,Y,Z,a0,a1,a2,a3,a4,a5,a6,a7,a8,a9,b0,b1,b2,b3,b4,b5,b6,b7,b8,b9,c0,c1,c2,c3,c4,c5,c6]) S =
  (zN (J3 (dem o) S) (fun v0 q=>zN (J3 (dem p) q) (fun v1 S2=>some ([o,p,v0,v1,Value.bool false,g,x6,x7,x8,x9,z,A,B,C,D,E,F,G,H,I,J,K,L,M,N,P,Q,R,U,V,W,X,Y,Z,a0,a1,a2,a3,a4,a5,a6,a7,a8,a9,b0,b1,b2,b3,b4,b5,b6,b7,b8,b9,c0,c1,c2,c3,c4,c5,c6],S2)) ()) ()):=by
 kernel_rfl
theorem yc.r1 :jD zi ⟨false,false,false⟩ (zZ zi O) (reg Try.f66 1) (reg Try.f66 1).toList ([o,p,l,m,x4,g,x6,x7,x8,x9,z,A,B,C,D,E,F,G,H,I,J,K,L,M,N,P,Q,R,U,V,W,X,Y,Z,a0,a1,a2,a3,a4,a5,a6,a7,a8,a9,b0,b1,b2,b3,b4,b5,b6,b7,b8,b9,c0,c1,c2,c3,c4,c5,c6]) S =
  (zN (zF zi 48 l 0 S) (fun v0 q=>zN (jh zi false 3 v0 q) (fun v1 S2=>zN (zF zi 48 m 0 S2) (fun v2 S3=>zN (jh zi false 3 v2 S3) (fun v3 S4=>zN (wI zi BinOp.eql 3 v1 v3 S4) (fun i S5=>gdK (dem i) true (zF zi 48 l 1) S5 (fun v6 S6=>gdK (dem i) true (jh zi false 3 v6) S6 (fun k S7=>gdK (dem i) true (zF zi 48 m 1) S7 (fun v8 S8=>gdK (dem i) true (jh zi false 3 v8) S8 (fun v9 S9=>gdK (dem i) true (wI zi BinOp.eql 3 k v9) S9 (fun r c7=>zN (wX (dem i) r (Value.bool false) c7) (fun b c8=>gdK (dem b) true (zF zi 48 l 2) c8 (fun s c9=>gdK (dem b) true (jh zi false 3 s) c9 (fun c d0=>gdK (dem b) true (zF zi 48 m 2) d0 (fun f2 d1=>gdK (dem b) true (jh zi false 3 f2) d1 (fun t d2=>gdK (dem b) true (wI zi BinOp.eql 3 c t) d2 (fun u d3=>zN (wX (dem b) u (Value.bool false) d3) (fun d d4=>gdK (dem d) true (zF zi 48 l 3) d4 (fun w d5=>gdK (dem d) true (jh zi false 3 w) d5 (fun f d6=>gdK (dem d) true (zF zi 48 m 3) d6 (fun f3 d7=>gdK (dem d) true (jh zi false 3 f3) d7 (fun x d8=>gdK (dem d) true (wI zi BinOp.eql 3 f x) d8 (fun y d9=>zN (wX (dem d) y (Value.bool false) d9) (fun n f0=>some ([o,p,l,m,x4,n,v0,v1,v2,v3,i,dem i,v6,k,v8,v9,r,b,dem b,s,c,f2,t,u,d,dem d,w,f,f3,x,y,dem n,Y,Z,a0,a1,a2,a3,a4,a5,a6,a7,a8,a9,b0,b1,b2,b3,b4,b5,b6,b7,b8,b9,c0,c1,c2,c3,c4,c5,c6],f0)) ()) ()) ()) ()) ()) ()) ()) ()) ()) ()) ()) ()) ()) ()) ()) ()) ()) ()) ()) ()) ()) ()) ()):=by
 refine sD Try.f66 1 0 (fun v0 q=>?_)
 refine sD Try.f66 1 1 (fun v1 S2=>?_)
 refine sD Try.f66 1 2 (fun v2 S3=>?_)
 refine sD Try.f66 1 3 (fun v3 S4=>?_)
 refine sD Try.f66 1 4 (fun i S5=>?_)
 refine sP Try.f66 1 5 (v:=i) ?_
 refine sG Try.f66 1 6 (j:=5) (fun v6 S6=>?_)
 refine sG Try.f66 1 7 (j:=5) (fun k S7=>?_)
 refine sG Try.f66 1 8 (j:=5) (fun v8 S8=>?_)
 refine sG Try.f66 1 9 (j:=5) (fun v9 S9=>?_)
 refine sG Try.f66 1 10 (j:=5) (fun r c7=>?_)
 refine sD Try.f66 1 11 (fun b c8=>?_)
 refine sP Try.f66 1 12 (v:=b) ?_
 refine sG Try.f66 1 13 (j:=12) (fun s c9=>?_)
 refine sG Try.f66 1 14 (j:=12) (fun c d0=>?_)
 refine sG Try.f66 1 15 (j:=12) (fun f2 d1=>?_)
 refine sG Try.f66 1 16 (j:=12) (fun t d2=>?_)
 refine sG Try.f66 1 17 (j:=12) (fun u d3=>?_)
 refine sD Try.f66 1 18 (fun d d4=>?_)
 refine sP Try.f66 1 19 (v:=d) ?_
 refine sG Try.f66 1 20 (j:=19) (fun w d5=>?_)
 refine sG Try.f66 1 21 (j:=19) (fun f d6=>?_)
 refine sG Try.f66 1 22 (j:=19) (fun f3 d7=>?_)
 refine sG Try.f66 1 23 (j:=19) (fun x d8=>?_)
 refine sG Try.f66 1 24 (j:=19) (fun y d9=>?_)
 refine sD Try.f66 1 25 (fun n f0=>?_)
 refine sP Try.f66 1 26 (v:=n) ?_
 kernel_rfl
theorem yc.r2 :jD zi ⟨false,false,false⟩ (zZ zi O) (reg Try.f66 2) (reg Try.f66 2).toList ([o,p,l,m,x4,g,x6,x7,x8,x9,z,A,B,C,D,E,F,G,H,I,J,K,L,M,N,P,Q,R,U,V,W,X,Y,Z,a0,a1,a2,a3,a4,a5,a6,a7,a8,a9,b0,b1,b2,b3,b4,b5,b6,b7,b8,b9,c0,c1,c2,c3,c4,c5,c6]) S =
  (gdK (dem g) true (zF zi 48 l 4) S (fun v2 q=>gdK (dem g) true (jh zi false 3 v2) q (fun v3 S2=>gdK (dem g) true (zF zi 48 m 4) S2 (fun i S3=>gdK (dem g) true (jh zi false 3 i) S3 (fun v5 S4=>gdK (dem g) true (wI zi BinOp.eql 3 v3 v5) S4 (fun v6 S5=>zN (wX (dem g) v6 (Value.bool false) S5) (fun k S6=>gdK (dem k) true (zF zi 48 l 5) S6 (fun v9 S7=>gdK (dem k) true (jh zi false 3 v9) S7 (fun r S8=>gdK (dem k) true (zF zi 48 m 5) S8 (fun b S9=>gdK (dem k) true (jh zi false 3 b) S9 (fun f4 c7=>gdK (dem k) true (wI zi BinOp.eql 3 r f4) c7 (fun s c8=>zN (wX (dem k) s (Value.bool false) c8) (fun c c9=>gdK (dem c) true (zF zi 48 l 6) c9 (fun t d0=>gdK (dem c) true (jh zi false 43 t) d0 (fun u d1=>gdK (dem c) true (zF zi 48 m 6) d1 (fun d d2=>gdK (dem c) true (jh zi false 43 d) d2 (fun f5 d3=>gdK (dem c) true (wI zi BinOp.eql 43 u f5) d3 (fun w d4=>zN (wX (dem c) w (Value.bool false) d4) (fun f d5=>gdK (dem f) true (zF zi 48 l 7) d5 (fun x d6=>gdK (dem f) true (jh zi false 46 x) d6 (fun y d7=>gdK (dem f) true (zF zi 48 m 7) d7 (fun n d8=>gdK (dem f) true (jh zi false 46 n) d8 (fun f6 d9=>gdK (dem f) true ((zZ zi O) 73 [(dem y),(dem f6)]) d9 (fun f7 f0=>zN (wX (dem f) f7 (Value.bool false) f0) (fun f1 f8=>some ([o,p,l,m,f1,dem g,x6,x7,x8,x9,z,A,B,C,D,E,F,G,H,I,J,K,L,M,N,P,Q,R,U,V,W,X,g,dem g,v2,v3,i,v5,v6,k,dem k,v9,r,b,f4,s,c,dem c,t,u,d,f5,w,f,dem f,x,y,n,f6,f7,dem f1],f8)) ()) ()) ()) ()) ()) ()) ()) ()) ()) ()) ()) ()) ()) ()) ()) ()) ()) ()) ()) ()) ()) ()) ()) ()):=by
 refine sP Try.f66 2 0 (v:=g) ?_
 refine sP Try.f66 2 1 (v:=g) ?_
 refine sG Try.f66 2 2 (j:=1) (fun v2 q=>?_)
 refine sG Try.f66 2 3 (j:=1) (fun v3 S2=>?_)
 refine sG Try.f66 2 4 (j:=1) (fun i S3=>?_)
 refine sG Try.f66 2 5 (j:=1) (fun v5 S4=>?_)
 refine sG Try.f66 2 6 (j:=1) (fun v6 S5=>?_)
 refine sD Try.f66 2 7 (fun k S6=>?_)
 refine sP Try.f66 2 8 (v:=k) ?_
 refine sG Try.f66 2 9 (j:=8) (fun v9 S7=>?_)
 refine sG Try.f66 2 10 (j:=8) (fun r S8=>?_)
 refine sG Try.f66 2 11 (j:=8) (fun b S9=>?_)
 refine sG Try.f66 2 12 (j:=8) (fun f4 c7=>?_)
 refine sG Try.f66 2 13 (j:=8) (fun s c8=>?_)
 refine sD Try.f66 2 14 (fun c c9=>?_)
 refine sP Try.f66 2 15 (v:=c) ?_
 refine sG Try.f66 2 16 (j:=15) (fun t d0=>?_)
 refine sG Try.f66 2 17 (j:=15) (fun u d1=>?_)
 refine sG Try.f66 2 18 (j:=15) (fun d d2=>?_)
 refine sG Try.f66 2 19 (j:=15) (fun f5 d3=>?_)
 refine sG Try.f66 2 20 (j:=15) (fun w d4=>?_)
 refine sD Try.f66 2 21 (fun f d5=>?_)
 refine sP Try.f66 2 22 (v:=f) ?_
 refine sG Try.f66 2 23 (j:=22) (fun x d6=>?_)
 refine sG Try.f66 2 24 (j:=22) (fun y d7=>?_)
 refine sG Try.f66 2 25 (j:=22) (fun n d8=>?_)
 refine sG Try.f66 2 26 (j:=22) (fun f6 d9=>?_)
 refine sG Try.f66 2 27 (j:=22) (fun f7 f0=>?_)
 refine sD Try.f66 2 28 (fun f1 f8=>?_)
 refine sP Try.f66 2 29 (v:=f1) ?_
 kernel_rfl
theorem yc.rs:type_of% (alG @yc.r0 (alG @yc.r1 (@yc.r2))):=alG @yc.r0 (alG @yc.r1 (@yc.r2))
theorem yc.runs {o p:Value} {S q:zy} {e:AEx} {T:List Value} (h:zJ zi O false yc.code ([o,p,zh,zh,zh,zh,zh,zh,zh,zh,zh,zh,zh,zh,zh,zh,zh,zh,zh,zh,zh,zh,zh,zh,zh,zh,zh,zh,zh,zh,zh,zh,zh,zh,zh,zh,zh,zh,zh,zh,zh,zh,zh,zh,zh,zh,zh,zh,zh,zh,zh,zh,zh,zh,zh,zh,zh,zh,zh,zh,zh]) zy.empty=some (e,T,q)) (he:e=.normal∨e=.ret) (hca:[o,p].all (jW 16)=true) (hcv:jW 16 (T.getD 4 zh)=true):zZ zi O 66 [o,p] S=some (T.getD 4 zh,S) :=
 yC rfl rfl Try.func66 (by decide) yc.body (by exact h) he (yH (a:=T.getD 4 zh) ((show zQ zi T q Try.f66.results.toList=zQ zi T q [(ResultVar.tmp 4)] from by kernel_rfl).trans (by simp only [zQ])) (by kernel_rfl)) hca hcv
end Go.Proofs.Ytfjogganfjkckaa
namespace Go.Proofs.Ytfjogganfjkckaa
open Go.Abs
abbrev wH.id:FuncId:=69
noncomputable def wH.code:Code:=(.seq (.region 0 (reg Try.f69 0) false) (.seq (.region 1 (reg Try.f69 1) false) (.seq (.region 2 (reg Try.f69 2) false) Code.ret)))
theorem wH.body:Try.f69.body=some wH.code:=by kernel_rfl
variable (c f x2 L M N P Q R U k l m n o p q r s t u w x y z A B C D:Value) (S:zy)
theorem wH.r0 :jD zi ⟨false,false,false⟩ (zZ zi O) (reg Try.f69 0) (reg Try.f69 0).toList ([c,f,x2,L,M,N,P,Q,R,U,k,l,m,n,o,p,q,r,s,t,u,w,x,y,z,A,B,C,D]) S =
  (zN (J3 (dem c) S) (fun i d=>some ([c,i,Value.bool false,L,M,N,P,Q,R,U,k,l,m,n,o,p,q,r,s,t,u,w,x,y,z,A,B,C,D],d)) ()):=by
 kernel_rfl
theorem wH.r1 :jD zi ⟨false,false,false⟩ (zZ zi O) (reg Try.f69 1) (reg Try.f69 1).toList ([c,f,x2,L,M,N,P,Q,R,U,k,l,m,n,o,p,q,r,s,t,u,w,x,y,z,A,B,C,D]) S =
  (zN (zF zi 48 f 0 S) (fun i d=>zN (jh zi false 3 i d) (fun G V=>zN (wI zi BinOp.eql 3 G (.int .i64 4) V) (fun b W=>gdK (dem b) false (zF zi 48 f 0) W (fun H X=>gdK (dem b) false (jh zi false 3 H) X (fun I Y=>gdK (dem b) false (wI zi BinOp.eql 3 I (.int .i64 5)) Y (fun J Z=>zN (wX (dem b) (Value.bool true) J Z) (fun E S7=>some ([c,f,x2,E,i,G,b,dem b,H,I,J,dem E,m,n,o,p,q,r,s,t,u,w,x,y,z,A,B,C,D],S7)) ()) ()) ()) ()) ()) ()) ()):=by
 refine sD Try.f69 1 0 (fun i d=>?_)
 refine sD Try.f69 1 1 (fun G V=>?_)
 refine sD Try.f69 1 2 (fun b W=>?_)
 refine sP Try.f69 1 3 (v:=b) ?_
 refine sG Try.f69 1 4 (j:=3) (fun H X=>?_)
 refine sG Try.f69 1 5 (j:=3) (fun I Y=>?_)
 refine sG Try.f69 1 6 (j:=3) (fun J Z=>?_)
 refine sD Try.f69 1 7 (fun E S7=>?_)
 refine sP Try.f69 1 8 (v:=E) ?_
 kernel_rfl
theorem wH.r2 :jD zi ⟨false,false,false⟩ (zZ zi O) (reg Try.f69 2) (reg Try.f69 2).toList ([c,f,x2,L,M,N,P,Q,R,U,k,l,m,n,o,p,q,r,s,t,u,w,x,y,z,A,B,C,D]) S =
  (zN (zF zi 48 f 4 S) (fun i d=>zN (jh zi false 3 i d) (fun G V=>zN (wI zi BinOp.eql 3 G (.int .i64 0) V) (fun b W=>gdK (dem b) false (zF zi 48 f 4) W (fun H X=>gdK (dem b) false (jh zi false 3 H) X (fun I Y=>gdK (dem b) false ((zZ zi O) 74 [(dem I)]) Y (fun J Z=>gdK (dem b) false (wI zi BinOp.gtr 3 J (.int .i64 0)) Z (fun E S7=>zN (wX (dem b) (Value.bool true) E S7) (fun F S8=>gdK (dem F) false (ret L) S8 (fun a0 S9=>gdK (dem F) false (ret a0) S9 (fun g a5=>gdK (dem g) true (zF zi 48 f 4) a5 (fun a1 a6=>gdK (dem g) true (jh zi false 3 a1) a6 (fun a2 a7=>gdK (dem g) true (wI zi BinOp.eql 3 a2 (.int .i64 (-1))) a7 (fun a3 a8=>gdK (dem F) false (wX (dem g) a3 (Value.bool false)) a8 (fun a4 a9=>zN (wX (dem F) (Value.bool true) a4 a9) (fun K b0=>some ([c,f,K,dem L,M,N,P,Q,R,U,k,l,i,G,b,dem b,H,I,J,E,F,dem F,a0,dem g,a1,a2,a3,a4,dem K],b0)) ()) ()) ()) ()) ()) ()) ()) ()) ()) ()) ()) ()) ()) ()) ()):=by
 refine sD Try.f69 2 0 (fun i d=>?_)
 refine sD Try.f69 2 1 (fun G V=>?_)
 refine sD Try.f69 2 2 (fun b W=>?_)
 refine sP Try.f69 2 3 (v:=b) ?_
 refine sG Try.f69 2 4 (j:=3) (fun H X=>?_)
 refine sG Try.f69 2 5 (j:=3) (fun I Y=>?_)
 refine sG Try.f69 2 6 (j:=3) (fun J Z=>?_)
 refine sG Try.f69 2 7 (j:=3) (fun E S7=>?_)
 refine sD Try.f69 2 8 (fun F S8=>?_)
 refine sP Try.f69 2 9 (v:=F) ?_
 refine sG Try.f69 2 10 (j:=9) (fun a0 S9=>?_)
 refine sG Try.f69 2 11 (j:=9) (fun g a5=>?_)
 refine sG Try.f69 2 12 (j:=11) (fun a1 a6=>?_)
 refine sG Try.f69 2 13 (j:=11) (fun a2 a7=>?_)
 refine sG Try.f69 2 14 (j:=11) (fun a3 a8=>?_)
 refine sG Try.f69 2 15 (j:=9) (fun a4 a9=>?_)
 refine sD Try.f69 2 16 (fun K b0=>?_)
 refine sP Try.f69 2 17 (v:=K) ?_
 kernel_rfl
theorem wH.rs:type_of% (alG @wH.r0 (alG @wH.r1 (@wH.r2))):=alG @wH.r0 (alG @wH.r1 (@wH.r2))
theorem wH.runs {c:Value} {S d:zy} {e:AEx} {T:List Value} (h:zJ zi O false wH.code ([c,zh,zh,zh,zh,zh,zh,zh,zh,zh,zh,zh,zh,zh,zh,zh,zh,zh,zh,zh,zh,zh,zh,zh,zh,zh,zh,zh,zh]) zy.empty=some (e,T,d)) (he:e=.normal∨e=.ret) (hca:[c].all (jW 16)=true) (hcv:jW 16 (T.getD 2 zh)=true):zZ zi O 69 [c] S=some (T.getD 2 zh,S) :=
 yC rfl rfl Try.func69 (by decide) wH.body (by exact h) he (yH (a:=T.getD 2 zh) ((show zQ zi T d Try.f69.results.toList=zQ zi T d [(ResultVar.tmp 2)] from by kernel_rfl).trans (by simp only [zQ])) (by kernel_rfl)) hca hcv
end Go.Proofs.Ytfjogganfjkckaa
namespace Go.Proofs.Ytfjogganfjkckaa
open Go.Abs
abbrev kY.id:FuncId:=44
noncomputable def kY.code:Code:=(.seq (.region 0 (reg Try.f44 0) false) (.seq (.region 1 (reg Try.f44 1) false) Code.ret))
theorem kY.body:Try.f44.body=some kY.code:=by kernel_rfl
variable (b d k f g i j:Value) (S:zy)
theorem kY.r0 :jD zi ⟨false,false,false⟩ (zZ zi O) (reg Try.f44 0) (reg Try.f44 0).toList ([b,d,k,f,g,i,j]) S =
  ( some ([b,d,Value.int IntKind.u64 0,f,g,i,j],S)):=by
 kernel_rfl
theorem kY.r1 :jD zi ⟨false,false,false⟩ (zZ zi O) (reg Try.f44 1) (reg Try.f44 1).toList ([b,d,k,f,g,i,j]) S =
  (zN (qU zi false false 3 73 (dem b) S) (fun l c=>zN (wI zi BinOp.add 73 l (Value.int IntKind.u64 1) c) (fun m o=>zN (wI zi BinOp.mul 73 m (Value.int IntKind.u64 11400714819323198485) o) (fun n p=>some ([b,d,n,dem b,l,m,dem n],p)) ()) ()) ()):=by
 kernel_rfl
theorem kY.rs:type_of% (alG @kY.r0 (@kY.r1)):=alG @kY.r0 (@kY.r1)
theorem kY.runs {b:Value} {S c:zy} {e:AEx} {T:List Value} (h:zJ zi O false kY.code ([b,zh,zh,zh,zh,zh,zh]) S=some (e,T,c)) (he:e=.normal∨e=.ret):zZ zi O 44 [b] S=some (T.getD 2 zh,c) :=
 yL rfl rfl Try.func44 (by decide) kY.body (by exact h) he (yH (a:=T.getD 2 zh) ((show zQ zi T c Try.f44.results.toList=zQ zi T c [(ResultVar.tmp 2)] from by kernel_rfl).trans (by simp only [zQ])) (by kernel_rfl))
end Go.Proofs.Ytfjogganfjkckaa
namespace Go.Proofs.Ytfjogganfjkckaa
open Go.Abs
abbrev wP.id:FuncId:=59
noncomputable def wP.jT:Code:=(.seq (.region 6 (reg Try.f59 6) false) (.seq (.cond (.tmp 21) Code.skip (.exit 2)) (.seq (.block 3 (.seq (.region 7 (reg Try.f59 7) false) (.region 8 (reg Try.f59 8) false))) (.region 9 (reg Try.f59 9) false))))
noncomputable def wP.kZ:Code:=(.seq (.region 3 (reg Try.f59 3) false) (.seq (.cond (.tmp 15) Code.skip (.exit 0)) (.seq (.block 1 (.seq (.region 4 (reg Try.f59 4) false) (.seq (.region 5 (reg Try.f59 5) false) (.block 2 (.loop wP.jT))))) (.region 10 (reg Try.f59 10) false))))
noncomputable def wP.code:Code:=(.seq (.region 0 (reg Try.f59 0) false) (.seq (.region 1 (reg Try.f59 1) false) (.seq (.seq (.region 2 (reg Try.f59 2) false) (.block 0 (.loop wP.kZ))) (.seq (.region 11 (reg Try.f59 11) false) Code.ret))))
theorem wP.body:Try.f59.body=some wP.code:=by kernel_rfl
theorem wP.eta {T:List Value} (h:T.length=35):T=[T.getD 0 zh,T.getD 1 zh,T.getD 2 zh,T.getD 3 zh,T.getD 4 zh,T.getD 5 zh,T.getD 6 zh,T.getD 7 zh,T.getD 8 zh,T.getD 9 zh,T.getD 10 zh,T.getD 11 zh,T.getD 12 zh,T.getD 13 zh,T.getD 14 zh,T.getD 15 zh,T.getD 16 zh,T.getD 17 zh,T.getD 18 zh,T.getD 19 zh,T.getD 20 zh,T.getD 21 zh,T.getD 22 zh,T.getD 23 zh,T.getD 24 zh,T.getD 25 zh,T.getD 26 zh,T.getD 27 zh,T.getD 28 zh,T.getD 29 zh,T.getD 30 zh,T.getD 31 zh,T.getD 32 zh,T.getD 33 zh,T.getD 34 zh]:=(qJ T 35 h).trans (by kernel_rfl)
variable (C D I J M E K G L H j k d f b l m n g i c o p q r s t u v w x y z A B:Value) (S:zy)
theorem wP.r0 :jD zi ⟨false,false,false⟩ (zZ zi O) (reg Try.f59 0) (reg Try.f59 0).toList ([C,D,I,J,M,E,K,G,L,H,j,k,d,f,b,l,m,n,g,i,c,o,p,q,r,s,t,u,v,w,x,y,z,A,B]) S =
  ( some ([C,D,I,J,Value.int IntKind.u64 0,E,K,G,L,H,j,k,d,f,b,l,m,n,g,i,c,o,p,q,r,s,t,u,v,w,x,y,z,A,B],S)):=by
 kernel_rfl
theorem wP.r1 :jD zi ⟨false,false,false⟩ (zZ zi O) (reg Try.f59 1) (reg Try.f59 1).toList ([C,D,I,J,M,E,K,G,L,H,j,k,d,f,b,l,m,n,g,i,c,o,p,q,r,s,t,u,v,w,x,y,z,A,B]) S =
  (zN (wI zi BinOp.xor 73 (dem C) (Value.int IntKind.u64 14695981039346656037) S) (fun P F=>some ([C,D,I,J,M,P,K,G,L,H,dem C,dem P,d,f,b,l,m,n,g,i,c,o,p,q,r,s,t,u,v,w,x,y,z,A,B],F)) ()):=by
 kernel_rfl
theorem wP.r2 :jD zi ⟨false,false,false⟩ (zZ zi O) (reg Try.f59 2) (reg Try.f59 2).toList ([C,D,I,J,M,E,K,G,L,H,j,k,d,f,b,l,m,n,g,i,c,o,p,q,r,s,t,u,v,w,x,y,z,A,B]) S =
  (zN (Zu zi 29 (dem D) S) (fun P F=>some ([C,D,I,J,M,E,K,G,L,H,j,k,dem D,P,.int .i64 0,l,m,n,g,i,c,o,p,q,r,s,t,u,v,w,x,y,z,A,B],F)) ()):=by
 kernel_rfl
theorem wP.r3 :jD zi ⟨false,false,false⟩ (zZ zi O) (reg Try.f59 3) (reg Try.f59 3).toList ([C,D,I,J,M,E,K,G,L,H,j,k,d,f,b,l,m,n,g,i,c,o,p,q,r,s,t,u,v,w,x,y,z,A,B]) S =
  (zN (wI zi BinOp.lss 3 b f S) (fun N F=>some ([C,D,I,J,M,E,K,G,L,H,j,k,d,f,b,N,m,n,g,i,c,o,p,q,r,s,t,u,v,w,x,y,z,A,B],F)) ()):=by
 kernel_rfl
theorem wP.r4 :jD zi ⟨false,false,false⟩ (zZ zi O) (reg Try.f59 4) (reg Try.f59 4).toList ([C,D,I,J,M,E,K,G,L,H,j,k,d,f,b,l,m,n,g,i,c,o,p,q,r,s,t,u,v,w,x,y,z,A,B]) S =
  (zN (jy zi 29 d b S) (fun N F=>zN (jh zi false 33 N F) (fun P Q=>some ([C,D,I,J,M,E,K,P,L,H,j,k,d,f,b,l,N,dem P,g,i,c,o,p,q,r,s,t,u,v,w,x,y,z,A,B],Q)) ()) ()):=by
 kernel_rfl
theorem wP.r5 :jD zi ⟨false,false,false⟩ (zZ zi O) (reg Try.f59 5) (reg Try.f59 5).toList ([C,D,I,J,M,E,K,G,L,H,j,k,d,f,b,l,m,n,g,i,c,o,p,q,r,s,t,u,v,w,x,y,z,A,B]) S =
  (zN (Zu zi 33 (dem G) S) (fun P F=>some ([C,D,I,J,M,E,K,G,L,H,j,k,d,f,b,l,m,n,dem G,P,.int .i64 0,o,p,q,r,s,t,u,v,w,x,y,z,A,B],F)) ()):=by
 kernel_rfl
theorem wP.r6 :jD zi ⟨false,false,false⟩ (zZ zi O) (reg Try.f59 6) (reg Try.f59 6).toList ([C,D,I,J,M,E,K,G,L,H,j,k,d,f,b,l,m,n,g,i,c,o,p,q,r,s,t,u,v,w,x,y,z,A,B]) S =
  (zN (wI zi BinOp.lss 3 c i S) (fun N F=>some ([C,D,I,J,M,E,K,G,L,H,j,k,d,f,b,l,m,n,g,i,c,N,p,q,r,s,t,u,v,w,x,y,z,A,B],F)) ()):=by
 kernel_rfl
theorem wP.r7 :jD zi ⟨false,false,false⟩ (zZ zi O) (reg Try.f59 7) (reg Try.f59 7).toList ([C,D,I,J,M,E,K,G,L,H,j,k,d,f,b,l,m,n,g,i,c,o,p,q,r,s,t,u,v,w,x,y,z,A,B]) S =
  (zN (jy zi 33 g c S) (fun N F=>zN (jh zi false 5 N F) (fun P Q=>some ([C,D,I,J,M,E,K,G,L,P,j,k,d,f,b,l,m,n,g,i,c,o,N,dem P,r,s,t,u,v,w,x,y,z,A,B],Q)) ()) ()):=by
 kernel_rfl
theorem wP.r8 :jD zi ⟨false,false,false⟩ (zZ zi O) (reg Try.f59 8) (reg Try.f59 8).toList ([C,D,I,J,M,E,K,G,L,H,j,k,d,f,b,l,m,n,g,i,c,o,p,q,r,s,t,u,v,w,x,y,z,A,B]) S =
  (zN (qU zi false false 5 73 (dem H) S) (fun R F=>zN (wI zi BinOp.xor 73 (dem E) R F) (fun U Q=>zN (wI zi BinOp.mul 73 U (Value.int IntKind.u64 1099511628211) Q) (fun V W=>some ([C,D,I,J,M,V,K,G,L,H,j,k,d,f,b,l,m,n,g,i,c,o,p,q,dem E,dem H,R,U,dem V,w,x,y,z,A,B],W)) ()) ()) ()):=by
 kernel_rfl
theorem wP.r9 :jD zi ⟨false,false,false⟩ (zZ zi O) (reg Try.f59 9) (reg Try.f59 9).toList ([C,D,I,J,M,E,K,G,L,H,j,k,d,f,b,l,m,n,g,i,c,o,p,q,r,s,t,u,v,w,x,y,z,A,B]) S =
  (zN (wI zi BinOp.add 3 c (.int .i64 1) S) (fun N F=>some ([C,D,I,J,M,E,K,G,L,H,j,k,d,f,b,l,m,n,g,i,dem N,o,p,q,r,s,t,u,v,N,x,y,z,A,B],F)) ()):=by
 kernel_rfl
theorem wP.r10 :jD zi ⟨false,false,false⟩ (zZ zi O) (reg Try.f59 10) (reg Try.f59 10).toList ([C,D,I,J,M,E,K,G,L,H,j,k,d,f,b,l,m,n,g,i,c,o,p,q,r,s,t,u,v,w,x,y,z,A,B]) S =
  (zN (wI zi BinOp.add 3 b (.int .i64 1) S) (fun N F=>some ([C,D,I,J,M,E,K,G,L,H,j,k,d,f,dem N,l,m,n,g,i,c,o,p,q,r,s,t,u,v,w,N,y,z,A,B],F)) ()):=by
 kernel_rfl
theorem wP.r11 :jD zi ⟨false,false,false⟩ (zZ zi O) (reg Try.f59 11) (reg Try.f59 11).toList ([C,D,I,J,M,E,K,G,L,H,j,k,d,f,b,l,m,n,g,i,c,o,p,q,r,s,t,u,v,w,x,y,z,A,B]) S =
  (zN (wI zi BinOp.shr 73 (dem E) (Value.int IntKind.u64 29) S) (fun R F=>zN (wI zi BinOp.xor 73 (dem E) R F) (fun U Q=>some ([C,D,I,J,U,E,K,G,L,H,j,k,d,f,b,l,m,n,g,i,c,o,p,q,r,s,t,u,v,w,x,dem E,dem E,R,dem U],Q)) ()) ()):=by
 kernel_rfl
theorem wP.rs:type_of% (alG @wP.r0 (alG @wP.r1 (alG @wP.r2 (alG @wP.r3 (alG @wP.r4 (alG @wP.r5 (alG @wP.r6 (alG @wP.r7 (alG @wP.r8 (alG @wP.r9 (alG @wP.r10 (@wP.r11)))))))))))):=alG @wP.r0 (alG @wP.r1 (alG @wP.r2 (alG @wP.r3 (alG @wP.r4 (alG @wP.r5 (alG @wP.r6 (alG @wP.r7 (alG @wP.r8 (alG @wP.r9 (alG @wP.r10 (@wP.r11)))))))))))
theorem wP.runs {C D:Value} {S F:zy} {e:AEx} {T:List Value} (h:zJ zi O false wP.code ([C,D,zh,zh,zh,zh,zh,zh,zh,zh,zh,zh,zh,zh,zh,zh,zh,zh,zh,zh,zh,zh,zh,zh,zh,zh,zh,zh,zh,zh,zh,zh,zh,zh,zh]) S=some (e,T,F)) (he:e=.normal∨e=.ret):zZ zi O 59 [C,D] S=some (T.getD 4 zh,F) :=
 yL rfl rfl Try.func59 (by decide) wP.body (by exact h) he (yH (a:=T.getD 4 zh) ((show zQ zi T F Try.f59.results.toList=zQ zi T F [(ResultVar.tmp 4)] from by kernel_rfl).trans (by simp only [zQ])) (by kernel_rfl))
end Go.Proofs.Ytfjogganfjkckaa
namespace Go.Proofs.Ytfjogganfjkckaa
open Go.Abs
abbrev qB.id:FuncId:=43
noncomputable def qB.code:Code:=(.seq (.region 0 (reg Try.f43 0) false) (.seq (.region 1 (reg Try.f43 1) false) Code.ret))
theorem qB.body:Try.f43.body=some qB.code:=by kernel_rfl
variable (b c d k l m q n o p g i j:Value) (S:zy)
theorem qB.r0 :jD zi ⟨false,false,false⟩ (zZ zi O) (reg Try.f43 0) (reg Try.f43 0).toList ([b,c,d,k,l,m,q,n,o,p,g,i,j]) S =
  ( some ([b,c,d,k,l,m,Value.bool false,n,o,p,g,i,j],S)):=by
 kernel_rfl
theorem qB.r1 :jD zi ⟨false,false,false⟩ (zZ zi O) (reg Try.f43 1) (reg Try.f43 1).toList ([b,c,d,k,l,m,q,n,o,p,g,i,j]) S =
  (zN (jK zi 29 1 [(0,(dem d))] S) (fun r f=>zN ((zZ zi O) 59 [(dem (dem b)),(dem r)] f) (fun s u=>zN (wI zi BinOp.eql 73 s (dem c) u) (fun t v=>some ([b,c,d,k,l,m,t,dem b,dem d,r,s,dem c,dem t],v)) ()) ()) ()):=by
 kernel_rfl
theorem qB.rs:type_of% (alG @qB.r0 (@qB.r1)):=alG @qB.r0 (@qB.r1)
theorem qB.runs {b c d:Value} {S f:zy} {e:AEx} {T:List Value} (h:zJ zi O false qB.code ([b,c,d,zh,zh,zh,zh,zh,zh,zh,zh,zh,zh]) S=some (e,T,f)) (he:e=.normal∨e=.ret):zZ zi O 43 [b,c,d] S=some (T.getD 6 zh,f) :=
 yL rfl rfl Try.func43 (by decide) qB.body (by exact h) he (yH (a:=T.getD 6 zh) ((show zQ zi T f Try.f43.results.toList=zQ zi T f [(ResultVar.tmp 6)] from by kernel_rfl).trans (by simp only [zQ])) (by kernel_rfl))
end Go.Proofs.Ytfjogganfjkckaa
namespace Go.Proofs.Ytfjogganfjkckaa
open Go.Abs
abbrev qg.id:FuncId:=40
variable (p q r s t u v w x y a b c d f g i j k l m n o:Value) (S:zy)
end Go.Proofs.Ytfjogganfjkckaa
namespace Go.Proofs.Ytfjogganfjkckaa
open Go.Abs
abbrev jf.id:FuncId:=39
noncomputable def jf.jT:Code:=(.seq (.seq (.region 3 (reg Try.f39 3) false) (.cond (.tmp 12) Code.skip (.exit 0))) (.seq (.block 1 (.seq (.region 5 (reg Try.f39 5) false) (.region 6 (reg Try.f39 6) false))) (.region 4 (reg Try.f39 4) false)))
noncomputable def jf.code:Code:=(.seq (.region 0 (reg Try.f39 0) false) (.seq (.region 1 (reg Try.f39 1) false) (.seq (.seq (.region 2 (reg Try.f39 2) false) (.block 0 (.loop jf.jT))) (.seq (.region 7 (reg Try.f39 7) false) Code.ret))))
theorem jf.body:Try.f39.body=some jf.code:=by kernel_rfl
theorem jf.eta {T:List Value} (h:T.length=34):T=[T.getD 0 zh,T.getD 1 zh,T.getD 2 zh,T.getD 3 zh,T.getD 4 zh,T.getD 5 zh,T.getD 6 zh,T.getD 7 zh,T.getD 8 zh,T.getD 9 zh,T.getD 10 zh,T.getD 11 zh,T.getD 12 zh,T.getD 13 zh,T.getD 14 zh,T.getD 15 zh,T.getD 16 zh,T.getD 17 zh,T.getD 18 zh,T.getD 19 zh,T.getD 20 zh,T.getD 21 zh,T.getD 22 zh,T.getD 23 zh,T.getD 24 zh,T.getD 25 zh,T.getD 26 zh,T.getD 27 zh,T.getD 28 zh,T.getD 29 zh,T.getD 30 zh,T.getD 31 zh,T.getD 32 zh,T.getD 33 zh]:=(qJ T 34 h).trans (by kernel_rfl)
variable (D c F G L b E I J K d f g i j k l m n o p q r s t u v w x y z A B C:Value) (S:zy)
theorem jf.r0 :jD zi ⟨false,false,false⟩ (zZ zi O) (reg Try.f39 0) (reg Try.f39 0).toList ([D,c,F,G,L,b,E,I,J,K,d,f,g,i,j,k,l,m,n,o,p,q,r,s,t,u,v,w,x,y,z,A,B,C]) S =
  ( some ([D,c,F,G,Value.int IntKind.u64 0,b,E,I,J,K,d,f,g,i,j,k,l,m,n,o,p,q,r,s,t,u,v,w,x,y,z,A,B,C],S)):=by
 kernel_rfl
theorem jf.r1 :jD zi ⟨false,false,false⟩ (zZ zi O) (reg Try.f39 1) (reg Try.f39 1).toList ([D,c,F,G,L,b,E,I,J,K,d,f,g,i,j,k,l,m,n,o,p,q,r,s,t,u,v,w,x,y,z,A,B,C]) S =
  (zN (wI zi BinOp.xor 73 (dem D) (Value.int IntKind.u64 14695981039346656037) S) (fun N H=>some ([D,c,F,G,L,N,E,dem D,dem N,K,d,f,g,i,j,k,l,m,n,o,p,q,r,s,t,u,v,w,x,y,z,A,B,C],H)) ()):=by
 kernel_rfl
theorem jf.r2 :jD zi ⟨false,false,false⟩ (zZ zi O) (reg Try.f39 2) (reg Try.f39 2).toList ([D,c,F,G,L,b,E,I,J,K,d,f,g,i,j,k,l,m,n,o,p,q,r,s,t,u,v,w,x,y,z,A,B,C]) S =
  ( some ([D,c,F,G,L,b,.int .i64 0,I,J,K,d,f,g,i,j,k,l,m,n,o,p,q,r,s,t,u,v,w,x,y,z,A,B,C],S)):=by
 kernel_rfl
theorem jf.r3 :jD zi ⟨false,false,false⟩ (zZ zi O) (reg Try.f39 3) (reg Try.f39 3).toList ([D,c,F,G,L,b,E,I,J,K,d,f,g,i,j,k,l,m,n,o,p,q,r,s,t,u,v,w,x,y,z,A,B,C]) S =
  (zN (Zu zi 33 (dem c) S) (fun Q H=>zN (wI zi BinOp.lss 3 (dem E) Q H) (fun M P=>some ([D,c,F,G,L,b,E,I,J,dem E,dem c,Q,M,i,j,k,l,m,n,o,p,q,r,s,t,u,v,w,x,y,z,A,B,C],P)) ()) ()):=by
 kernel_rfl
theorem jf.r5 :jD zi ⟨false,false,false⟩ (zZ zi O) (reg Try.f39 5) (reg Try.f39 5).toList ([D,c,F,G,L,b,E,I,J,K,d,f,g,i,j,k,l,m,n,o,p,q,r,s,t,u,v,w,x,y,z,A,B,C]) S =
  (zN (jy zi 33 (dem c) (dem E) S) (fun M H=>zN (jh zi false 5 M H) (fun R P=>zN (qU zi false false 5 73 R P) (fun X V=>zN (wI zi BinOp.xor 73 (dem b) X V) (fun U W=>some ([D,c,F,G,L,U,E,I,J,K,d,f,g,i,j,dem b,dem c,dem E,M,R,X,dem U,r,s,t,u,v,w,x,y,z,A,B,C],W)) ()) ()) ()) ()):=by
 kernel_rfl
theorem jf.r6 :jD zi ⟨false,false,false⟩ (zZ zi O) (reg Try.f39 6) (reg Try.f39 6).toList ([D,c,F,G,L,b,E,I,J,K,d,f,g,i,j,k,l,m,n,o,p,q,r,s,t,u,v,w,x,y,z,A,B,C]) S =
  (zN (wI zi BinOp.shl 73 (dem b) (Value.int IntKind.u64 40) S) (fun N H=>zN (wI zi BinOp.shl 73 (dem b) (Value.int IntKind.u64 8) H) (fun M P=>zN (wI zi BinOp.add 73 N M P) (fun R V=>zN (wI zi BinOp.mul 73 (dem b) (Value.int IntKind.u64 179) V) (fun U W=>zN (wI zi BinOp.add 73 R U W) (fun Y Z=>some ([D,c,F,G,L,Y,E,I,J,K,d,f,g,i,j,k,l,m,n,o,p,q,dem b,N,dem b,M,R,dem b,U,dem Y,z,A,B,C],Z)) ()) ()) ()) ()) ()):=by
 kernel_rfl
theorem jf.r4 :jD zi ⟨false,false,false⟩ (zZ zi O) (reg Try.f39 4) (reg Try.f39 4).toList ([D,c,F,G,L,b,E,I,J,K,d,f,g,i,j,k,l,m,n,o,p,q,r,s,t,u,v,w,x,y,z,A,B,C]) S =
  (zN (wI zi BinOp.add 3 (dem E) (.int .i64 1) S) (fun N H=>some ([D,c,F,G,L,b,N,I,J,K,d,f,g,dem E,dem N,k,l,m,n,o,p,q,r,s,t,u,v,w,x,y,z,A,B,C],H)) ()):=by
 kernel_rfl
theorem jf.r7 :jD zi ⟨false,false,false⟩ (zZ zi O) (reg Try.f39 7) (reg Try.f39 7).toList ([D,c,F,G,L,b,E,I,J,K,d,f,g,i,j,k,l,m,n,o,p,q,r,s,t,u,v,w,x,y,z,A,B,C]) S =
  (zN (wI zi BinOp.quo 73 (dem b) (Value.int IntKind.u64 536870912) S) (fun Q H=>zN (wI zi BinOp.xor 73 (dem b) Q H) (fun M P=>some ([D,c,F,G,M,b,E,I,J,K,d,f,g,i,j,k,l,m,n,o,p,q,r,s,t,u,v,w,x,y,dem b,dem b,Q,dem M],P)) ()) ()):=by
 kernel_rfl
theorem jf.rs:type_of% (alG @jf.r0 (alG @jf.r1 (alG @jf.r2 (alG @jf.r3 (alG @jf.r5 (alG @jf.r6 (alG @jf.r4 (@jf.r7)))))))):=alG @jf.r0 (alG @jf.r1 (alG @jf.r2 (alG @jf.r3 (alG @jf.r5 (alG @jf.r6 (alG @jf.r4 (@jf.r7)))))))
theorem jf.runs {D c:Value} {S H:zy} {e:AEx} {T:List Value} (h:zJ zi O false jf.code ([D,c,zh,zh,zh,zh,zh,zh,zh,zh,zh,zh,zh,zh,zh,zh,zh,zh,zh,zh,zh,zh,zh,zh,zh,zh,zh,zh,zh,zh,zh,zh,zh,zh]) S=some (e,T,H)) (he:e=.normal∨e=.ret):zZ zi O 39 [D,c] S=some (T.getD 4 zh,H) :=
 yL rfl rfl Try.func39 (by decide) jf.body (by exact h) he (yH (a:=T.getD 4 zh) ((show zQ zi T H Try.f39.results.toList=zQ zi T H [(ResultVar.tmp 4)] from by kernel_rfl).trans (by simp only [zQ])) (by kernel_rfl))
end Go.Proofs.Ytfjogganfjkckaa
namespace Go.Proofs.Ytfjogganfjkckaa
open Go.Abs
abbrev zS.id:FuncId:=55
noncomputable def zS.jT:Code:=(.seq (.region 6 (reg Try.f55 6) false) (.seq (.cond (.tmp 22) Code.skip (.exit 0)) (.seq (.block 1 (.seq (.region 7 (reg Try.f55 7) false) (.seq (.seq (.region 8 (reg Try.f55 8) false) (.cond (.tmp 34) (.seq (.region 9 (reg Try.f55 9) false) Code.ret) Code.skip)) (.seq (.region 10 (reg Try.f55 10) false) (.region 11 (reg Try.f55 11) false))))) (.region 12 (reg Try.f55 12) false))))
noncomputable def zS.code:Code:=(.seq (.region 0 (reg Try.f55 0) false) (.seq (.seq (.region 1 (reg Try.f55 1) false) (.cond (.tmp 17) (.seq (.region 2 (reg Try.f55 2) false) Code.ret) Code.skip)) (.seq (.region 3 (reg Try.f55 3) false) (.seq (.region 4 (reg Try.f55 4) false) (.seq (.seq (.region 5 (reg Try.f55 5) false) (.block 0 (.loop zS.jT))) (.seq (.region 13 (reg Try.f55 13) false) Code.ret))))))
theorem zS.body:Try.f55.body=some zS.code:=by kernel_rfl
theorem zS.eta {T:List Value} (h:T.length=45):T=[T.getD 0 zh,T.getD 1 zh,T.getD 2 zh,T.getD 3 zh,T.getD 4 zh,T.getD 5 zh,T.getD 6 zh,T.getD 7 zh,T.getD 8 zh,T.getD 9 zh,T.getD 10 zh,T.getD 11 zh,T.getD 12 zh,T.getD 13 zh,T.getD 14 zh,T.getD 15 zh,T.getD 16 zh,T.getD 17 zh,T.getD 18 zh,T.getD 19 zh,T.getD 20 zh,T.getD 21 zh,T.getD 22 zh,T.getD 23 zh,T.getD 24 zh,T.getD 25 zh,T.getD 26 zh,T.getD 27 zh,T.getD 28 zh,T.getD 29 zh,T.getD 30 zh,T.getD 31 zh,T.getD 32 zh,T.getD 33 zh,T.getD 34 zh,T.getD 35 zh,T.getD 36 zh,T.getD 37 zh,T.getD 38 zh,T.getD 39 zh,T.getD 40 zh,T.getD 41 zh,T.getD 42 zh,T.getD 43 zh,T.getD 44 zh]:=(qJ T 45 h).trans (by kernel_rfl)
variable (P N V W X Y Z Q R U b a f g i k l m n o c d p q r s t u w x y z A B C D E F G H I J K L M:Value) (S:zy)
theorem zS.r0 :jD zi ⟨false,false,false⟩ (zZ zi O) (reg Try.f55 0) (reg Try.f55 0).toList ([P,N,V,W,X,Y,Z,Q,R,U,b,a,f,g,i,k,l,m,n,o,c,d,p,q,r,s,t,u,w,x,y,z,A,B,C,D,E,F,G,H,I,J,K,L,M]) S =
  ( some ([P,N,V,W,Value.slice none 0 0,Value.slice none 0 0,.int .i64 0,Q,R,U,b,a,f,g,i,k,l,m,n,o,c,d,p,q,r,s,t,u,w,x,y,z,A,B,C,D,E,F,G,H,I,J,K,L,M],S)):=by
 kernel_rfl
theorem zS.r1 :jD zi ⟨false,false,false⟩ (zZ zi O) (reg Try.f55 1) (reg Try.f55 1).toList ([P,N,V,W,X,Y,Z,Q,R,U,b,a,f,g,i,k,l,m,n,o,c,d,p,q,r,s,t,u,w,x,y,z,A,B,C,D,E,F,G,H,I,J,K,L,M]) S =
  (zN (wI zi BinOp.lss 3 (dem N) (.int .i64 0) S) (fun v1 S1=>gdK (dem v1) false (ret N) S1 (fun v3 S2=>gdK (dem v1) false (wI zi BinOp.gtr 3 (dem v3) (.int .i64 64)) S2 (fun v4 S3=>zN (wX (dem v1) (Value.bool true) v4 S3) (fun v5 S4=>some ([P,N,V,W,X,Y,Z,Q,R,U,b,a,dem N,v1,dem v1,dem v3,v4,v5,n,o,c,d,p,q,r,s,t,u,w,x,y,z,A,B,C,D,E,F,G,H,I,J,K,L,M],S4)) ()) ()) ()) ()):=by
 refine sP Try.f55 1 0 (v:=N) ?_
 refine sD Try.f55 1 1 (fun v1 S1=>?_)
 refine sP Try.f55 1 2 (v:=v1) ?_
 refine sG Try.f55 1 3 (j:=2) (fun v3 S2=>?_)
 refine sG Try.f55 1 4 (j:=2) (fun v4 S3=>?_)
 refine sD Try.f55 1 5 (fun v5 S4=>?_)
 kernel_rfl
theorem zS.r2 :jD zi ⟨false,false,false⟩ (zZ zi O) (reg Try.f55 2) (reg Try.f55 2).toList ([P,N,V,W,X,Y,Z,Q,R,U,b,a,f,g,i,k,l,m,n,o,c,d,p,q,r,s,t,u,w,x,y,z,A,B,C,D,E,F,G,H,I,J,K,L,M]) S =
  ( some ([P,N,V,W,Value.slice none 0 0,Value.slice none 0 0,.int .i64 11,Q,R,U,b,a,f,g,i,k,l,m,n,o,c,d,p,q,r,s,t,u,w,x,y,z,A,B,C,D,E,F,G,H,I,J,K,L,M],S)):=by
 kernel_rfl
theorem zS.r3 :jD zi ⟨false,false,false⟩ (zZ zi O) (reg Try.f55 3) (reg Try.f55 3).toList ([P,N,V,W,X,Y,Z,Q,R,U,b,a,f,g,i,k,l,m,n,o,c,d,p,q,r,s,t,u,w,x,y,z,A,B,C,D,E,F,G,H,I,J,K,L,M]) S =
  (zN ((zZ zi O) 54 [(dem (dem P))] S) (fun v1 S1=>some ([P,N,V,W,X,Y,Z,v1,R,U,b,a,f,g,i,k,l,m,dem P,dem v1,c,d,p,q,r,s,t,u,w,x,y,z,A,B,C,D,E,F,G,H,I,J,K,L,M],S1)) ()):=by
 kernel_rfl
theorem zS.r4 :jD zi ⟨false,false,false⟩ (zZ zi O) (reg Try.f55 4) (reg Try.f55 4).toList ([P,N,V,W,X,Y,Z,Q,R,U,b,a,f,g,i,k,l,m,n,o,c,d,p,q,r,s,t,u,w,x,y,z,A,B,C,D,E,F,G,H,I,J,K,L,M]) S =
  ( some ([P,N,V,W,X,Y,Z,Q,Value.slice none 0 0,U,b,a,f,g,i,k,l,m,n,o,c,d,p,q,r,s,t,u,w,x,y,z,A,B,C,D,E,F,G,H,I,J,K,L,M],S)):=by
 kernel_rfl
theorem zS.r5 :jD zi ⟨false,false,false⟩ (zZ zi O) (reg Try.f55 5) (reg Try.f55 5).toList ([P,N,V,W,X,Y,Z,Q,R,U,b,a,f,g,i,k,l,m,n,o,c,d,p,q,r,s,t,u,w,x,y,z,A,B,C,D,E,F,G,H,I,J,K,L,M]) S =
  ( some ([P,N,V,W,X,Y,Z,Q,R,U,b,a,f,g,i,k,l,m,n,o,dem N,.int .i64 0,p,q,r,s,t,u,w,x,y,z,A,B,C,D,E,F,G,H,I,J,K,L,M],S)):=by
 kernel_rfl
theorem zS.r6 :jD zi ⟨false,false,false⟩ (zZ zi O) (reg Try.f55 6) (reg Try.f55 6).toList ([P,N,V,W,X,Y,Z,Q,R,U,b,a,f,g,i,k,l,m,n,o,c,d,p,q,r,s,t,u,w,x,y,z,A,B,C,D,E,F,G,H,I,J,K,L,M]) S =
  (zN (wI zi BinOp.lss 3 d c S) (fun v0 S1=>some ([P,N,V,W,X,Y,Z,Q,R,U,b,a,f,g,i,k,l,m,n,o,c,d,v0,q,r,s,t,u,w,x,y,z,A,B,C,D,E,F,G,H,I,J,K,L,M],S1)) ()):=by
 kernel_rfl
theorem zS.r7 :jD zi ⟨false,false,false⟩ (zZ zi O) (reg Try.f55 7) (reg Try.f55 7).toList ([P,N,V,W,X,Y,Z,Q,R,U,b,a,f,g,i,k,l,m,n,o,c,d,p,q,r,s,t,u,w,x,y,z,A,B,C,D,E,F,G,H,I,J,K,L,M]) S =
  (zN ((zZ zi O) 41 [(dem (dem Q))] S) (fun v1 S1=>zN (jc v1 0 S1) (fun v3 S2=>zN (jc (zV 0 v1) 1 S2) (fun v4 S3=>zN (jc (zV 1 (zV 0 v1)) 2 S3) (fun v5 S4=>some ([P,N,V,W,X,Y,Z,Q,R,v3,v4,v5,f,g,i,k,l,m,n,o,c,d,p,zV 2 (zV 1 (zV 0 v1)),dem Q,dem v1,dem v3,dem v4,dem v5,x,y,z,A,B,C,D,E,F,G,H,I,J,K,L,M],S4)) ()) ()) ()) ()):=by
 kernel_rfl
theorem zS.r8 :jD zi ⟨false,false,false⟩ (zZ zi O) (reg Try.f55 8) (reg Try.f55 8).toList ([P,N,V,W,X,Y,Z,Q,R,U,b,a,f,g,i,k,l,m,n,o,c,d,p,q,r,s,t,u,w,x,y,z,A,B,C,D,E,F,G,H,I,J,K,L,M]) S =
  (zN (wI zi BinOp.neq 64 (dem a) (.int .i64 0) S) (fun v1 S1=>gdK (dem v1) false (ret U) S1 (fun v3 S2=>gdK (dem v1) false (wI zi BinOp.gtr 73 (dem v3) (Value.int IntKind.u64 4611686018427387905)) S2 (fun v4 S3=>zN (wX (dem v1) (Value.bool true) v4 S3) (fun v5 S4=>some ([P,N,V,W,X,Y,Z,Q,R,U,b,a,f,g,i,k,l,m,n,o,c,d,p,q,r,s,t,u,w,dem a,v1,dem v1,dem v3,v4,v5,D,E,F,G,H,I,J,K,L,M],S4)) ()) ()) ()) ()):=by
 refine sP Try.f55 8 0 (v:=a) ?_
 refine sD Try.f55 8 1 (fun v1 S1=>?_)
 refine sP Try.f55 8 2 (v:=v1) ?_
 refine sG Try.f55 8 3 (j:=2) (fun v3 S2=>?_)
 refine sG Try.f55 8 4 (j:=2) (fun v4 S3=>?_)
 refine sD Try.f55 8 5 (fun v5 S4=>?_)
 kernel_rfl
theorem zS.r9 :jD zi ⟨false,false,false⟩ (zZ zi O) (reg Try.f55 9) (reg Try.f55 9).toList ([P,N,V,W,X,Y,Z,Q,R,U,b,a,f,g,i,k,l,m,n,o,c,d,p,q,r,s,t,u,w,x,y,z,A,B,C,D,E,F,G,H,I,J,K,L,M]) S =
  ( some ([P,N,V,W,Value.slice none 0 0,Value.slice none 0 0,.int .i64 11,Q,R,U,b,a,f,g,i,k,l,m,n,o,c,d,p,q,r,s,t,u,w,x,y,z,A,B,C,D,E,F,G,H,I,J,K,L,M],S)):=by
 kernel_rfl
theorem zS.r10 :jD zi ⟨false,false,false⟩ (zZ zi O) (reg Try.f55 10) (reg Try.f55 10).toList ([P,N,V,W,X,Y,Z,Q,R,U,b,a,f,g,i,k,l,m,n,o,c,d,p,q,r,s,t,u,w,x,y,z,A,B,C,D,E,F,G,H,I,J,K,L,M]) S =
  (zN (qU zi false false 73 3 (dem U) S) (fun v2 S1=>zN (wI zi BinOp.sub 3 v2 (.int .i64 1) S1) (fun v3 S2=>zN (jK zi 24 1 [(0,v3)] S2) (fun v4 S3=>zN (wR zi 24 24 R v4 S3) (fun v5 S4=>some ([P,N,V,W,X,Y,Z,Q,v5,U,b,a,f,g,i,k,l,m,n,o,c,d,p,q,r,s,t,u,w,x,y,z,A,B,C,dem R,dem U,v2,v3,v4,dem v5,J,K,L,M],S4)) ()) ()) ()) ()):=by
 kernel_rfl
theorem zS.r11 :jD zi ⟨false,false,false⟩ (zZ zi O) (reg Try.f55 11) (reg Try.f55 11).toList ([P,N,V,W,X,Y,Z,Q,R,U,b,a,f,g,i,k,l,m,n,o,c,d,p,q,r,s,t,u,w,x,y,z,A,B,C,D,E,F,G,H,I,J,K,L,M]) S =
  ( some ([P,N,V,W,X,Y,Z,b,R,U,dem b,a,f,g,i,k,l,m,n,o,c,d,p,q,r,s,t,u,w,x,y,z,A,B,C,D,E,F,G,H,I,dem b,K,L,M],S)):=by
 kernel_rfl
theorem zS.r12 :jD zi ⟨false,false,false⟩ (zZ zi O) (reg Try.f55 12) (reg Try.f55 12).toList ([P,N,V,W,X,Y,Z,Q,R,U,b,a,f,g,i,k,l,m,n,o,c,d,p,q,r,s,t,u,w,x,y,z,A,B,C,D,E,F,G,H,I,J,K,L,M]) S =
  (zN (wI zi BinOp.add 3 d (.int .i64 1) S) (fun v0 S1=>some ([P,N,V,W,X,Y,Z,Q,R,U,b,a,f,g,i,k,l,m,n,o,c,dem v0,p,q,r,s,t,u,w,x,y,z,A,B,C,D,E,F,G,H,I,J,v0,L,M],S1)) ()):=by
 kernel_rfl
theorem zS.r13 :jD zi ⟨false,false,false⟩ (zZ zi O) (reg Try.f55 13) (reg Try.f55 13).toList ([P,N,V,W,X,Y,Z,Q,R,U,b,a,f,g,i,k,l,m,n,o,c,d,p,q,r,s,t,u,w,x,y,z,A,B,C,D,E,F,G,H,I,J,K,L,M]) S =
  ( some ([P,N,V,W,R,Q,.int .i64 0,dem Q,dem R,U,b,a,f,g,i,k,l,m,n,o,c,d,p,q,r,s,t,u,w,x,y,z,A,B,C,D,E,F,G,H,I,J,K,dem R,dem Q],S)):=by
 kernel_rfl
theorem zS.rs:type_of% (alG @zS.r0 (alG @zS.r1 (alG @zS.r2 (alG @zS.r3 (alG @zS.r4 (alG @zS.r5 (alG @zS.r6 (alG @zS.r7 (alG @zS.r8 (alG @zS.r9 (alG @zS.r10 (alG @zS.r11 (alG @zS.r12 (@zS.r13)))))))))))))):=alG @zS.r0 (alG @zS.r1 (alG @zS.r2 (alG @zS.r3 (alG @zS.r4 (alG @zS.r5 (alG @zS.r6 (alG @zS.r7 (alG @zS.r8 (alG @zS.r9 (alG @zS.r10 (alG @zS.r11 (alG @zS.r12 (@zS.r13)))))))))))))
theorem zS.runs {P N:Value} {S S1:zy} {e:AEx} {T:List Value} (h:zJ zi O false zS.code ([P,N,zh,zh,zh,zh,zh,zh,zh,zh,zh,zh,zh,zh,zh,zh,zh,zh,zh,zh,zh,zh,zh,zh,zh,zh,zh,zh,zh,zh,zh,zh,zh,zh,zh,zh,zh,zh,zh,zh,zh,zh,zh,zh,zh]) S=some (e,T,S1)) (he:e=.normal∨e=.ret)  (h0:wG (T.getD 4 zh)=true) (h1:wG (T.getD 5 zh)=true) (h2:wG (T.getD 6 zh)=true):zZ zi O 55 [P,N] S=some (Value.tuple #[T.getD 4 zh,T.getD 5 zh,T.getD 6 zh],S1) :=
 yL rfl rfl Try.func55 (by decide) zS.body (by exact h) he ((ql ((show zQ zi T S1 Try.f55.results.toList=zQ zi T S1 [(ResultVar.tmp 4),(ResultVar.tmp 5),(ResultVar.tmp 6)] from by kernel_rfl).trans (by simp only [zQ])) (by kernel_rfl) (by simp only [List.all_cons,List.all_nil,h0,h1,h2,Bool.and_true])).trans rfl)
end Go.Proofs.Ytfjogganfjkckaa
namespace Go.Proofs.Ytfjogganfjkckaa
open Go.Abs
abbrev zD.id:FuncId:=29
noncomputable def zD.jT:Code:=(.seq (.seq (.region 6 (reg Try.f29 6) false) (.cond (.tmp 25) Code.skip (.exit 0))) (.seq (.block 1 (.seq (.region 8 (reg Try.f29 8) false) (.seq (.seq (.region 9 (reg Try.f29 9) false) (.cond (.tmp 39) (.seq (.region 10 (reg Try.f29 10) false) Code.ret) Code.skip)) (.seq (.region 11 (reg Try.f29 11) false) (.region 12 (reg Try.f29 12) false))))) (.region 7 (reg Try.f29 7) false)))
noncomputable def zD.code:Code:=(.seq (.region 0 (reg Try.f29 0) false) (.seq (.seq (.region 1 (reg Try.f29 1) false) (.cond (.tmp 18) (.seq (.region 2 (reg Try.f29 2) false) Code.ret) Code.skip)) (.seq (.region 3 (reg Try.f29 3) false) (.seq (.region 4 (reg Try.f29 4) false) (.seq (.seq (.region 5 (reg Try.f29 5) false) (.block 0 (.loop zD.jT))) (.seq (.region 13 (reg Try.f29 13) false) Code.ret))))))
theorem zD.body:Try.f29.body=some zD.code:=by kernel_rfl
theorem zD.eta {T:List Value} (h:T.length=49):T=[T.getD 0 zh,T.getD 1 zh,T.getD 2 zh,T.getD 3 zh,T.getD 4 zh,T.getD 5 zh,T.getD 6 zh,T.getD 7 zh,T.getD 8 zh,T.getD 9 zh,T.getD 10 zh,T.getD 11 zh,T.getD 12 zh,T.getD 13 zh,T.getD 14 zh,T.getD 15 zh,T.getD 16 zh,T.getD 17 zh,T.getD 18 zh,T.getD 19 zh,T.getD 20 zh,T.getD 21 zh,T.getD 22 zh,T.getD 23 zh,T.getD 24 zh,T.getD 25 zh,T.getD 26 zh,T.getD 27 zh,T.getD 28 zh,T.getD 29 zh,T.getD 30 zh,T.getD 31 zh,T.getD 32 zh,T.getD 33 zh,T.getD 34 zh,T.getD 35 zh,T.getD 36 zh,T.getD 37 zh,T.getD 38 zh,T.getD 39 zh,T.getD 40 zh,T.getD 41 zh,T.getD 42 zh,T.getD 43 zh,T.getD 44 zh,T.getD 45 zh,T.getD 46 zh,T.getD 47 zh,T.getD 48 zh]:=(qJ T 49 h).trans (by kernel_rfl)
variable (V U Z x3 x4 x5 x6 W X Y a c b d f g i k l m n o p q r s t u w x y z A B C D E F G H I J K L M N P Q R:Value) (S:zy)
theorem zD.r0 :jD zi ⟨false,false,false⟩ (zZ zi O) (reg Try.f29 0) (reg Try.f29 0).toList ([V,U,Z,x3,x4,x5,x6,W,X,Y,a,c,b,d,f,g,i,k,l,m,n,o,p,q,r,s,t,u,w,x,y,z,A,B,C,D,E,F,G,H,I,J,K,L,M,N,P,Q,R]) S =
  ( some ([V,U,Z,x3,Value.slice none 0 0,Value.slice none 0 0,.int .i64 0,W,X,Y,a,c,b,d,f,g,i,k,l,m,n,o,p,q,r,s,t,u,w,x,y,z,A,B,C,D,E,F,G,H,I,J,K,L,M,N,P,Q,R],S)):=by
 kernel_rfl
theorem zD.r1 :jD zi ⟨false,false,false⟩ (zZ zi O) (reg Try.f29 1) (reg Try.f29 1).toList ([V,U,Z,x3,x4,x5,x6,W,X,Y,a,c,b,d,f,g,i,k,l,m,n,o,p,q,r,s,t,u,w,x,y,z,A,B,C,D,E,F,G,H,I,J,K,L,M,N,P,Q,R]) S =
  (zN (wI zi BinOp.lss 3 (dem U) (.int .i64 0) S) (fun v1 S1=>gdK (dem v1) false (ret U) S1 (fun v3 S2=>gdK (dem v1) false (wI zi BinOp.gtr 3 (dem v3) (.int .i64 64)) S2 (fun v4 S3=>zN (wX (dem v1) (Value.bool true) v4 S3) (fun v5 S4=>some ([V,U,Z,x3,x4,x5,x6,W,X,Y,a,c,b,dem U,v1,dem v1,dem v3,v4,v5,m,n,o,p,q,r,s,t,u,w,x,y,z,A,B,C,D,E,F,G,H,I,J,K,L,M,N,P,Q,R],S4)) ()) ()) ()) ()):=by
 refine sP Try.f29 1 0 (v:=U) ?_
 refine sD Try.f29 1 1 (fun v1 S1=>?_)
 refine sP Try.f29 1 2 (v:=v1) ?_
 refine sG Try.f29 1 3 (j:=2) (fun v3 S2=>?_)
 refine sG Try.f29 1 4 (j:=2) (fun v4 S3=>?_)
 refine sD Try.f29 1 5 (fun v5 S4=>?_)
 kernel_rfl
theorem zD.r2 :jD zi ⟨false,false,false⟩ (zZ zi O) (reg Try.f29 2) (reg Try.f29 2).toList ([V,U,Z,x3,x4,x5,x6,W,X,Y,a,c,b,d,f,g,i,k,l,m,n,o,p,q,r,s,t,u,w,x,y,z,A,B,C,D,E,F,G,H,I,J,K,L,M,N,P,Q,R]) S =
  ( some ([V,U,Z,x3,Value.slice none 0 0,Value.slice none 0 0,.int .i64 11,W,X,Y,a,c,b,d,f,g,i,k,l,m,n,o,p,q,r,s,t,u,w,x,y,z,A,B,C,D,E,F,G,H,I,J,K,L,M,N,P,Q,R],S)):=by
 kernel_rfl
theorem zD.r3 :jD zi ⟨false,false,false⟩ (zZ zi O) (reg Try.f29 3) (reg Try.f29 3).toList ([V,U,Z,x3,x4,x5,x6,W,X,Y,a,c,b,d,f,g,i,k,l,m,n,o,p,q,r,s,t,u,w,x,y,z,A,B,C,D,E,F,G,H,I,J,K,L,M,N,P,Q,R]) S =
  (zN (jK zi 24 0 [] S) (fun v0 S1=>some ([V,U,Z,x3,x4,x5,x6,v0,X,Y,a,c,b,d,f,g,i,k,l,dem v0,n,o,p,q,r,s,t,u,w,x,y,z,A,B,C,D,E,F,G,H,I,J,K,L,M,N,P,Q,R],S1)) ()):=by
 kernel_rfl
theorem zD.r4 :jD zi ⟨false,false,false⟩ (zZ zi O) (reg Try.f29 4) (reg Try.f29 4).toList ([V,U,Z,x3,x4,x5,x6,W,X,Y,a,c,b,d,f,g,i,k,l,m,n,o,p,q,r,s,t,u,w,x,y,z,A,B,C,D,E,F,G,H,I,J,K,L,M,N,P,Q,R]) S =
  (zN (jK zi 33 0 [] S) (fun v0 S1=>zN (wR zi 33 33 v0 (dem V) S1) (fun v2 S2=>some ([V,U,Z,x3,x4,x5,x6,W,v2,Y,a,c,b,d,f,g,i,k,l,m,dem v0,dem V,dem v2,q,r,s,t,u,w,x,y,z,A,B,C,D,E,F,G,H,I,J,K,L,M,N,P,Q,R],S2)) ()) ()):=by
 kernel_rfl
theorem zD.r5 :jD zi ⟨false,false,false⟩ (zZ zi O) (reg Try.f29 5) (reg Try.f29 5).toList ([V,U,Z,x3,x4,x5,x6,W,X,Y,a,c,b,d,f,g,i,k,l,m,n,o,p,q,r,s,t,u,w,x,y,z,A,B,C,D,E,F,G,H,I,J,K,L,M,N,P,Q,R]) S =
  ( some ([V,U,Z,x3,x4,x5,x6,W,X,.int .i64 0,a,c,b,d,f,g,i,k,l,m,n,o,p,q,r,s,t,u,w,x,y,z,A,B,C,D,E,F,G,H,I,J,K,L,M,N,P,Q,R],S)):=by
 kernel_rfl
theorem zD.r6 :jD zi ⟨false,false,false⟩ (zZ zi O) (reg Try.f29 6) (reg Try.f29 6).toList ([V,U,Z,x3,x4,x5,x6,W,X,Y,a,c,b,d,f,g,i,k,l,m,n,o,p,q,r,s,t,u,w,x,y,z,A,B,C,D,E,F,G,H,I,J,K,L,M,N,P,Q,R]) S =
  (zN (wI zi BinOp.lss 3 (dem Y) (dem U) S) (fun v2 S1=>some ([V,U,Z,x3,x4,x5,x6,W,X,Y,a,c,b,d,f,g,i,k,l,m,n,o,p,dem Y,dem U,v2,t,u,w,x,y,z,A,B,C,D,E,F,G,H,I,J,K,L,M,N,P,Q,R],S1)) ()):=by
 kernel_rfl
theorem zD.r8 :jD zi ⟨false,false,false⟩ (zZ zi O) (reg Try.f29 8) (reg Try.f29 8).toList ([V,U,Z,x3,x4,x5,x6,W,X,Y,a,c,b,d,f,g,i,k,l,m,n,o,p,q,r,s,t,u,w,x,y,z,A,B,C,D,E,F,G,H,I,J,K,L,M,N,P,Q,R]) S =
  (zN ((zZ zi O) 28 [(dem (dem X))] S) (fun v1 S1=>zN (jc v1 0 S1) (fun v3 S2=>zN (jc (zV 0 v1) 1 S2) (fun v4 S3=>zN (jc (zV 1 (zV 0 v1)) 2 S3) (fun v5 S4=>some ([V,U,Z,x3,x4,x5,x6,W,X,Y,v3,v4,v5,d,f,g,i,k,l,m,n,o,p,q,r,s,t,u,zV 2 (zV 1 (zV 0 v1)),dem X,dem v1,dem v3,dem v4,dem v5,C,D,E,F,G,H,I,J,K,L,M,N,P,Q,R],S4)) ()) ()) ()) ()):=by
 kernel_rfl
theorem zD.r9 :jD zi ⟨false,false,false⟩ (zZ zi O) (reg Try.f29 9) (reg Try.f29 9).toList ([V,U,Z,x3,x4,x5,x6,W,X,Y,a,c,b,d,f,g,i,k,l,m,n,o,p,q,r,s,t,u,w,x,y,z,A,B,C,D,E,F,G,H,I,J,K,L,M,N,P,Q,R]) S =
  (zN (wI zi BinOp.neq 3 (dem b) (.int .i64 0) S) (fun v1 S1=>gdK (dem v1) false (ret a) S1 (fun v3 S2=>gdK (dem v1) false (wI zi BinOp.gtr 73 (dem v3) (Value.int IntKind.u64 4611686018427387905)) S2 (fun v4 S3=>zN (wX (dem v1) (Value.bool true) v4 S3) (fun v5 S4=>some ([V,U,Z,x3,x4,x5,x6,W,X,Y,a,c,b,d,f,g,i,k,l,m,n,o,p,q,r,s,t,u,w,x,y,z,A,B,dem b,v1,dem v1,dem v3,v4,v5,I,J,K,L,M,N,P,Q,R],S4)) ()) ()) ()) ()):=by
 refine sP Try.f29 9 0 (v:=b) ?_
 refine sD Try.f29 9 1 (fun v1 S1=>?_)
 refine sP Try.f29 9 2 (v:=v1) ?_
 refine sG Try.f29 9 3 (j:=2) (fun v3 S2=>?_)
 refine sG Try.f29 9 4 (j:=2) (fun v4 S3=>?_)
 refine sD Try.f29 9 5 (fun v5 S4=>?_)
 kernel_rfl
theorem zD.r10 :jD zi ⟨false,false,false⟩ (zZ zi O) (reg Try.f29 10) (reg Try.f29 10).toList ([V,U,Z,x3,x4,x5,x6,W,X,Y,a,c,b,d,f,g,i,k,l,m,n,o,p,q,r,s,t,u,w,x,y,z,A,B,C,D,E,F,G,H,I,J,K,L,M,N,P,Q,R]) S =
  ( some ([V,U,Z,x3,Value.slice none 0 0,Value.slice none 0 0,.int .i64 11,W,X,Y,a,c,b,d,f,g,i,k,l,m,n,o,p,q,r,s,t,u,w,x,y,z,A,B,C,D,E,F,G,H,I,J,K,L,M,N,P,Q,R],S)):=by
 kernel_rfl
theorem zD.r11 :jD zi ⟨false,false,false⟩ (zZ zi O) (reg Try.f29 11) (reg Try.f29 11).toList ([V,U,Z,x3,x4,x5,x6,W,X,Y,a,c,b,d,f,g,i,k,l,m,n,o,p,q,r,s,t,u,w,x,y,z,A,B,C,D,E,F,G,H,I,J,K,L,M,N,P,Q,R]) S =
  (zN (qU zi false false 73 3 (dem a) S) (fun v2 S1=>zN (wI zi BinOp.sub 3 v2 (.int .i64 1) S1) (fun v3 S2=>zN (jK zi 24 1 [(0,v3)] S2) (fun v4 S3=>zN (wR zi 24 24 W v4 S3) (fun v5 S4=>some ([V,U,Z,x3,x4,x5,x6,v5,X,Y,a,c,b,d,f,g,i,k,l,m,n,o,p,q,r,s,t,u,w,x,y,z,A,B,C,D,E,F,G,H,dem W,dem a,v2,v3,v4,dem v5,P,Q,R],S4)) ()) ()) ()) ()):=by
 kernel_rfl
theorem zD.r12 :jD zi ⟨false,false,false⟩ (zZ zi O) (reg Try.f29 12) (reg Try.f29 12).toList ([V,U,Z,x3,x4,x5,x6,W,X,Y,a,c,b,d,f,g,i,k,l,m,n,o,p,q,r,s,t,u,w,x,y,z,A,B,C,D,E,F,G,H,I,J,K,L,M,N,P,Q,R]) S =
  ( some ([V,U,Z,x3,x4,x5,x6,W,c,Y,a,dem c,b,d,f,g,i,k,l,m,n,o,p,q,r,s,t,u,w,x,y,z,A,B,C,D,E,F,G,H,I,J,K,L,M,N,dem c,Q,R],S)):=by
 kernel_rfl
theorem zD.r7 :jD zi ⟨false,false,false⟩ (zZ zi O) (reg Try.f29 7) (reg Try.f29 7).toList ([V,U,Z,x3,x4,x5,x6,W,X,Y,a,c,b,d,f,g,i,k,l,m,n,o,p,q,r,s,t,u,w,x,y,z,A,B,C,D,E,F,G,H,I,J,K,L,M,N,P,Q,R]) S =
  (zN (wI zi BinOp.add 3 (dem Y) (.int .i64 1) S) (fun v1 S1=>some ([V,U,Z,x3,x4,x5,x6,W,X,v1,a,c,b,d,f,g,i,k,l,m,n,o,p,q,r,s,dem Y,dem v1,w,x,y,z,A,B,C,D,E,F,G,H,I,J,K,L,M,N,P,Q,R],S1)) ()):=by
 kernel_rfl
theorem zD.r13 :jD zi ⟨false,false,false⟩ (zZ zi O) (reg Try.f29 13) (reg Try.f29 13).toList ([V,U,Z,x3,x4,x5,x6,W,X,Y,a,c,b,d,f,g,i,k,l,m,n,o,p,q,r,s,t,u,w,x,y,z,A,B,C,D,E,F,G,H,I,J,K,L,M,N,P,Q,R]) S =
  ( some ([V,U,Z,x3,W,X,.int .i64 0,dem W,dem X,Y,a,c,b,d,f,g,i,k,l,m,n,o,p,q,r,s,t,u,w,x,y,z,A,B,C,D,E,F,G,H,I,J,K,L,M,N,P,dem W,dem X],S)):=by
 kernel_rfl
theorem zD.rs:type_of% (alG @zD.r0 (alG @zD.r1 (alG @zD.r2 (alG @zD.r3 (alG @zD.r4 (alG @zD.r5 (alG @zD.r6 (alG @zD.r8 (alG @zD.r9 (alG @zD.r10 (alG @zD.r11 (alG @zD.r12 (alG @zD.r7 (@zD.r13)))))))))))))):=alG @zD.r0 (alG @zD.r1 (alG @zD.r2 (alG @zD.r3 (alG @zD.r4 (alG @zD.r5 (alG @zD.r6 (alG @zD.r8 (alG @zD.r9 (alG @zD.r10 (alG @zD.r11 (alG @zD.r12 (alG @zD.r7 (@zD.r13)))))))))))))
theorem zD.runs {V U:Value} {S S1:zy} {e:AEx} {T:List Value} (h:zJ zi O false zD.code ([V,U,zh,zh,zh,zh,zh,zh,zh,zh,zh,zh,zh,zh,zh,zh,zh,zh,zh,zh,zh,zh,zh,zh,zh,zh,zh,zh,zh,zh,zh,zh,zh,zh,zh,zh,zh,zh,zh,zh,zh,zh,zh,zh,zh,zh,zh,zh,zh]) S=some (e,T,S1)) (he:e=.normal∨e=.ret)  (h0:wG (T.getD 4 zh)=true) (h1:wG (T.getD 5 zh)=true) (h2:wG (T.getD 6 zh)=true):zZ zi O 29 [V,U] S=some (Value.tuple #[T.getD 4 zh,T.getD 5 zh,T.getD 6 zh],S1) :=
 yL rfl rfl Try.func29 (by decide) zD.body (by exact h) he ((ql ((show zQ zi T S1 Try.f29.results.toList=zQ zi T S1 [(ResultVar.tmp 4),(ResultVar.tmp 5),(ResultVar.tmp 6)] from by kernel_rfl).trans (by simp only [zQ])) (by kernel_rfl) (by simp only [List.all_cons,List.all_nil,h0,h1,h2,Bool.and_true])).trans rfl)
end Go.Proofs.Ytfjogganfjkckaa
namespace Go.Proofs.Ytfjogganfjkckaa
open Go.Abs
abbrev jH.id:FuncId:=63
noncomputable def jH.jT:Code:=(.seq (.region 5 (reg Try.f63 5) false) (.seq (.cond (.tmp 13) Code.skip (.exit 0)) (.seq (.block 1 (.seq (.region 6 (reg Try.f63 6) false) (.seq (.seq (.region 7 (reg Try.f63 7) false) (.cond (.tmp 17) (.seq (.region 8 (reg Try.f63 8) false) Code.ret) Code.skip)) (.region 9 (reg Try.f63 9) false)))) (.region 10 (reg Try.f63 10) false))))
noncomputable def jH.code:Code:=(.seq (.region 0 (reg Try.f63 0) false) (.seq (.seq (.region 1 (reg Try.f63 1) false) (.cond (.tmp 9) (.seq (.region 2 (reg Try.f63 2) false) Code.ret) Code.skip)) (.seq (.region 3 (reg Try.f63 3) false) (.seq (.seq (.region 4 (reg Try.f63 4) false) (.block 0 (.loop jH.jT))) (.seq (.region 11 (reg Try.f63 11) false) Code.ret)))))
theorem jH.body:Try.f63.body=some jH.code:=by kernel_rfl
theorem jH.eta {T:List Value} (h:T.length=26):T=[T.getD 0 zh,T.getD 1 zh,T.getD 2 zh,T.getD 3 zh,T.getD 4 zh,T.getD 5 zh,T.getD 6 zh,T.getD 7 zh,T.getD 8 zh,T.getD 9 zh,T.getD 10 zh,T.getD 11 zh,T.getD 12 zh,T.getD 13 zh,T.getD 14 zh,T.getD 15 zh,T.getD 16 zh,T.getD 17 zh,T.getD 18 zh,T.getD 19 zh,T.getD 20 zh,T.getD 21 zh,T.getD 22 zh,T.getD 23 zh,T.getD 24 zh,T.getD 25 zh]:=(qJ T 26 h).trans (by kernel_rfl)
variable (s v A B u w t x y z b c a d f g i j k l m n o p q r:Value) (S:zy)
theorem jH.r0 :jD zi ⟨false,false,false⟩ (zZ zi O) (reg Try.f63 0) (reg Try.f63 0).toList ([s,v,A,B,u,w,t,x,y,z,b,c,a,d,f,g,i,j,k,l,m,n,o,p,q,r]) S =
  ( some ([s,v,Value.slice none 0 0,.int .i64 0,u,w,t,x,y,z,b,c,a,d,f,g,i,j,k,l,m,n,o,p,q,r],S)):=by
 kernel_rfl
theorem jH.r1 :jD zi ⟨false,false,false⟩ (zZ zi O) (reg Try.f63 1) (reg Try.f63 1).toList ([s,v,A,B,u,w,t,x,y,z,b,c,a,d,f,g,i,j,k,l,m,n,o,p,q,r]) S =
  (zN (Zu zi 24 (dem s) S) (fun D C=>zN (wI zi BinOp.gtr 3 D (.int .i64 64) C) (fun G F=>some ([s,v,A,B,u,w,t,dem s,D,G,b,c,a,d,f,g,i,j,k,l,m,n,o,p,q,r],F)) ()) ()):=by
 kernel_rfl
theorem jH.r2 :jD zi ⟨false,false,false⟩ (zZ zi O) (reg Try.f63 2) (reg Try.f63 2).toList ([s,v,A,B,u,w,t,x,y,z,b,c,a,d,f,g,i,j,k,l,m,n,o,p,q,r]) S =
  ( some ([s,v,Value.slice none 0 0,.int .i64 11,u,w,t,x,y,z,b,c,a,d,f,g,i,j,k,l,m,n,o,p,q,r],S)):=by
 kernel_rfl
theorem jH.r3 :jD zi ⟨false,false,false⟩ (zZ zi O) (reg Try.f63 3) (reg Try.f63 3).toList ([s,v,A,B,u,w,t,x,y,z,b,c,a,d,f,g,i,j,k,l,m,n,o,p,q,r]) S =
  ( some ([s,v,A,B,Value.slice none 0 0,w,t,x,y,z,b,c,a,d,f,g,i,j,k,l,m,n,o,p,q,r],S)):=by
 kernel_rfl
theorem jH.r4 :jD zi ⟨false,false,false⟩ (zZ zi O) (reg Try.f63 4) (reg Try.f63 4).toList ([s,v,A,B,u,w,t,x,y,z,b,c,a,d,f,g,i,j,k,l,m,n,o,p,q,r]) S =
  (zN (Zu zi 24 (dem s) S) (fun D C=>some ([s,v,A,B,u,w,t,x,y,z,dem s,D,.int .i64 0,d,f,g,i,j,k,l,m,n,o,p,q,r],C)) ()):=by
 kernel_rfl
theorem jH.r5 :jD zi ⟨false,false,false⟩ (zZ zi O) (reg Try.f63 5) (reg Try.f63 5).toList ([s,v,A,B,u,w,t,x,y,z,b,c,a,d,f,g,i,j,k,l,m,n,o,p,q,r]) S =
  (zN (wI zi BinOp.lss 3 a c S) (fun E C=>some ([s,v,A,B,u,w,t,x,y,z,b,c,a,E,f,g,i,j,k,l,m,n,o,p,q,r],C)) ()):=by
 kernel_rfl
theorem jH.r6 :jD zi ⟨false,false,false⟩ (zZ zi O) (reg Try.f63 6) (reg Try.f63 6).toList ([s,v,A,B,u,w,t,x,y,z,b,c,a,d,f,g,i,j,k,l,m,n,o,p,q,r]) S =
  (zN (jy zi 24 b a S) (fun E C=>zN (jh zi false 3 E C) (fun D F=>some ([s,v,A,B,u,w,D,x,y,z,b,c,a,d,E,dem D,i,j,k,l,m,n,o,p,q,r],F)) ()) ()):=by
 kernel_rfl
theorem jH.r7 :jD zi ⟨false,false,false⟩ (zZ zi O) (reg Try.f63 7) (reg Try.f63 7).toList ([s,v,A,B,u,w,t,x,y,z,b,c,a,d,f,g,i,j,k,l,m,n,o,p,q,r]) S =
  (zN (wI zi BinOp.lss 3 (dem t) (.int .i64 (-1)) S) (fun D C=>some ([s,v,A,B,u,w,t,x,y,z,b,c,a,d,f,g,dem t,D,k,l,m,n,o,p,q,r],C)) ()):=by
 kernel_rfl
theorem jH.r8 :jD zi ⟨false,false,false⟩ (zZ zi O) (reg Try.f63 8) (reg Try.f63 8).toList ([s,v,A,B,u,w,t,x,y,z,b,c,a,d,f,g,i,j,k,l,m,n,o,p,q,r]) S =
  ( some ([s,v,Value.slice none 0 0,.int .i64 11,u,w,t,x,y,z,b,c,a,d,f,g,i,j,k,l,m,n,o,p,q,r],S)):=by
 kernel_rfl
theorem jH.r9 :jD zi ⟨false,false,false⟩ (zZ zi O) (reg Try.f63 9) (reg Try.f63 9).toList ([s,v,A,B,u,w,t,x,y,z,b,c,a,d,f,g,i,j,k,l,m,n,o,p,q,r]) S =
  (zN (qU zi false false 3 73 (dem t) S) (fun G C=>zN (wI zi BinOp.add 73 G (Value.int IntKind.u64 1) C) (fun H F=>zN ((zZ zi O) 72 [(dem H)] F) (fun I K=>zN (wR zi 33 33 u I K) (fun J L=>some ([s,v,A,B,J,w,t,x,y,z,b,c,a,d,f,g,i,j,dem u,dem t,G,H,I,dem J,q,r],L)) ()) ()) ()) ()):=by
 kernel_rfl
theorem jH.r10 :jD zi ⟨false,false,false⟩ (zZ zi O) (reg Try.f63 10) (reg Try.f63 10).toList ([s,v,A,B,u,w,t,x,y,z,b,c,a,d,f,g,i,j,k,l,m,n,o,p,q,r]) S =
  (zN (wI zi BinOp.add 3 a (.int .i64 1) S) (fun E C=>some ([s,v,A,B,u,w,t,x,y,z,b,c,dem E,d,f,g,i,j,k,l,m,n,o,p,E,r],C)) ()):=by
 kernel_rfl
theorem jH.r11 :jD zi ⟨false,false,false⟩ (zZ zi O) (reg Try.f63 11) (reg Try.f63 11).toList ([s,v,A,B,u,w,t,x,y,z,b,c,a,d,f,g,i,j,k,l,m,n,o,p,q,r]) S =
  ( some ([s,v,u,.int .i64 0,dem u,w,t,x,y,z,b,c,a,d,f,g,i,j,k,l,m,n,o,p,q,dem u],S)):=by
 kernel_rfl
theorem jH.rs:type_of% (alG @jH.r0 (alG @jH.r1 (alG @jH.r2 (alG @jH.r3 (alG @jH.r4 (alG @jH.r5 (alG @jH.r6 (alG @jH.r7 (alG @jH.r8 (alG @jH.r9 (alG @jH.r10 (@jH.r11)))))))))))):=alG @jH.r0 (alG @jH.r1 (alG @jH.r2 (alG @jH.r3 (alG @jH.r4 (alG @jH.r5 (alG @jH.r6 (alG @jH.r7 (alG @jH.r8 (alG @jH.r9 (alG @jH.r10 (@jH.r11)))))))))))
theorem jH.runs {s:Value} {S C:zy} {e:AEx} {T:List Value} (h:zJ zi O false jH.code ([s,zh,zh,zh,zh,zh,zh,zh,zh,zh,zh,zh,zh,zh,zh,zh,zh,zh,zh,zh,zh,zh,zh,zh,zh,zh]) S=some (e,T,C)) (he:e=.normal∨e=.ret)  (h0:wG (T.getD 2 zh)=true) (h1:wG (T.getD 3 zh)=true):zZ zi O 63 [s] S=some (Value.tuple #[T.getD 2 zh,T.getD 3 zh],C) :=
 yL rfl rfl Try.func63 (by decide) jH.body (by exact h) he ((ql ((show zQ zi T C Try.f63.results.toList=zQ zi T C [(ResultVar.tmp 2),(ResultVar.tmp 3)] from by kernel_rfl).trans (by simp only [zQ])) (by kernel_rfl) (by simp only [List.all_cons,List.all_nil,h0,h1,Bool.and_true])).trans rfl)
end Go.Proofs.Ytfjogganfjkckaa
namespace Go.Proofs.Ytfjogganfjkckaa
open Go.Abs
abbrev zK.id:FuncId:=35
noncomputable def zK.jT:Code:=(.seq (.region 5 (reg Try.f35 5) false) (.seq (.cond (.tmp 14) Code.skip (.exit 0)) (.seq (.block 1 (.seq (.region 6 (reg Try.f35 6) false) (.seq (.seq (.region 7 (reg Try.f35 7) false) (.cond (.tmp 18) (.seq (.region 8 (reg Try.f35 8) false) Code.ret) Code.skip)) (.region 9 (reg Try.f35 9) false)))) (.region 10 (reg Try.f35 10) false))))
noncomputable def zK.code:Code:=(.seq (.region 0 (reg Try.f35 0) false) (.seq (.seq (.region 1 (reg Try.f35 1) false) (.cond (.tmp 9) (.seq (.region 2 (reg Try.f35 2) false) Code.ret) Code.skip)) (.seq (.region 3 (reg Try.f35 3) false) (.seq (.seq (.region 4 (reg Try.f35 4) false) (.block 0 (.loop zK.jT))) (.seq (.region 11 (reg Try.f35 11) false) Code.ret)))))
theorem zK.body:Try.f35.body=some zK.code:=by kernel_rfl
theorem zK.eta {T:List Value} (h:T.length=27):T=[T.getD 0 zh,T.getD 1 zh,T.getD 2 zh,T.getD 3 zh,T.getD 4 zh,T.getD 5 zh,T.getD 6 zh,T.getD 7 zh,T.getD 8 zh,T.getD 9 zh,T.getD 10 zh,T.getD 11 zh,T.getD 12 zh,T.getD 13 zh,T.getD 14 zh,T.getD 15 zh,T.getD 16 zh,T.getD 17 zh,T.getD 18 zh,T.getD 19 zh,T.getD 20 zh,T.getD 21 zh,T.getD 22 zh,T.getD 23 zh,T.getD 24 zh,T.getD 25 zh,T.getD 26 zh]:=(qJ T 27 h).trans (by kernel_rfl)
variable (t w B C v x u y z A d b c a f g i j k l m n o p q r s:Value) (S:zy)
theorem zK.r0 :jD zi ⟨false,false,false⟩ (zZ zi O) (reg Try.f35 0) (reg Try.f35 0).toList ([t,w,B,C,v,x,u,y,z,A,d,b,c,a,f,g,i,j,k,l,m,n,o,p,q,r,s]) S =
  ( some ([t,w,Value.slice none 0 0,.int .i64 0,v,x,u,y,z,A,d,b,c,a,f,g,i,j,k,l,m,n,o,p,q,r,s],S)):=by
 kernel_rfl
theorem zK.r1 :jD zi ⟨false,false,false⟩ (zZ zi O) (reg Try.f35 1) (reg Try.f35 1).toList ([t,w,B,C,v,x,u,y,z,A,d,b,c,a,f,g,i,j,k,l,m,n,o,p,q,r,s]) S =
  (zN (Zu zi 24 (dem t) S) (fun F D=>zN (wI zi BinOp.gtr 3 F (.int .i64 64) D) (fun H G=>some ([t,w,B,C,v,x,u,dem t,F,H,d,b,c,a,f,g,i,j,k,l,m,n,o,p,q,r,s],G)) ()) ()):=by
 kernel_rfl
theorem zK.r2 :jD zi ⟨false,false,false⟩ (zZ zi O) (reg Try.f35 2) (reg Try.f35 2).toList ([t,w,B,C,v,x,u,y,z,A,d,b,c,a,f,g,i,j,k,l,m,n,o,p,q,r,s]) S =
  ( some ([t,w,Value.slice none 0 0,.int .i64 11,v,x,u,y,z,A,d,b,c,a,f,g,i,j,k,l,m,n,o,p,q,r,s],S)):=by
 kernel_rfl
theorem zK.r3 :jD zi ⟨false,false,false⟩ (zZ zi O) (reg Try.f35 3) (reg Try.f35 3).toList ([t,w,B,C,v,x,u,y,z,A,d,b,c,a,f,g,i,j,k,l,m,n,o,p,q,r,s]) S =
  (zN (jK zi 33 0 [] S) (fun E D=>some ([t,w,B,C,E,x,u,y,z,A,dem E,b,c,a,f,g,i,j,k,l,m,n,o,p,q,r,s],D)) ()):=by
 kernel_rfl
theorem zK.r4 :jD zi ⟨false,false,false⟩ (zZ zi O) (reg Try.f35 4) (reg Try.f35 4).toList ([t,w,B,C,v,x,u,y,z,A,d,b,c,a,f,g,i,j,k,l,m,n,o,p,q,r,s]) S =
  (zN (Zu zi 24 (dem t) S) (fun F D=>some ([t,w,B,C,v,x,u,y,z,A,d,dem t,F,.int .i64 0,f,g,i,j,k,l,m,n,o,p,q,r,s],D)) ()):=by
 kernel_rfl
theorem zK.r5 :jD zi ⟨false,false,false⟩ (zZ zi O) (reg Try.f35 5) (reg Try.f35 5).toList ([t,w,B,C,v,x,u,y,z,A,d,b,c,a,f,g,i,j,k,l,m,n,o,p,q,r,s]) S =
  (zN (wI zi BinOp.lss 3 a c S) (fun E D=>some ([t,w,B,C,v,x,u,y,z,A,d,b,c,a,E,g,i,j,k,l,m,n,o,p,q,r,s],D)) ()):=by
 kernel_rfl
theorem zK.r6 :jD zi ⟨false,false,false⟩ (zZ zi O) (reg Try.f35 6) (reg Try.f35 6).toList ([t,w,B,C,v,x,u,y,z,A,d,b,c,a,f,g,i,j,k,l,m,n,o,p,q,r,s]) S =
  (zN (jy zi 24 b a S) (fun E D=>zN (jh zi false 3 E D) (fun F G=>some ([t,w,B,C,v,x,F,y,z,A,d,b,c,a,f,E,dem F,j,k,l,m,n,o,p,q,r,s],G)) ()) ()):=by
 kernel_rfl
theorem zK.r7 :jD zi ⟨false,false,false⟩ (zZ zi O) (reg Try.f35 7) (reg Try.f35 7).toList ([t,w,B,C,v,x,u,y,z,A,d,b,c,a,f,g,i,j,k,l,m,n,o,p,q,r,s]) S =
  (zN (wI zi BinOp.lss 3 (dem u) (.int .i64 (-1)) S) (fun F D=>some ([t,w,B,C,v,x,u,y,z,A,d,b,c,a,f,g,i,dem u,F,l,m,n,o,p,q,r,s],D)) ()):=by
 kernel_rfl
theorem zK.r8 :jD zi ⟨false,false,false⟩ (zZ zi O) (reg Try.f35 8) (reg Try.f35 8).toList ([t,w,B,C,v,x,u,y,z,A,d,b,c,a,f,g,i,j,k,l,m,n,o,p,q,r,s]) S =
  ( some ([t,w,Value.slice none 0 0,.int .i64 11,v,x,u,y,z,A,d,b,c,a,f,g,i,j,k,l,m,n,o,p,q,r,s],S)):=by
 kernel_rfl
theorem zK.r9 :jD zi ⟨false,false,false⟩ (zZ zi O) (reg Try.f35 9) (reg Try.f35 9).toList ([t,w,B,C,v,x,u,y,z,A,d,b,c,a,f,g,i,j,k,l,m,n,o,p,q,r,s]) S =
  (zN (qU zi false false 3 73 (dem u) S) (fun H D=>zN (wI zi BinOp.add 73 H (Value.int IntKind.u64 1) D) (fun I G=>zN ((zZ zi O) 38 [(dem I)] G) (fun J L=>zN (wR zi 33 33 v J L) (fun K M=>some ([t,w,B,C,K,x,u,y,z,A,d,b,c,a,f,g,i,j,k,dem v,dem u,H,I,J,dem K,r,s],M)) ()) ()) ()) ()):=by
 kernel_rfl
theorem zK.r10 :jD zi ⟨false,false,false⟩ (zZ zi O) (reg Try.f35 10) (reg Try.f35 10).toList ([t,w,B,C,v,x,u,y,z,A,d,b,c,a,f,g,i,j,k,l,m,n,o,p,q,r,s]) S =
  (zN (wI zi BinOp.add 3 a (.int .i64 1) S) (fun E D=>some ([t,w,B,C,v,x,u,y,z,A,d,b,c,dem E,f,g,i,j,k,l,m,n,o,p,q,E,s],D)) ()):=by
 kernel_rfl
theorem zK.r11 :jD zi ⟨false,false,false⟩ (zZ zi O) (reg Try.f35 11) (reg Try.f35 11).toList ([t,w,B,C,v,x,u,y,z,A,d,b,c,a,f,g,i,j,k,l,m,n,o,p,q,r,s]) S =
  ( some ([t,w,v,.int .i64 0,dem v,x,u,y,z,A,d,b,c,a,f,g,i,j,k,l,m,n,o,p,q,r,dem v],S)):=by
 kernel_rfl
theorem zK.rs:type_of% (alG @zK.r0 (alG @zK.r1 (alG @zK.r2 (alG @zK.r3 (alG @zK.r4 (alG @zK.r5 (alG @zK.r6 (alG @zK.r7 (alG @zK.r8 (alG @zK.r9 (alG @zK.r10 (@zK.r11)))))))))))):=alG @zK.r0 (alG @zK.r1 (alG @zK.r2 (alG @zK.r3 (alG @zK.r4 (alG @zK.r5 (alG @zK.r6 (alG @zK.r7 (alG @zK.r8 (alG @zK.r9 (alG @zK.r10 (@zK.r11)))))))))))
theorem zK.runs {t:Value} {S D:zy} {e:AEx} {T:List Value} (h:zJ zi O false zK.code ([t,zh,zh,zh,zh,zh,zh,zh,zh,zh,zh,zh,zh,zh,zh,zh,zh,zh,zh,zh,zh,zh,zh,zh,zh,zh,zh]) S=some (e,T,D)) (he:e=.normal∨e=.ret)  (h0:wG (T.getD 2 zh)=true) (h1:wG (T.getD 3 zh)=true):zZ zi O 35 [t] S=some (Value.tuple #[T.getD 2 zh,T.getD 3 zh],D) :=
 yL rfl rfl Try.func35 (by decide) zK.body (by exact h) he ((ql ((show zQ zi T D Try.f35.results.toList=zQ zi T D [(ResultVar.tmp 2),(ResultVar.tmp 3)] from by kernel_rfl).trans (by simp only [zQ])) (by kernel_rfl) (by simp only [List.all_cons,List.all_nil,h0,h1,Bool.and_true])).trans rfl)
end Go.Proofs.Ytfjogganfjkckaa
namespace Go.Proofs.Ytfjogganfjkckaa
open Go.Abs
abbrev zH.id:FuncId:=28
noncomputable def zH.jT:Code:=(.seq (.seq (.region 4 (reg Try.f28 4) false) (.cond (.tmp 17) Code.skip (.exit 0))) (.seq (.block 1 (.seq (.region 6 (reg Try.f28 6) false) (.seq (.seq (.region 7 (reg Try.f28 7) false) (.cond (.tmp 31) (.seq (.region 8 (reg Try.f28 8) false) Code.ret) Code.skip)) (.seq (.region 9 (reg Try.f28 9) false) (.seq (.region 10 (reg Try.f28 10) false) (.seq (.region 11 (reg Try.f28 11) false) (.cond (.tmp 43) (.seq (.region 12 (reg Try.f28 12) false) (.seq (.seq (.region 13 (reg Try.f28 13) false) (.cond (.tmp 50) (.seq (.region 14 (reg Try.f28 14) false) Code.ret) Code.skip)) (.seq (.region 15 (reg Try.f28 15) false) Code.ret))) Code.skip))))))) (.region 5 (reg Try.f28 5) false)))
noncomputable def zH.code:Code:=(.seq (.region 0 (reg Try.f28 0) false) (.seq (.region 1 (reg Try.f28 1) false) (.seq (.region 2 (reg Try.f28 2) false) (.seq (.seq (.region 3 (reg Try.f28 3) false) (.block 0 (.loop zH.jT))) (.seq (.region 16 (reg Try.f28 16) false) Code.ret)))))
theorem zH.body:Try.f28.body=some zH.code:=by kernel_rfl
theorem zH.eta {T:List Value} (h:T.length=58):T=[T.getD 0 zh,T.getD 1 zh,T.getD 2 zh,T.getD 3 zh,T.getD 4 zh,T.getD 5 zh,T.getD 6 zh,T.getD 7 zh,T.getD 8 zh,T.getD 9 zh,T.getD 10 zh,T.getD 11 zh,T.getD 12 zh,T.getD 13 zh,T.getD 14 zh,T.getD 15 zh,T.getD 16 zh,T.getD 17 zh,T.getD 18 zh,T.getD 19 zh,T.getD 20 zh,T.getD 21 zh,T.getD 22 zh,T.getD 23 zh,T.getD 24 zh,T.getD 25 zh,T.getD 26 zh,T.getD 27 zh,T.getD 28 zh,T.getD 29 zh,T.getD 30 zh,T.getD 31 zh,T.getD 32 zh,T.getD 33 zh,T.getD 34 zh,T.getD 35 zh,T.getD 36 zh,T.getD 37 zh,T.getD 38 zh,T.getD 39 zh,T.getD 40 zh,T.getD 41 zh,T.getD 42 zh,T.getD 43 zh,T.getD 44 zh,T.getD 45 zh,T.getD 46 zh,T.getD 47 zh,T.getD 48 zh,T.getD 49 zh,T.getD 50 zh,T.getD 51 zh,T.getD 52 zh,T.getD 53 zh,T.getD 54 zh,T.getD 55 zh,T.getD 56 zh,T.getD 57 zh]:=(qJ T 58 h).trans (by kernel_rfl)
theorem zH.list {T:List Value} (h:T.length=58):∃ x0 x1 x2 x3 x4 x5 x6 x7 x8 x9 a b c d f g i k l m n o p q r s t u w x y z A B C D E F G H I J K L M N P Q R U V W X Y Z a0 a1 a2,T=[x0,x1,x2,x3,x4,x5,x6,x7,x8,x9,a,b,c,d,f,g,i,k,l,m,n,o,p,q,r,s,t,u,w,x,y,z,A,B,C,D,E,F,G,H,I,J,K,L,M,N,P,Q,R,U,V,W,X,Y,Z,a0,a1,a2]:=⟨_,_,_,_,_,_,_,_,_,_,_,_,_,_,_,_,_,_,_,_,_,_,_,_,_,_,_,_,_,_,_,_,_,_,_,_,_,_,_,_,_,_,_,_,_,_,_,_,_,_,_,_,_,_,_,_,_,_,zH.eta h⟩
variable (x0 x1 x2 x3 x4 x5 x6 x7 x8 x9 a b c d f g i k l m n o p q r s t u w x y z A B C D E F G H I J K L M N P Q R U V W X Y Z a0 a1 a2:Value) (S:zy)
theorem zH.r0 :jD zi ⟨false,false,false⟩ (zZ zi O) (reg Try.f28 0) (reg Try.f28 0).toList ([x0,x1,x2,x3,x4,x5,x6,x7,x8,x9,a,b,c,d,f,g,i,k,l,m,n,o,p,q,r,s,t,u,w,x,y,z,A,B,C,D,E,F,G,H,I,J,K,L,M,N,P,Q,R,U,V,W,X,Y,Z,a0,a1,a2]) S =
  ( some ([x0,x1,Value.int IntKind.u64 0,Value.slice none 0 0,.int .i64 0,x5,x6,x7,x8,x9,a,b,c,d,f,g,i,k,l,m,n,o,p,q,r,s,t,u,w,x,y,z,A,B,C,D,E,F,G,H,I,J,K,L,M,N,P,Q,R,U,V,W,X,Y,Z,a0,a1,a2],S)):=by
 kernel_rfl
theorem zH.r1 :jD zi ⟨false,false,false⟩ (zZ zi O) (reg Try.f28 1) (reg Try.f28 1).toList ([x0,x1,x2,x3,x4,x5,x6,x7,x8,x9,a,b,c,d,f,g,i,k,l,m,n,o,p,q,r,s,t,u,w,x,y,z,A,B,C,D,E,F,G,H,I,J,K,L,M,N,P,Q,R,U,V,W,X,Y,Z,a0,a1,a2]) S =
  ( some ([x0,x1,x2,x3,x4,Value.int IntKind.u64 0,x6,x7,x8,x9,a,b,c,d,f,g,i,k,l,m,n,o,p,q,r,s,t,u,w,x,y,z,A,B,C,D,E,F,G,H,I,J,K,L,M,N,P,Q,R,U,V,W,X,Y,Z,a0,a1,a2],S)):=by
 kernel_rfl
theorem zH.r2 :jD zi ⟨false,false,false⟩ (zZ zi O) (reg Try.f28 2) (reg Try.f28 2).toList ([x0,x1,x2,x3,x4,x5,x6,x7,x8,x9,a,b,c,d,f,g,i,k,l,m,n,o,p,q,r,s,t,u,w,x,y,z,A,B,C,D,E,F,G,H,I,J,K,L,M,N,P,Q,R,U,V,W,X,Y,Z,a0,a1,a2]) S =
  ( some ([x0,x1,x2,x3,x4,x5,Value.int IntKind.u64 1,x7,x8,x9,a,b,c,d,f,g,i,k,l,m,n,o,p,q,r,s,t,u,w,x,y,z,A,B,C,D,E,F,G,H,I,J,K,L,M,N,P,Q,R,U,V,W,X,Y,Z,a0,a1,a2],S)):=by
 kernel_rfl
theorem zH.r3 :jD zi ⟨false,false,false⟩ (zZ zi O) (reg Try.f28 3) (reg Try.f28 3).toList ([x0,x1,x2,x3,x4,x5,x6,x7,x8,x9,a,b,c,d,f,g,i,k,l,m,n,o,p,q,r,s,t,u,w,x,y,z,A,B,C,D,E,F,G,H,I,J,K,L,M,N,P,Q,R,U,V,W,X,Y,Z,a0,a1,a2]) S =
  ( some ([x0,x1,x2,x3,x4,x5,x6,.int .i64 0,x8,x9,a,b,c,d,f,g,i,k,l,m,n,o,p,q,r,s,t,u,w,x,y,z,A,B,C,D,E,F,G,H,I,J,K,L,M,N,P,Q,R,U,V,W,X,Y,Z,a0,a1,a2],S)):=by
 kernel_rfl
theorem zH.r4 :jD zi ⟨false,false,false⟩ (zZ zi O) (reg Try.f28 4) (reg Try.f28 4).toList ([x0,x1,x2,x3,x4,x5,x6,x7,x8,x9,a,b,c,d,f,g,i,k,l,m,n,o,p,q,r,s,t,u,w,x,y,z,A,B,C,D,E,F,G,H,I,J,K,L,M,N,P,Q,R,U,V,W,X,Y,Z,a0,a1,a2]) S =
  (zN (Zu zi 33 (dem x0) S) (fun v2 S1=>zN (wI zi BinOp.lss 3 (dem x7) v2 S1) (fun v3 S2=>gdK (dem v3) true (ret x7) S2 (fun v5 S3=>gdK (dem v3) true (wI zi BinOp.lss 3 (dem v5) (.int .i64 10)) S3 (fun v6 S4=>zN (wX (dem v3) v6 (Value.bool false) S4) (fun v7 S5=>some ([x0,x1,x2,x3,x4,x5,x6,x7,x8,x9,dem x7,dem x0,v2,v3,dem v3,dem v5,v6,v7,l,m,n,o,p,q,r,s,t,u,w,x,y,z,A,B,C,D,E,F,G,H,I,J,K,L,M,N,P,Q,R,U,V,W,X,Y,Z,a0,a1,a2],S5)) ()) ()) ()) ()) ()):=by
 refine sP Try.f28 4 0 (v:=x7) ?_
 refine sP Try.f28 4 1 (v:=x0) ?_
 refine sD Try.f28 4 2 (fun v2 S1=>?_)
 refine sD Try.f28 4 3 (fun v3 S2=>?_)
 refine sP Try.f28 4 4 (v:=v3) ?_
 refine sG Try.f28 4 5 (j:=4) (fun v5 S3=>?_)
 refine sG Try.f28 4 6 (j:=4) (fun v6 S4=>?_)
 refine sD Try.f28 4 7 (fun v7 S5=>?_)
 kernel_rfl
theorem zH.r6 :jD zi ⟨false,false,false⟩ (zZ zi O) (reg Try.f28 6) (reg Try.f28 6).toList ([x0,x1,x2,x3,x4,x5,x6,x7,x8,x9,a,b,c,d,f,g,i,k,l,m,n,o,p,q,r,s,t,u,w,x,y,z,A,B,C,D,E,F,G,H,I,J,K,L,M,N,P,Q,R,U,V,W,X,Y,Z,a0,a1,a2]) S =
  (zN (jy zi 33 (dem x0) (dem x7) S) (fun v2 S1=>zN (jh zi false 5 v2 S1) (fun v3 S2=>zN (wI zi BinOp.rem 5 v3 (Value.int IntKind.u8 128) S2) (fun v4 S3=>zN (qU zi false false 5 73 v4 S3) (fun v5 S4=>some ([x0,x1,x2,x3,x4,x5,x6,x7,v5,x9,a,b,c,d,f,g,i,k,l,m,dem x0,dem x7,v2,v3,v4,dem v5,t,u,w,x,y,z,A,B,C,D,E,F,G,H,I,J,K,L,M,N,P,Q,R,U,V,W,X,Y,Z,a0,a1,a2],S4)) ()) ()) ()) ()):=by
 kernel_rfl
theorem zH.r7 :jD zi ⟨false,false,false⟩ (zZ zi O) (reg Try.f28 7) (reg Try.f28 7).toList ([x0,x1,x2,x3,x4,x5,x6,x7,x8,x9,a,b,c,d,f,g,i,k,l,m,n,o,p,q,r,s,t,u,w,x,y,z,A,B,C,D,E,F,G,H,I,J,K,L,M,N,P,Q,R,U,V,W,X,Y,Z,a0,a1,a2]) S =
  (zN (wI zi BinOp.eql 3 (dem x7) (.int .i64 9) S) (fun v1 S1=>gdK (dem v1) true (ret x8) S1 (fun v3 S2=>gdK (dem v1) true (wI zi BinOp.gtr 73 (dem v3) (Value.int IntKind.u64 1)) S2 (fun v4 S3=>zN (wX (dem v1) v4 (Value.bool false) S3) (fun v5 S4=>some ([x0,x1,x2,x3,x4,x5,x6,x7,x8,x9,a,b,c,d,f,g,i,k,l,m,n,o,p,q,r,s,dem x7,v1,dem v1,dem v3,v4,v5,A,B,C,D,E,F,G,H,I,J,K,L,M,N,P,Q,R,U,V,W,X,Y,Z,a0,a1,a2],S4)) ()) ()) ()) ()):=by
 refine sP Try.f28 7 0 (v:=x7) ?_
 refine sD Try.f28 7 1 (fun v1 S1=>?_)
 refine sP Try.f28 7 2 (v:=v1) ?_
 refine sG Try.f28 7 3 (j:=2) (fun v3 S2=>?_)
 refine sG Try.f28 7 4 (j:=2) (fun v4 S3=>?_)
 refine sD Try.f28 7 5 (fun v5 S4=>?_)
 kernel_rfl
theorem zH.r8 :jD zi ⟨false,false,false⟩ (zZ zi O) (reg Try.f28 8) (reg Try.f28 8).toList ([x0,x1,x2,x3,x4,x5,x6,x7,x8,x9,a,b,c,d,f,g,i,k,l,m,n,o,p,q,r,s,t,u,w,x,y,z,A,B,C,D,E,F,G,H,I,J,K,L,M,N,P,Q,R,U,V,W,X,Y,Z,a0,a1,a2]) S =
  ( some ([x0,x1,Value.int IntKind.u64 0,Value.slice none 0 0,.int .i64 11,x5,x6,x7,x8,x9,a,b,c,d,f,g,i,k,l,m,n,o,p,q,r,s,t,u,w,x,y,z,A,B,C,D,E,F,G,H,I,J,K,L,M,N,P,Q,R,U,V,W,X,Y,Z,a0,a1,a2],S)):=by
 kernel_rfl
theorem zH.r9 :jD zi ⟨false,false,false⟩ (zZ zi O) (reg Try.f28 9) (reg Try.f28 9).toList ([x0,x1,x2,x3,x4,x5,x6,x7,x8,x9,a,b,c,d,f,g,i,k,l,m,n,o,p,q,r,s,t,u,w,x,y,z,A,B,C,D,E,F,G,H,I,J,K,L,M,N,P,Q,R,U,V,W,X,Y,Z,a0,a1,a2]) S =
  (zN (wI zi BinOp.mul 73 (dem x8) (dem x6) S) (fun v3 S1=>zN (wI zi BinOp.add 73 (dem x5) v3 S1) (fun v4 S2=>some ([x0,x1,x2,x3,x4,v4,x6,x7,x8,x9,a,b,c,d,f,g,i,k,l,m,n,o,p,q,r,s,t,u,w,x,y,z,dem x5,dem x8,dem x6,v3,dem v4,F,G,H,I,J,K,L,M,N,P,Q,R,U,V,W,X,Y,Z,a0,a1,a2],S2)) ()) ()):=by
 kernel_rfl
theorem zH.r10 :jD zi ⟨false,false,false⟩ (zZ zi O) (reg Try.f28 10) (reg Try.f28 10).toList ([x0,x1,x2,x3,x4,x5,x6,x7,x8,x9,a,b,c,d,f,g,i,k,l,m,n,o,p,q,r,s,t,u,w,x,y,z,A,B,C,D,E,F,G,H,I,J,K,L,M,N,P,Q,R,U,V,W,X,Y,Z,a0,a1,a2]) S =
  (zN (wI zi BinOp.mul 73 (dem x6) (Value.int IntKind.u64 128) S) (fun v1 S1=>some ([x0,x1,x2,x3,x4,x5,v1,x7,x8,x9,a,b,c,d,f,g,i,k,l,m,n,o,p,q,r,s,t,u,w,x,y,z,A,B,C,D,E,dem x6,dem v1,H,I,J,K,L,M,N,P,Q,R,U,V,W,X,Y,Z,a0,a1,a2],S1)) ()):=by
 kernel_rfl
theorem zH.r11 :jD zi ⟨false,false,false⟩ (zZ zi O) (reg Try.f28 11) (reg Try.f28 11).toList ([x0,x1,x2,x3,x4,x5,x6,x7,x8,x9,a,b,c,d,f,g,i,k,l,m,n,o,p,q,r,s,t,u,w,x,y,z,A,B,C,D,E,F,G,H,I,J,K,L,M,N,P,Q,R,U,V,W,X,Y,Z,a0,a1,a2]) S =
  (zN (jy zi 33 (dem x0) (dem x7) S) (fun v2 S1=>zN (jh zi false 5 v2 S1) (fun v3 S2=>zN (wI zi BinOp.lss 5 v3 (Value.int IntKind.u8 128) S2) (fun v4 S3=>some ([x0,x1,x2,x3,x4,x5,x6,x7,x8,x9,a,b,c,d,f,g,i,k,l,m,n,o,p,q,r,s,t,u,w,x,y,z,A,B,C,D,E,F,G,dem x0,dem x7,v2,v3,v4,M,N,P,Q,R,U,V,W,X,Y,Z,a0,a1,a2],S3)) ()) ()) ()):=by
 kernel_rfl
theorem zH.r12 :jD zi ⟨false,false,false⟩ (zZ zi O) (reg Try.f28 12) (reg Try.f28 12).toList ([x0,x1,x2,x3,x4,x5,x6,x7,x8,x9,a,b,c,d,f,g,i,k,l,m,n,o,p,q,r,s,t,u,w,x,y,z,A,B,C,D,E,F,G,H,I,J,K,L,M,N,P,Q,R,U,V,W,X,Y,Z,a0,a1,a2]) S =
  (zN ((zZ zi O) 38 [(dem (dem x5))] S) (fun v1 S1=>some ([x0,x1,x2,x3,x4,x5,x6,x7,x8,v1,a,b,c,d,f,g,i,k,l,m,n,o,p,q,r,s,t,u,w,x,y,z,A,B,C,D,E,F,G,H,I,J,K,L,dem x5,dem v1,P,Q,R,U,V,W,X,Y,Z,a0,a1,a2],S1)) ()):=by
 kernel_rfl
theorem zH.r13 :jD zi ⟨false,false,false⟩ (zZ zi O) (reg Try.f28 13) (reg Try.f28 13).toList ([x0,x1,x2,x3,x4,x5,x6,x7,x8,x9,a,b,c,d,f,g,i,k,l,m,n,o,p,q,r,s,t,u,w,x,y,z,A,B,C,D,E,F,G,H,I,J,K,L,M,N,P,Q,R,U,V,W,X,Y,Z,a0,a1,a2]) S =
  (zN (Zu zi 33 (dem x9) S) (fun v1 S1=>zN (wI zi BinOp.add 3 (dem x7) (.int .i64 1) S1) (fun v3 S2=>zN (wI zi BinOp.neq 3 v1 v3 S2) (fun v4 S3=>some ([x0,x1,x2,x3,x4,x5,x6,x7,x8,x9,a,b,c,d,f,g,i,k,l,m,n,o,p,q,r,s,t,u,w,x,y,z,A,B,C,D,E,F,G,H,I,J,K,L,M,N,dem x9,v1,dem x7,v3,v4,W,X,Y,Z,a0,a1,a2],S3)) ()) ()) ()):=by
 kernel_rfl
theorem zH.r14 :jD zi ⟨false,false,false⟩ (zZ zi O) (reg Try.f28 14) (reg Try.f28 14).toList ([x0,x1,x2,x3,x4,x5,x6,x7,x8,x9,a,b,c,d,f,g,i,k,l,m,n,o,p,q,r,s,t,u,w,x,y,z,A,B,C,D,E,F,G,H,I,J,K,L,M,N,P,Q,R,U,V,W,X,Y,Z,a0,a1,a2]) S =
  ( some ([x0,x1,Value.int IntKind.u64 0,Value.slice none 0 0,.int .i64 11,x5,x6,x7,x8,x9,a,b,c,d,f,g,i,k,l,m,n,o,p,q,r,s,t,u,w,x,y,z,A,B,C,D,E,F,G,H,I,J,K,L,M,N,P,Q,R,U,V,W,X,Y,Z,a0,a1,a2],S)):=by
 kernel_rfl
theorem zH.r15 :jD zi ⟨false,false,false⟩ (zZ zi O) (reg Try.f28 15) (reg Try.f28 15).toList ([x0,x1,x2,x3,x4,x5,x6,x7,x8,x9,a,b,c,d,f,g,i,k,l,m,n,o,p,q,r,s,t,u,w,x,y,z,A,B,C,D,E,F,G,H,I,J,K,L,M,N,P,Q,R,U,V,W,X,Y,Z,a0,a1,a2]) S =
  (zN (jK zi 33 0 [] S) (fun v1 S1=>zN (wI zi BinOp.add 3 (dem x7) (.int .i64 1) S1) (fun v4 S2=>zN (ZU zi false 33 (dem x0) (some v4) none S2) (fun v5 S3=>zN (wR zi 33 33 v1 v5 S3) (fun v6 S4=>some ([x0,x1,x5,v6,.int .i64 0,dem x5,x6,x7,x8,x9,a,b,c,d,f,g,i,k,l,m,n,o,p,q,r,s,t,u,w,x,y,z,A,B,C,D,E,F,G,H,I,J,K,L,M,N,P,Q,R,U,V,dem x5,dem v1,dem x0,dem x7,v4,v5,dem v6],S4)) ()) ()) ()) ()):=by
 kernel_rfl
theorem zH.r5 :jD zi ⟨false,false,false⟩ (zZ zi O) (reg Try.f28 5) (reg Try.f28 5).toList ([x0,x1,x2,x3,x4,x5,x6,x7,x8,x9,a,b,c,d,f,g,i,k,l,m,n,o,p,q,r,s,t,u,w,x,y,z,A,B,C,D,E,F,G,H,I,J,K,L,M,N,P,Q,R,U,V,W,X,Y,Z,a0,a1,a2]) S =
  (zN (wI zi BinOp.add 3 (dem x7) (.int .i64 1) S) (fun v1 S1=>some ([x0,x1,x2,x3,x4,x5,x6,v1,x8,x9,a,b,c,d,f,g,i,k,dem x7,dem v1,n,o,p,q,r,s,t,u,w,x,y,z,A,B,C,D,E,F,G,H,I,J,K,L,M,N,P,Q,R,U,V,W,X,Y,Z,a0,a1,a2],S1)) ()):=by
 kernel_rfl
theorem zH.r16 :jD zi ⟨false,false,false⟩ (zZ zi O) (reg Try.f28 16) (reg Try.f28 16).toList ([x0,x1,x2,x3,x4,x5,x6,x7,x8,x9,a,b,c,d,f,g,i,k,l,m,n,o,p,q,r,s,t,u,w,x,y,z,A,B,C,D,E,F,G,H,I,J,K,L,M,N,P,Q,R,U,V,W,X,Y,Z,a0,a1,a2]) S =
  ( some ([x0,x1,Value.int IntKind.u64 0,Value.slice none 0 0,.int .i64 11,x5,x6,x7,x8,x9,a,b,c,d,f,g,i,k,l,m,n,o,p,q,r,s,t,u,w,x,y,z,A,B,C,D,E,F,G,H,I,J,K,L,M,N,P,Q,R,U,V,W,X,Y,Z,a0,a1,a2],S)):=by
 kernel_rfl
theorem zH.runs {x0:Value} {S S1:zy} {e:AEx} {T:List Value} (h:zJ zi O false zH.code ([x0,zh,zh,zh,zh,zh,zh,zh,zh,zh,zh,zh,zh,zh,zh,zh,zh,zh,zh,zh,zh,zh,zh,zh,zh,zh,zh,zh,zh,zh,zh,zh,zh,zh,zh,zh,zh,zh,zh,zh,zh,zh,zh,zh,zh,zh,zh,zh,zh,zh,zh,zh,zh,zh,zh,zh,zh,zh]) S=some (e,T,S1)) (he:e=.normal∨e=.ret)  (h0:wG (T.getD 2 zh)=true) (h1:wG (T.getD 3 zh)=true) (h2:wG (T.getD 4 zh)=true):zZ zi O 28 [x0] S=some (Value.tuple #[T.getD 2 zh,T.getD 3 zh,T.getD 4 zh],S1) :=
 yL rfl rfl Try.func28 (by decide) zH.body (by exact h) he ((ql ((show zQ zi T S1 Try.f28.results.toList=zQ zi T S1 [(ResultVar.tmp 2),(ResultVar.tmp 3),(ResultVar.tmp 4)] from by kernel_rfl).trans (by simp only [zQ])) (by kernel_rfl) (by simp only [List.all_cons,List.all_nil,h0,h1,h2,Bool.and_true])).trans rfl)
end Go.Proofs.Ytfjogganfjkckaa
namespace Go.Proofs.Ytfjogganfjkckaa
open Go.Abs
abbrev slices_Clone.id:FuncId:=54
noncomputable def slices_Clone.code:Code:=(.seq (.region 0 (reg Try.f54 0) false) (.seq (.seq (.region 1 (reg Try.f54 1) false) (.cond (.tmp 4) (.seq (.region 2 (reg Try.f54 2) false) Code.ret) Code.skip)) (.seq (.region 3 (reg Try.f54 3) false) Code.ret)))
theorem slices_Clone.body:Try.f54.body=some slices_Clone.code:=by kernel_rfl
variable (b c l f g i j k:Value) (S:zy)
theorem slices_Clone.r0 :jD zi ⟨false,false,false⟩ (zZ zi O) (reg Try.f54 0) (reg Try.f54 0).toList ([b,c,l,f,g,i,j,k]) S =
  ( some ([b,c,Value.slice none 0 0,f,g,i,j,k],S)):=by
 kernel_rfl
theorem slices_Clone.r1 :jD zi ⟨false,false,false⟩ (zZ zi O) (reg Try.f54 1) (reg Try.f54 1).toList ([b,c,l,f,g,i,j,k]) S =
  (zN (wI zi BinOp.eql 33 (dem b) (Value.slice none 0 0) S) (fun o d=>some ([b,c,l,dem b,o,i,j,k],d)) ()):=by
 kernel_rfl
theorem slices_Clone.r2 :jD zi ⟨false,false,false⟩ (zZ zi O) (reg Try.f54 2) (reg Try.f54 2).toList ([b,c,l,f,g,i,j,k]) S =
  ( some ([b,c,Value.slice none 0 0,f,g,i,j,k],S)):=by
 kernel_rfl
theorem slices_Clone.r3 :jD zi ⟨false,false,false⟩ (zZ zi O) (reg Try.f54 3) (reg Try.f54 3).toList ([b,c,l,f,g,i,j,k]) S =
  (zN (jK zi 33 0 [] S) (fun m d=>zN (wR zi 33 33 m (dem b) d) (fun n p=>some ([b,c,n,f,g,dem m,dem b,dem n],p)) ()) ()):=by
 kernel_rfl
theorem slices_Clone.runs {b:Value} {S d:zy} {e:AEx} {T:List Value} (h:zJ zi O false slices_Clone.code ([b,zh,zh,zh,zh,zh,zh,zh]) S=some (e,T,d)) (he:e=.normal∨e=.ret):zZ zi O 54 [b] S=some (T.getD 2 zh,d) :=
 yL rfl rfl Try.func54 (by decide) slices_Clone.body (by exact h) he (yH (a:=T.getD 2 zh) ((show zQ zi T d Try.f54.results.toList=zQ zi T d [(ResultVar.tmp 2)] from by kernel_rfl).trans (by simp only [zQ])) (by kernel_rfl))
end Go.Proofs.Ytfjogganfjkckaa
namespace Go.Proofs.Ytfjogganfjkckaa
open Go.Abs
abbrev jC.id:FuncId:=41
noncomputable def jC.jT:Code:=(.seq (.region 3 (reg Try.f41 3) false) (.seq (.cond (.tmp 11) Code.skip (.exit 0)) (.seq (.block 1 (.seq (.region 4 (reg Try.f41 4) false) (.seq (.seq (.region 5 (reg Try.f41 5) false) (.cond (.tmp 28) (.exit 0) Code.skip)) (.seq (.region 6 (reg Try.f41 6) false) (.seq (.region 7 (reg Try.f41 7) false) (.cond (.tmp 38) (.seq (.region 8 (reg Try.f41 8) false) Code.ret) Code.skip)))))) (.region 9 (reg Try.f41 9) false))))
noncomputable def jC.code:Code:=(.seq (.region 0 (reg Try.f41 0) false) (.seq (.region 1 (reg Try.f41 1) false) (.seq (.seq (.region 2 (reg Try.f41 2) false) (.block 0 (.loop jC.jT))) (.seq (.region 10 (reg Try.f41 10) false) Code.ret))))
theorem jC.body:Try.f41.body=some jC.code:=by kernel_rfl
theorem jC.eta {T:List Value} (h:T.length=46):T=[T.getD 0 zh,T.getD 1 zh,T.getD 2 zh,T.getD 3 zh,T.getD 4 zh,T.getD 5 zh,T.getD 6 zh,T.getD 7 zh,T.getD 8 zh,T.getD 9 zh,T.getD 10 zh,T.getD 11 zh,T.getD 12 zh,T.getD 13 zh,T.getD 14 zh,T.getD 15 zh,T.getD 16 zh,T.getD 17 zh,T.getD 18 zh,T.getD 19 zh,T.getD 20 zh,T.getD 21 zh,T.getD 22 zh,T.getD 23 zh,T.getD 24 zh,T.getD 25 zh,T.getD 26 zh,T.getD 27 zh,T.getD 28 zh,T.getD 29 zh,T.getD 30 zh,T.getD 31 zh,T.getD 32 zh,T.getD 33 zh,T.getD 34 zh,T.getD 35 zh,T.getD 36 zh,T.getD 37 zh,T.getD 38 zh,T.getD 39 zh,T.getD 40 zh,T.getD 41 zh,T.getD 42 zh,T.getD 43 zh,T.getD 44 zh,T.getD 45 zh]:=(qJ T 46 h).trans (by kernel_rfl)
theorem jC.list {T:List Value} (h:T.length=46):∃ P V Y Z x4 U Q R W X a b c d f g i k l m n o p q r s t u w x y z A B C D E F G H I J K L M N,T=[P,V,Y,Z,x4,U,Q,R,W,X,a,b,c,d,f,g,i,k,l,m,n,o,p,q,r,s,t,u,w,x,y,z,A,B,C,D,E,F,G,H,I,J,K,L,M,N]:=⟨_,_,_,_,_,_,_,_,_,_,_,_,_,_,_,_,_,_,_,_,_,_,_,_,_,_,_,_,_,_,_,_,_,_,_,_,_,_,_,_,_,_,_,_,_,_,jC.eta h⟩
variable (P V Y Z x4 U Q R W X a b c d f g i k l m n o p q r s t u w x y z A B C D E F G H I J K L M N:Value) (S:zy)
theorem jC.r0 :jD zi ⟨false,false,false⟩ (zZ zi O) (reg Try.f41 0) (reg Try.f41 0).toList ([P,V,Y,Z,x4,U,Q,R,W,X,a,b,c,d,f,g,i,k,l,m,n,o,p,q,r,s,t,u,w,x,y,z,A,B,C,D,E,F,G,H,I,J,K,L,M,N]) S =
  ( some ([P,V,Value.int IntKind.u64 0,Value.slice none 0 0,.int .i64 0,U,Q,R,W,X,a,b,c,d,f,g,i,k,l,m,n,o,p,q,r,s,t,u,w,x,y,z,A,B,C,D,E,F,G,H,I,J,K,L,M,N],S)):=by
 kernel_rfl
theorem jC.r1 :jD zi ⟨false,false,false⟩ (zZ zi O) (reg Try.f41 1) (reg Try.f41 1).toList ([P,V,Y,Z,x4,U,Q,R,W,X,a,b,c,d,f,g,i,k,l,m,n,o,p,q,r,s,t,u,w,x,y,z,A,B,C,D,E,F,G,H,I,J,K,L,M,N]) S =
  ( some ([P,V,Y,Z,x4,Value.int IntKind.u64 0,Q,R,W,X,a,b,c,d,f,g,i,k,l,m,n,o,p,q,r,s,t,u,w,x,y,z,A,B,C,D,E,F,G,H,I,J,K,L,M,N],S)):=by
 kernel_rfl
theorem jC.r2 :jD zi ⟨false,false,false⟩ (zZ zi O) (reg Try.f41 2) (reg Try.f41 2).toList ([P,V,Y,Z,x4,U,Q,R,W,X,a,b,c,d,f,g,i,k,l,m,n,o,p,q,r,s,t,u,w,x,y,z,A,B,C,D,E,F,G,H,I,J,K,L,M,N]) S =
  (zN (Zu zi 33 (dem P) S) (fun v1 S1=>some ([P,V,Y,Z,x4,U,Q,R,dem P,v1,.int .i64 0,b,c,d,f,g,i,k,l,m,n,o,p,q,r,s,t,u,w,x,y,z,A,B,C,D,E,F,G,H,I,J,K,L,M,N],S1)) ()):=by
 kernel_rfl
theorem jC.r3 :jD zi ⟨false,false,false⟩ (zZ zi O) (reg Try.f41 3) (reg Try.f41 3).toList ([P,V,Y,Z,x4,U,Q,R,W,X,a,b,c,d,f,g,i,k,l,m,n,o,p,q,r,s,t,u,w,x,y,z,A,B,C,D,E,F,G,H,I,J,K,L,M,N]) S =
  (zN (wI zi BinOp.lss 3 a X S) (fun v0 S1=>some ([P,V,Y,Z,x4,U,Q,R,W,X,a,v0,c,d,f,g,i,k,l,m,n,o,p,q,r,s,t,u,w,x,y,z,A,B,C,D,E,F,G,H,I,J,K,L,M,N],S1)) ()):=by
 kernel_rfl
theorem jC.r4 :jD zi ⟨false,false,false⟩ (zZ zi O) (reg Try.f41 4) (reg Try.f41 4).toList ([P,V,Y,Z,x4,U,Q,R,W,X,a,b,c,d,f,g,i,k,l,m,n,o,p,q,r,s,t,u,w,x,y,z,A,B,C,D,E,F,G,H,I,J,K,L,M,N]) S =
  (zN (jy zi 33 W (dem a) S) (fun v1 S1=>zN (jh zi false 5 v1 S1) (fun v2 S2=>some ([P,V,Y,Z,x4,U,a,v2,W,X,dem a,b,dem a,v1,dem v2,g,i,k,l,m,n,o,p,q,r,s,t,u,w,x,y,z,A,B,C,D,E,F,G,H,I,J,K,L,M,N],S2)) ()) ()):=by
 kernel_rfl
theorem jC.r5 :jD zi ⟨false,false,false⟩ (zZ zi O) (reg Try.f41 5) (reg Try.f41 5).toList ([P,V,Y,Z,x4,U,Q,R,W,X,a,b,c,d,f,g,i,k,l,m,n,o,p,q,r,s,t,u,w,x,y,z,A,B,C,D,E,F,G,H,I,J,K,L,M,N]) S =
  (zN (wI zi BinOp.eql 3 (dem Q) (.int .i64 9) S) (fun v1 S1=>gdK (dem v1) true (ret R) S1 (fun v3 S2=>gdK (dem v1) true (wI zi BinOp.gtr 5 (dem v3) (Value.int IntKind.u8 1)) S2 (fun v4 S3=>zN (wX (dem v1) v4 (Value.bool false) S3) (fun v5 S4=>gdK (dem v5) false (ret Q) S4 (fun v7 S5=>gdK (dem v5) false (wI zi BinOp.gtr 3 (dem v7) (.int .i64 0)) S5 (fun v8 S6=>gdK (dem v5) false (ret v8) S6 (fun v9 S7=>gdK (dem v9) true (ret R) S7 (fun a0 S8=>gdK (dem v9) true (wI zi BinOp.eql 5 (dem a0) (Value.int IntKind.u8 0)) S8 (fun a1 S9=>gdK (dem v5) false (wX (dem v9) a1 (Value.bool false)) S9 (fun a2 a3=>zN (wX (dem v5) (Value.bool true) a2 a3) (fun a4 a5=>some ([P,V,Y,Z,x4,U,Q,R,W,X,a,b,c,d,f,dem Q,v1,dem v1,dem v3,v4,v5,dem v5,dem v7,v8,dem v9,dem a0,a1,a2,a4,x,y,z,A,B,C,D,E,F,G,H,I,J,K,L,M,N],a5)) ()) ()) ()) ()) ()) ()) ()) ()) ()) ()) ()):=by
 refine sP Try.f41 5 0 (v:=Q) ?_
 refine sD Try.f41 5 1 (fun v1 S1=>?_)
 refine sP Try.f41 5 2 (v:=v1) ?_
 refine sG Try.f41 5 3 (j:=2) (fun v3 S2=>?_)
 refine sG Try.f41 5 4 (j:=2) (fun v4 S3=>?_)
 refine sD Try.f41 5 5 (fun v5 S4=>?_)
 refine sP Try.f41 5 6 (v:=v5) ?_
 refine sG Try.f41 5 7 (j:=6) (fun v7 S5=>?_)
 refine sG Try.f41 5 8 (j:=6) (fun v8 S6=>?_)
 refine sG Try.f41 5 9 (j:=6) (fun v9 S7=>?_)
 refine sG Try.f41 5 10 (j:=9) (fun a0 S8=>?_)
 refine sG Try.f41 5 11 (j:=9) (fun a1 S9=>?_)
 refine sG Try.f41 5 12 (j:=6) (fun a2 a3=>?_)
 refine sD Try.f41 5 13 (fun a4 a5=>?_)
 kernel_rfl
theorem jC.r6 :jD zi ⟨false,false,false⟩ (zZ zi O) (reg Try.f41 6) (reg Try.f41 6).toList ([P,V,Y,Z,x4,U,Q,R,W,X,a,b,c,d,f,g,i,k,l,m,n,o,p,q,r,s,t,u,w,x,y,z,A,B,C,D,E,F,G,H,I,J,K,L,M,N]) S =
  (zN (wI zi BinOp.and 5 (dem R) (Value.int IntKind.u8 127) S) (fun v2 S1=>zN (qU zi false false 5 73 v2 S1) (fun v3 S2=>zN (wI zi BinOp.mul 3 (.int .i64 7) (dem Q) S2) (fun v5 S3=>zN (wI zi BinOp.shl 73 v3 v5 S3) (fun v6 S4=>zN (wI zi BinOp.or 73 (dem U) v6 S4) (fun v7 S5=>some ([P,V,Y,Z,x4,v7,Q,R,W,X,a,b,c,d,f,g,i,k,l,m,n,o,p,q,r,s,t,u,w,dem U,dem R,v2,v3,dem Q,v5,v6,dem v7,F,G,H,I,J,K,L,M,N],S5)) ()) ()) ()) ()) ()):=by
 kernel_rfl
theorem jC.r7 :jD zi ⟨false,false,false⟩ (zZ zi O) (reg Try.f41 7) (reg Try.f41 7).toList ([P,V,Y,Z,x4,U,Q,R,W,X,a,b,c,d,f,g,i,k,l,m,n,o,p,q,r,s,t,u,w,x,y,z,A,B,C,D,E,F,G,H,I,J,K,L,M,N]) S =
  (zN (wI zi BinOp.lss 5 (dem R) (Value.int IntKind.u8 128) S) (fun v1 S1=>some ([P,V,Y,Z,x4,U,Q,R,W,X,a,b,c,d,f,g,i,k,l,m,n,o,p,q,r,s,t,u,w,x,y,z,A,B,C,D,E,dem R,v1,H,I,J,K,L,M,N],S1)) ()):=by
 kernel_rfl
theorem jC.r8 :jD zi ⟨false,false,false⟩ (zZ zi O) (reg Try.f41 8) (reg Try.f41 8).toList ([P,V,Y,Z,x4,U,Q,R,W,X,a,b,c,d,f,g,i,k,l,m,n,o,p,q,r,s,t,u,w,x,y,z,A,B,C,D,E,F,G,H,I,J,K,L,M,N]) S =
  (zN (wI zi BinOp.add 3 (dem Q) (.int .i64 1) S) (fun v3 S1=>zN (ZU zi false 33 (dem P) (some v3) none S1) (fun v4 S2=>zN ((zZ zi O) 54 [(dem v4)] S2) (fun v5 S3=>some ([P,V,U,v5,.int .i64 0,dem U,Q,R,W,X,a,b,c,d,f,g,i,k,l,m,n,o,p,q,r,s,t,u,w,x,y,z,A,B,C,D,E,F,G,dem U,dem P,dem Q,v3,v4,dem v5,N],S3)) ()) ()) ()):=by
 kernel_rfl
theorem jC.r9 :jD zi ⟨false,false,false⟩ (zZ zi O) (reg Try.f41 9) (reg Try.f41 9).toList ([P,V,Y,Z,x4,U,Q,R,W,X,a,b,c,d,f,g,i,k,l,m,n,o,p,q,r,s,t,u,w,x,y,z,A,B,C,D,E,F,G,H,I,J,K,L,M,N]) S =
  (zN (wI zi BinOp.add 3 a (.int .i64 1) S) (fun v0 S1=>some ([P,V,Y,Z,x4,U,Q,R,W,X,dem v0,b,c,d,f,g,i,k,l,m,n,o,p,q,r,s,t,u,w,x,y,z,A,B,C,D,E,F,G,H,I,J,K,L,M,v0],S1)) ()):=by
 kernel_rfl
theorem jC.r10 :jD zi ⟨false,false,false⟩ (zZ zi O) (reg Try.f41 10) (reg Try.f41 10).toList ([P,V,Y,Z,x4,U,Q,R,W,X,a,b,c,d,f,g,i,k,l,m,n,o,p,q,r,s,t,u,w,x,y,z,A,B,C,D,E,F,G,H,I,J,K,L,M,N]) S =
  ( some ([P,V,Value.int IntKind.u64 0,Value.slice none 0 0,.int .i64 11,U,Q,R,W,X,a,b,c,d,f,g,i,k,l,m,n,o,p,q,r,s,t,u,w,x,y,z,A,B,C,D,E,F,G,H,I,J,K,L,M,N],S)):=by
 kernel_rfl
theorem jC.runs {P:Value} {S S1:zy} {e:AEx} {T:List Value} (h:zJ zi O false jC.code ([P,zh,zh,zh,zh,zh,zh,zh,zh,zh,zh,zh,zh,zh,zh,zh,zh,zh,zh,zh,zh,zh,zh,zh,zh,zh,zh,zh,zh,zh,zh,zh,zh,zh,zh,zh,zh,zh,zh,zh,zh,zh,zh,zh,zh,zh]) S=some (e,T,S1)) (he:e=.normal∨e=.ret)  (h0:wG (T.getD 2 zh)=true) (h1:wG (T.getD 3 zh)=true) (h2:wG (T.getD 4 zh)=true):zZ zi O 41 [P] S=some (Value.tuple #[T.getD 2 zh,T.getD 3 zh,T.getD 4 zh],S1) :=
 yL rfl rfl Try.func41 (by decide) jC.body (by exact h) he ((ql ((show zQ zi T S1 Try.f41.results.toList=zQ zi T S1 [(ResultVar.tmp 2),(ResultVar.tmp 3),(ResultVar.tmp 4)] from by kernel_rfl).trans (by simp only [zQ])) (by kernel_rfl) (by simp only [List.all_cons,List.all_nil,h0,h1,h2,Bool.and_true])).trans rfl)
end Go.Proofs.Ytfjogganfjkckaa
namespace Go.Proofs.Ytfjogganfjkckaa
open Go.Abs
abbrev yx.id:FuncId:=72
noncomputable def yx.jT:Code:=(.seq (.seq (.region 2 (reg Try.f72 2) false) (.cond (.tmp 5) Code.skip (.exit 0))) (.block 1 (.seq (.region 3 (reg Try.f72 3) false) (.region 4 (reg Try.f72 4) false))))
noncomputable def yx.code:Code:=(.seq (.region 0 (reg Try.f72 0) false) (.seq (.region 1 (reg Try.f72 1) false) (.seq (.block 0 (.loop yx.jT)) (.seq (.region 5 (reg Try.f72 5) false) Code.ret))))
theorem yx.body:Try.f72.body=some yx.code:=by kernel_rfl
theorem yx.eta {T:List Value} (h:T.length=19):T=[T.getD 0 zh,T.getD 1 zh,T.getD 2 zh,T.getD 3 zh,T.getD 4 zh,T.getD 5 zh,T.getD 6 zh,T.getD 7 zh,T.getD 8 zh,T.getD 9 zh,T.getD 10 zh,T.getD 11 zh,T.getD 12 zh,T.getD 13 zh,T.getD 14 zh,T.getD 15 zh,T.getD 16 zh,T.getD 17 zh,T.getD 18 zh]:=(qJ T 19 h).trans (by kernel_rfl)
theorem yx.list {T:List Value} (h:T.length=19):∃ b o v n p q r s t u c d f g i j k l m,T=[b,o,v,n,p,q,r,s,t,u,c,d,f,g,i,j,k,l,m]:=⟨_,_,_,_,_,_,_,_,_,_,_,_,_,_,_,_,_,_,_,yx.eta h⟩
variable (b o v n p q r s t u c d f g i j k l m:Value) (S:zy)
theorem yx.r0 :jD zi ⟨false,false,false⟩ (zZ zi O) (reg Try.f72 0) (reg Try.f72 0).toList ([b,o,v,n,p,q,r,s,t,u,c,d,f,g,i,j,k,l,m]) S =
  ( some ([b,o,Value.slice none 0 0,n,p,q,r,s,t,u,c,d,f,g,i,j,k,l,m],S)):=by
 kernel_rfl
theorem yx.r1 :jD zi ⟨false,false,false⟩ (zZ zi O) (reg Try.f72 1) (reg Try.f72 1).toList ([b,o,v,n,p,q,r,s,t,u,c,d,f,g,i,j,k,l,m]) S =
  ( some ([b,o,v,Value.slice none 0 0,p,q,r,s,t,u,c,d,f,g,i,j,k,l,m],S)):=by
 kernel_rfl
theorem yx.r2 :jD zi ⟨false,false,false⟩ (zZ zi O) (reg Try.f72 2) (reg Try.f72 2).toList ([b,o,v,n,p,q,r,s,t,u,c,d,f,g,i,j,k,l,m]) S =
  (zN (wI zi BinOp.geq 73 (dem b) (Value.int IntKind.u64 128) S) (fun A w=>some ([b,o,v,n,dem b,A,r,s,t,u,c,d,f,g,i,j,k,l,m],w)) ()):=by
 kernel_rfl
theorem yx.r3 :jD zi ⟨false,false,false⟩ (zZ zi O) (reg Try.f72 3) (reg Try.f72 3).toList ([b,o,v,n,p,q,r,s,t,u,c,d,f,g,i,j,k,l,m]) S =
  (zN (qU zi false false 73 5 (dem b) S) (fun x w=>zN (wI zi BinOp.or 5 x (Value.int IntKind.u8 128) w) (fun y B=>zN (jK zi 33 1 [(0,y)] B) (fun z C=>zN (wR zi 33 33 n z C) (fun D E=>some ([b,o,v,D,p,q,dem n,dem b,x,y,z,dem D,f,g,i,j,k,l,m],E)) ()) ()) ()) ()):=by
 kernel_rfl
theorem yx.r4 :jD zi ⟨false,false,false⟩ (zZ zi O) (reg Try.f72 4) (reg Try.f72 4).toList ([b,o,v,n,p,q,r,s,t,u,c,d,f,g,i,j,k,l,m]) S =
  (zN (wI zi BinOp.shr 73 (dem b) (Value.int IntKind.u64 7) S) (fun A w=>some ([A,o,v,n,p,q,r,s,t,u,c,d,dem b,dem A,i,j,k,l,m],w)) ()):=by
 kernel_rfl
theorem yx.r5 :jD zi ⟨false,false,false⟩ (zZ zi O) (reg Try.f72 5) (reg Try.f72 5).toList ([b,o,v,n,p,q,r,s,t,u,c,d,f,g,i,j,k,l,m]) S =
  (zN (qU zi false false 73 5 (dem b) S) (fun x w=>zN (jK zi 33 1 [(0,x)] w) (fun y B=>zN (wR zi 33 33 n y B) (fun z C=>some ([b,o,z,dem n,p,q,r,s,t,u,c,d,f,g,dem n,dem b,x,y,dem z],C)) ()) ()) ()):=by
 kernel_rfl
theorem yx.runs {b:Value} {S w:zy} {e:AEx} {T:List Value} (h:zJ zi O false yx.code ([b,zh,zh,zh,zh,zh,zh,zh,zh,zh,zh,zh,zh,zh,zh,zh,zh,zh,zh]) S=some (e,T,w)) (he:e=.normal∨e=.ret):zZ zi O 72 [b] S=some (T.getD 2 zh,w) :=
 yL rfl rfl Try.func72 (by decide) yx.body (by exact h) he (yH (a:=T.getD 2 zh) ((show zQ zi T w Try.f72.results.toList=zQ zi T w [(ResultVar.tmp 2)] from by kernel_rfl).trans (by simp only [zQ])) (by kernel_rfl))
end Go.Proofs.Ytfjogganfjkckaa
namespace Go.Proofs.Ytfjogganfjkckaa
open Go.Abs
abbrev jv.id:FuncId:=38
noncomputable def jv.jT:Code:=(.block 1 (.seq (.region 2 (reg Try.f38 2) false) (.seq (.region 3 (reg Try.f38 3) false) (.seq (.seq (.region 4 (reg Try.f38 4) false) (.cond (.tmp 12) (.seq (.region 5 (reg Try.f38 5) false) Code.ret) Code.skip)) (.region 6 (reg Try.f38 6) false)))))
noncomputable def jv.code:Code:=(.seq (.region 0 (reg Try.f38 0) false) (.seq (.region 1 (reg Try.f38 1) false) (.block 0 (.loop jv.jT))))
theorem jv.body:Try.f38.body=some jv.code:=by kernel_rfl
theorem jv.eta {T:List Value} (h:T.length=22):T=[T.getD 0 zh,T.getD 1 zh,T.getD 2 zh,T.getD 3 zh,T.getD 4 zh,T.getD 5 zh,T.getD 6 zh,T.getD 7 zh,T.getD 8 zh,T.getD 9 zh,T.getD 10 zh,T.getD 11 zh,T.getD 12 zh,T.getD 13 zh,T.getD 14 zh,T.getD 15 zh,T.getD 16 zh,T.getD 17 zh,T.getD 18 zh,T.getD 19 zh,T.getD 20 zh,T.getD 21 zh]:=(qJ T 22 h).trans (by kernel_rfl)
theorem jv.list {T:List Value} (h:T.length=22):∃ b s z r q u v w x y c d f g i j k l m n o p,T=[b,s,z,r,q,u,v,w,x,y,c,d,f,g,i,j,k,l,m,n,o,p]:=⟨_,_,_,_,_,_,_,_,_,_,_,_,_,_,_,_,_,_,_,_,_,_,jv.eta h⟩
variable (b s z r q u v w x y c d f g i j k l m n o p:Value) (S:zy)
theorem jv.r0 :jD zi ⟨false,false,false⟩ (zZ zi O) (reg Try.f38 0) (reg Try.f38 0).toList ([b,s,z,r,q,u,v,w,x,y,c,d,f,g,i,j,k,l,m,n,o,p]) S =
  ( some ([b,s,Value.slice none 0 0,r,q,u,v,w,x,y,c,d,f,g,i,j,k,l,m,n,o,p],S)):=by
 kernel_rfl
theorem jv.r1 :jD zi ⟨false,false,false⟩ (zZ zi O) (reg Try.f38 1) (reg Try.f38 1).toList ([b,s,z,r,q,u,v,w,x,y,c,d,f,g,i,j,k,l,m,n,o,p]) S =
  (zN (jK zi 33 0 [] S) (fun E t=>some ([b,s,z,E,q,dem E,v,w,x,y,c,d,f,g,i,j,k,l,m,n,o,p],t)) ()):=by
 kernel_rfl
theorem jv.r2 :jD zi ⟨false,false,false⟩ (zZ zi O) (reg Try.f38 2) (reg Try.f38 2).toList ([b,s,z,r,q,u,v,w,x,y,c,d,f,g,i,j,k,l,m,n,o,p]) S =
  (zN (wI zi BinOp.rem 73 (dem b) (Value.int IntKind.u64 128) S) (fun B t=>zN (qU zi false false 73 5 B t) (fun A C=>some ([b,s,z,r,A,u,dem b,B,dem A,y,c,d,f,g,i,j,k,l,m,n,o,p],C)) ()) ()):=by
 kernel_rfl
theorem jv.r3 :jD zi ⟨false,false,false⟩ (zZ zi O) (reg Try.f38 3) (reg Try.f38 3).toList ([b,s,z,r,q,u,v,w,x,y,c,d,f,g,i,j,k,l,m,n,o,p]) S =
  (zN (wI zi BinOp.quo 73 (dem b) (Value.int IntKind.u64 128) S) (fun B t=>some ([B,s,z,r,q,u,v,w,x,dem b,dem B,d,f,g,i,j,k,l,m,n,o,p],t)) ()):=by
 kernel_rfl
theorem jv.r4 :jD zi ⟨false,false,false⟩ (zZ zi O) (reg Try.f38 4) (reg Try.f38 4).toList ([b,s,z,r,q,u,v,w,x,y,c,d,f,g,i,j,k,l,m,n,o,p]) S =
  (zN (wI zi BinOp.eql 73 (dem b) (Value.int IntKind.u64 0) S) (fun B t=>some ([b,s,z,r,q,u,v,w,x,y,c,dem b,B,g,i,j,k,l,m,n,o,p],t)) ()):=by
 kernel_rfl
theorem jv.r5 :jD zi ⟨false,false,false⟩ (zZ zi O) (reg Try.f38 5) (reg Try.f38 5).toList ([b,s,z,r,q,u,v,w,x,y,c,d,f,g,i,j,k,l,m,n,o,p]) S =
  (zN (jK zi 33 1 [(0,(dem q))] S) (fun A t=>zN (wR zi 33 33 r A t) (fun D C=>some ([b,s,D,dem r,q,u,v,w,x,y,c,d,f,dem r,dem q,A,dem D,l,m,n,o,p],C)) ()) ()):=by
 kernel_rfl
theorem jv.r6 :jD zi ⟨false,false,false⟩ (zZ zi O) (reg Try.f38 6) (reg Try.f38 6).toList ([b,s,z,r,q,u,v,w,x,y,c,d,f,g,i,j,k,l,m,n,o,p]) S =
  (zN (wI zi BinOp.add 5 (dem q) (Value.int IntKind.u8 128) S) (fun A t=>zN (jK zi 33 1 [(0,A)] t) (fun D C=>zN (wR zi 33 33 r D C) (fun F G=>some ([b,s,z,F,q,u,v,w,x,y,c,d,f,g,i,j,k,dem r,dem q,A,D,dem F],G)) ()) ()) ()):=by
 kernel_rfl
theorem jv.runs {b:Value} {S t:zy} {e:AEx} {T:List Value} (h:zJ zi O false jv.code ([b,zh,zh,zh,zh,zh,zh,zh,zh,zh,zh,zh,zh,zh,zh,zh,zh,zh,zh,zh,zh,zh]) S=some (e,T,t)) (he:e=.normal∨e=.ret):zZ zi O 38 [b] S=some (T.getD 2 zh,t) :=
 yL rfl rfl Try.func38 (by decide) jv.body (by exact h) he (yH (a:=T.getD 2 zh) ((show zQ zi T t Try.f38.results.toList=zQ zi T t [(ResultVar.tmp 2)] from by kernel_rfl).trans (by simp only [zQ])) (by kernel_rfl))
end Go.Proofs.Ytfjogganfjkckaa
namespace Go.Proofs.Ytfjogganfjkckaa
open Go.Abs
def enc (n:Nat):List UInt8:=if n < 128 then [UInt8.ofNat n] else UInt8.ofNat (n % 128+128)::enc (n / 128)
termination_by n
decreasing_by omega
theorem Zj {n:Nat} (h:n < 128):enc n=[UInt8.ofNat n]:=by rw [enc,if_pos h]
theorem Yt {n:Nat} (h:¬ n < 128):enc n=UInt8.ofNat (n % 128+128)::enc (n / 128):=by rw [enc,if_neg h]
theorem wrap_u8 (n:Nat):IntKind.u8.wrap (n:Int)=((n % 256:Nat):Int):=by
 simp [IntKind.wrap,IntKind.bits,IntKind.signed]
theorem wrap_u64 (n:Nat):IntKind.u64.wrap (n:Int)=((n % 2 ^ 64:Nat):Int):=by
 simp [IntKind.wrap,IntKind.bits,IntKind.signed]
theorem ali:∀ m:Fin 256,orI .u8 (m.val:Int) 128=((m.val % 128+128:Nat):Int):=by decide +kernel
theorem ajV (n:Nat):orI .u8 (IntKind.u8.wrap (n:Int)) 128=((UInt8.ofNat (n % 128+128)).toNat:Int):=by
 rw [wrap_u8,ali ⟨n % 256,by omega⟩]
 simp only [UInt8.toNat_ofNat']
 omega
theorem ab7 {n:Nat}:IntKind.u8.wrap (n:Int)=((UInt8.ofNat n).toNat:Int):=by
 rw [wrap_u8]
 simp
theorem aly (n:Nat):(n:Int).fdiv (2 ^ min (Int.toNat 7) (IntKind.bits .u64))=((n / 128:Nat):Int):=by
 have:(2:Int) ^ min (Int.toNat 7) (IntKind.bits .u64)=128:=by decide
 rw [this,Int.fdiv_eq_ediv_of_nonneg _ (by omega)]
 omega
theorem agr (k:Nat):∀ n,n < 128 ^ (k+1)→(enc n).length≤k+1:=by
 induction k with
 | zero=>intro n h;rw [Zj (by omega)];simp
 | succ k ih =>
  intro n h
  by_cases hn:n < 128
  ·
   rw [Zj hn];simp
  ·
   rw [Yt hn]
   have:=ih (n / 128) (by rw [Nat.div_lt_iff_lt_mul (by omega)];exact h)
   simp only [List.length_cons];omega
theorem JB {n:Nat} (h:n < 2 ^ 64):(enc n).length≤10:=agr 9 n (Nat.lt_of_lt_of_le h (by decide))
theorem afE (n:Nat):(n:Int).tmod 128=((n % 128:Nat):Int):=by
 rw [Int.tmod_eq_emod_of_nonneg (by omega)];omega
theorem ajY (n:Nat) (h:n < 2 ^ 64):IntKind.u64.wrap ((n:Int).tdiv 128)=((n / 128:Nat):Int):=by
 rw [Int.tdiv_eq_ediv_of_nonneg (by omega),show (n:Int) / 128=((n / 128:Nat):Int) by omega,wrap_u64]
 omega
theorem alj (n:Nat):IntKind.u8.wrap ((n % 128:Nat):Int)=((UInt8.ofNat (n % 128)).toNat:Int):=ab7
theorem ajo (n:Nat):IntKind.u8.wrap (((UInt8.ofNat (n % 128)).toNat:Int)+128)=((UInt8.ofNat (n % 128+128)).toNat:Int):=by
 have:((UInt8.ofNat (n % 128)).toNat:Int)+128=((n % 128+128:Nat):Int):=by simp only [UInt8.toNat_ofNat'];omega
 rw [this];exact ab7
theorem agT:sv 2 1 0 []=by_ 2 []:=rfl
theorem ahP (x:UInt8):sv 2 1 1 [.int .u8 x.toNat]=by_ 2 [x]:=rfl
theorem acn {k:Nat} {l:List UInt8} {x:UInt8} {S:zy} (h:Okl k l) (hk:k≠1) (hl:l.length≤140737488355000):wR zi 33 33 (by_ k l) (by_ 2 [x]) S=some (by_ 2 (l++[x]),S):=by
 rw [xG h hk Okl.own (by simp;omega),if_neg (fun h=>by have:=h.2;simp at this)]
theorem yx.round:∀ (n:Nat) (l:List UInt8) (k:Nat) {T:List Value} {S:zy} {r:St},qE (zJ zi O false yx.jT) T S=r→T.length=19→T.getD 0 zh=.int .u64 n→T.getD 3 zh=by_ k l →
  Okl k l→k≠1→n * 2 ^ l.length < 2 ^ 64→∃ T' l' k' n',r=some (.exit 0,T',S)∧T'.length=19∧T'.getD 0 zh=.int .u64 (n':Nat)∧T'.getD 3 zh=by_ k' l' ∧
   Okl k' l'∧k'≠1∧n' < 128∧l'++[UInt8.ofNat n']=l++enc n:=by
 intro n
 induction n using Nat.strongRecOn with
 | _ n ih =>
  intro l k T S r hL hT h0 h3 hs hk hl
  obtain ⟨x0,x1,x2,x3,x4,x5,x6,x7,x8,x9,x10,x11,x12,x13,x14,x15,x16,x17,x18,hTe⟩:=yx.list hT
  rw [hTe] at h0 h3
  simp only [List.getD_cons_succ,List.getD_cons_zero] at h0 h3
  subst h0 h3
  have hr:zJ zi O false yx.jT T S=zJ zi O false yx.jT T S:=rfl
  by_cases hlt:n < 128
  ·
   have hd:decide ((128:Int)≤(n:Int))=false:=by simp;omega
   conv at hr =>
    rhs
    rw [hTe]
    simp only [yx.jT,zSs,reduceIte,zk,zn,zo,zq,yx.r2,hd]
   exact ⟨_,l,k,n,hL.symm.trans (wu hr (by simp)),rfl,rfl,rfl,hs,hk,hlt,by rw [Zj hlt]⟩
  ·
   have hd:decide ((128:Int)≤(n:Int))=true:=by simp;omega
   have hll:l.length < 64:=by
    have:2 ^ l.length < 2 ^ 64:=Nat.lt_of_le_of_lt (Nat.le_mul_of_pos_left _ (by omega)) hl
    exact (Nat.pow_lt_pow_iff_right (by omega)).1 this
   have e1:∀ x S,wR zi 33 33 (by_ k l) (by_ 2 [x]) S=some (by_ 2 (l++[x]),S):=fun x S=>acn hs hk (by omega)
   conv at hr =>
    rhs
    rw [hTe]
    simp only [yx.jT,zSs,reduceIte,zk,zn,zo,zq,yx.r2,hd,yx.r3,Jh,agd,ajV,Jp,ahP,e1,yx.r4,adn _ _ _ _ (show (0:Int)≤7 by omega),aly]
   have hmul:n / 128 * 2 ^ (l.length+1) < 2 ^ 64:=by
    refine Nat.lt_of_le_of_lt ?_ hl
    rw [Nat.pow_succ,Nat.mul_comm (2 ^ l.length) 2,← Nat.mul_assoc]
    exact Nat.mul_le_mul_right _ (by omega)
   obtain ⟨T',l',k',n',g1,g2,g3,g4,g5,g6,g7,g8⟩:=ih (n / 128) (by omega) _ 2 ((wZ hr).symm.trans hL) rfl rfl rfl Okl.own (by decide) (by simpa using hmul)
   refine ⟨T',l',k',n',g1,g2,g3,g4,g5,g6,g7,?_⟩
   rw [g8,Yt hlt,List.append_assoc];rfl
theorem yx.v (n:Nat) (hn:n < 2 ^ 64) (S:zy):zZ zi O yx.id [.int .u64 n] S=some (by_ 2 (enc n),S):=by
 obtain ⟨T,hTe⟩:∃ T,T=(.int .u64 n::zh::zh::zh::zh::zh::zh::zh::zh::zh::zh::zh::zh::zh::zh::zh::zh::zh::zh::[]):=⟨_,rfl⟩
 have hr:zJ zi O false yx.code T S=zJ zi O false yx.code T S:=rfl
 conv at hr =>
  rhs
  rw [hTe]
  simp only [yx.code,zSs,reduceIte,zk,zn,zo,zq,yx.r0,yx.r1]
 generalize hL:qE (zJ zi O false yx.jT) _ _=r at hr
 obtain ⟨T',l',k',n',rfl,g2,g3,g4,g5,g6,g7,g8⟩:=yx.round n [] 0 hL rfl rfl rfl Okl.none (by decide) (by simpa using hn)
 obtain ⟨x0,x1,x2,x3,x4,x5,x6,x7,x8,x9,x10,x11,x12,x13,x14,x15,x16,x17,x18,hT'⟩:=yx.list g2
 rw [hT'] at g3 g4
 simp only [List.getD_cons_succ,List.getD_cons_zero] at g3 g4
 subst g3 g4
 have hlen:l'.length+1=(enc n).length:=by simpa using congrArg List.length g8
 have h10:=JB hn
 have e1:∀ x S,wR zi 33 33 (by_ k' l') (by_ 2 [x]) S=some (by_ 2 (l'++[x]),S):=fun x S=>acn g5 g6 (by omega)
 conv at hr =>
  rhs
  rw [hT']
  simp only [zSs,reduceIte,zk,zn,zo,zq,yx.r5,Jh,ab7,Jp,ahP,e1]
 rw [hTe] at hr
 have:=yx.runs hr (.inr rfl)
 rw [List.nil_append] at g8
 rw [← g8]
 exact this
theorem jv.round:∀ (n:Nat) (l:List UInt8) {T:List Value} {S:zy} {r:St},qE (zJ zi O false jv.jT) T S=r→T.length=22→T.getD 0 zh=.int .u64 n→T.getD 3 zh=by_ 2 l →
  n * 2 ^ l.length < 2 ^ 64→l.length < 64→∃ T',r=some (.ret,T',S)∧T'.getD 2 zh=by_ 2 (l++enc n):=by
 intro n
 induction n using Nat.strongRecOn with
 | _ n ih =>
  intro l T S r hL hT h0 h3 hl hll
  obtain ⟨x0,x1,x2,x3,x4,x5,x6,x7,x8,x9,x10,x11,x12,x13,x14,x15,x16,x17,x18,x19,x20,x21,hTe⟩:=jv.list hT
  rw [hTe] at h0 h3
  simp only [List.getD_cons_succ,List.getD_cons_zero] at h0 h3
  subst h0 h3
  have hn:n < 2 ^ 64:=Nat.lt_of_le_of_lt (Nat.le_mul_of_pos_right _ (by exact Nat.two_pow_pos _)) hl
  have e1:∀ x S,wR zi 33 33 (by_ 2 l) (by_ 2 [x]) S=some (by_ 2 (l++[x]),S):=fun x S=>acn Okl.own (by decide) (by omega)
  have hr:zJ zi O false jv.jT T S=zJ zi O false jv.jT T S:=rfl
  conv at hr =>
   rhs
   rw [hTe]
   simp only [jv.jT,zSs,reduceIte,zk,zn,zo,zq,jv.r2,jv.r3,jv.r4,WS _ _ _ (show (128:Int)≠0 by omega),vw _ _ _ (show (128:Int)≠0 by omega),afE,ajY n hn,Jh,alj]
  by_cases hz:n / 128=0
  ·
   have hd:decide (((n / 128:Nat):Int)=0)=true:=by simp;omega
   conv at hr =>
    rhs
    simp only [hd,zSs,reduceIte,zk,zn,zo,zq,jv.r5,Jp,ahP,e1]
   refine ⟨_,hL.symm.trans (wu hr (by simp)),?_⟩
   rw [Zj (by omega)]
   simp only [List.getD_cons_succ,List.getD_cons_zero]
   rw [show n % 128=n by omega]
  ·
   have hd:decide (((n / 128:Nat):Int)=0)=false:=by simp;omega
   conv at hr =>
    rhs
    simp only [hd,zSs,reduceIte,zk,zn,zo,zq,jv.r6,ajo,Jp,ahP,e1]
   have hmul:n / 128 * 2 ^ (l.length+1) < 2 ^ 64:=by
    refine Nat.lt_of_le_of_lt ?_ hl
    rw [Nat.pow_succ,Nat.mul_comm (2 ^ l.length) 2,← Nat.mul_assoc]
    exact Nat.mul_le_mul_right _ (by omega)
   have hl2:l.length+1 < 64:=by
    have:2 ^ (l.length+1) < 2 ^ 64:=Nat.lt_of_le_of_lt (Nat.le_mul_of_pos_left _ (by omega)) hmul
    exact (Nat.pow_lt_pow_iff_right (by omega)).1 this
   obtain ⟨T',g1,g2⟩:=ih (n / 128) (by omega) _ ((wZ hr).symm.trans hL) rfl rfl rfl (by simpa using hmul) (by simpa using hl2)
   refine ⟨T',g1,?_⟩
   rw [g2,Yt (n:=n) (by omega),List.append_assoc]
   rfl
theorem jv.v (n:Nat) (hn:n < 2 ^ 64) (S:zy):zZ zi O jv.id [.int .u64 n] S=some (by_ 2 (enc n),S):=by
 obtain ⟨T,hTe⟩:∃ T,T=(.int .u64 n::zh::zh::zh::zh::zh::zh::zh::zh::zh::zh::zh::zh::zh::zh::zh::zh::zh::zh::zh::zh::zh::[]):=⟨_,rfl⟩
 have hr:zJ zi O false jv.code T S=zJ zi O false jv.code T S:=rfl
 conv at hr =>
  rhs
  rw [hTe]
  simp only [jv.code,zSs,reduceIte,zk,zn,zo,zq,jv.r0,jv.r1,Ze,agT]
 generalize hL:qE (zJ zi O false jv.jT) _ _=r at hr
 obtain ⟨T',rfl,g2⟩:=jv.round n [] hL rfl rfl rfl (by simpa using hn) (by simp)
 conv at hr =>
  rhs
  simp only [zSs,reduceIte,zk,zn,zo,zq]
 rw [hTe] at hr
 have hrun:=jv.runs hr (.inr rfl)
 rw [g2] at hrun
 exact hrun
end Go.Proofs.Ytfjogganfjkckaa
namespace Go.Proofs.Ytfjogganfjkckaa
open Go.Abs
theorem slices_Clone.v {k:Nat} {l:List UInt8} (h:Okl k l) (hk:k≠2) (hl:l.length≤140737488355328) (S:zy):zZ zi O slices_Clone.id [by_ k l] S=some (by_ (if k=0 then 0 else 2) l,S):=by
 obtain ⟨T,hTe⟩:∃ T,T=(by_ k l::zh::zh::zh::zh::zh::zh::zh::[]):=⟨_,rfl⟩
 have hr:zJ zi O false slices_Clone.code T S=zJ zi O false slices_Clone.code T S:=rfl
 conv at hr =>
  rhs
  rw [hTe]
  simp only [slices_Clone.code,zSs,reduceIte,zk,zn,zo,zq,slices_Clone.r0,slices_Clone.r1,if_neg hk,ahe h]
 by_cases h0:k=0
 ·
  have hl0:=h.nil h0
  subst h0 hl0
  conv at hr =>
   rhs
   simp only [decide_true,zSs,reduceIte,zk,zn,zo,zq,slices_Clone.r2]
  rw [hTe] at hr
  exact slices_Clone.runs hr (.inr rfl)
 ·
  have e1:∀ S,wR zi 33 33 (by_ 2 []) (by_ k l) S=some (by_ 2 l,S):=fun S=>by
   rw [xG Okl.own (by decide) h (by simpa using hl)];rfl
  conv at hr =>
   rhs
   simp only [h0,decide_false,zSs,reduceIte,zk,zn,zo,zq,slices_Clone.r3,Ze,agT,if_neg hk,e1]
  rw [hTe] at hr
  rw [if_neg h0]
  exact slices_Clone.runs hr (.inr rfl)
def scan:Nat→Nat→List UInt8→Option (Nat×List UInt8)
 | _,_,[]=>none
 | i,acc,x::r=>if (i=9∧1 < x.toNat)∨(0 < i∧x.toNat=0) then none else if x.toNat < 128 then some (acc+x.toNat * 128 ^ i,r) else scan (i+1) (acc+(x.toNat - 128) * 128 ^ i) r
def XL (l:List UInt8):Value :=
 match scan 0 0 l with
 | none=>.tuple #[.int .u64 0,.slice none 0 0,.int .i64 11]
 | some (m,rest)=>.tuple #[.int .u64 (m:Nat),by_ 2 rest,.int .i64 0]
theorem jC.stop (x0 x1 x2 x3 x4 x5 x6 x7 x8 x9 x10 x11 x12 x13 x14 x15 x16 x17 x18 x19 x20 x21 x22 x23 x24 x25 x26 x27 x28 x29 x30 x31 x32 x33 x34 x35 x36 x37 x38 x39 x40 x41 x42 x43 x44 x45:Value) (i x:Int) (S:zy) (h6:x6=.int .i64 i) (h7:x7=.int .u8 x):∃ y15 y16 y17 y18 y19 y20 y21 y22 y23 y24 y25 y26 y27,jD zi ⟨false,false,false⟩ (zZ zi O) (reg Try.f41 5) (reg Try.f41 5).toList (x0::x1::x2::x3::x4::x5::x6::x7::x8::x9::x10::x11::x12::x13::x14::x15::x16::x17::x18::x19::x20::x21::x22::x23::x24::x25::x26::x27::x28::x29::x30::x31::x32::x33::x34::x35::x36::x37::x38::x39::x40::x41::x42::x43::x44::x45::[]) S =
  some ((x0::x1::x2::x3::x4::x5::x6::x7::x8::x9::x10::x11::x12::x13::x14::y15::y16::y17::y18::y19::y20::y21::y22::y23::y24::y25::y26::y27::.bool (decide ((i=9∧1 < x)∨(0 < i∧x=0)))::x29::x30::x31::x32::x33::x34::x35::x36::x37::x38::x39::x40::x41::x42::x43::x44::x45::[]),S):=by
 subst h6 h7
 rw [jC.r5]
 simp only [zSs,reduceIte,zk,zn,zo,zq]
 rcases Bool.eq_false_or_eq_true (decide (i=9)) with d1 | d1 <;> rcases Bool.eq_false_or_eq_true (decide (1 < x)) with d2 | d2 <;> rcases Bool.eq_false_or_eq_true (decide (0 < i)) with d3 | d3 <;> rcases Bool.eq_false_or_eq_true (decide (x=0)) with d4 | d4 <;>
  simp only [d1,d2,d3,d4,zSs,reduceIte,zk,zn,zo,zq] <;> simp only [decide_eq_true_eq,decide_eq_false_iff_not] at d1 d2 d3 d4 <;>
  simp only [d1,d2,d3,d4,true_and,false_and,and_true,and_false,or_true,true_or,or_false,false_or,decide_true,decide_false,not_true,not_false_iff,zo,zn,and_self,or_self] <;> first | exact ⟨_,_,_,_,_,_,_,_,_,_,_,_,_,rfl⟩ | omega
theorem ako:∀ m:Fin 256,ak0 .u8 (m.val:Int) 127=((m.val % 128:Nat):Int):=by decide +kernel
theorem ahL (x:UInt8):ak0 .u8 (x.toNat:Int) 127=((x.toNat % 128:Nat):Int):=ako ⟨x.toNat,x.toNat_lt⟩
theorem ZR {n:Nat} (h:n < 2 ^ 64):IntKind.u64.wrap (n:Int)=(n:Int):=by
 rw [wrap_u64,Nat.mod_eq_of_lt h]
theorem ajP {a c i:Nat} (ha:a < 2 ^ i) (h:c * 2 ^ i < 2 ^ 64) (h2:a < 2 ^ 64):orI .u64 (a:Int) ((c * 2 ^ i:Nat):Int)=((a+c * 2 ^ i:Nat):Int):=by
 have hor:a ||| c * 2 ^ i=a+c * 2 ^ i:=by
  have:=Nat.shiftLeft_add_eq_or_of_lt ha c
  rw [Nat.shiftLeft_eq] at this
  rw [Nat.or_comm,← this,Nat.add_comm]
 have hlt:a ||| c * 2 ^ i < 2 ^ 64:=Nat.or_lt_two_pow h2 h
 unfold orI
 rw [BitVec.ofInt_natCast,BitVec.ofInt_natCast,BitVec.toNat_or,BitVec.toNat_ofNat,BitVec.toNat_ofNat]
 rw [show IntKind.bits .u64=64 from rfl,Nat.mod_eq_of_lt h2,Nat.mod_eq_of_lt h,ZR hlt,hor]
theorem alC {c i:Nat} (hi:i≤9) (h:c * 128 ^ i < 2 ^ 64):IntKind.u64.wrap ((c:Int) * 2 ^ (min (Int.toNat (7 * (i:Int))) (IntKind.bits .u64)))=((c * 2 ^ (7 * i):Nat):Int):=by
 have e1:min (Int.toNat (7 * (i:Int))) (IntKind.bits .u64)=7 * i:=by
  rw [show IntKind.bits .u64=64 from rfl];omega
 have e2:(128:Nat) ^ i=2 ^ (7 * i):=by rw [Nat.pow_mul]
 rw [e1,show (c:Int) * 2 ^ (7 * i)=((c * 2 ^ (7 * i):Nat):Int) by simp,ZR (by rw [← e2];exact h)]
theorem acY {l pre suf:List UInt8} {x:UInt8} (hl:l=pre++x::suf):(l.drop ((pre.length:Int)+1).toNat).take ((l.length:Int).toNat - ((pre.length:Int)+1).toNat)=suf:=by
 rw [show ((pre.length:Int)+1).toNat=pre.length+1 by omega,show (l.length:Int).toNat=l.length by omega,hl]
 rw [show pre++x::suf=(pre++[x])++suf by simp,show pre.length+1=(pre++[x]).length by simp,List.drop_left]
 rw [List.take_of_length_le];simp;omega
theorem jC.round {k:Nat} {l:List UInt8} (hv:Okl k l) (hk:k≠2) (hlen:l.length≤140737488355328) {S:zy}:∀ (suf pre:List UInt8) (acc:Nat) {T:List Value} {r:St},qE (zJ zi O false jC.jT) T S=r→T.length=46 →
  T.getD 0 zh=by_ k l→T.getD 8 zh=by_ k l→T.getD 9 zh=.int .i64 l.length→T.getD 10 zh=.int .i64 pre.length→T.getD 5 zh=.int .u64 acc→l=pre++suf→acc < 128 ^ pre.length→pre.length≤9 →
  ∃ e T',r=some (e,T',S)∧match scan pre.length acc suf with
   | none=>e=.exit 0∧T'.length=46
   | some (m,rest)=>e=.ret∧m < 2 ^ 64∧T'.getD 2 zh=.int .u64 m∧T'.getD 3 zh=by_ 2 rest∧T'.getD 4 zh=.int .i64 0:=by
 intro suf
 induction suf with
 | nil =>
  intro pre acc T r hL hT h0 h8 h9 h10 h5 hl hacc hpre
  obtain ⟨x0,x1,x2,x3,x4,x5,x6,x7,x8,x9,x10,x11,x12,x13,x14,x15,x16,x17,x18,x19,x20,x21,x22,x23,x24,x25,x26,x27,x28,x29,x30,x31,x32,x33,x34,x35,x36,x37,x38,x39,x40,x41,x42,x43,x44,x45,hTe⟩:=jC.list hT
  rw [hTe] at h0 h8 h9 h10 h5
  simp only [List.getD_cons_succ,List.getD_cons_zero] at h0 h8 h9 h10 h5
  subst h0 h8 h9 h10 h5
  have hr:zJ zi O false jC.jT T S=zJ zi O false jC.jT T S:=rfl
  have hd:decide ((pre.length:Int) < (l.length:Int))=false:=by rw [hl];simp
  conv at hr =>
   rhs
   rw [hTe]
   simp only [jC.jT,zSs,reduceIte,zk,zn,zo,zq,jC.r3,hd]
  exact ⟨_,_,hL.symm.trans (wu hr (by simp)),rfl,rfl⟩
 | cons x suf ih =>
  intro pre acc T r hL hT h0 h8 h9 h10 h5 hl hacc hpre
  obtain ⟨x0,x1,x2,x3,x4,x5,x6,x7,x8,x9,x10,x11,x12,x13,x14,x15,x16,x17,x18,x19,x20,x21,x22,x23,x24,x25,x26,x27,x28,x29,x30,x31,x32,x33,x34,x35,x36,x37,x38,x39,x40,x41,x42,x43,x44,x45,hTe⟩:=jC.list hT
  rw [hTe] at h0 h8 h9 h10 h5
  simp only [List.getD_cons_succ,List.getD_cons_zero] at h0 h8 h9 h10 h5
  subst h0 h8 h9 h10 h5
  have hr:zJ zi O false jC.jT T S=zJ zi O false jC.jT T S:=rfl
  have hlt:(pre.length:Int) < (l.length:Int):=by rw [hl];simp;omega
  have hd:decide ((pre.length:Int) < (l.length:Int))=true:=by simpa using hlt
  have k0:k≠0:=fun h=>by have:=hv.nil h;rw [this] at hl;simp at hl
  have e1:∀ S,jy zi 33 (by_ k l) (.int .i64 pre.length) S=some (EP [.int .u8 x.toNat],S):=fun S=>by
   rw [aif hv (by omega) hlt];rw [Xt hl]
  obtain ⟨y15,y16,y17,y18,y19,y20,y21,y22,y23,y24,y25,y26,y27,e3⟩:=jC.stop (by_ k l) x1 x2 x3 x4 (.int .u64 acc) (.int .i64 pre.length) (.int .u8 x.toNat) (by_ k l) (.int .i64 l.length) (.int .i64 pre.length) (.bool true) (.int .i64 pre.length) (EP [.int .u8 x.toNat]) (.int .u8 x.toNat) x15 x16 x17 x18 x19 x20 x21 x22 x23 x24 x25 x26 x27 x28 x29 x30 x31 x32 x33 x34 x35 x36 x37 x38 x39 x40 x41 x42 x43 x44 x45 (pre.length:Int) (x.toNat:Int) S rfl rfl
  conv at hr =>
   rhs
   rw [hTe]
   simp only [jC.jT,zSs,reduceIte,zk,zn,zo,zq,jC.r3,hd,jC.r4,e1,Ky,if_neg hk,e3]
  have hst:((pre.length:Int)=9∧1 < (x.toNat:Int)∨0 < (pre.length:Int)∧(x.toNat:Int)=0) ↔ ((pre.length=9∧1 < x.toNat)∨(0 < pre.length∧x.toNat=0)):=by omega
  by_cases hs:(pre.length=9∧1 < x.toNat)∨(0 < pre.length∧x.toNat=0)
  ·
   have hs2:=decide_eq_true (hst.2 hs)
   conv at hr =>
    rhs
    simp only [hs2,zSs,reduceIte,zk,zn,zo,zq]
   refine ⟨_,_,hL.symm.trans (wu hr (by simp)),?_⟩
   rw [scan,if_pos hs]
   exact ⟨rfl,rfl⟩
  ·
   have hs2:=decide_eq_false (fun h=>hs (hst.1 h))
   have hx256:=x.toNat_lt
   have hpw:128 ^ pre.length≤128 ^ 9:=Nat.pow_le_pow_right (by omega) hpre
   have hc64:x.toNat % 128 * 128 ^ pre.length < 2 ^ 64:=by
    by_cases h9:pre.length=9
    ·
     rw [h9];have:x.toNat % 128≤1:=by omega
     exact Nat.lt_of_le_of_lt (Nat.mul_le_mul_right _ this) (by decide)
    ·
     have h8:128 ^ pre.length≤128 ^ 8:=Nat.pow_le_pow_right (by omega) (by omega)
     exact Nat.lt_of_le_of_lt (Nat.mul_le_mul (by omega:x.toNat % 128≤127) h8) (by decide)
   have hm:IntKind.i64.wrap (7 * (pre.length:Int))=7 * (pre.length:Int):=wrap_i64 (by omega) (by omega)
   have e128:(128:Nat) ^ pre.length=2 ^ (7 * pre.length):=by rw [Nat.pow_mul]
   have hor:=ajP (a:=acc) (c:=x.toNat % 128) (i:=7 * pre.length) (by rw [← e128];exact hacc) (by rw [← e128];exact hc64) (Nat.lt_of_lt_of_le hacc (Nat.le_trans hpw (by decide)))
   conv at hr =>
    rhs
    simp only [hs2,zSs,reduceIte,zk,zn,zo,zq,jC.r6,ahR,ahL,Zn,ZR (show x.toNat % 128 < 2 ^ 64 by omega),hm,aaB _ _ _ _ (show (0:Int)≤7 * (pre.length:Int) by omega),alC hpre hc64,agd,hor,jC.r7]
   rw [← e128] at hr
   have hadd:acc+x.toNat % 128 * 128 ^ pre.length < 128 ^ (pre.length+1):=by
    rw [Nat.pow_succ]
    have:x.toNat % 128 * 128 ^ pre.length≤127 * 128 ^ pre.length:=Nat.mul_le_mul_right _ (by omega)
    omega
   have hi1:IntKind.i64.wrap ((pre.length:Int)+1)=(pre.length:Int)+1:=wrap_i64 (by omega) (by omega)
   by_cases hxs:x.toNat < 128
   ·
    have hd2:decide ((x.toNat:Int) < 128)=true:=by simp;omega
    have e4:∀ S,Jj zi 33 (by_ k l) (some (.int .i64 ((pre.length:Int)+1))) none S=some (by_ k suf,S):=fun S=>by
     rw [adI hv (lo:=some (.int .i64 ((pre.length:Int)+1))) (hi:=none) (i:=(pre.length:Int)+1) (j:=l.length) rfl rfl (by omega) (by omega) (by omega),acY hl,if_neg hk]
    have ok2:Okl k suf:=⟨hv.le,fun h=>absurd h k0⟩
    have e5:∀ S,zZ zi O slices_Clone.id [by_ k suf] S=some (by_ 2 suf,S):=fun S=>by
     rw [slices_Clone.v ok2 hk (by have:=congrArg List.length hl;simp at this;omega),if_neg k0]
    conv at hr =>
     rhs
     simp only [hd2,zSs,reduceIte,zk,zn,zo,zq,jC.r8,hi1,if_neg hk,e4,e5]
    refine ⟨_,_,hL.symm.trans (wu hr (by simp)),?_⟩
    rw [scan,if_neg hs,if_pos hxs]
    have hxm:x.toNat % 128=x.toNat:=by omega
    rw [hxm]
    refine ⟨rfl,?_,rfl,rfl,rfl⟩
    rw [hxm] at hadd
    by_cases h9:pre.length=9
    ·
     rw [h9] at hacc ⊢
     have:x.toNat≤1:=by omega
     have h1:x.toNat * 128 ^ 9≤1 * 128 ^ 9:=Nat.mul_le_mul_right _ this
     have h2:(128:Nat) ^ 9+1 * 128 ^ 9=2 ^ 64:=by decide
     omega
    ·
     have h8:128 ^ (pre.length+1)≤128 ^ 9:=Nat.pow_le_pow_right (by omega) (by omega)
     exact Nat.lt_of_lt_of_le hadd (Nat.le_trans h8 (by decide))
   ·
    have hd2:decide ((x.toNat:Int) < 128)=false:=by simp;omega
    conv at hr =>
     rhs
     simp only [hd2,zSs,reduceIte,zk,zn,zo,zq,jC.r9,hi1]
    obtain ⟨e,T',g1,g3⟩:=ih (pre++[x]) (acc+x.toNat % 128 * 128 ^ pre.length) ((wZ hr).symm.trans hL) rfl rfl rfl rfl (by simp) rfl (by simp [hl]) (by simpa using hadd) (by simp;omega)
    refine ⟨e,T',g1,?_⟩
    rw [scan,if_neg hs,if_neg hxs]
    have hxm:x.toNat % 128=x.toNat - 128:=by omega
    rw [hxm] at g3
    simpa using g3
theorem jC.v {k:Nat} {l:List UInt8} (hv:Okl k l) (hk:k≠2) (hlen:l.length≤140737488355328) (S:zy):zZ zi O jC.id [by_ k l] S=some (XL l,S):=by
 obtain ⟨T,hTe⟩:∃ T,T=(by_ k l::zh::zh::zh::zh::zh::zh::zh::zh::zh::zh::zh::zh::zh::zh::zh::zh::zh::zh::zh::zh::zh::zh::zh::zh::zh::zh::zh::zh::zh::zh::zh::zh::zh::zh::zh::zh::zh::zh::zh::zh::zh::zh::zh::zh::zh::[]):=⟨_,rfl⟩
 have hr:zJ zi O false jC.code T S=zJ zi O false jC.code T S:=rfl
 conv at hr =>
  rhs
  rw [hTe]
  simp only [jC.code,zSs,reduceIte,zk,zn,zo,zq,jC.r0,jC.r1,jC.r2,if_neg hk,ZP hv]
 generalize hL:qE (zJ zi O false jC.jT) _ _=r at hr
 obtain ⟨e,T',rfl,g3⟩:=jC.round hv hk hlen l [] 0 hL rfl rfl rfl rfl rfl rfl rfl (by simp) (by simp)
 simp only [List.length_nil] at g3
 unfold XL
 cases hsc:scan 0 0 l with
 | none =>
  rw [hsc] at g3
  obtain ⟨rfl,hT'⟩:=g3
  obtain ⟨x0,x1,x2,x3,x4,x5,x6,x7,x8,x9,x10,x11,x12,x13,x14,x15,x16,x17,x18,x19,x20,x21,x22,x23,x24,x25,x26,x27,x28,x29,x30,x31,x32,x33,x34,x35,x36,x37,x38,x39,x40,x41,x42,x43,x44,x45,hTe'⟩:=jC.list hT'
  conv at hr =>
   rhs
   rw [hTe']
   simp only [zSs,reduceIte,zk,zn,zo,zq,jC.r10]
  rw [hTe] at hr
  exact jC.runs hr (.inr rfl) rfl rfl rfl
 | some mr =>
  obtain ⟨m,rest⟩:=mr
  rw [hsc] at g3
  obtain ⟨rfl,hm,h2,h3,h4⟩:=g3
  conv at hr =>
   rhs
   simp only [zSs,reduceIte,zk,zn,zo,zq]
  rw [hTe] at hr
  have hrun:=jC.runs hr (.inr rfl) (by rw [h2];rfl) (by rw [h3];exact wJ) (by rw [h4];rfl)
  rw [h2,h3,h4] at hrun
  exact hrun
theorem Xn:∀ (suf:List UInt8) (i acc:Nat),acc < 128 ^ i→i≤9→∀ m rest,scan i acc suf=some (m,rest)→m < 2 ^ 64∧rest.length < suf.length:=by
 intro suf
 induction suf with
 | nil=>intro i acc _ _ m rest h;cases h
 | cons x suf ih =>
  intro i acc hacc hi m rest h
  rw [scan] at h
  have hx256:=x.toNat_lt
  split at h
  ·
   cases h
  ·
   rename_i hs
   split at h
   ·
    rename_i hx
    cases h
    refine ⟨?_,by simp⟩
    by_cases h9:i=9
    ·
     subst h9
     have:x.toNat≤1:=by omega
     have h1:x.toNat * 128 ^ 9≤1 * 128 ^ 9:=Nat.mul_le_mul_right _ this
     have h2:(128:Nat) ^ 9+1 * 128 ^ 9=2 ^ 64:=by decide
     omega
    ·
     have h8:128 ^ (i+1)≤128 ^ 9:=Nat.pow_le_pow_right (by omega) (by omega)
     have h3:acc+x.toNat * 128 ^ i < 128 ^ (i+1):=by
      rw [Nat.pow_succ]
      have:x.toNat * 128 ^ i≤127 * 128 ^ i:=Nat.mul_le_mul_right _ (by omega)
      omega
     exact Nat.lt_of_lt_of_le h3 (Nat.le_trans h8 (by decide))
   ·
    rename_i hx
    have h9:i≠9:=by omega
    have hadd:acc+(x.toNat - 128) * 128 ^ i < 128 ^ (i+1):=by
     rw [Nat.pow_succ]
     have:(x.toNat - 128) * 128 ^ i≤127 * 128 ^ i:=Nat.mul_le_mul_right _ (by omega)
     omega
    obtain ⟨h1,h2⟩:=ih (i+1) _ hadd (by omega) m rest h
    exact ⟨h1,by simp;omega⟩
end Go.Proofs.Ytfjogganfjkckaa
