/-
The law GateRuns returns true for every input, and leaves it as it was; no condition. Part 4 of 7 of the texts (put together by a program: own names are short, what isn't needed is left out).
-/
import Derived.Test.YtfjogganfjkckaaZGateRuns3
import Derived.Test.YtfjogganfjkckaaChecked
import Derived.KernelRfl
set_option linter.unusedVariables false
set_option linter.unusedSimpArgs false
set_option maxRecDepth 100000
open Go renaming undef → zh
open Go.Proofs.Try renaming prog → zi
open Nat renaming reduceEqDiff → zk
open Int renaming reduceEq → zn
open Int renaming reduceLT → zo
open Int renaming reduceLE → zq
open Go renaming Value → zu
namespace Go.Proofs.Ytfjogganfjkckaa
open Go.Abs
theorem Q9 :zi.underlying 3=some (TypeDesc.int IntKind.i64):=by kernel_rfl
theorem KR :y7 zi 3=some 1:=by kernel_rfl
theorem oK :bytesOf zi 3=some 8:=by kernel_rfl
theorem Di :zeroOf zi 3=(some (Value.int IntKind.i64 0)):=by kernel_rfl
theorem Zo :vK zi 3=some false:=by kernel_rfl
theorem Dh :zeroOf zi 4=(some (Value.bool false)):=by kernel_rfl
theorem VY :zi.underlying 5=some (TypeDesc.int IntKind.u8):=by kernel_rfl
theorem XG :y7 zi 5=some 1:=by kernel_rfl
theorem oL :bytesOf zi 5=some 1:=by kernel_rfl
theorem Dk :zeroOf zi 5=(some (Value.int IntKind.u8 0)):=by kernel_rfl
theorem uK :vK zi 5=some false:=by kernel_rfl
theorem dN :zi.underlying 9=some TypeDesc.string:=by kernel_rfl
theorem Dj :zeroOf zi 9=(some (Value.string { data:=#[] })):=by kernel_rfl
theorem KX :zi.underlying 24=some (TypeDesc.slice 3):=by kernel_rfl
theorem uH :vK zi 24=some false:=by kernel_rfl
theorem FC :zi.underlying 28=some (TypeDesc.slice 35):=by kernel_rfl
theorem VW :zi.underlying 29=some (TypeDesc.slice 33):=by kernel_rfl
theorem Tf :y7 zi 29=some 1:=by kernel_rfl
theorem NS :vK zi 29=some false:=by kernel_rfl
theorem dM :zi.underlying 30=some (TypeDesc.slice 46):=by kernel_rfl
theorem Ti :y7 zi 30=some 1:=by kernel_rfl
theorem NT :vK zi 30=some false:=by kernel_rfl
theorem ED :y7 zi 32=some 3:=by kernel_rfl
theorem NY :vK zi 32=some true:=by kernel_rfl
theorem WW :zi.underlying 33=some (TypeDesc.slice 5):=by kernel_rfl
theorem mM :y7 zi 33=some 1:=by kernel_rfl
theorem Ip :bytesOf zi 33=some 24:=by kernel_rfl
theorem PO :zeroOf zi 33=(some (Value.slice none 0 0)):=by kernel_rfl
theorem iH :vK zi 33=some false:=by kernel_rfl
theorem mP :y7 zi 35=some 2:=by kernel_rfl
theorem NW :vK zi 35=some true:=by kernel_rfl
theorem U7 :zi.underlying 43=some (TypeDesc.struct #[{ name:= "ID",type:=3,offset:=0,embedded:=false,tag:= "",pkgPath:= "",byteOffset:=0 },{ name:= "Fee",type:=3,offset:=1,embedded:=false,tag:= "",pkgPath:= "",byteOffset:=8 }]):=by kernel_rfl
theorem Qh :y7 zi 43=some 2:=by kernel_rfl
theorem Ir :bytesOf zi 43=some 16:=by kernel_rfl
theorem PU :zeroOf zi 43=(some (Value.agg #[(Value.int IntKind.i64 0),(Value.int IntKind.i64 0)])):=by kernel_rfl
theorem iJ :vK zi 43=some true:=by kernel_rfl
theorem VX :zi.underlying 44=some (TypeDesc.slice 43):=by kernel_rfl
theorem NU :vK zi 44=some false:=by kernel_rfl
theorem QW :y7 zi 46=some 5:=by kernel_rfl
theorem Iq :bytesOf zi 46=some 56:=by kernel_rfl
theorem PS :zeroOf zi 46=(some (Value.agg #[(Value.int IntKind.i64 0),(Value.int IntKind.i64 0),(Value.int IntKind.i64 0),(Value.int IntKind.i64 0),(Value.slice none 0 0)])):=by kernel_rfl
theorem iI :vK zi 46=some true:=by kernel_rfl
theorem mO :y7 zi 48=some 13:=by kernel_rfl
theorem NV :vK zi 48=some true:=by kernel_rfl
theorem FH :zi.underlying 59=some (TypeDesc.map 9 4):=by kernel_rfl
theorem uJ :vK zi 59=some false:=by kernel_rfl
theorem nC :zi.underlying 60=some (TypeDesc.map 3 9):=by kernel_rfl
theorem uI :vK zi 60=some false:=by kernel_rfl
theorem dO :zi.underlying 73=some (TypeDesc.int IntKind.u64):=by kernel_rfl
theorem FD :zi.underlying 126=some (TypeDesc.map 3 4):=by kernel_rfl
theorem Nc (q o:Nat) (S:zS):jf zi 32 (.pointer (some ⟨q,o,none⟩)) 0 S=some (.pointer (some ⟨q,o+0,none⟩),S):=by kernel_rfl
theorem Ve (q o:Nat) (S:zS):jf zi 32 (.pointer (some ⟨q,o,none⟩)) 1 S=some (.pointer (some ⟨q,o+1,none⟩),S):=by kernel_rfl
theorem uf (q o:Nat) (S:zS):jf zi 32 (.pointer (some ⟨q,o,none⟩)) 2 S=some (.pointer (some ⟨q,o+2,none⟩),S):=by kernel_rfl
theorem tY (q o:Nat) (S:zS):jf zi 35 (.pointer (some ⟨q,o,none⟩)) 0 S=some (.pointer (some ⟨q,o+0,none⟩),S):=by kernel_rfl
theorem tZ (q o:Nat) (S:zS):jf zi 35 (.pointer (some ⟨q,o,none⟩)) 1 S=some (.pointer (some ⟨q,o+1,none⟩),S):=by kernel_rfl
theorem Y5 (q o:Nat) (S:zS):jf zi 43 (.pointer (some ⟨q,o,none⟩)) 0 S=some (.pointer (some ⟨q,o+0,none⟩),S):=by kernel_rfl
theorem Vb (q o:Nat) (S:zS):jf zi 43 (.pointer (some ⟨q,o,none⟩)) 1 S=some (.pointer (some ⟨q,o+1,none⟩),S):=by kernel_rfl
theorem kV (q o:Nat) (S:zS):jf zi 46 (.pointer (some ⟨q,o,none⟩)) 0 S=some (.pointer (some ⟨q,o+0,none⟩),S):=by kernel_rfl
theorem qY (q o:Nat) (S:zS):jf zi 46 (.pointer (some ⟨q,o,none⟩)) 1 S=some (.pointer (some ⟨q,o+1,none⟩),S):=by kernel_rfl
theorem kW (q o:Nat) (S:zS):jf zi 46 (.pointer (some ⟨q,o,none⟩)) 2 S=some (.pointer (some ⟨q,o+2,none⟩),S):=by kernel_rfl
theorem xA (q o:Nat) (S:zS):jf zi 46 (.pointer (some ⟨q,o,none⟩)) 3 S=some (.pointer (some ⟨q,o+3,none⟩),S):=by kernel_rfl
theorem xB (q o:Nat) (S:zS):jf zi 46 (.pointer (some ⟨q,o,none⟩)) 4 S=some (.pointer (some ⟨q,o+4,none⟩),S):=by kernel_rfl
theorem jE (q o:Nat) (S:zS):jf zi 48 (.pointer (some ⟨q,o,none⟩)) 0 S=some (.pointer (some ⟨q,o+0,none⟩),S):=by kernel_rfl
theorem jU (q o:Nat) (S:zS):jf zi 48 (.pointer (some ⟨q,o,none⟩)) 1 S=some (.pointer (some ⟨q,o+1,none⟩),S):=by kernel_rfl
theorem wM (q o:Nat) (S:zS):jf zi 48 (.pointer (some ⟨q,o,none⟩)) 2 S=some (.pointer (some ⟨q,o+2,none⟩),S):=by kernel_rfl
theorem wP (q o:Nat) (S:zS):jf zi 48 (.pointer (some ⟨q,o,none⟩)) 3 S=some (.pointer (some ⟨q,o+3,none⟩),S):=by kernel_rfl
theorem jX (q o:Nat) (S:zS):jf zi 48 (.pointer (some ⟨q,o,none⟩)) 4 S=some (.pointer (some ⟨q,o+4,none⟩),S):=by kernel_rfl
theorem wY (q o:Nat) (S:zS):jf zi 48 (.pointer (some ⟨q,o,none⟩)) 5 S=some (.pointer (some ⟨q,o+5,none⟩),S):=by kernel_rfl
theorem wQ (q o:Nat) (S:zS):jf zi 48 (.pointer (some ⟨q,o,none⟩)) 6 S=some (.pointer (some ⟨q,o+6,none⟩),S):=by kernel_rfl
theorem wz (q o:Nat) (S:zS):jf zi 48 (.pointer (some ⟨q,o,none⟩)) 7 S=some (.pointer (some ⟨q,o+8,none⟩),S):=by kernel_rfl
theorem Nb (q o:Nat) (S:zS):jf zi 62 (.pointer (some ⟨q,o,none⟩)) 0 S=some (.pointer (some ⟨q,o+0,none⟩),S):=by kernel_rfl
theorem YA (q o:Nat) (S:zS):jf zi 62 (.pointer (some ⟨q,o,none⟩)) 1 S=some (.pointer (some ⟨q,o+1,none⟩),S):=by kernel_rfl
theorem Vd (q o:Nat) (S:zS):jf zi 62 (.pointer (some ⟨q,o,none⟩)) 2 S=some (.pointer (some ⟨q,o+2,none⟩),S):=by kernel_rfl
theorem OY {q:Nat}{x0 x1 x2:zu}{own:Own}{e:Nat}{S:zS}(h:S.get q=some (.cells [x0,x1,x2] own e)):zZ zi false 32 (.pointer (some ⟨q,0,none⟩)) S=some (.agg [yh x0,yh x1,yh x2].toArray,S):=(Xv (o:=0) h NY ED (by simp)).trans (by simp)
theorem Cb {fx:Bool}{x0 x1:zu}{S:zS}:zZ zi fx 35 (EP [x0,x1]) S=some (.agg [x0,x1].toArray,S):=nN NW mP rfl
theorem WS {fx:Bool}{x0 x1:zu}{S:zS}:zZ zi fx 43 (EP [x0,x1]) S=some (.agg [x0,x1].toArray,S):=nN iJ Qh rfl
theorem iZ {q:Nat}{x0 x1:zu}{own:Own}{e:Nat}{S:zS}(h:S.get q=some (.cells [x0,x1] own e)):zZ zi false 43 (.pointer (some ⟨q,0,none⟩)) S=some (.agg [yh x0,yh x1].toArray,S):=(Xv (o:=0) h iJ Qh (by simp)).trans (by simp)
theorem BZ {fx:Bool}{x0 x1 x2 x3 x4:zu}{S:zS}:zZ zi fx 46 (EP [x0,x1,x2,x3,x4]) S=some (.agg [x0,x1,x2,x3,x4].toArray,S):=nN iI QW rfl
theorem OW {q:Nat}{x0 x1 x2 x3 x4:zu}{own:Own}{e:Nat}{S:zS}(h:S.get q=some (.cells [x0,x1,x2,x3,x4] own e)):zZ zi false 46 (.pointer (some ⟨q,0,none⟩)) S=some (.agg [yh x0,yh x1,yh x2,yh x3,yh x4].toArray,S):=(Xv (o:=0) h iI QW (by simp)).trans (by simp)
theorem OX {q:Nat}{x0 x1 x2 x3 x4 x5 x6 x7 x8 x9 x10 x11 x12:zu}{own:Own}{e:Nat}{S:zS}(h:S.get q=some (.cells [x0,x1,x2,x3,x4,x5,x6,x7,x8,x9,x10,x11,x12] own e)):zZ zi false 48 (.pointer (some ⟨q,0,none⟩)) S=some (.agg [yh x0,yh x1,yh x2,yh x3,yh x4,yh x5,yh x6,yh x7,yh x8,yh x9,yh x10,yh x11,yh x12].toArray,S):=(Xv (o:=0) h NV mO (by simp)).trans (by simp)
theorem IE {y0:zu}(h0:y0.cells=#[y0]) (S:zS):wS zi 32 [(0,y0)] S=some (.agg [y0,(Value.slice none 0 0),(Value.slice none 0 0)].toArray,S):=by
 rw[show wS zi 32 [(0,y0)] S=(match kX ([(0,1),(1,1),(2,1)][·]?) [(Value.slice none 0 0),(Value.slice none 0 0),(Value.slice none 0 0)] [(0,y0)]with |some l=>some (.agg l.toArray,S) |none=>none) from by kernel_rfl]
 simp[kX,splice,Zf,h0]
theorem yR  (S:zS):wS zi 43 [] S=some (.agg [(Value.int IntKind.i64 0),(Value.int IntKind.i64 0)].toArray,S):=by kernel_rfl
theorem IC {y0:zu}(h0:y0.cells=#[y0]) (S:zS):wS zi 43 [(0,y0)] S=some (.agg [y0,(Value.int IntKind.i64 0)].toArray,S):=by
 rw[show wS zi 43 [(0,y0)] S=(match kX ([(0,1),(1,1)][·]?) [(Value.int IntKind.i64 0),(Value.int IntKind.i64 0)] [(0,y0)]with |some l=>some (.agg l.toArray,S) |none=>none) from by kernel_rfl]
 simp[kX,splice,Zf,h0]
theorem ah {y0 y1:zu}(h0:y0.cells=#[y0]) (h1:y1.cells=#[y1]) (S:zS):wS zi 43 [(0,y0),(1,y1)] S=some (.agg [y0,y1].toArray,S):=by
 rw[show wS zi 43 [(0,y0),(1,y1)] S=(match kX ([(0,1),(1,1)][·]?) [(Value.int IntKind.i64 0),(Value.int IntKind.i64 0)] [(0,y0),(1,y1)]with |some l=>some (.agg l.toArray,S) |none=>none) from by kernel_rfl]
 simp[kX,splice,Zf,h0,h1]
theorem fD  (S:zS):wS zi 46 [] S=some (.agg [(Value.int IntKind.i64 0),(Value.int IntKind.i64 0),(Value.int IntKind.i64 0),(Value.int IntKind.i64 0),(Value.slice none 0 0)].toArray,S):=by kernel_rfl
theorem Iy {y0 y1:zu}(h0:y0.cells=#[y0]) (h1:y1.cells=#[y1]) (S:zS):wS zi 46 [(0,y0),(1,y1)] S=some (.agg [y0,y1,(Value.int IntKind.i64 0),(Value.int IntKind.i64 0),(Value.slice none 0 0)].toArray,S):=by
 rw[show wS zi 46 [(0,y0),(1,y1)] S=(match kX ([(0,1),(1,1),(2,1),(3,1),(4,1)][·]?) [(Value.int IntKind.i64 0),(Value.int IntKind.i64 0),(Value.int IntKind.i64 0),(Value.int IntKind.i64 0),(Value.slice none 0 0)] [(0,y0),(1,y1)]with |some l=>some (.agg l.toArray,S) |none=>none) from by kernel_rfl]
 simp[kX,splice,Zf,h0,h1]
theorem oM {y0 y1 y2 y3 y4:zu}(h0:y0.cells=#[y0]) (h1:y1.cells=#[y1]) (h2:y2.cells=#[y2]) (h3:y3.cells=#[y3]) (h4:y4.cells=#[y4]) (S:zS):wS zi 46 [(0,y0),(1,y1),(2,y2),(3,y3),(4,y4)] S=some (.agg [y0,y1,y2,y3,y4].toArray,S):=by
 rw[show wS zi 46 [(0,y0),(1,y1),(2,y2),(3,y3),(4,y4)] S=(match kX ([(0,1),(1,1),(2,1),(3,1),(4,1)][·]?) [(Value.int IntKind.i64 0),(Value.int IntKind.i64 0),(Value.int IntKind.i64 0),(Value.int IntKind.i64 0),(Value.slice none 0 0)] [(0,y0),(1,y1),(2,y2),(3,y3),(4,y4)]with |some l=>some (.agg l.toArray,S) |none=>none) from by kernel_rfl]
 simp[kX,splice,Zf,h0,h1,h2,h3,h4]
theorem Iz {y0 y1 y4:zu}(h0:y0.cells=#[y0]) (h1:y1.cells=#[y1]) (h4:y4.cells=#[y4]) (S:zS):wS zi 46 [(0,y0),(1,y1),(4,y4)] S=some (.agg [y0,y1,(Value.int IntKind.i64 0),(Value.int IntKind.i64 0),y4].toArray,S):=by
 rw[show wS zi 46 [(0,y0),(1,y1),(4,y4)] S=(match kX ([(0,1),(1,1),(2,1),(3,1),(4,1)][·]?) [(Value.int IntKind.i64 0),(Value.int IntKind.i64 0),(Value.int IntKind.i64 0),(Value.int IntKind.i64 0),(Value.slice none 0 0)] [(0,y0),(1,y1),(4,y4)]with |some l=>some (.agg l.toArray,S) |none=>none) from by kernel_rfl]
 simp[kX,splice,Zf,h0,h1,h4]
theorem oN  (S:zS):wS zi 48 [] S=some (.agg [(Value.int IntKind.i64 0),(Value.int IntKind.i64 0),(Value.int IntKind.i64 0),(Value.int IntKind.i64 0),(Value.int IntKind.i64 0),(Value.int IntKind.i64 0),(Value.int IntKind.i64 0),(Value.int IntKind.i64 0),(Value.int IntKind.i64 0),(Value.int IntKind.i64 0),(Value.int IntKind.i64 0),(Value.int IntKind.i64 0),(Value.slice none 0 0)].toArray,S):=by kernel_rfl
theorem Ky {y0 y1:zu}(h0:y0.cells=#[y0]) (h1:y1.cells=#[y1]) (S:zS):wS zi 48 [(0,y0),(1,y1)] S=some (.agg [y0,y1,(Value.int IntKind.i64 0),(Value.int IntKind.i64 0),(Value.int IntKind.i64 0),(Value.int IntKind.i64 0),(Value.int IntKind.i64 0),(Value.int IntKind.i64 0),(Value.int IntKind.i64 0),(Value.int IntKind.i64 0),(Value.int IntKind.i64 0),(Value.int IntKind.i64 0),(Value.slice none 0 0)].toArray,S):=by
 rw[show wS zi 48 [(0,y0),(1,y1)] S=(match kX ([(0,1),(1,1),(2,1),(3,1),(4,1),(5,1),(6,2),(8,5)][·]?) [(Value.int IntKind.i64 0),(Value.int IntKind.i64 0),(Value.int IntKind.i64 0),(Value.int IntKind.i64 0),(Value.int IntKind.i64 0),(Value.int IntKind.i64 0),(Value.int IntKind.i64 0),(Value.int IntKind.i64 0),(Value.int IntKind.i64 0),(Value.int IntKind.i64 0),(Value.int IntKind.i64 0),(Value.int IntKind.i64 0),(Value.slice none 0 0)] [(0,y0),(1,y1)]with |some l=>some (.agg l.toArray,S) |none=>none) from by kernel_rfl]
 simp[kX,splice,Zf,h0,h1]
theorem oO {y0 y1 y2 y3 y4 y5:zu}(h0:y0.cells=#[y0]) (h1:y1.cells=#[y1]) (h2:y2.cells=#[y2]) (h3:y3.cells=#[y3]) (h4:y4.cells=#[y4]) (h5:y5.cells=#[y5]) (S:zS):wS zi 48 [(0,y0),(1,y1),(2,y2),(3,y3),(4,y4),(5,y5)] S=some (.agg [y0,y1,y2,y3,y4,y5,(Value.int IntKind.i64 0),(Value.int IntKind.i64 0),(Value.int IntKind.i64 0),(Value.int IntKind.i64 0),(Value.int IntKind.i64 0),(Value.int IntKind.i64 0),(Value.slice none 0 0)].toArray,S):=by
 rw[show wS zi 48 [(0,y0),(1,y1),(2,y2),(3,y3),(4,y4),(5,y5)] S=(match kX ([(0,1),(1,1),(2,1),(3,1),(4,1),(5,1),(6,2),(8,5)][·]?) [(Value.int IntKind.i64 0),(Value.int IntKind.i64 0),(Value.int IntKind.i64 0),(Value.int IntKind.i64 0),(Value.int IntKind.i64 0),(Value.int IntKind.i64 0),(Value.int IntKind.i64 0),(Value.int IntKind.i64 0),(Value.int IntKind.i64 0),(Value.int IntKind.i64 0),(Value.int IntKind.i64 0),(Value.int IntKind.i64 0),(Value.slice none 0 0)] [(0,y0),(1,y1),(2,y2),(3,y3),(4,y4),(5,y5)]with |some l=>some (.agg l.toArray,S) |none=>none) from by kernel_rfl]
 simp[kX,splice,Zf,h0,h1,h2,h3,h4,h5]
theorem IB {y0 y1 y7_0 y7_1 y7_2 y7_3 y7_4:zu}(h0:y0.cells=#[y0]) (h1:y1.cells=#[y1]) (S:zS):wS zi 48 [(0,y0),(1,y1),(7,.agg [y7_0,y7_1,y7_2,y7_3,y7_4].toArray)] S=some (.agg [y0,y1,(Value.int IntKind.i64 0),(Value.int IntKind.i64 0),(Value.int IntKind.i64 0),(Value.int IntKind.i64 0),(Value.int IntKind.i64 0),(Value.int IntKind.i64 0),y7_0,y7_1,y7_2,y7_3,y7_4].toArray,S):=by
 rw[show wS zi 48 [(0,y0),(1,y1),(7,.agg [y7_0,y7_1,y7_2,y7_3,y7_4].toArray)] S=(match kX ([(0,1),(1,1),(2,1),(3,1),(4,1),(5,1),(6,2),(8,5)][·]?) [(Value.int IntKind.i64 0),(Value.int IntKind.i64 0),(Value.int IntKind.i64 0),(Value.int IntKind.i64 0),(Value.int IntKind.i64 0),(Value.int IntKind.i64 0),(Value.int IntKind.i64 0),(Value.int IntKind.i64 0),(Value.int IntKind.i64 0),(Value.int IntKind.i64 0),(Value.int IntKind.i64 0),(Value.int IntKind.i64 0),(Value.slice none 0 0)] [(0,y0),(1,y1),(7,.agg [y7_0,y7_1,y7_2,y7_3,y7_4].toArray)]with |some l=>some (.agg l.toArray,S) |none=>none) from by kernel_rfl]
 simp[kX,splice,Zf,h0,h1]
theorem oP {y0 y1 y2:zu}(h0:y0.cells=#[y0]) (h1:y1.cells=#[y1]) (h2:y2.cells=#[y2]) (S:zS):wS zi 62 [(0,y0),(1,y1),(2,y2)] S=some (.agg [y0,y1,y2].toArray,S):=by
 rw[show wS zi 62 [(0,y0),(1,y1),(2,y2)] S=(match kX ([(0,1),(1,1),(2,1)][·]?) [(Value.slice none 0 0),(Value.map none),(Value.map none)] [(0,y0),(1,y1),(2,y2)]with |some l=>some (.agg l.toArray,S) |none=>none) from by kernel_rfl]
 simp[kX,splice,Zf,h0,h1,h2]
@[simp] theorem aa2 (k:IntKind) (n:Int) (H:zS):qc zi 3 5 (.int k n) H=some (.int IntKind.u8 (IntKind.wrap IntKind.u8 n),H):=XT Q9 VY k n
@[simp] theorem gJ (k:IntKind) (n:Int) (H:zS):qc zi 3 73 (.int k n) H=some (.int IntKind.u64 (IntKind.wrap IntKind.u64 n),H):=XT Q9 dO k n
@[simp] theorem aJ (k:IntKind) (n:Int) (H:zS):qc zi 5 73 (.int k n) H=some (.int IntKind.u64 (IntKind.wrap IntKind.u64 n),H):=XT VY dO k n
@[simp] theorem rH (k:IntKind) (n:Int) (H:zS):qc zi 73 3 (.int k n) H=some (.int IntKind.i64 (IntKind.wrap IntKind.i64 n),H):=XT dO Q9 k n
@[simp] theorem gK (k:IntKind) (n:Int) (H:zS):qc zi 73 5 (.int k n) H=some (.int IntKind.u8 (IntKind.wrap IntKind.u8 n),H):=XT dO VY k n
theorem pK (S:zS):yO zi 24 0 [] S=some (sv 2 1 0 [],S):=by kernel_rfl
theorem au (x0:Int) (S:zS):yO zi 24 1 [(0,.int IntKind.i64 x0)] S=some (sv 2 1 1 [.int IntKind.i64 x0],S):=by kernel_rfl
theorem fP (x0 x1:Int) (S:zS):yO zi 24 2 [(0,.int IntKind.i64 x0),(1,.int IntKind.i64 x1)] S=some (sv 2 1 2 [.int IntKind.i64 x0,.int IntKind.i64 x1],S):=by kernel_rfl
theorem IX (S:zS):yO zi 29 0 [] S=some (sv 2 1 0 [],S):=by kernel_rfl
theorem IY (S:zS):yO zi 30 0 [] S=some (sv 2 5 0 [],S):=by kernel_rfl
theorem KA (S:zS):yO zi 33 0 [] S=some (sv 2 1 0 [],S):=by kernel_rfl
theorem ay (x0:Int) (S:zS):yO zi 33 1 [(0,.int IntKind.u8 x0)] S=some (sv 2 1 1 [.int IntKind.u8 x0],S):=by kernel_rfl
theorem IZ (S:zS):yO zi 44 0 [] S=some (sv 2 2 0 [],S):=by kernel_rfl
theorem Jm {k:Nat}{l:List UInt8} {S:zS}(h:je k l):yK zi 33 (jk k l) S=some (goInt l.length,S):=XM WW h
theorem aC {k:Nat}{l:List UInt8} {S:zS}{ki:IntKind}{i:Int}(h:je k l) (h0:0≤i) (hi:i<l.length):jZ zi 33 (jk k l) (.int ki i) S=some (EP [.int .u8 (l[i.toNat]'(by omega)).toNat],S):=XL WW XG X4 h h0 hi
theorem X3 {fx:Bool}{v:zu}{S:zS}:zZ zi fx 5 (EP [v]) S=some (v,S):=dP uK
theorem pO {k:Nat}{l:List UInt8} {S:zS}{lo hi:Option zu}{i j:Int}(h:je k l) (hlo:vW 0 lo=some i) (hhi:vW l.length hi=some j) (h0:0≤i) (hij:i≤j) (hj:j≤l.length):JI zi 33 (jk k l) lo hi S=some (jk (if k=2 then 1 else k) ((l.drop i.toNat).take (j.toNat-i.toNat)),S):=GH WW XG X4 h hlo hhi h0 hij hj
theorem Wj {k:Nat}{l:List UInt8} {S:zS}{j:Nat}{m:List UInt8} (h:je k l) (hk:k≠1) (hm:je j m) (hl:l.length+m.length≤140737488355328):yF zi 33 33 (jk k l) (jk j m) S=some (jk (if k=0∧m.length=0 then 0 else 2) (l++m),S):=V6 WW XG Dk rfl oL (by omega) WW X4 LC h hk hm (by omega) (by omega)
theorem I8 {k:Nat}{l:List UInt8} {S:zS}(h:je k l) (hl:l.length≤140737488355328):yF zi 33 33 (jk 2 []) (jk k l) S=some (jk 2 l,S):=by
 rw[Wj je.own (by decide) h (by simpa using hl)];rfl
theorem Lc {k:Nat}{l:List UInt8} {S:zS}(h:je k l):jd zi .eql 33 (jk k l) (.slice none 0 0) S=some (.bool (decide (k=0)),S):=Gz WW h
theorem Y2 {k:Nat}{l:List UInt8} {S:zS}(h:je k l):Ja zi 33 9 (jk k l) S=some (.string ⟨l.toArray⟩,S):=Ld WW VY dN h
theorem KH {k:Nat}{l:List Int}{S:zS}(h:je k l):yK zi 24 (iz k l) S=some (goInt l.length,S):=XM KX h
theorem QG {k:Nat}{l:List Int}{S:zS}{ki:IntKind}{i:Int}(h:je k l) (h0:0≤i) (hi:i<l.length):jZ zi 24 (iz k l) (.int ki i) S=some (EP [.int .i64 (l[i.toNat]'(by omega))],S):=XL KX KR pY h h0 hi
theorem kS {fx:Bool}{v:zu}{S:zS}:zZ zi fx 3 (EP [v]) S=some (v,S):=dP Zo
theorem iV {k:Nat}{l:List Int}{S:zS}{j:Nat}{m:List Int}(h:je k l) (hk:k≠1) (hm:je j m) (hl:l.length+m.length≤17592186044416):yF zi 24 24 (iz k l) (iz j m) S=some (iz (if k=0∧m.length=0 then 0 else 2) (l++m),S):=V6 KX KR Di rfl oK (by omega) KX pY LH h hk hm (by omega) (by omega)
theorem OE {k:Nat}{l:List Int}{S:zS}(h:je k l):jd zi .eql 24 (iz k l) (.slice none 0 0) S=some (.bool (decide (k=0)),S):=Gz KX h
theorem wk :type_of% (zJ @Gu (zJ @Gp (zJ @Gi (zJ @Gv (zJ @Gs (zJ @Gl (zJ @Gj (zJ @Gn (zJ @oI (zJ @Es (zJ @EI (zJ @EH (zJ @EJ (zJ @oZ (zJ @pz (zJ @oW (zJ @rE (zJ @rD (zJ @fC (zJ @Aa (zJ @uX (zJ @uZ (zJ @uY (zJ @Ac (zJ @iL (zJ @iK (zJ @uN (zJ @uM (zJ @uO (zJ @ru (zJ @EX (zJ @Yo (zJ @Bool.and_true (zJ @Bool.true_and (zJ @Bool.and_self (zJ @Dy (zJ @WT (zJ @DF (zJ @DC (zJ @Dz (zJ @Dx (zJ @Dw (zJ @DI (zJ @DJ (zJ @AO (zJ @Ak (zJ @AL (zJ @Ap (zJ @AQ (zJ @uU (zJ @uQ (zJ @uT (zJ @uS (zJ @uV (zJ @Eu (zJ @F5 (zJ @Bool.false_eq_true (zJ @Dn (zJ @Dq (zJ @Du (zJ @Dt (zJ @Dp (zJ @Dv (zJ @Vs (zJ @Dl (zJ @gU (zJ @rP (zJ @rM (zJ @rX (zJ @rU (zJ @rJ (zJ @rO (zJ @rV (zJ @rW (zJ @rQ (zJ @WQ (zJ @aO (zJ @aN (zJ @FN (zJ @FP (zJ @FM (zJ @FX (zJ @FT (zJ @FV (zJ @FW (zJ @nK (zJ @XK (zJ @nP (zJ @F9 (zJ @F8 (zJ @Gq (zJ @FY (zJ @dW (zJ @eU (zJ @XR (zJ @dX (zJ @eG (zJ @eF (zJ @eu (zJ @dZ (zJ @dY (zJ @oD (zJ @Bool.not_true (zJ @Bool.not_false (zJ @Bool.true_eq_false (zJ @decide_true (zJ @decide_false (zJ @sK (zJ @sN (zJ @sU (zJ @sO (zJ @sV (zJ @tq (zJ @sQ (zJ @sW (zJ @tu (zJ @tH (zJ @sS (zJ @sZ (zJ @tC (zJ @tJ (@tK)))))))))))))))))))))))))))))))))))))))))))))))))))))))))))))))))))))))))))))))))))))))))))))))))))))))))))))))))))))))))):=zJ @Gu (zJ @Gp (zJ @Gi (zJ @Gv (zJ @Gs (zJ @Gl (zJ @Gj (zJ @Gn (zJ @oI (zJ @Es (zJ @EI (zJ @EH (zJ @EJ (zJ @oZ (zJ @pz (zJ @oW (zJ @rE (zJ @rD (zJ @fC (zJ @Aa (zJ @uX (zJ @uZ (zJ @uY (zJ @Ac (zJ @iL (zJ @iK (zJ @uN (zJ @uM (zJ @uO (zJ @ru (zJ @EX (zJ @Yo (zJ @Bool.and_true (zJ @Bool.true_and (zJ @Bool.and_self (zJ @Dy (zJ @WT (zJ @DF (zJ @DC (zJ @Dz (zJ @Dx (zJ @Dw (zJ @DI (zJ @DJ (zJ @AO (zJ @Ak (zJ @AL (zJ @Ap (zJ @AQ (zJ @uU (zJ @uQ (zJ @uT (zJ @uS (zJ @uV (zJ @Eu (zJ @F5 (zJ @Bool.false_eq_true (zJ @Dn (zJ @Dq (zJ @Du (zJ @Dt (zJ @Dp (zJ @Dv (zJ @Vs (zJ @Dl (zJ @gU (zJ @rP (zJ @rM (zJ @rX (zJ @rU (zJ @rJ (zJ @rO (zJ @rV (zJ @rW (zJ @rQ (zJ @WQ (zJ @aO (zJ @aN (zJ @FN (zJ @FP (zJ @FM (zJ @FX (zJ @FT (zJ @FV (zJ @FW (zJ @nK (zJ @XK (zJ @nP (zJ @F9 (zJ @F8 (zJ @Gq (zJ @FY (zJ @dW (zJ @eU (zJ @XR (zJ @dX (zJ @eG (zJ @eF (zJ @eu (zJ @dZ (zJ @dY (zJ @oD (zJ @Bool.not_true (zJ @Bool.not_false (zJ @Bool.true_eq_false (zJ @decide_true (zJ @decide_false (zJ @sK (zJ @sN (zJ @sU (zJ @sO (zJ @sV (zJ @tq (zJ @sQ (zJ @sW (zJ @tu (zJ @tH (zJ @sS (zJ @sZ (zJ @tC (zJ @tJ (@tK)))))))))))))))))))))))))))))))))))))))))))))))))))))))))))))))))))))))))))))))))))))))))))))))))))))))))))))))))))))))))
theorem jc :type_of% (zJ wk (zJ (@List.getD_cons_succ zu) (zJ (@List.getD_cons_zero zu) (zJ @if_true.{1} (zJ @if_false.{1} (zJ (@List.getElem?_cons_succ zu) (zJ (@List.getElem?_cons_zero zu) (zJ @Option.map_some.{0,0} @eq_self.{1})))))))):=zJ wk (zJ (@List.getD_cons_succ zu) (zJ (@List.getD_cons_zero zu) (zJ @if_true.{1} (zJ @if_false.{1} (zJ (@List.getElem?_cons_succ zu) (zJ (@List.getElem?_cons_zero zu) (zJ @Option.map_some.{0,0} @eq_self.{1})))))))
theorem Lh (S:zS):yO zi 24 0 [] S=some (iz 2 [],S):=by rw[pK];rfl
theorem aY (x:Int):sv 2 1 1 [.int .i64 x]=iz 2 [x]:=rfl
theorem BO {k:Nat}{l:List Int}{x:Int}{S:zS}(h:je k l) (hk:k≠1) (hl:l.length≤17592186044000):yF zi 24 24 (iz k l) (iz 2 [x]) S=some (iz 2 (l++[x]),S):=by
 rw[iV h hk je.own (by simp;omega),zM (fun h=>by have:=h.2;simp at this)]
def idxFrom {α:Type}(p:α→Bool):Int→List α→Int
 | _,[]=>-1
 |i,x::r=>if p x then i else idxFrom p (i+1) r
theorem iQ {α:Type}{p:α→Bool}:∀{l:List α}{i:Int},l.any p=false→idxFrom p i l=-1
 | [],_,_=>rfl
 |x::r,i,h=>by
  rw[List.any_cons,Bool.or_eq_false_iff]at h;rw[idxFrom,h.1];exact iQ h.2
theorem BI {α:Type}{p:α→Bool}:∀{l:List α}{i:Int},l.any p=true→i≤idxFrom p i l
 | [],_,h=>by cases h
 |x::r,i,h=>by
  rw[idxFrom];split
  ·omega
  ·rename_i hx;rw[List.any_cons,Bool.or_eq_true]at h;have:=BI (i:=i+1) (h.resolve_left hx);omega
theorem Om {α:Type}{p:α→Bool}{l:List α}:decide (0≤idxFrom p 0 l)=l.any p:=by
 cases h:l.any p with
 |false=>rw[iQ h];decide
 |true=>rw[decide_eq_true_eq];exact BI h
section
variable {k:Nat}{l:List Int}
theorem slices_Index.round (hv:je k l) (hk:k≠2) (hlen:l.length≤17592186044416) {v:Int}{S:zS}:∀(suf pre:List Int) {T:List zu}{r:St},yj (zX zi O false slices_Index.jg) T S=r→T.length=19 →
  T.getD 0 zh=iz k l→T.getD 1 zh=.int .i64 v→T.getD 7 zh=.int .i64 l.length→T.getD 8 zh=.int .i64 pre.length→l=pre++suf →
  ∃e T',r=some (e,T',S)∧if suf.any (fun x=>decide (v=x))then e=.ret∧T'.getD 4 zh=.int .i64 (idxFrom (fun x=>decide (v=x)) pre.length suf)else e=.exit 0∧T'.length=19:=by
 intro suf;induction suf with
 |nil=>
  intro pre T r hL hT h0 h1 h7 h8 hl;have hTe:=slices_Index.eta hT;rw[h0,h1,h7,h8]at hTe;have hr:=Eq.refl (zX zi O false slices_Index.jg T S);have hd:¬(pre.length:Int)<(l.length:Int):=by rw[hl];simp
  conv at hr=>
   rhs;rw[hTe];simp only[slices_Index.jg,slices_Index.code,slices_Index.rs,jc,reduceIte,zk,zn,zo,zq,hd]
  exact⟨_,_,hL.symm.trans (yX hr (by simp)),rfl,rfl⟩
 |cons x suf ih=>
  intro pre T r hL hT h0 h1 h7 h8 hl;have hTe:=slices_Index.eta hT;rw[h0,h1,h7,h8]at hTe;have hr:=Eq.refl (zX zi O false slices_Index.jg T S);have hd:(pre.length:Int)<(l.length:Int):=by rw[hl];simp;omega
  have e1:∀S,jZ zi 24 (iz k l) (.int .i64 pre.length) S=some (EP [.int .i64 x],S):=fun S=>by
   rw[QG hv (by omega) hd];rw[aZ hl]
  have wi:IntKind.i64.wrap ((pre.length:Int)+1)=((pre++[x]).length:Int):=by rw[wrap_i64 (by omega) (by omega)];simp
  rw[List.any_cons,idxFrom];by_cases hx:v=x
  ·have hx2:=zL hx;conv at hr=>
    rhs;rw[hTe];simp only[slices_Index.jg,slices_Index.code,slices_Index.rs,jc,reduceIte,zk,zn,zo,zq,zM hk,hd,e1,kS,hx2]
   refine⟨_,_,hL.symm.trans (yX hr (by simp)),?_⟩
   rw[hx2,Bool.true_or];exact⟨rfl,rfl⟩
  ·have hx2:=zK hx;conv at hr=>
    rhs;rw[hTe];simp only[slices_Index.jg,slices_Index.code,slices_Index.rs,jc,reduceIte,zk,zn,zo,zq,zM hk,hd,e1,kS,hx2,wi]
   obtain⟨e,T',g1,g2⟩:=ih (pre++[x]) ((xk hr).symm.trans hL) rfl rfl rfl rfl rfl (by simp[hl])
   refine⟨e,T',g1,?_⟩;rw[hx2,Bool.false_or];rw[show(((pre++[x]).length:Nat):Int)=(pre.length:Int)+1 by simp]at g2
   exact g2
theorem slices_Index.v (hv:je k l) (hk:k≠2) (hlen:l.length≤17592186044416) {v:Int}(S:zS):zU zi O slices_Index.id [iz k l,.int .i64 v] S=some (.int .i64 (idxFrom (fun x=>decide (v=x)) 0 l),S):=by
 obtain⟨T,hTe⟩:∃T,T=(iz k l::.int .i64 v::[zh,zh,zh,zh,zh,zh,zh,zh,zh,zh,zh,zh,zh,zh,zh,zh,zh]):=⟨_,rfl⟩;have hr:=Eq.refl (zX zi O false slices_Index.code T S);conv at hr=>
  rhs;rw[hTe];simp only[slices_Index.code,slices_Index.rs,jc,reduceIte,zk,zn,zo,zq,zM hk,KH hv,goInt]
 generalize hL:yj (zX zi O false slices_Index.jg) _ _=r at hr;obtain⟨e,T',rfl,g⟩:=slices_Index.round hv hk hlen l [] hL rfl rfl rfl rfl rfl rfl;cases h:l.any (fun x=>decide (v=x))with
 |true=>
  rw[h]at g;obtain⟨rfl,g2⟩:=g;conv at hr=>
   rhs;simp only[jc,reduceIte,zk,zn,zo,zq]
  rw[hTe]at hr;have hrun:=slices_Index.runs hr (.inr rfl);rw[g2]at hrun;exact hrun
 |false=>
  rw[h]at g;obtain⟨rfl,g2⟩:=g;have hTe':=slices_Index.eta g2;conv at hr=>
   rhs;rw[hTe'];simp only[slices_Index.code,slices_Index.rs,jc,reduceIte,zk,zn,zo,zq]
  rw[hTe]at hr;rw[iQ h];exact slices_Index.runs hr (.inr rfl)
theorem slices_Contains.v (hv:je k l) (hk:k≠2) (hlen:l.length≤17592186044416) {v:Int}(S:zS):zU zi O slices_Contains.id [iz k l,.int .i64 v] S=some (.bool (l.any fun x=>decide (v=x)),S):=by
 obtain⟨T,hTe⟩:∃T,T=(iz k l::.int .i64 v::[zh,zh,zh,zh,zh,zh,zh]):=⟨_,rfl⟩;have hr:=Eq.refl (zX zi O false slices_Contains.code T S);have c1:=fun S=>slices_Index.v hv hk hlen (v:=v) S
 conv at hr=>
  rhs;rw[hTe];simp only[slices_Contains.code,slices_Contains.rs,jc,reduceIte,zk,zn,zo,zq,zM hk,c1,Om]
 rw[hTe]at hr;exact slices_Contains.runs hr (.inr rfl)
end
section
abbrev y9.id :FuncId:=22
noncomputable def y9.code :Code:=(.seq (.region 0 (reg Try.f22 0) false) (.seq (.region 1 (reg Try.f22 1) false) (.seq (.seq (.region 2 (reg Try.f22 2) false) (.cond (.tmp 16) (.seq (.region 3 (reg Try.f22 3) false) Code.ret) Code.skip)) (.seq (.region 4 (reg Try.f22 4) false) (.seq (.seq (.region 5 (reg Try.f22 5) false) (.cond (.tmp 33) (.seq (.region 6 (reg Try.f22 6) false) Code.ret) Code.skip)) (.seq (.region 7 (reg Try.f22 7) false) Code.ret))))))
theorem y9.body :Try.f22.body=some y9.code:=by kernel_rfl
variable (F M H Q N I K L J P b c d f g i k l m n o p q r s t u w x y z A B C D E:zu) (S:zS)
theorem y9.r0 :zW zi ⟨false,false,false⟩ (zU zi O) (reg Try.f22 0) (reg Try.f22 0).toList ([F,M,H,Q,N,I,K,L,J,P,b,c,d,f,g,i,k,l,m,n,o,p,q,r,s,t,u,w,x,y,z,A,B,C,D,E]) S =
  (zT (wR zi 48 S) (fun U G=>some ([F,M,U,.int .i64 0,N,I,K,L,J,P,b,c,d,f,g,i,k,l,m,n,o,p,q,r,s,t,u,w,x,y,z,A,B,C,D,E],G)) ()):=by kernel_rfl
theorem y9.r1 :zW zi ⟨false,false,false⟩ (zU zi O) (reg Try.f22 1) (reg Try.f22 1).toList ([F,M,H,Q,N,I,K,L,J,P,b,c,d,f,g,i,k,l,m,n,o,p,q,r,s,t,u,w,x,y,z,A,B,C,D,E]) S =
  (zT ((zU zi O) 41 [(zQ (zQ F))] S) (fun a G=>zT (jv a 0 G) (fun V R=>zT (jv (jh 0 a) 1 R) (fun W Y=>zT (jv (jh 1 (jh 0 a)) 2 Y) (fun X Z=>some ([F,M,H,Q,V,W,X,L,J,jh 2 (jh 1 (jh 0 a)),zQ F,zQ a,zQ V,zQ W,zQ X,i,k,l,m,n,o,p,q,r,s,t,u,w,x,y,z,A,B,C,D,E],Z)) ()) ()) ()) ()):=by kernel_rfl
theorem y9.r2 :zW zi ⟨false,false,false⟩ (zU zi O) (reg Try.f22 2) (reg Try.f22 2).toList ([F,M,H,Q,N,I,K,L,J,P,b,c,d,f,g,i,k,l,m,n,o,p,q,r,s,t,u,w,x,y,z,A,B,C,D,E]) S =
  (zT (jd zi BinOp.neq 64 (zQ K) (.int .i64 0) S) (fun a G=>some ([F,M,H,Q,N,I,K,L,J,P,b,c,d,f,g,zQ K,a,l,m,n,o,p,q,r,s,t,u,w,x,y,z,A,B,C,D,E],G)) ()):=by kernel_rfl
theorem y9.r3 :zW zi ⟨false,false,false⟩ (zU zi O) (reg Try.f22 3) (reg Try.f22 3).toList ([F,M,H,Q,N,I,K,L,J,P,b,c,d,f,g,i,k,l,m,n,o,p,q,r,s,t,u,w,x,y,z,A,B,C,D,E]) S =
  (zT (wS zi 48 [] S) (fun U G=>zT (jI zi 48 H (zQ U) G) (fun a R=>some ([F,M,H,.int .i64 121,N,I,K,L,J,P,b,c,d,f,g,i,k,U,m,n,o,p,q,r,s,t,u,w,x,y,z,A,B,C,D,E],R)) ()) ()):=by kernel_rfl
theorem y9.r4 :zW zi ⟨false,false,false⟩ (zU zi O) (reg Try.f22 4) (reg Try.f22 4).toList ([F,M,H,Q,N,I,K,L,J,P,b,c,d,f,g,i,k,l,m,n,o,p,q,r,s,t,u,w,x,y,z,A,B,C,D,E]) S =
  (zT ((zU zi O) 42 [(zQ (zQ I))] S) (fun a G=>zT (jv a 0 G) (fun V R=>zT (jv (jh 0 a) 1 R) (fun W Y=>zT (wR zi 48 Y) (fun X Z=>zT (jI zi 48 X (zQ V) Z) (fun v6 S5=>some ([F,M,H,Q,N,I,K,X,W,P,b,c,d,f,g,i,k,l,jh 1 (jh 0 a),zQ I,zQ a,V,zQ W,r,s,t,u,w,x,y,z,A,B,C,D,E],S5)) ()) ()) ()) ()) ()):=by kernel_rfl
theorem y9.r5 :zW zi ⟨false,false,false⟩ (zU zi O) (reg Try.f22 5) (reg Try.f22 5).toList ([F,M,H,Q,N,I,K,L,J,P,b,c,d,f,g,i,k,l,m,n,o,p,q,r,s,t,u,w,x,y,z,A,B,C,D,E]) S =
  (zT (qo zi UnOp.not (zQ J) S) (fun a G=>zY (zQ a) false (jf zi 48 L 1) G (fun V R=>zY (zQ a) false (zZ zi false 3 V) R (fun W Y=>zY (zQ a) false ((zU zi O) 44 [(zQ W)]) Y (fun X Z=>zY (zQ a) false (ret N) Z (fun v6 S5=>zY (zQ a) false (ret I) S5 (fun v7 S6=>zY (zQ a) false ((zU zi O) 43 [(zQ X),(zQ (zQ v6)),(zQ (zQ v7))]) S6 (fun v8 S7=>zY (zQ a) false (qo zi UnOp.not v8) S7 (fun v9 S8=>zT (jH (zQ a) (Value.bool true) v9 S8) (fun a0 S9=>some ([F,M,H,Q,N,I,K,L,J,P,b,c,d,f,g,i,k,l,m,n,o,p,q,zQ J,a,zQ a,V,W,X,zQ v6,zQ v7,v8,v9,a0,D,E],S9)) ()) ()) ()) ()) ()) ()) ()) ()) ()):=by
 refine sP Try.f22 5 0 (v:=J) ?_;refine sD Try.f22 5 1 (fun a G=>?_)
 refine sP Try.f22 5 2 (v:=a) ?_;refine sG Try.f22 5 3 (j:=2) (fun V R=>?_)
 refine sG Try.f22 5 4 (j:=2) (fun W Y=>?_)
 refine sG Try.f22 5 5 (j:=2) (fun X Z=>?_)
 refine sG Try.f22 5 6 (j:=2) (fun v6 S5=>?_)
 refine sG Try.f22 5 7 (j:=2) (fun v7 S6=>?_)
 refine sG Try.f22 5 8 (j:=2) (fun v8 S7=>?_)
 refine sG Try.f22 5 9 (j:=2) (fun v9 S8=>?_)
 refine sD Try.f22 5 10 (fun a0 S9=>?_)
 kernel_rfl
theorem y9.r6 :zW zi ⟨false,false,false⟩ (zU zi O) (reg Try.f22 6) (reg Try.f22 6).toList ([F,M,H,Q,N,I,K,L,J,P,b,c,d,f,g,i,k,l,m,n,o,p,q,r,s,t,u,w,x,y,z,A,B,C,D,E]) S =
  (zT (wS zi 48 [] S) (fun U G=>zT (jI zi 48 H (zQ U) G) (fun a R=>some ([F,M,H,.int .i64 121,N,I,K,L,J,P,b,c,d,f,g,i,k,l,m,n,o,p,q,r,s,t,u,w,x,y,z,A,B,C,U,E],R)) ()) ()):=by kernel_rfl
theorem y9.r7 :zW zi ⟨false,false,false⟩ (zU zi O) (reg Try.f22 7) (reg Try.f22 7).toList ([F,M,H,Q,N,I,K,L,J,P,b,c,d,f,g,i,k,l,m,n,o,p,q,r,s,t,u,w,x,y,z,A,B,C,D,E]) S =
  (zT (zZ zi false 48 L S) (fun U G=>zT (jI zi 48 H (zQ U) G) (fun a R=>some ([F,M,H,.int .i64 0,N,I,K,L,J,P,b,c,d,f,g,i,k,l,m,n,o,p,q,r,s,t,u,w,x,y,z,A,B,C,D,U],R)) ()) ()):=by kernel_rfl
theorem y9.rs :type_of% (zJ @y9.r0 (zJ @y9.r1 (zJ @y9.r2 (zJ @y9.r3 (zJ @y9.r4 (zJ @y9.r5 (zJ @y9.r6 (@y9.r7)))))))):=zJ @y9.r0 (zJ @y9.r1 (zJ @y9.r2 (zJ @y9.r3 (zJ @y9.r4 (zJ @y9.r5 (zJ @y9.r6 (@y9.r7)))))))
theorem y9.runs {F:zu}{S G:zS}{e:wC}{T:List zu}(h:zX zi O false y9.code ([F,zh,zh,zh,zh,zh,zh,zh,zh,zh,zh,zh,zh,zh,zh,zh,zh,zh,zh,zh,zh,zh,zh,zh,zh,zh,zh,zh,zh,zh,zh,zh,zh,zh,zh,zh]) zS.empty=some (e,T,G)) (he:e=.normal∨e=.ret) {w0:zu}(c0:zZ zi false 48 (T.getD 2 zh) G=some (w0,G)) (h0:yc (w0)=true) (h1:yc (T.getD 3 zh)=true) (hca:[F].all (jw 16)=true) (hcv:jw 16 (Value.tuple #[w0,T.getD 3 zh])=true):zU zi O 22 [F] S=some (Value.tuple #[w0,T.getD 3 zh],S) :=
 kC rfl rfl Try.func22 (by decide) y9.body (by exact h) he ((Zc ((show jl zi T G Try.f22.results.toList=jl zi T G [(ResultVar.cell 2 48),(ResultVar.tmp 3)] from by kernel_rfl).trans (by simp only[jl,c0])) (by kernel_rfl) (by simp only[List.all_cons,List.all_nil,h0,h1,Bool.and_true])).trans rfl) hca hcv
end
section
abbrev jM.id :FuncId:=16
noncomputable def jM.code :Code:=(.seq (.region 0 (reg Try.f16 0) false) (.seq (.region 1 (reg Try.f16 1) false) (.seq (.seq (.region 2 (reg Try.f16 2) false) (.cond (.tmp 20) (.seq (.region 3 (reg Try.f16 3) false) Code.ret) Code.skip)) (.seq (.region 4 (reg Try.f16 4) false) (.seq (.seq (.region 5 (reg Try.f16 5) false) (.cond (.tmp 29) (.seq (.region 6 (reg Try.f16 6) false) Code.ret) Code.skip)) (.seq (.region 7 (reg Try.f16 7) true) (.seq (.seq (.region 8 (reg Try.f16 8) false) (.cond (.tmp 52) (.region 9 (reg Try.f16 9) false) Code.skip)) (.seq (.seq (.region 10 (reg Try.f16 10) false) (.cond (.tmp 61) (.region 11 (reg Try.f16 11) false) Code.skip)) (.seq (.region 12 (reg Try.f16 12) false) (.seq (.seq (.region 13 (reg Try.f16 13) false) (.cond (.tmp 81) (.seq (.region 14 (reg Try.f16 14) false) Code.ret) Code.skip)) (.seq (.region 15 (reg Try.f16 15) false) Code.ret)))))))))))
theorem jM.body :Try.f16.body=some jM.code:=by kernel_rfl
variable (x0 x1 x2 x3 x4 x5 x6 c x8 x9 b f d g i k l m n o p q r s t u w x y z A B C D E F G H I J K L M N P Q R U V W X Y Z a0 a1 a2 a3 a4 a5 a6 a7 a8 a9 b0 b1 b2 b3 b4 b5 b6 b7 b8 b9 c1 c2 c3 c4 c5 c6 c7 c8 c9 d0 d1:zu) (S:zS)
theorem jM.r0 :zW zi ⟨false,false,false⟩ (zU zi O) (reg Try.f16 0) (reg Try.f16 0).toList ([x0,x1,x2,x3,x4,x5,x6,c,x8,x9,b,f,d,g,i,k,l,m,n,o,p,q,r,s,t,u,w,x,y,z,A,B,C,D,E,F,G,H,I,J,K,L,M,N,P,Q,R,U,V,W,X,Y,Z,a0,a1,a2,a3,a4,a5,a6,a7,a8,a9,b0,b1,b2,b3,b4,b5,b6,b7,b8,b9,c1,c2,c3,c4,c5,c6,c7,c8,c9,d0,d1]) S =
  (zT (wR zi 48 S) (fun v0 S1=>some ([x0,x1,v0,.int .i64 0,x4,x5,x6,c,x8,x9,b,f,d,g,i,k,l,m,n,o,p,q,r,s,t,u,w,x,y,z,A,B,C,D,E,F,G,H,I,J,K,L,M,N,P,Q,R,U,V,W,X,Y,Z,a0,a1,a2,a3,a4,a5,a6,a7,a8,a9,b0,b1,b2,b3,b4,b5,b6,b7,b8,b9,c1,c2,c3,c4,c5,c6,c7,c8,c9,d0,d1],S1)) ()):=by kernel_rfl
theorem jM.r1 :zW zi ⟨false,false,false⟩ (zU zi O) (reg Try.f16 1) (reg Try.f16 1).toList ([x0,x1,x2,x3,x4,x5,x6,c,x8,x9,b,f,d,g,i,k,l,m,n,o,p,q,r,s,t,u,w,x,y,z,A,B,C,D,E,F,G,H,I,J,K,L,M,N,P,Q,R,U,V,W,X,Y,Z,a0,a1,a2,a3,a4,a5,a6,a7,a8,a9,b0,b1,b2,b3,b4,b5,b6,b7,b8,b9,c1,c2,c3,c4,c5,c6,c7,c8,c9,d0,d1]) S =
  (zT ((zU zi O) 28 [(zQ (zQ x0))] S) (fun a S1=>zT (jv a 0 S1) (fun v3 S2=>zT (jv (jh 0 a) 1 S2) (fun v4 S3=>zT (jv (jh 1 (jh 0 a)) 2 S3) (fun v5 S4=>some ([x0,x1,x2,x3,v3,v4,v5,c,x8,x9,b,f,d,jh 2 (jh 1 (jh 0 a)),zQ x0,zQ a,zQ v3,zQ v4,zQ v5,o,p,q,r,s,t,u,w,x,y,z,A,B,C,D,E,F,G,H,I,J,K,L,M,N,P,Q,R,U,V,W,X,Y,Z,a0,a1,a2,a3,a4,a5,a6,a7,a8,a9,b0,b1,b2,b3,b4,b5,b6,b7,b8,b9,c1,c2,c3,c4,c5,c6,c7,c8,c9,d0,d1],S4)) ()) ()) ()) ()):=by kernel_rfl
theorem jM.r2 :zW zi ⟨false,false,false⟩ (zU zi O) (reg Try.f16 2) (reg Try.f16 2).toList ([x0,x1,x2,x3,x4,x5,x6,c,x8,x9,b,f,d,g,i,k,l,m,n,o,p,q,r,s,t,u,w,x,y,z,A,B,C,D,E,F,G,H,I,J,K,L,M,N,P,Q,R,U,V,W,X,Y,Z,a0,a1,a2,a3,a4,a5,a6,a7,a8,a9,b0,b1,b2,b3,b4,b5,b6,b7,b8,b9,c1,c2,c3,c4,c5,c6,c7,c8,c9,d0,d1]) S =
  (zT (jd zi BinOp.neq 3 (zQ x6) (.int .i64 0) S) (fun a S1=>some ([x0,x1,x2,x3,x4,x5,x6,c,x8,x9,b,f,d,g,i,k,l,m,n,zQ x6,a,q,r,s,t,u,w,x,y,z,A,B,C,D,E,F,G,H,I,J,K,L,M,N,P,Q,R,U,V,W,X,Y,Z,a0,a1,a2,a3,a4,a5,a6,a7,a8,a9,b0,b1,b2,b3,b4,b5,b6,b7,b8,b9,c1,c2,c3,c4,c5,c6,c7,c8,c9,d0,d1],S1)) ()):=by kernel_rfl
theorem jM.r3 :zW zi ⟨false,false,false⟩ (zU zi O) (reg Try.f16 3) (reg Try.f16 3).toList ([x0,x1,x2,x3,x4,x5,x6,c,x8,x9,b,f,d,g,i,k,l,m,n,o,p,q,r,s,t,u,w,x,y,z,A,B,C,D,E,F,G,H,I,J,K,L,M,N,P,Q,R,U,V,W,X,Y,Z,a0,a1,a2,a3,a4,a5,a6,a7,a8,a9,b0,b1,b2,b3,b4,b5,b6,b7,b8,b9,c1,c2,c3,c4,c5,c6,c7,c8,c9,d0,d1]) S =
  (zT (wS zi 48 [] S) (fun v0 S1=>zT (jI zi 48 x2 (zQ v0) S1) (fun a S2=>some ([x0,x1,x2,.int .i64 121,x4,x5,x6,c,x8,x9,b,f,d,g,i,k,l,m,n,o,p,v0,r,s,t,u,w,x,y,z,A,B,C,D,E,F,G,H,I,J,K,L,M,N,P,Q,R,U,V,W,X,Y,Z,a0,a1,a2,a3,a4,a5,a6,a7,a8,a9,b0,b1,b2,b3,b4,b5,b6,b7,b8,b9,c1,c2,c3,c4,c5,c6,c7,c8,c9,d0,d1],S2)) ()) ()):=by kernel_rfl
theorem jM.r4 :zW zi ⟨false,false,false⟩ (zU zi O) (reg Try.f16 4) (reg Try.f16 4).toList ([x0,x1,x2,x3,x4,x5,x6,c,x8,x9,b,f,d,g,i,k,l,m,n,o,p,q,r,s,t,u,w,x,y,z,A,B,C,D,E,F,G,H,I,J,K,L,M,N,P,Q,R,U,V,W,X,Y,Z,a0,a1,a2,a3,a4,a5,a6,a7,a8,a9,b0,b1,b2,b3,b4,b5,b6,b7,b8,b9,c1,c2,c3,c4,c5,c6,c7,c8,c9,d0,d1]) S =
  (zT ((zU zi O) 29 [(zQ (zQ x5)),(.int .i64 6)] S) (fun a S1=>zT (jv a 0 S1) (fun v3 S2=>zT (jv (jh 0 a) 1 S2) (fun v4 S3=>zT (jv (jh 1 (jh 0 a)) 2 S3) (fun v5 S4=>some ([x0,x1,x2,x3,x4,x5,x6,v3,v4,v5,b,f,d,g,i,k,l,m,n,o,p,q,jh 2 (jh 1 (jh 0 a)),zQ x5,zQ a,zQ v3,zQ v4,zQ v5,y,z,A,B,C,D,E,F,G,H,I,J,K,L,M,N,P,Q,R,U,V,W,X,Y,Z,a0,a1,a2,a3,a4,a5,a6,a7,a8,a9,b0,b1,b2,b3,b4,b5,b6,b7,b8,b9,c1,c2,c3,c4,c5,c6,c7,c8,c9,d0,d1],S4)) ()) ()) ()) ()):=by kernel_rfl
theorem jM.r5 :zW zi ⟨false,false,false⟩ (zU zi O) (reg Try.f16 5) (reg Try.f16 5).toList ([x0,x1,x2,x3,x4,x5,x6,c,x8,x9,b,f,d,g,i,k,l,m,n,o,p,q,r,s,t,u,w,x,y,z,A,B,C,D,E,F,G,H,I,J,K,L,M,N,P,Q,R,U,V,W,X,Y,Z,a0,a1,a2,a3,a4,a5,a6,a7,a8,a9,b0,b1,b2,b3,b4,b5,b6,b7,b8,b9,c1,c2,c3,c4,c5,c6,c7,c8,c9,d0,d1]) S =
  (zT (jd zi BinOp.neq 3 (zQ x9) (.int .i64 0) S) (fun a S1=>some ([x0,x1,x2,x3,x4,x5,x6,c,x8,x9,b,f,d,g,i,k,l,m,n,o,p,q,r,s,t,u,w,x,zQ x9,a,A,B,C,D,E,F,G,H,I,J,K,L,M,N,P,Q,R,U,V,W,X,Y,Z,a0,a1,a2,a3,a4,a5,a6,a7,a8,a9,b0,b1,b2,b3,b4,b5,b6,b7,b8,b9,c1,c2,c3,c4,c5,c6,c7,c8,c9,d0,d1],S1)) ()):=by kernel_rfl
theorem jM.r6 :zW zi ⟨false,false,false⟩ (zU zi O) (reg Try.f16 6) (reg Try.f16 6).toList ([x0,x1,x2,x3,x4,x5,x6,c,x8,x9,b,f,d,g,i,k,l,m,n,o,p,q,r,s,t,u,w,x,y,z,A,B,C,D,E,F,G,H,I,J,K,L,M,N,P,Q,R,U,V,W,X,Y,Z,a0,a1,a2,a3,a4,a5,a6,a7,a8,a9,b0,b1,b2,b3,b4,b5,b6,b7,b8,b9,c1,c2,c3,c4,c5,c6,c7,c8,c9,d0,d1]) S =
  (zT (wS zi 48 [] S) (fun v0 S1=>zT (jI zi 48 x2 (zQ v0) S1) (fun a S2=>some ([x0,x1,x2,.int .i64 121,x4,x5,x6,c,x8,x9,b,f,d,g,i,k,l,m,n,o,p,q,r,s,t,u,w,x,y,z,v0,B,C,D,E,F,G,H,I,J,K,L,M,N,P,Q,R,U,V,W,X,Y,Z,a0,a1,a2,a3,a4,a5,a6,a7,a8,a9,b0,b1,b2,b3,b4,b5,b6,b7,b8,b9,c1,c2,c3,c4,c5,c6,c7,c8,c9,d0,d1],S2)) ()) ()):=by kernel_rfl
theorem jM.d7 :vg zi (reg Try.f16 7)=true:=by kernel_rfl
theorem jM.gZ :fixed zi (reg Try.f16 7)=false:=by kernel_rfl
theorem jM.k7 :checked zi (reg Try.f16 7)=[0,1,2,3,4,5,6,7,8,9,10,11,12,13,14,15,16,17,18]:=by kernel_rfl
theorem jM.g7 :again zi (reg Try.f16 7)=[(2,19),(5,19),(8,19),(11,19),(14,19),(17,19)]:=by kernel_rfl
theorem jM.r7 :zX zi O false (.region 7 (reg Try.f16 7) true) ([x0,x1,x2,x3,x4,x5,x6,c,x8,x9,b,f,d,g,i,k,l,m,n,o,p,q,r,s,t,u,w,x,y,z,A,B,C,D,E,F,G,H,I,J,K,L,M,N,P,Q,R,U,V,W,X,Y,Z,a0,a1,a2,a3,a4,a5,a6,a7,a8,a9,b0,b1,b2,b3,b4,b5,b6,b7,b8,b9,c1,c2,c3,c4,c5,c6,c7,c8,c9,d0,d1]) S =
  yY (jK c ( zT (jZ zi 24 (zQ c) (.int .i64 0) S) (fun a S1=>jK a ( zT (zZ zi false 3 a S1) (fun v2 S2=>jK v2 ( jK c ( zT (jZ zi 24 (zQ c) (.int .i64 1) S2) (fun v4 S3=>jK v4 ( zT (zZ zi false 3 v4 S3) (fun v5 S4=>jK v5 ( jK c ( zT (jZ zi 24 (zQ c) (.int .i64 2) S4) (fun v7 S5=>jK v7 ( zT (zZ zi false 3 v7 S5) (fun v8 S6=>jK v8 ( jK c ( zT (jZ zi 24 (zQ c) (.int .i64 3) S6) (fun d3 S7=>jK d3 ( zT (zZ zi false 3 d3 S7) (fun d6 S8=>jK d6 ( jK c ( zT (jZ zi 24 (zQ c) (.int .i64 4) S8) (fun d4 S9=>jK d4 ( zT (zZ zi false 3 d4 S9) (fun d8 f3=>jK d8 ( jK c ( zT (jZ zi 24 (zQ c) (.int .i64 5) f3) (fun d5 f1=>jK d5 ( zT (zZ zi false 3 d5 f1) (fun d9 f4=>jK d9 ( zT (wS zi 48 [(0,(zQ v2)),(1,(zQ v5)),(2,(zQ v8)),(3,(zQ d6)),(4,(zQ d8)),(5,(zQ d9))] f4) (fun f0 f5=>jK f0 ( zT (wR zi 48 f5) (fun f2 d2=>zT (jI zi 48 f2 (zQ f0) d2) (fun f7 f6=>Jy (y8 a S1 d2&&(y8 v4 S3 d2&&(y8 v7 S5 d2&&(y8 d3 S7 d2&&(y8 d4 S9 d2&&(y8 d5 f1 d2&&(true))))))) (some ([x0,x1,x2,x3,x4,x5,x6,c,x8,x9,f2,f,d,g,i,k,l,m,n,o,p,q,r,s,t,u,w,x,y,z,A,zQ c,a,v2,zQ c,v4,v5,zQ c,v7,v8,zQ c,d3,d6,zQ c,d4,d8,zQ c,d5,d9,f0,X,Y,Z,a0,a1,a2,a3,a4,a5,a6,a7,a8,a9,b0,b1,b2,b3,b4,b5,b6,b7,b8,b9,c1,c2,c3,c4,c5,c6,c7,c8,c9,d0,d1],f6)) ()) ()) ()) ()) ()) ()) ()) ()) ()) ()) ()) ()) ()) ()) ()) ()) ()) ()) ()) ()) ()) ()) ()) ()) ()) ()) ()) ()) ()) ()) ()) ()) ()) ()) ()):=by
 rw[Jh jM.d7 jM.gZ jM.k7 jM.g7];refine congrArg yY ?_;refine Zb Try.f16 7 0 (v:=c) (pe:=zh) ?_;refine yH Try.f16 7 1 (pe:=zh) (fun a S1=>?_)
 refine yH Try.f16 7 2 (pe:=a) (fun v2 S2=>?_)
 refine Zb Try.f16 7 3 (v:=c) (pe:=zh) ?_;refine yH Try.f16 7 4 (pe:=zh) (fun v4 S3=>?_)
 refine yH Try.f16 7 5 (pe:=v4) (fun v5 S4=>?_)
 refine Zb Try.f16 7 6 (v:=c) (pe:=zh) ?_;refine yH Try.f16 7 7 (pe:=zh) (fun v7 S5=>?_)
 refine yH Try.f16 7 8 (pe:=v7) (fun v8 S6=>?_)
 refine Zb Try.f16 7 9 (v:=c) (pe:=zh) ?_;refine yH Try.f16 7 10 (pe:=zh) (fun d3 S7=>?_)
 refine yH Try.f16 7 11 (pe:=d3) (fun d6 S8=>?_)
 refine Zb Try.f16 7 12 (v:=c) (pe:=zh) ?_;refine yH Try.f16 7 13 (pe:=zh) (fun d4 S9=>?_)
 refine yH Try.f16 7 14 (pe:=d4) (fun d8 f3=>?_)
 refine Zb Try.f16 7 15 (v:=c) (pe:=zh) ?_;refine yH Try.f16 7 16 (pe:=zh) (fun d5 f1=>?_)
 refine yH Try.f16 7 17 (pe:=d5) (fun d9 f4=>?_)
 refine yH Try.f16 7 18 (pe:=zh) (fun f0 f5=>?_)
 refine uD Try.f16 7 19 (pe:=zh) (fun f2 d2=>?_)
 refine uD Try.f16 7 20 (pe:=zh) (fun f7 f6=>?_)
 kernel_rfl
theorem jM.r8 :zW zi ⟨false,false,false⟩ (zU zi O) (reg Try.f16 8) (reg Try.f16 8).toList ([x0,x1,x2,x3,x4,x5,x6,c,x8,x9,b,f,d,g,i,k,l,m,n,o,p,q,r,s,t,u,w,x,y,z,A,B,C,D,E,F,G,H,I,J,K,L,M,N,P,Q,R,U,V,W,X,Y,Z,a0,a1,a2,a3,a4,a5,a6,a7,a8,a9,b0,b1,b2,b3,b4,b5,b6,b7,b8,b9,c1,c2,c3,c4,c5,c6,c7,c8,c9,d0,d1]) S =
  (zT (jf zi 48 b 0 S) (fun v0 S1=>zT (zZ zi false 3 v0 S1) (fun a S2=>zT (jd zi BinOp.eql 3 a (.int .i64 0) S2) (fun v2 S3=>some ([x0,x1,x2,x3,x4,x5,x6,c,x8,x9,b,f,d,g,i,k,l,m,n,o,p,q,r,s,t,u,w,x,y,z,A,B,C,D,E,F,G,H,I,J,K,L,M,N,P,Q,R,U,V,W,v0,a,v2,a0,a1,a2,a3,a4,a5,a6,a7,a8,a9,b0,b1,b2,b3,b4,b5,b6,b7,b8,b9,c1,c2,c3,c4,c5,c6,c7,c8,c9,d0,d1],S3)) ()) ()) ()):=by kernel_rfl
theorem jM.r9 :zW zi ⟨false,false,false⟩ (zU zi O) (reg Try.f16 9) (reg Try.f16 9).toList ([x0,x1,x2,x3,x4,x5,x6,c,x8,x9,b,f,d,g,i,k,l,m,n,o,p,q,r,s,t,u,w,x,y,z,A,B,C,D,E,F,G,H,I,J,K,L,M,N,P,Q,R,U,V,W,X,Y,Z,a0,a1,a2,a3,a4,a5,a6,a7,a8,a9,b0,b1,b2,b3,b4,b5,b6,b7,b8,b9,c1,c2,c3,c4,c5,c6,c7,c8,c9,d0,d1]) S =
  (zT ((zU zi O) 30 [(zQ (zQ x8))] S) (fun a S1=>zT (jv a 0 S1) (fun v3 S2=>zT (jv (jh 0 a) 1 S2) (fun v4 S3=>zT (jf zi 48 b 6 S3) (fun v5 S4=>zT (jI zi 43 v5 (zQ v3) S4) (fun v6 S5=>some ([x0,x1,x2,x3,x4,x5,x6,c,x8,x9,b,f,d,g,i,k,l,m,n,o,p,q,r,s,t,u,w,x,y,z,A,B,C,D,E,F,G,H,I,J,K,L,M,N,P,Q,R,U,V,W,X,Y,Z,jh 1 (jh 0 a),zQ x8,zQ a,v3,v4,v5,a6,a7,a8,a9,b0,b1,b2,b3,b4,b5,b6,b7,b8,b9,c1,c2,c3,c4,c5,c6,c7,c8,c9,d0,d1],S5)) ()) ()) ()) ()) ()):=by kernel_rfl
theorem jM.r10 :zW zi ⟨false,false,false⟩ (zU zi O) (reg Try.f16 10) (reg Try.f16 10).toList ([x0,x1,x2,x3,x4,x5,x6,c,x8,x9,b,f,d,g,i,k,l,m,n,o,p,q,r,s,t,u,w,x,y,z,A,B,C,D,E,F,G,H,I,J,K,L,M,N,P,Q,R,U,V,W,X,Y,Z,a0,a1,a2,a3,a4,a5,a6,a7,a8,a9,b0,b1,b2,b3,b4,b5,b6,b7,b8,b9,c1,c2,c3,c4,c5,c6,c7,c8,c9,d0,d1]) S =
  (zT (jf zi 48 b 0 S) (fun v0 S1=>zT (zZ zi false 3 v0 S1) (fun a S2=>zT (jd zi BinOp.eql 3 a (.int .i64 1) S2) (fun v2 S3=>some ([x0,x1,x2,x3,x4,x5,x6,c,x8,x9,b,f,d,g,i,k,l,m,n,o,p,q,r,s,t,u,w,x,y,z,A,B,C,D,E,F,G,H,I,J,K,L,M,N,P,Q,R,U,V,W,X,Y,Z,a0,a1,a2,a3,a4,a5,v0,a,v2,a9,b0,b1,b2,b3,b4,b5,b6,b7,b8,b9,c1,c2,c3,c4,c5,c6,c7,c8,c9,d0,d1],S3)) ()) ()) ()):=by kernel_rfl
theorem jM.r11 :zW zi ⟨false,false,false⟩ (zU zi O) (reg Try.f16 11) (reg Try.f16 11).toList ([x0,x1,x2,x3,x4,x5,x6,c,x8,x9,b,f,d,g,i,k,l,m,n,o,p,q,r,s,t,u,w,x,y,z,A,B,C,D,E,F,G,H,I,J,K,L,M,N,P,Q,R,U,V,W,X,Y,Z,a0,a1,a2,a3,a4,a5,a6,a7,a8,a9,b0,b1,b2,b3,b4,b5,b6,b7,b8,b9,c1,c2,c3,c4,c5,c6,c7,c8,c9,d0,d1]) S =
  (zT ((zU zi O) 31 [(zQ (zQ x8))] S) (fun a S1=>zT (jv a 0 S1) (fun v3 S2=>zT (jv (jh 0 a) 1 S2) (fun v4 S3=>zT (jf zi 48 b 7 S3) (fun v5 S4=>zT (jI zi 46 v5 (zQ v3) S4) (fun v6 S5=>some ([x0,x1,x2,x3,x4,x5,x6,c,x8,x9,b,f,d,g,i,k,l,m,n,o,p,q,r,s,t,u,w,x,y,z,A,B,C,D,E,F,G,H,I,J,K,L,M,N,P,Q,R,U,V,W,X,Y,Z,a0,a1,a2,a3,a4,a5,a6,a7,a8,jh 1 (jh 0 a),zQ x8,zQ a,v3,v4,v5,b5,b6,b7,b8,b9,c1,c2,c3,c4,c5,c6,c7,c8,c9,d0,d1],S5)) ()) ()) ()) ()) ()):=by kernel_rfl
theorem jM.r12 :zW zi ⟨false,false,false⟩ (zU zi O) (reg Try.f16 12) (reg Try.f16 12).toList ([x0,x1,x2,x3,x4,x5,x6,c,x8,x9,b,f,d,g,i,k,l,m,n,o,p,q,r,s,t,u,w,x,y,z,A,B,C,D,E,F,G,H,I,J,K,L,M,N,P,Q,R,U,V,W,X,Y,Z,a0,a1,a2,a3,a4,a5,a6,a7,a8,a9,b0,b1,b2,b3,b4,b5,b6,b7,b8,b9,c1,c2,c3,c4,c5,c6,c7,c8,c9,d0,d1]) S =
  (zT (zZ zi false 48 b S) (fun v0 S1=>zT ((zU zi O) 19 [(zQ v0)] S1) (fun a S2=>zT (jv a 0 S2) (fun v3 S3=>zT (jv (jh 0 a) 1 S3) (fun v4 S4=>some ([x0,x1,x2,x3,x4,x5,x6,c,x8,x9,b,v3,v4,g,i,k,l,m,n,o,p,q,r,s,t,u,w,x,y,z,A,B,C,D,E,F,G,H,I,J,K,L,M,N,P,Q,R,U,V,W,X,Y,Z,a0,a1,a2,a3,a4,a5,a6,a7,a8,a9,b0,b1,b2,b3,b4,jh 1 (jh 0 a),v0,zQ a,zQ v3,zQ v4,c1,c2,c3,c4,c5,c6,c7,c8,c9,d0,d1],S4)) ()) ()) ()) ()):=by kernel_rfl
theorem jM.r13 :zW zi ⟨false,false,false⟩ (zU zi O) (reg Try.f16 13) (reg Try.f16 13).toList ([x0,x1,x2,x3,x4,x5,x6,c,x8,x9,b,f,d,g,i,k,l,m,n,o,p,q,r,s,t,u,w,x,y,z,A,B,C,D,E,F,G,H,I,J,K,L,M,N,P,Q,R,U,V,W,X,Y,Z,a0,a1,a2,a3,a4,a5,a6,a7,a8,a9,b0,b1,b2,b3,b4,b5,b6,b7,b8,b9,c1,c2,c3,c4,c5,c6,c7,c8,c9,d0,d1]) S =
  (zT (jd zi BinOp.neq 3 (zQ d) (.int .i64 0) S) (fun a S1=>zY (zQ a) false (ret f) S1 (fun v3 S2=>zY (zQ a) false (qB zi false false 33 9 (zQ v3)) S2 (fun v4 S3=>zY (zQ a) false (ret x0) S3 (fun v5 S4=>zY (zQ a) false (qB zi false false 33 9 (zQ v5)) S4 (fun v6 S5=>zY (zQ a) false (jd zi BinOp.neq 9 v4 v6) S5 (fun v7 S6=>zT (jH (zQ a) (Value.bool true) v7 S6) (fun v8 S7=>some ([x0,x1,x2,x3,x4,x5,x6,c,x8,x9,b,f,d,g,i,k,l,m,n,o,p,q,r,s,t,u,w,x,y,z,A,B,C,D,E,F,G,H,I,J,K,L,M,N,P,Q,R,U,V,W,X,Y,Z,a0,a1,a2,a3,a4,a5,a6,a7,a8,a9,b0,b1,b2,b3,b4,b5,b6,b7,b8,b9,zQ d,a,zQ a,zQ v3,v4,zQ v5,v6,v7,v8,d0,d1],S7)) ()) ()) ()) ()) ()) ()) ()):=by
 refine sP Try.f16 13 0 (v:=d) ?_;refine sD Try.f16 13 1 (fun a S1=>?_)
 refine sP Try.f16 13 2 (v:=a) ?_;refine sG Try.f16 13 3 (j:=2) (fun v3 S2=>?_)
 refine sG Try.f16 13 4 (j:=2) (fun v4 S3=>?_)
 refine sG Try.f16 13 5 (j:=2) (fun v5 S4=>?_)
 refine sG Try.f16 13 6 (j:=2) (fun v6 S5=>?_)
 refine sG Try.f16 13 7 (j:=2) (fun v7 S6=>?_)
 refine sD Try.f16 13 8 (fun v8 S7=>?_)
 kernel_rfl
theorem jM.vP :zW zi ⟨false,false,false⟩ (zU zi O) (reg Try.f16 14) (reg Try.f16 14).toList ([x0,x1,x2,x3,x4,x5,x6,c,x8,x9,b,f,d,g,i,k,l,m,n,o,p,q,r,s,t,u,w,x,y,z,A,B,C,D,E,F,G,H,I,J,K,L,M,N,P,Q,R,U,V,W,X,Y,Z,a0,a1,a2,a3,a4,a5,a6,a7,a8,a9,b0,b1,b2,b3,b4,b5,b6,b7,b8,b9,c1,c2,c3,c4,c5,c6,c7,c8,c9,d0,d1]) S =
  (zT (wS zi 48 [] S) (fun v0 S1=>zT (jI zi 48 x2 (zQ v0) S1) (fun a S2=>some ([x0,x1,x2,.int .i64 121,x4,x5,x6,c,x8,x9,b,f,d,g,i,k,l,m,n,o,p,q,r,s,t,u,w,x,y,z,A,B,C,D,E,F,G,H,I,J,K,L,M,N,P,Q,R,U,V,W,X,Y,Z,a0,a1,a2,a3,a4,a5,a6,a7,a8,a9,b0,b1,b2,b3,b4,b5,b6,b7,b8,b9,c1,c2,c3,c4,c5,c6,c7,c8,c9,v0,d1],S2)) ()) ()):=by kernel_rfl
theorem jM.Zi :zW zi ⟨false,false,false⟩ (zU zi O) (reg Try.f16 15) (reg Try.f16 15).toList ([x0,x1,x2,x3,x4,x5,x6,c,x8,x9,b,f,d,g,i,k,l,m,n,o,p,q,r,s,t,u,w,x,y,z,A,B,C,D,E,F,G,H,I,J,K,L,M,N,P,Q,R,U,V,W,X,Y,Z,a0,a1,a2,a3,a4,a5,a6,a7,a8,a9,b0,b1,b2,b3,b4,b5,b6,b7,b8,b9,c1,c2,c3,c4,c5,c6,c7,c8,c9,d0,d1]) S =
  (zT (zZ zi false 48 b S) (fun v0 S1=>zT (jI zi 48 x2 (zQ v0) S1) (fun a S2=>some ([x0,x1,x2,.int .i64 0,x4,x5,x6,c,x8,x9,b,f,d,g,i,k,l,m,n,o,p,q,r,s,t,u,w,x,y,z,A,B,C,D,E,F,G,H,I,J,K,L,M,N,P,Q,R,U,V,W,X,Y,Z,a0,a1,a2,a3,a4,a5,a6,a7,a8,a9,b0,b1,b2,b3,b4,b5,b6,b7,b8,b9,c1,c2,c3,c4,c5,c6,c7,c8,c9,d0,v0],S2)) ()) ()):=by kernel_rfl
theorem jM.rs :type_of% (zJ @jM.r0 (zJ @jM.r1 (zJ @jM.r2 (zJ @jM.r3 (zJ @jM.r4 (zJ @jM.r5 (zJ @jM.r6 (zJ @jM.r7 (zJ @jM.r8 (zJ @jM.r9 (zJ @jM.r10 (zJ @jM.r11 (zJ @jM.r12 (zJ @jM.r13 (zJ @jM.vP (@jM.Zi)))))))))))))))):=zJ @jM.r0 (zJ @jM.r1 (zJ @jM.r2 (zJ @jM.r3 (zJ @jM.r4 (zJ @jM.r5 (zJ @jM.r6 (zJ @jM.r7 (zJ @jM.r8 (zJ @jM.r9 (zJ @jM.r10 (zJ @jM.r11 (zJ @jM.r12 (zJ @jM.r13 (zJ @jM.vP (@jM.Zi)))))))))))))))
theorem jM.runs {x0:zu}{S S1:zS}{e:wC}{T:List zu}(h:zX zi O false jM.code ([x0,zh,zh,zh,zh,zh,zh,zh,zh,zh,zh,zh,zh,zh,zh,zh,zh,zh,zh,zh,zh,zh,zh,zh,zh,zh,zh,zh,zh,zh,zh,zh,zh,zh,zh,zh,zh,zh,zh,zh,zh,zh,zh,zh,zh,zh,zh,zh,zh,zh,zh,zh,zh,zh,zh,zh,zh,zh,zh,zh,zh,zh,zh,zh,zh,zh,zh,zh,zh,zh,zh,zh,zh,zh,zh,zh,zh,zh,zh,zh,zh,zh,zh,zh]) zS.empty=some (e,T,S1)) (he:e=.normal∨e=.ret) {w0:zu}(c0:zZ zi false 48 (T.getD 2 zh) S1=some (w0,S1)) (h0:yc (w0)=true) (h1:yc (T.getD 3 zh)=true) (hca:[x0].all (jw 16)=true) (hcv:jw 16 (Value.tuple #[w0,T.getD 3 zh])=true):zU zi O 16 [x0] S=some (Value.tuple #[w0,T.getD 3 zh],S) :=
 kC rfl rfl Try.func16 (by decide) jM.body (by exact h) he ((Zc ((show jl zi T S1 Try.f16.results.toList=jl zi T S1 [(ResultVar.cell 2 48),(ResultVar.tmp 3)] from by kernel_rfl).trans (by simp only[jl,c0])) (by kernel_rfl) (by simp only[List.all_cons,List.all_nil,h0,h1,Bool.and_true])).trans rfl) hca hcv
end
section
abbrev jW.id :FuncId:=42
noncomputable def jW.code :Code:=(.seq (.region 0 (reg Try.f42 0) false) (.seq (.region 1 (reg Try.f42 1) false) (.seq (.seq (.region 2 (reg Try.f42 2) false) (.cond (.tmp 14) (.seq (.region 3 (reg Try.f42 3) false) Code.ret) Code.skip)) (.seq (.region 4 (reg Try.f42 4) true) (.seq (.seq (.region 5 (reg Try.f42 5) false) (.block 0 (.seq (.region 8 (reg Try.f42 8) false) (.cond (.tmp 46) (.region 9 (reg Try.f42 9) false) (.seq (.region 10 (reg Try.f42 10) false) (.cond (.tmp 54) (.region 11 (reg Try.f42 11) false) (.seq (.region 6 (reg Try.f42 6) false) (.seq (.region 7 (reg Try.f42 7) true) Code.ret)))))))) (.seq (.region 12 (reg Try.f42 12) true) Code.ret))))))
theorem jW.body :Try.f42.body=some jW.code:=by kernel_rfl
variable (x0 x1 a x3 b x5 x6 x7 x8 x9 d f g i k l m n o p q r s t u w x y z A B C D E F G c H I J K L M N P Q R U V W X Y Z a0 a1 a2 a3 a4 a5 a6 a7 a8 a9 b0 b1 b2 b3 b4 b5:zu) (S:zS)
theorem jW.r0 :zW zi ⟨false,false,false⟩ (zU zi O) (reg Try.f42 0) (reg Try.f42 0).toList ([x0,x1,a,x3,b,x5,x6,x7,x8,x9,d,f,g,i,k,l,m,n,o,p,q,r,s,t,u,w,x,y,z,A,B,C,D,E,F,G,c,H,I,J,K,L,M,N,P,Q,R,U,V,W,X,Y,Z,a0,a1,a2,a3,a4,a5,a6,a7,a8,a9,b0,b1,b2,b3,b4,b5]) S =
  (zT (wR zi 48 S) (fun v0 S1=>some ([x0,x1,v0,Value.bool false,b,x5,x6,x7,x8,x9,d,f,g,i,k,l,m,n,o,p,q,r,s,t,u,w,x,y,z,A,B,C,D,E,F,G,c,H,I,J,K,L,M,N,P,Q,R,U,V,W,X,Y,Z,a0,a1,a2,a3,a4,a5,a6,a7,a8,a9,b0,b1,b2,b3,b4,b5],S1)) ()):=by kernel_rfl
theorem jW.r1 :zW zi ⟨false,false,false⟩ (zU zi O) (reg Try.f42 1) (reg Try.f42 1).toList ([x0,x1,a,x3,b,x5,x6,x7,x8,x9,d,f,g,i,k,l,m,n,o,p,q,r,s,t,u,w,x,y,z,A,B,C,D,E,F,G,c,H,I,J,K,L,M,N,P,Q,R,U,V,W,X,Y,Z,a0,a1,a2,a3,a4,a5,a6,a7,a8,a9,b0,b1,b2,b3,b4,b5]) S =
  (zT ((zU zi O) 55 [(zQ (zQ x0)),(.int .i64 6)] S) (fun v1 S1=>zT (jv v1 0 S1) (fun v3 S2=>zT (jv (jh 0 v1) 1 S2) (fun v4 S3=>zT (jv (jh 1 (jh 0 v1)) 2 S3) (fun v5 S4=>some ([x0,x1,a,x3,v3,v4,v5,jh 2 (jh 1 (jh 0 v1)),zQ x0,zQ v1,zQ v3,zQ v4,zQ v5,i,k,l,m,n,o,p,q,r,s,t,u,w,x,y,z,A,B,C,D,E,F,G,c,H,I,J,K,L,M,N,P,Q,R,U,V,W,X,Y,Z,a0,a1,a2,a3,a4,a5,a6,a7,a8,a9,b0,b1,b2,b3,b4,b5],S4)) ()) ()) ()) ()):=by kernel_rfl
theorem jW.r2 :zW zi ⟨false,false,false⟩ (zU zi O) (reg Try.f42 2) (reg Try.f42 2).toList ([x0,x1,a,x3,b,x5,x6,x7,x8,x9,d,f,g,i,k,l,m,n,o,p,q,r,s,t,u,w,x,y,z,A,B,C,D,E,F,G,c,H,I,J,K,L,M,N,P,Q,R,U,V,W,X,Y,Z,a0,a1,a2,a3,a4,a5,a6,a7,a8,a9,b0,b1,b2,b3,b4,b5]) S =
  (zT (jd zi BinOp.neq 64 (zQ x6) (.int .i64 0) S) (fun v1 S1=>some ([x0,x1,a,x3,b,x5,x6,x7,x8,x9,d,f,g,zQ x6,v1,l,m,n,o,p,q,r,s,t,u,w,x,y,z,A,B,C,D,E,F,G,c,H,I,J,K,L,M,N,P,Q,R,U,V,W,X,Y,Z,a0,a1,a2,a3,a4,a5,a6,a7,a8,a9,b0,b1,b2,b3,b4,b5],S1)) ()):=by kernel_rfl
theorem jW.r3 :zW zi ⟨false,false,false⟩ (zU zi O) (reg Try.f42 3) (reg Try.f42 3).toList ([x0,x1,a,x3,b,x5,x6,x7,x8,x9,d,f,g,i,k,l,m,n,o,p,q,r,s,t,u,w,x,y,z,A,B,C,D,E,F,G,c,H,I,J,K,L,M,N,P,Q,R,U,V,W,X,Y,Z,a0,a1,a2,a3,a4,a5,a6,a7,a8,a9,b0,b1,b2,b3,b4,b5]) S =
  (zT (zZ zi false 48 a S) (fun v0 S1=>zT (jI zi 48 a (zQ v0) S1) (fun v1 S2=>some ([x0,x1,a,Value.bool false,b,x5,x6,x7,x8,x9,d,f,g,i,k,v0,m,n,o,p,q,r,s,t,u,w,x,y,z,A,B,C,D,E,F,G,c,H,I,J,K,L,M,N,P,Q,R,U,V,W,X,Y,Z,a0,a1,a2,a3,a4,a5,a6,a7,a8,a9,b0,b1,b2,b3,b4,b5],S2)) ()) ()):=by kernel_rfl
theorem jW.d4 :vg zi (reg Try.f42 4)=true:=by kernel_rfl
theorem jW.KE :fixed zi (reg Try.f42 4)=false:=by kernel_rfl
theorem jW.k4 :checked zi (reg Try.f42 4)=[]:=by kernel_rfl
theorem jW.g4 :again zi (reg Try.f42 4)=[]:=by kernel_rfl
theorem jW.r4 :zX zi O false (.region 4 (reg Try.f42 4) true) ([x0,x1,a,x3,b,x5,x6,x7,x8,x9,d,f,g,i,k,l,m,n,o,p,q,r,s,t,u,w,x,y,z,A,B,C,D,E,F,G,c,H,I,J,K,L,M,N,P,Q,R,U,V,W,X,Y,Z,a0,a1,a2,a3,a4,a5,a6,a7,a8,a9,b0,b1,b2,b3,b4,b5]) S =
  yY (zT (jZ zi 24 (zQ b) (.int .i64 0) S) (fun v1 S1=>zT (zZ zi false 3 v1 S1) (fun v2 S2=>zT (jZ zi 24 (zQ b) (.int .i64 1) S2) (fun v4 S3=>zT (zZ zi false 3 v4 S3) (fun v5 S4=>zT (jZ zi 24 (zQ b) (.int .i64 2) S4) (fun v7 S5=>zT (zZ zi false 3 v7 S5) (fun v8 S6=>zT (jZ zi 24 (zQ b) (.int .i64 3) S6) (fun b6 S7=>zT (zZ zi false 3 b6 S7) (fun b7 S8=>zT (jZ zi 24 (zQ b) (.int .i64 4) S8) (fun b8 S9=>zT (zZ zi false 3 b8 S9) (fun b9 c4=>zT (jZ zi 24 (zQ b) (.int .i64 5) c4) (fun c1 c5=>zT (zZ zi false 3 c1 c5) (fun c2 c6=>zT (wS zi 48 [(0,(zQ v2)),(1,(zQ v5)),(2,(zQ v8)),(3,(zQ b7)),(4,(zQ b9)),(5,(zQ c2))] c6) (fun c3 c7=>zT (jI zi 48 a (zQ c3) c7) (fun c9 c8=>some ([x0,x1,a,x3,b,x5,x6,x7,x8,x9,d,f,g,i,k,l,zQ b,v1,v2,zQ b,v4,v5,zQ b,v7,v8,zQ b,b6,b7,zQ b,b8,b9,zQ b,c1,c2,c3,G,c,H,I,J,K,L,M,N,P,Q,R,U,V,W,X,Y,Z,a0,a1,a2,a3,a4,a5,a6,a7,a8,a9,b0,b1,b2,b3,b4,b5],c8)) ()) ()) ()) ()) ()) ()) ()) ()) ()) ()) ()) ()) ()) ()):=by
 rw[Jh jW.d4 jW.KE jW.k4 jW.g4];refine congrArg yY ?_;refine tP Try.f42 4 0 (v:=b) ?_;refine tD Try.f42 4 1 (fun v1 S1=>?_)
 refine tD Try.f42 4 2 (fun v2 S2=>?_)
 refine tP Try.f42 4 3 (v:=b) ?_;refine tD Try.f42 4 4 (fun v4 S3=>?_)
 refine tD Try.f42 4 5 (fun v5 S4=>?_)
 refine tP Try.f42 4 6 (v:=b) ?_;refine tD Try.f42 4 7 (fun v7 S5=>?_)
 refine tD Try.f42 4 8 (fun v8 S6=>?_)
 refine tP Try.f42 4 9 (v:=b) ?_;refine tD Try.f42 4 10 (fun b6 S7=>?_)
 refine tD Try.f42 4 11 (fun b7 S8=>?_)
 refine tP Try.f42 4 12 (v:=b) ?_;refine tD Try.f42 4 13 (fun b8 S9=>?_)
 refine tD Try.f42 4 14 (fun b9 c4=>?_)
 refine tP Try.f42 4 15 (v:=b) ?_;refine tD Try.f42 4 16 (fun c1 c5=>?_)
 refine tD Try.f42 4 17 (fun c2 c6=>?_)
 refine tD Try.f42 4 18 (fun c3 c7=>?_)
 refine tD Try.f42 4 19 (fun c9 c8=>?_)
 kernel_rfl
theorem jW.r5 :zW zi ⟨false,false,false⟩ (zU zi O) (reg Try.f42 5) (reg Try.f42 5).toList ([x0,x1,a,x3,b,x5,x6,x7,x8,x9,d,f,g,i,k,l,m,n,o,p,q,r,s,t,u,w,x,y,z,A,B,C,D,E,F,G,c,H,I,J,K,L,M,N,P,Q,R,U,V,W,X,Y,Z,a0,a1,a2,a3,a4,a5,a6,a7,a8,a9,b0,b1,b2,b3,b4,b5]) S =
  (zT (jf zi 48 a 0 S) (fun v0 S1=>zT (zZ zi false 3 v0 S1) (fun v1 S2=>some ([x0,x1,a,x3,b,x5,x6,x7,x8,x9,d,f,g,i,k,l,m,n,o,p,q,r,s,t,u,w,x,y,z,A,B,C,D,E,F,v0,v1,H,I,J,K,L,M,N,P,Q,R,U,V,W,X,Y,Z,a0,a1,a2,a3,a4,a5,a6,a7,a8,a9,b0,b1,b2,b3,b4,b5],S2)) ()) ()):=by kernel_rfl
theorem jW.r8 :zW zi ⟨false,false,false⟩ (zU zi O) (reg Try.f42 8) (reg Try.f42 8).toList ([x0,x1,a,x3,b,x5,x6,x7,x8,x9,d,f,g,i,k,l,m,n,o,p,q,r,s,t,u,w,x,y,z,A,B,C,D,E,F,G,c,H,I,J,K,L,M,N,P,Q,R,U,V,W,X,Y,Z,a0,a1,a2,a3,a4,a5,a6,a7,a8,a9,b0,b1,b2,b3,b4,b5]) S =
  (zT (jd zi BinOp.eql 3 c (.int .i64 0) S) (fun v0 S1=>some ([x0,x1,a,x3,b,x5,x6,x7,x8,x9,d,f,g,i,k,l,m,n,o,p,q,r,s,t,u,w,x,y,z,A,B,C,D,E,F,G,c,H,I,J,K,L,M,N,P,Q,v0,zQ v0,V,W,X,Y,Z,a0,a1,a2,a3,a4,a5,a6,a7,a8,a9,b0,b1,b2,b3,b4,b5],S1)) ()):=by kernel_rfl
theorem jW.r9 :zW zi ⟨false,false,false⟩ (zU zi O) (reg Try.f42 9) (reg Try.f42 9).toList ([x0,x1,a,x3,b,x5,x6,x7,x8,x9,d,f,g,i,k,l,m,n,o,p,q,r,s,t,u,w,x,y,z,A,B,C,D,E,F,G,c,H,I,J,K,L,M,N,P,Q,R,U,V,W,X,Y,Z,a0,a1,a2,a3,a4,a5,a6,a7,a8,a9,b0,b1,b2,b3,b4,b5]) S =
  (zT ((zU zi O) 56 [(zQ (zQ x5))] S) (fun v1 S1=>zT (jv v1 0 S1) (fun v3 S2=>zT (jv (jh 0 v1) 1 S2) (fun v4 S3=>zT (jf zi 48 a 6 S3) (fun v5 S4=>zT (jI zi 43 v5 (zQ v3) S4) (fun v6 S5=>some ([x0,x1,a,x3,b,x5,v4,x7,x8,x9,d,f,g,i,k,l,m,n,o,p,q,r,s,t,u,w,x,y,z,A,B,C,D,E,F,G,c,H,I,J,K,L,M,N,P,Q,R,U,jh 1 (jh 0 v1),zQ x5,zQ v1,v3,zQ v4,v5,a1,a2,a3,a4,a5,a6,a7,a8,a9,b0,b1,b2,b3,b4,b5],S5)) ()) ()) ()) ()) ()):=by kernel_rfl
theorem jW.r10 :zW zi ⟨false,false,false⟩ (zU zi O) (reg Try.f42 10) (reg Try.f42 10).toList ([x0,x1,a,x3,b,x5,x6,x7,x8,x9,d,f,g,i,k,l,m,n,o,p,q,r,s,t,u,w,x,y,z,A,B,C,D,E,F,G,c,H,I,J,K,L,M,N,P,Q,R,U,V,W,X,Y,Z,a0,a1,a2,a3,a4,a5,a6,a7,a8,a9,b0,b1,b2,b3,b4,b5]) S =
  (zT (jd zi BinOp.eql 3 c (.int .i64 1) S) (fun v0 S1=>some ([x0,x1,a,x3,b,x5,x6,x7,x8,x9,d,f,g,i,k,l,m,n,o,p,q,r,s,t,u,w,x,y,z,A,B,C,D,E,F,G,c,H,I,J,K,L,M,N,P,Q,R,U,V,W,X,Y,Z,a0,v0,zQ v0,a3,a4,a5,a6,a7,a8,a9,b0,b1,b2,b3,b4,b5],S1)) ()):=by kernel_rfl
theorem jW.r11 :zW zi ⟨false,false,false⟩ (zU zi O) (reg Try.f42 11) (reg Try.f42 11).toList ([x0,x1,a,x3,b,x5,x6,x7,x8,x9,d,f,g,i,k,l,m,n,o,p,q,r,s,t,u,w,x,y,z,A,B,C,D,E,F,G,c,H,I,J,K,L,M,N,P,Q,R,U,V,W,X,Y,Z,a0,a1,a2,a3,a4,a5,a6,a7,a8,a9,b0,b1,b2,b3,b4,b5]) S =
  (zT ((zU zi O) 57 [(zQ (zQ x5))] S) (fun v1 S1=>zT (jv v1 0 S1) (fun v3 S2=>zT (jv (jh 0 v1) 1 S2) (fun v4 S3=>zT (jf zi 48 a 7 S3) (fun v5 S4=>zT (jI zi 46 v5 (zQ v3) S4) (fun v6 S5=>some ([x0,x1,a,x3,b,x5,v4,x7,x8,x9,d,f,g,i,k,l,m,n,o,p,q,r,s,t,u,w,x,y,z,A,B,C,D,E,F,G,c,H,I,J,K,L,M,N,P,Q,R,U,V,W,X,Y,Z,a0,a1,a2,jh 1 (jh 0 v1),zQ x5,zQ v1,v3,zQ v4,v5,a9,b0,b1,b2,b3,b4,b5],S5)) ()) ()) ()) ()) ()):=by kernel_rfl
theorem jW.r6 :zW zi ⟨false,false,false⟩ (zU zi O) (reg Try.f42 6) (reg Try.f42 6).toList ([x0,x1,a,x3,b,x5,x6,x7,x8,x9,d,f,g,i,k,l,m,n,o,p,q,r,s,t,u,w,x,y,z,A,B,C,D,E,F,G,c,H,I,J,K,L,M,N,P,Q,R,U,V,W,X,Y,Z,a0,a1,a2,a3,a4,a5,a6,a7,a8,a9,b0,b1,b2,b3,b4,b5]) S =
  (zT (yK zi 33 (zQ x5) S) (fun v1 S1=>zT (jd zi BinOp.eql 3 v1 (.int .i64 0) S1) (fun v2 S2=>some ([x0,x1,a,v2,b,x5,x6,x7,x8,x9,d,f,g,i,k,l,m,n,o,p,q,r,s,t,u,w,x,y,z,A,B,C,D,E,F,G,c,zQ x5,v1,zQ v2,K,L,M,N,P,Q,R,U,V,W,X,Y,Z,a0,a1,a2,a3,a4,a5,a6,a7,a8,a9,b0,b1,b2,b3,b4,b5],S2)) ()) ()):=by kernel_rfl
theorem jW.d7 :vg zi (reg Try.f42 7)=true:=by kernel_rfl
theorem jW.gZ :fixed zi (reg Try.f42 7)=false:=by kernel_rfl
theorem jW.k7 :checked zi (reg Try.f42 7)=[0,5]:=by kernel_rfl
theorem jW.g7 :again zi (reg Try.f42 7)=[(0,4)]:=by kernel_rfl
theorem jW.r7 :zX zi O false (.region 7 (reg Try.f42 7) true) ([x0,x1,a,x3,b,x5,x6,x7,x8,x9,d,f,g,i,k,l,m,n,o,p,q,r,s,t,u,w,x,y,z,A,B,C,D,E,F,G,c,H,I,J,K,L,M,N,P,Q,R,U,V,W,X,Y,Z,a0,a1,a2,a3,a4,a5,a6,a7,a8,a9,b0,b1,b2,b3,b4,b5]) S =
  yY (zT (zZ zi false 48 a S) (fun v0 S1=>jK v0 ( zY (zQ x3) true (zZ zi false 48 a) S1 (fun v3 S2=>zY (zQ x3) true ((zU zi O) 58 [(zQ v3)]) S2 (fun v4 S3=>zT (jH (zQ x3) v4 (Value.bool false) S3) (fun v5 S4=>jK v5 ( zT (jI zi 48 a (zQ v0) S4) (fun v6 S5=>Jy (y8 a S S3&&(true)) (some ([x0,x1,a,v5,b,x5,x6,x7,x8,x9,d,f,g,i,k,l,m,n,o,p,q,r,s,t,u,w,x,y,z,A,B,C,D,E,F,G,c,H,I,J,v0,x3,zQ x3,v3,v4,zQ v5,R,U,V,W,X,Y,Z,a0,a1,a2,a3,a4,a5,a6,a7,a8,a9,b0,b1,b2,b3,b4,b5],S5)) ()) ()) ()) ()) ()) ()) ()) ()):=by
 rw[Jh jW.d7 jW.gZ jW.k7 jW.g7];refine congrArg yY ?_;refine yH Try.f42 7 0 (pe:=a) (fun v0 S1=>?_)
 refine uP Try.f42 7 1 (v:=x3) (pe:=zh) ?_;refine uP Try.f42 7 2 (v:=x3) (pe:=zh) ?_;refine uG Try.f42 7 3 (j:=2) (pe:=a) (fun v3 S2=>?_)
 refine uG Try.f42 7 4 (j:=2) (pe:=zh) (fun v4 S3=>?_)
 refine yH Try.f42 7 5 (pe:=zh) (fun v5 S4=>?_)
 refine uD Try.f42 7 6 (pe:=zh) (fun v6 S5=>?_)
 refine uP Try.f42 7 7 (v:=v5) (pe:=zh) ?_
 kernel_rfl
theorem jW.d12 :vg zi (reg Try.f42 12)=true:=by kernel_rfl
theorem jW.Nl :fixed zi (reg Try.f42 12)=false:=by kernel_rfl
theorem jW.k12 :checked zi (reg Try.f42 12)=[0,6]:=by kernel_rfl
theorem jW.g12 :again zi (reg Try.f42 12)=[(0,5)]:=by kernel_rfl
theorem jW.r12 :zX zi O false (.region 12 (reg Try.f42 12) true) ([x0,x1,a,x3,b,x5,x6,x7,x8,x9,d,f,g,i,k,l,m,n,o,p,q,r,s,t,u,w,x,y,z,A,B,C,D,E,F,G,c,H,I,J,K,L,M,N,P,Q,R,U,V,W,X,Y,Z,a0,a1,a2,a3,a4,a5,a6,a7,a8,a9,b0,b1,b2,b3,b4,b5]) S =
  yY (zT (zZ zi false 48 a S) (fun v0 S1=>jK v0 ( zT (jd zi BinOp.eql 64 (zQ x6) (.int .i64 0) S1) (fun v2 S2=>zY (zQ v2) true (zZ zi false 48 a) S2 (fun v4 S3=>zY (zQ v2) true ((zU zi O) 58 [(zQ v4)]) S3 (fun v5 S4=>zT (jH (zQ v2) v5 (Value.bool false) S4) (fun v6 S5=>jK v6 ( zT (jI zi 48 a (zQ v0) S5) (fun v7 S6=>Jy (y8 a S S4&&(true)) (some ([x0,x1,a,v6,b,x5,x6,x7,x8,x9,d,f,g,i,k,l,m,n,o,p,q,r,s,t,u,w,x,y,z,A,B,C,D,E,F,G,c,H,I,J,K,L,M,N,P,Q,R,U,V,W,X,Y,Z,a0,a1,a2,a3,a4,a5,a6,a7,a8,v0,zQ x6,v2,zQ v2,v4,v5,zQ v6],S6)) ()) ()) ()) ()) ()) ()) ()) ()) ()):=by
 rw[Jh jW.d12 jW.Nl jW.k12 jW.g12];refine congrArg yY ?_;refine yH Try.f42 12 0 (pe:=a) (fun v0 S1=>?_)
 refine uP Try.f42 12 1 (v:=x6) (pe:=zh) ?_;refine uD Try.f42 12 2 (pe:=zh) (fun v2 S2=>?_)
 refine uP Try.f42 12 3 (v:=v2) (pe:=zh) ?_;refine uG Try.f42 12 4 (j:=3) (pe:=a) (fun v4 S3=>?_)
 refine uG Try.f42 12 5 (j:=3) (pe:=zh) (fun v5 S4=>?_)
 refine yH Try.f42 12 6 (pe:=zh) (fun v6 S5=>?_)
 refine uD Try.f42 12 7 (pe:=zh) (fun v7 S6=>?_)
 refine uP Try.f42 12 8 (v:=v6) (pe:=zh) ?_
 kernel_rfl
theorem jW.rs :type_of% (zJ @jW.r0 (zJ @jW.r1 (zJ @jW.r2 (zJ @jW.r3 (zJ @jW.r4 (zJ @jW.r5 (zJ @jW.r8 (zJ @jW.r9 (zJ @jW.r10 (zJ @jW.r11 (zJ @jW.r6 (zJ @jW.r7 (@jW.r12))))))))))))):=zJ @jW.r0 (zJ @jW.r1 (zJ @jW.r2 (zJ @jW.r3 (zJ @jW.r4 (zJ @jW.r5 (zJ @jW.r8 (zJ @jW.r9 (zJ @jW.r10 (zJ @jW.r11 (zJ @jW.r6 (zJ @jW.r7 (@jW.r12))))))))))))
theorem jW.runs {x0:zu}{S S1:zS}{e:wC}{T:List zu}(h:zX zi O false jW.code ([x0,zh,zh,zh,zh,zh,zh,zh,zh,zh,zh,zh,zh,zh,zh,zh,zh,zh,zh,zh,zh,zh,zh,zh,zh,zh,zh,zh,zh,zh,zh,zh,zh,zh,zh,zh,zh,zh,zh,zh,zh,zh,zh,zh,zh,zh,zh,zh,zh,zh,zh,zh,zh,zh,zh,zh,zh,zh,zh,zh,zh,zh,zh,zh,zh,zh,zh,zh,zh]) zS.empty=some (e,T,S1)) (he:e=.normal∨e=.ret) {w0:zu}(c0:zZ zi false 48 (T.getD 2 zh) S1=some (w0,S1)) (h0:yc (w0)=true) (h1:yc (T.getD 3 zh)=true) (hca:[x0].all (jw 16)=true) (hcv:jw 16 (Value.tuple #[w0,T.getD 3 zh])=true):zU zi O 42 [x0] S=some (Value.tuple #[w0,T.getD 3 zh],S) :=
 kC rfl rfl Try.func42 (by decide) jW.body (by exact h) he ((Zc ((show jl zi T S1 Try.f42.results.toList=jl zi T S1 [(ResultVar.cell 2 48),(ResultVar.tmp 3)] from by kernel_rfl).trans (by simp only[jl,c0])) (by kernel_rfl) (by simp only[List.all_cons,List.all_nil,h0,h1,Bool.and_true])).trans rfl) hca hcv
end
section
abbrev yN.id :FuncId:=19
noncomputable def yN.code :Code:=(.seq (.region 0 (reg Try.f19 0) false) (.seq (.seq (.region 1 (reg Try.f19 1) false) (.cond (.tmp 12) (.seq (.region 2 (reg Try.f19 2) false) Code.ret) Code.skip)) (.seq (.region 3 (reg Try.f19 3) false) (.seq (.seq (.region 4 (reg Try.f19 4) false) (.cond (.tmp 32) (.seq (.region 5 (reg Try.f19 5) false) (.region 6 (reg Try.f19 6) false)) Code.skip)) (.seq (.seq (.region 7 (reg Try.f19 7) false) (.cond (.tmp 44) (.seq (.region 8 (reg Try.f19 8) false) (.region 9 (reg Try.f19 9) false)) Code.skip)) (.seq (.region 10 (reg Try.f19 10) false) Code.ret))))))
theorem yN.body :Try.f19.body=some yN.code:=by kernel_rfl
variable (x0 a x2 x3 x4 x5 x6 x7 x8 x9 b c d f g i j k l m n o p q r s t u v w x y z A B C D E F G H I J K L M N P Q R U V W X Y Z a0 a1 a2 a3 a4 a5:zu) (S:zS)
theorem yN.r0 :zW zi ⟨false,false,false⟩ (zU zi O) (reg Try.f19 0) (reg Try.f19 0).toList ([x0,a,x2,x3,x4,x5,x6,x7,x8,x9,b,c,d,f,g,i,j,k,l,m,n,o,p,q,r,s,t,u,v,w,x,y,z,A,B,C,D,E,F,G,H,I,J,K,L,M,N,P,Q,R,U,V,W,X,Y,Z,a0,a1,a2,a3,a4,a5]) S =
  (zT (qm (zQ x0) S) (fun v0 S1=>some ([x0,v0,Value.slice none 0 0,.int .i64 0,x4,x5,x6,x7,x8,x9,b,c,d,f,g,i,j,k,l,m,n,o,p,q,r,s,t,u,v,w,x,y,z,A,B,C,D,E,F,G,H,I,J,K,L,M,N,P,Q,R,U,V,W,X,Y,Z,a0,a1,a2,a3,a4,a5],S1)) ()):=by kernel_rfl
theorem yN.r1 :zW zi ⟨false,false,false⟩ (zU zi O) (reg Try.f19 1) (reg Try.f19 1).toList ([x0,a,x2,x3,x4,x5,x6,x7,x8,x9,b,c,d,f,g,i,j,k,l,m,n,o,p,q,r,s,t,u,v,w,x,y,z,A,B,C,D,E,F,G,H,I,J,K,L,M,N,P,Q,R,U,V,W,X,Y,Z,a0,a1,a2,a3,a4,a5]) S =
  (zT (zZ zi false 48 a S) (fun v0 S1=>zT ((zU zi O) 34 [(zQ v0)] S1) (fun v1 S2=>zT (qo zi UnOp.not v1 S2) (fun v2 S3=>some ([x0,a,x2,x3,x4,x5,x6,x7,x8,x9,v0,v1,v2,f,g,i,j,k,l,m,n,o,p,q,r,s,t,u,v,w,x,y,z,A,B,C,D,E,F,G,H,I,J,K,L,M,N,P,Q,R,U,V,W,X,Y,Z,a0,a1,a2,a3,a4,a5],S3)) ()) ()) ()):=by kernel_rfl
theorem yN.r2 :zW zi ⟨false,false,false⟩ (zU zi O) (reg Try.f19 2) (reg Try.f19 2).toList ([x0,a,x2,x3,x4,x5,x6,x7,x8,x9,b,c,d,f,g,i,j,k,l,m,n,o,p,q,r,s,t,u,v,w,x,y,z,A,B,C,D,E,F,G,H,I,J,K,L,M,N,P,Q,R,U,V,W,X,Y,Z,a0,a1,a2,a3,a4,a5]) S =
  ( some ([x0,a,Value.slice none 0 0,.int .i64 121,x4,x5,x6,x7,x8,x9,b,c,d,f,g,i,j,k,l,m,n,o,p,q,r,s,t,u,v,w,x,y,z,A,B,C,D,E,F,G,H,I,J,K,L,M,N,P,Q,R,U,V,W,X,Y,Z,a0,a1,a2,a3,a4,a5],S)):=by kernel_rfl
theorem yN.r3 :zW zi ⟨false,false,false⟩ (zU zi O) (reg Try.f19 3) (reg Try.f19 3).toList ([x0,a,x2,x3,x4,x5,x6,x7,x8,x9,b,c,d,f,g,i,j,k,l,m,n,o,p,q,r,s,t,u,v,w,x,y,z,A,B,C,D,E,F,G,H,I,J,K,L,M,N,P,Q,R,U,V,W,X,Y,Z,a0,a1,a2,a3,a4,a5]) S =
  (zT (jf zi 48 a 0 S) (fun v0 S1=>zT (zZ zi false 3 v0 S1) (fun v1 S2=>zT (jf zi 48 a 1 S2) (fun v2 S3=>zT (zZ zi false 3 v2 S3) (fun v3 S4=>zT (jf zi 48 a 2 S4) (fun v4 S5=>zT (zZ zi false 3 v4 S5) (fun v5 S6=>zT (jf zi 48 a 3 S6) (fun v6 S7=>zT (zZ zi false 3 v6 S7) (fun v7 S8=>zT (jf zi 48 a 4 S8) (fun v8 S9=>zT (zZ zi false 3 v8 S9) (fun v9 b2=>zT (jf zi 48 a 5 b2) (fun a7 b3=>zT (zZ zi false 3 a7 b3) (fun a8 b4=>zT (yO zi 24 6 [(0,v1),(1,v3),(2,v5),(3,v7),(4,v9),(5,a8)] b4) (fun a9 b5=>zT ((zU zi O) 35 [(zQ a9)] b5) (fun a6 b6=>zT (jv a6 0 b6) (fun b0 b7=>zT (jv (jh 0 a6) 1 b7) (fun b1 b8=>some ([x0,a,x2,x3,b0,b1,x6,x7,x8,x9,b,c,d,jh 1 (jh 0 a6),v0,v1,v2,v3,v4,v5,v6,v7,v8,v9,a7,a8,a9,zQ a6,zQ b0,zQ b1,x,y,z,A,B,C,D,E,F,G,H,I,J,K,L,M,N,P,Q,R,U,V,W,X,Y,Z,a0,a1,a2,a3,a4,a5],b8)) ()) ()) ()) ()) ()) ()) ()) ()) ()) ()) ()) ()) ()) ()) ()) ()):=by kernel_rfl
theorem yN.r4 :zW zi ⟨false,false,false⟩ (zU zi O) (reg Try.f19 4) (reg Try.f19 4).toList ([x0,a,x2,x3,x4,x5,x6,x7,x8,x9,b,c,d,f,g,i,j,k,l,m,n,o,p,q,r,s,t,u,v,w,x,y,z,A,B,C,D,E,F,G,H,I,J,K,L,M,N,P,Q,R,U,V,W,X,Y,Z,a0,a1,a2,a3,a4,a5]) S =
  (zT (jf zi 48 a 0 S) (fun v0 S1=>zT (zZ zi false 3 v0 S1) (fun v1 S2=>zT (jd zi BinOp.eql 3 v1 (.int .i64 0) S2) (fun v2 S3=>some ([x0,a,x2,x3,x4,x5,x6,x7,x8,x9,b,c,d,f,g,i,j,k,l,m,n,o,p,q,r,s,t,u,v,w,v0,v1,v2,A,B,C,D,E,F,G,H,I,J,K,L,M,N,P,Q,R,U,V,W,X,Y,Z,a0,a1,a2,a3,a4,a5],S3)) ()) ()) ()):=by kernel_rfl
theorem yN.r5 :zW zi ⟨false,false,false⟩ (zU zi O) (reg Try.f19 5) (reg Try.f19 5).toList ([x0,a,x2,x3,x4,x5,x6,x7,x8,x9,b,c,d,f,g,i,j,k,l,m,n,o,p,q,r,s,t,u,v,w,x,y,z,A,B,C,D,E,F,G,H,I,J,K,L,M,N,P,Q,R,U,V,W,X,Y,Z,a0,a1,a2,a3,a4,a5]) S =
  (zT (jf zi 48 a 6 S) (fun v0 S1=>zT (zZ zi false 43 v0 S1) (fun v1 S2=>zT ((zU zi O) 36 [(zQ v1)] S2) (fun v2 S3=>zT (jv v2 0 S3) (fun v4 S4=>zT (jv (jh 0 v2) 1 S4) (fun v5 S5=>some ([x0,a,x2,x3,x4,x5,v4,v5,x8,x9,b,c,d,f,g,i,j,k,l,m,n,o,p,q,r,s,t,u,v,w,x,y,z,jh 1 (jh 0 v2),v0,v1,zQ v2,zQ v4,zQ v5,G,H,I,J,K,L,M,N,P,Q,R,U,V,W,X,Y,Z,a0,a1,a2,a3,a4,a5],S5)) ()) ()) ()) ()) ()):=by kernel_rfl
theorem yN.r6 :zW zi ⟨false,false,false⟩ (zU zi O) (reg Try.f19 6) (reg Try.f19 6).toList ([x0,a,x2,x3,x4,x5,x6,x7,x8,x9,b,c,d,f,g,i,j,k,l,m,n,o,p,q,r,s,t,u,v,w,x,y,z,A,B,C,D,E,F,G,H,I,J,K,L,M,N,P,Q,R,U,V,W,X,Y,Z,a0,a1,a2,a3,a4,a5]) S =
  (zT (yF zi 33 33 x4 (zQ x6) S) (fun v2 S1=>some ([x0,a,x2,x3,v2,x5,x6,x7,x8,x9,b,c,d,f,g,i,j,k,l,m,n,o,p,q,r,s,t,u,v,w,x,y,z,A,B,C,D,E,F,zQ x4,zQ x6,zQ v2,J,K,L,M,N,P,Q,R,U,V,W,X,Y,Z,a0,a1,a2,a3,a4,a5],S1)) ()):=by kernel_rfl
theorem yN.r7 :zW zi ⟨false,false,false⟩ (zU zi O) (reg Try.f19 7) (reg Try.f19 7).toList ([x0,a,x2,x3,x4,x5,x6,x7,x8,x9,b,c,d,f,g,i,j,k,l,m,n,o,p,q,r,s,t,u,v,w,x,y,z,A,B,C,D,E,F,G,H,I,J,K,L,M,N,P,Q,R,U,V,W,X,Y,Z,a0,a1,a2,a3,a4,a5]) S =
  (zT (jf zi 48 a 0 S) (fun v0 S1=>zT (zZ zi false 3 v0 S1) (fun v1 S2=>zT (jd zi BinOp.eql 3 v1 (.int .i64 1) S2) (fun v2 S3=>some ([x0,a,x2,x3,x4,x5,x6,x7,x8,x9,b,c,d,f,g,i,j,k,l,m,n,o,p,q,r,s,t,u,v,w,x,y,z,A,B,C,D,E,F,G,H,I,v0,v1,v2,M,N,P,Q,R,U,V,W,X,Y,Z,a0,a1,a2,a3,a4,a5],S3)) ()) ()) ()):=by kernel_rfl
theorem yN.r8 :zW zi ⟨false,false,false⟩ (zU zi O) (reg Try.f19 8) (reg Try.f19 8).toList ([x0,a,x2,x3,x4,x5,x6,x7,x8,x9,b,c,d,f,g,i,j,k,l,m,n,o,p,q,r,s,t,u,v,w,x,y,z,A,B,C,D,E,F,G,H,I,J,K,L,M,N,P,Q,R,U,V,W,X,Y,Z,a0,a1,a2,a3,a4,a5]) S =
  (zT (jf zi 48 a 7 S) (fun v0 S1=>zT (zZ zi false 46 v0 S1) (fun v1 S2=>zT ((zU zi O) 37 [(zQ v1)] S2) (fun v2 S3=>zT (jv v2 0 S3) (fun v4 S4=>zT (jv (jh 0 v2) 1 S4) (fun v5 S5=>some ([x0,a,x2,x3,x4,x5,x6,x7,v4,v5,b,c,d,f,g,i,j,k,l,m,n,o,p,q,r,s,t,u,v,w,x,y,z,A,B,C,D,E,F,G,H,I,J,K,L,jh 1 (jh 0 v2),v0,v1,zQ v2,zQ v4,zQ v5,V,W,X,Y,Z,a0,a1,a2,a3,a4,a5],S5)) ()) ()) ()) ()) ()):=by kernel_rfl
theorem yN.r9 :zW zi ⟨false,false,false⟩ (zU zi O) (reg Try.f19 9) (reg Try.f19 9).toList ([x0,a,x2,x3,x4,x5,x6,x7,x8,x9,b,c,d,f,g,i,j,k,l,m,n,o,p,q,r,s,t,u,v,w,x,y,z,A,B,C,D,E,F,G,H,I,J,K,L,M,N,P,Q,R,U,V,W,X,Y,Z,a0,a1,a2,a3,a4,a5]) S =
  (zT (yF zi 33 33 x4 (zQ x8) S) (fun v2 S1=>some ([x0,a,x2,x3,v2,x5,x6,x7,x8,x9,b,c,d,f,g,i,j,k,l,m,n,o,p,q,r,s,t,u,v,w,x,y,z,A,B,C,D,E,F,G,H,I,J,K,L,M,N,P,Q,R,U,zQ x4,zQ x8,zQ v2,Y,Z,a0,a1,a2,a3,a4,a5],S1)) ()):=by kernel_rfl
theorem yN.r10 :zW zi ⟨false,false,false⟩ (zU zi O) (reg Try.f19 10) (reg Try.f19 10).toList ([x0,a,x2,x3,x4,x5,x6,x7,x8,x9,b,c,d,f,g,i,j,k,l,m,n,o,p,q,r,s,t,u,v,w,x,y,z,A,B,C,D,E,F,G,H,I,J,K,L,M,N,P,Q,R,U,V,W,X,Y,Z,a0,a1,a2,a3,a4,a5]) S =
  (zT (jf zi 48 a 1 S) (fun v0 S1=>zT (zZ zi false 3 v0 S1) (fun v1 S2=>zT ((zU zi O) 40 [(zQ v1)] S2) (fun v2 S3=>zT ((zU zi O) 39 [(zQ v2),(zQ (zQ x4))] S3) (fun v4 S4=>zT ((zU zi O) 38 [(zQ v4)] S4) (fun v5 S5=>zT (yF zi 33 33 v5 (zQ x4) S5) (fun v7 S6=>some ([x0,a,v7,.int .i64 0,x4,x5,x6,x7,x8,x9,b,c,d,f,g,i,j,k,l,m,n,o,p,q,r,s,t,u,v,w,x,y,z,A,B,C,D,E,F,G,H,I,J,K,L,M,N,P,Q,R,U,V,W,X,v0,v1,v2,zQ x4,v4,zQ v5,zQ x4,zQ v7],S6)) ()) ()) ()) ()) ()) ()):=by kernel_rfl
theorem yN.rs :type_of% (zJ @yN.r0 (zJ @yN.r1 (zJ @yN.r2 (zJ @yN.r3 (zJ @yN.r4 (zJ @yN.r5 (zJ @yN.r6 (zJ @yN.r7 (zJ @yN.r8 (zJ @yN.r9 (@yN.r10))))))))))):=zJ @yN.r0 (zJ @yN.r1 (zJ @yN.r2 (zJ @yN.r3 (zJ @yN.r4 (zJ @yN.r5 (zJ @yN.r6 (zJ @yN.r7 (zJ @yN.r8 (zJ @yN.r9 (@yN.r10))))))))))
theorem yN.runs {x0:zu}{S S1:zS}{e:wC}{T:List zu}(h:zX zi O false yN.code ([x0,zh,zh,zh,zh,zh,zh,zh,zh,zh,zh,zh,zh,zh,zh,zh,zh,zh,zh,zh,zh,zh,zh,zh,zh,zh,zh,zh,zh,zh,zh,zh,zh,zh,zh,zh,zh,zh,zh,zh,zh,zh,zh,zh,zh,zh,zh,zh,zh,zh,zh,zh,zh,zh,zh,zh,zh,zh,zh,zh,zh,zh]) zS.empty=some (e,T,S1)) (he:e=.normal∨e=.ret)  (h0:yc (T.getD 2 zh)=true) (h1:yc (T.getD 3 zh)=true) (hca:[x0].all (jw 16)=true) (hcv:jw 16 (Value.tuple #[T.getD 2 zh,T.getD 3 zh])=true):zU zi O 19 [x0] S=some (Value.tuple #[T.getD 2 zh,T.getD 3 zh],S) :=
 kC rfl rfl Try.func19 (by decide) yN.body (by exact h) he ((Zc ((show jl zi T S1 Try.f19.results.toList=jl zi T S1 [(ResultVar.tmp 2),(ResultVar.tmp 3)] from by kernel_rfl).trans (by simp only[jl])) (by kernel_rfl) (by simp only[List.all_cons,List.all_nil,h0,h1,Bool.and_true])).trans rfl) hca hcv
end
section
abbrev wH.id :FuncId:=58
noncomputable def wH.code :Code:=(.seq (.region 0 (reg Try.f58 0) false) (.seq (.seq (.region 1 (reg Try.f58 1) true) (.cond (.tmp 27) (.seq (.region 2 (reg Try.f58 2) false) Code.ret) Code.skip)) (.seq (.seq (.region 3 (reg Try.f58 3) false) (.block 0 (.seq (.region 4 (reg Try.f58 4) false) (.cond (.tmp 30) (.seq (.region 5 (reg Try.f58 5) false) Code.ret) (.seq (.region 6 (reg Try.f58 6) false) (.cond (.tmp 35) (.seq (.region 7 (reg Try.f58 7) false) Code.ret) (.seq (.region 8 (reg Try.f58 8) false) (.cond (.tmp 40) (.seq (.region 9 (reg Try.f58 9) false) (.cond (.tmp 51) (.seq (.region 10 (reg Try.f58 10) false) Code.ret) Code.skip)) Code.skip)))))))) (.seq (.region 11 (reg Try.f58 11) false) Code.ret))))
theorem wH.body :Try.f58.body=some wH.code:=by kernel_rfl
variable (x0 b x2 x3 x4 x5 x6 x7 x8 x9 d f g i k l m n o p q r s t u w x y z c A B C D E F G H I J K L M N P Q R U V W X Y Z a0 a1 a2 a3 a4 a5 a6 a7 a8 a9 b0 b1 b2 b3 b4 b5 b6 b7 b8 b9 c0:zu) (S:zS)
theorem wH.r0 :zW zi ⟨false,false,false⟩ (zU zi O) (reg Try.f58 0) (reg Try.f58 0).toList ([x0,b,x2,x3,x4,x5,x6,x7,x8,x9,d,f,g,i,k,l,m,n,o,p,q,r,s,t,u,w,x,y,z,c,A,B,C,D,E,F,G,H,I,J,K,L,M,N,P,Q,R,U,V,W,X,Y,Z,a0,a1,a2,a3,a4,a5,a6,a7,a8,a9,b0,b1,b2,b3,b4,b5,b6,b7,b8,b9,c0]) S =
  (zT (qm (zQ x0) S) (fun v0 S1=>some ([x0,v0,Value.bool false,x3,x4,x5,x6,x7,x8,x9,d,f,g,i,k,l,m,n,o,p,q,r,s,t,u,w,x,y,z,c,A,B,C,D,E,F,G,H,I,J,K,L,M,N,P,Q,R,U,V,W,X,Y,Z,a0,a1,a2,a3,a4,a5,a6,a7,a8,a9,b0,b1,b2,b3,b4,b5,b6,b7,b8,b9,c0],S1)) ()):=by kernel_rfl
theorem wH.d1 :vg zi (reg Try.f58 1)=true:=by kernel_rfl
theorem wH.Nj :fixed zi (reg Try.f58 1)=false:=by kernel_rfl
theorem wH.k1 :checked zi (reg Try.f58 1)=[19]:=by kernel_rfl
theorem wH.g1 :again zi (reg Try.f58 1)=[(19,21)]:=by kernel_rfl
theorem wH.r1 :zX zi O false (.region 1 (reg Try.f58 1) true) ([x0,b,x2,x3,x4,x5,x6,x7,x8,x9,d,f,g,i,k,l,m,n,o,p,q,r,s,t,u,w,x,y,z,c,A,B,C,D,E,F,G,H,I,J,K,L,M,N,P,Q,R,U,V,W,X,Y,Z,a0,a1,a2,a3,a4,a5,a6,a7,a8,a9,b0,b1,b2,b3,b4,b5,b6,b7,b8,b9,c0]) S =
  yY (zT (jf zi 48 b 0 S) (fun v0 S1=>zT (zZ zi false 3 v0 S1) (fun v1 S2=>zT (jd zi BinOp.lss 3 v1 (.int .i64 0) S2) (fun v2 S3=>zY (zQ v2) false (jf zi 48 b 0) S3 (fun v4 S4=>zY (zQ v2) false (zZ zi false 3 v4) S4 (fun v5 S5=>zY (zQ v2) false (jd zi BinOp.gtr 3 v5 (.int .i64 6)) S5 (fun v6 S6=>zT (jH (zQ v2) (Value.bool true) v6 S6) (fun v7 S7=>zY (zQ v7) false (jf zi 48 b 1) S7 (fun v9 S8=>zY (zQ v7) false (zZ zi false 3 v9) S8 (fun c5 S9=>zY (zQ v7) false (jd zi BinOp.lss 3 c5 (.int .i64 0)) S9 (fun c6 d4=>zT (jH (zQ v7) (Value.bool true) c6 d4) (fun c2 d5=>zY (zQ c2) false (jf zi 48 b 1) d5 (fun c3 d6=>zY (zQ c2) false (zZ zi false 3 c3) d6 (fun c7 d7=>zY (zQ c2) false (jd zi BinOp.geq 3 c7 (.int .i64 7)) d7 (fun c8 d8=>zT (jH (zQ c2) (Value.bool true) c8 d8) (fun c1 d2=>Y7 (zQ c1) false (zZ zi false 48 b) d2 (fun c9 d9=>zY (zQ c1) false (zZ zi false 48 b) d9 (fun d0 f0=>zY (zQ c1) false ((zU zi O) 67 [(zQ d0)]) f0 (fun c4 d3=>zY (zQ c1) false ((zU zi O) 66 [(zQ c9),(zQ c4)]) d3 (fun f1 f3=>zY (zQ c1) false (qo zi UnOp.not f1) f3 (fun f2 f4=>zT (jH (zQ c1) (Value.bool true) f2 f4) (fun f5 f6=>Jy (y8 b d2 d3&&(true)) (some ([x0,b,x2,v0,v1,v2,zQ v2,v4,v5,v6,v7,zQ v7,v9,c5,c6,c2,zQ c2,c3,c7,c8,c1,zQ c1,c9,d0,c4,f1,f2,f5,z,c,A,B,C,D,E,F,G,H,I,J,K,L,M,N,P,Q,R,U,V,W,X,Y,Z,a0,a1,a2,a3,a4,a5,a6,a7,a8,a9,b0,b1,b2,b3,b4,b5,b6,b7,b8,b9,c0],f6)) ()) ()) ()) ()) ()) ()) ()) ()) ()) ()) ()) ()) ()) ()) ()) ()) ()) ()) ()) ()) ()) ()):=by
 rw[Jh wH.d1 wH.Nj wH.k1 wH.g1];refine congrArg yY ?_;refine uD Try.f58 1 0 (pe:=zh) (fun v0 S1=>?_)
 refine uD Try.f58 1 1 (pe:=v0) (fun v1 S2=>?_)
 refine uD Try.f58 1 2 (pe:=zh) (fun v2 S3=>?_)
 refine uP Try.f58 1 3 (v:=v2) (pe:=zh) ?_;refine uG Try.f58 1 4 (j:=3) (pe:=zh) (fun v4 S4=>?_)
 refine uG Try.f58 1 5 (j:=3) (pe:=v4) (fun v5 S5=>?_)
 refine uG Try.f58 1 6 (j:=3) (pe:=zh) (fun v6 S6=>?_)
 refine uD Try.f58 1 7 (pe:=zh) (fun v7 S7=>?_)
 refine uP Try.f58 1 8 (v:=v7) (pe:=zh) ?_;refine uG Try.f58 1 9 (j:=8) (pe:=zh) (fun v9 S8=>?_)
 refine uG Try.f58 1 10 (j:=8) (pe:=v9) (fun c5 S9=>?_)
 refine uG Try.f58 1 11 (j:=8) (pe:=zh) (fun c6 d4=>?_)
 refine uD Try.f58 1 12 (pe:=zh) (fun c2 d5=>?_)
 refine uP Try.f58 1 13 (v:=c2) (pe:=zh) ?_;refine uG Try.f58 1 14 (j:=13) (pe:=zh) (fun c3 d6=>?_)
 refine uG Try.f58 1 15 (j:=13) (pe:=c3) (fun c7 d7=>?_)
 refine uG Try.f58 1 16 (j:=13) (pe:=zh) (fun c8 d8=>?_)
 refine uD Try.f58 1 17 (pe:=zh) (fun c1 d2=>?_)
 refine uP Try.f58 1 18 (v:=c1) (pe:=zh) ?_;refine U6 Try.f58 1 19 (j:=18) (pe:=b) (fun c9 d9=>?_)
 refine uG Try.f58 1 20 (j:=18) (pe:=b) (fun d0 f0=>?_)
 refine uG Try.f58 1 21 (j:=18) (pe:=zh) (fun c4 d3=>?_)
 refine uG Try.f58 1 22 (j:=18) (pe:=zh) (fun f1 f3=>?_)
 refine uG Try.f58 1 23 (j:=18) (pe:=zh) (fun f2 f4=>?_)
 refine uD Try.f58 1 24 (pe:=zh) (fun f5 f6=>?_)
 kernel_rfl
theorem wH.r2 :zW zi ⟨false,false,false⟩ (zU zi O) (reg Try.f58 2) (reg Try.f58 2).toList ([x0,b,x2,x3,x4,x5,x6,x7,x8,x9,d,f,g,i,k,l,m,n,o,p,q,r,s,t,u,w,x,y,z,c,A,B,C,D,E,F,G,H,I,J,K,L,M,N,P,Q,R,U,V,W,X,Y,Z,a0,a1,a2,a3,a4,a5,a6,a7,a8,a9,b0,b1,b2,b3,b4,b5,b6,b7,b8,b9,c0]) S =
  ( some ([x0,b,Value.bool false,x3,x4,x5,x6,x7,x8,x9,d,f,g,i,k,l,m,n,o,p,q,r,s,t,u,w,x,y,z,c,A,B,C,D,E,F,G,H,I,J,K,L,M,N,P,Q,R,U,V,W,X,Y,Z,a0,a1,a2,a3,a4,a5,a6,a7,a8,a9,b0,b1,b2,b3,b4,b5,b6,b7,b8,b9,c0],S)):=by kernel_rfl
theorem wH.r3 :zW zi ⟨false,false,false⟩ (zU zi O) (reg Try.f58 3) (reg Try.f58 3).toList ([x0,b,x2,x3,x4,x5,x6,x7,x8,x9,d,f,g,i,k,l,m,n,o,p,q,r,s,t,u,w,x,y,z,c,A,B,C,D,E,F,G,H,I,J,K,L,M,N,P,Q,R,U,V,W,X,Y,Z,a0,a1,a2,a3,a4,a5,a6,a7,a8,a9,b0,b1,b2,b3,b4,b5,b6,b7,b8,b9,c0]) S =
  (zT (jf zi 48 b 0 S) (fun v0 S1=>zT (zZ zi false 3 v0 S1) (fun v1 S2=>some ([x0,b,x2,x3,x4,x5,x6,x7,x8,x9,d,f,g,i,k,l,m,n,o,p,q,r,s,t,u,w,x,y,v0,v1,A,B,C,D,E,F,G,H,I,J,K,L,M,N,P,Q,R,U,V,W,X,Y,Z,a0,a1,a2,a3,a4,a5,a6,a7,a8,a9,b0,b1,b2,b3,b4,b5,b6,b7,b8,b9,c0],S2)) ()) ()):=by kernel_rfl
theorem wH.r4 :zW zi ⟨false,false,false⟩ (zU zi O) (reg Try.f58 4) (reg Try.f58 4).toList ([x0,b,x2,x3,x4,x5,x6,x7,x8,x9,d,f,g,i,k,l,m,n,o,p,q,r,s,t,u,w,x,y,z,c,A,B,C,D,E,F,G,H,I,J,K,L,M,N,P,Q,R,U,V,W,X,Y,Z,a0,a1,a2,a3,a4,a5,a6,a7,a8,a9,b0,b1,b2,b3,b4,b5,b6,b7,b8,b9,c0]) S =
  (zT (jd zi BinOp.eql 3 c (.int .i64 0) S) (fun v0 S1=>some ([x0,b,x2,x3,x4,x5,x6,x7,x8,x9,d,f,g,i,k,l,m,n,o,p,q,r,s,t,u,w,x,y,z,c,v0,zQ v0,C,D,E,F,G,H,I,J,K,L,M,N,P,Q,R,U,V,W,X,Y,Z,a0,a1,a2,a3,a4,a5,a6,a7,a8,a9,b0,b1,b2,b3,b4,b5,b6,b7,b8,b9,c0],S1)) ()):=by kernel_rfl
theorem wH.r5 :zW zi ⟨false,false,false⟩ (zU zi O) (reg Try.f58 5) (reg Try.f58 5).toList ([x0,b,x2,x3,x4,x5,x6,x7,x8,x9,d,f,g,i,k,l,m,n,o,p,q,r,s,t,u,w,x,y,z,c,A,B,C,D,E,F,G,H,I,J,K,L,M,N,P,Q,R,U,V,W,X,Y,Z,a0,a1,a2,a3,a4,a5,a6,a7,a8,a9,b0,b1,b2,b3,b4,b5,b6,b7,b8,b9,c0]) S =
  (zT (jf zi 48 b 6 S) (fun v0 S1=>zT (zZ zi false 43 v0 S1) (fun v1 S2=>zT ((zU zi O) 68 [(zQ v1)] S2) (fun v2 S3=>some ([x0,b,v2,x3,x4,x5,x6,x7,x8,x9,d,f,g,i,k,l,m,n,o,p,q,r,s,t,u,w,x,y,z,c,A,B,v0,v1,zQ v2,F,G,H,I,J,K,L,M,N,P,Q,R,U,V,W,X,Y,Z,a0,a1,a2,a3,a4,a5,a6,a7,a8,a9,b0,b1,b2,b3,b4,b5,b6,b7,b8,b9,c0],S3)) ()) ()) ()):=by kernel_rfl
theorem wH.r6 :zW zi ⟨false,false,false⟩ (zU zi O) (reg Try.f58 6) (reg Try.f58 6).toList ([x0,b,x2,x3,x4,x5,x6,x7,x8,x9,d,f,g,i,k,l,m,n,o,p,q,r,s,t,u,w,x,y,z,c,A,B,C,D,E,F,G,H,I,J,K,L,M,N,P,Q,R,U,V,W,X,Y,Z,a0,a1,a2,a3,a4,a5,a6,a7,a8,a9,b0,b1,b2,b3,b4,b5,b6,b7,b8,b9,c0]) S =
  (zT (jd zi BinOp.eql 3 c (.int .i64 1) S) (fun v0 S1=>some ([x0,b,x2,x3,x4,x5,x6,x7,x8,x9,d,f,g,i,k,l,m,n,o,p,q,r,s,t,u,w,x,y,z,c,A,B,C,D,E,v0,zQ v0,H,I,J,K,L,M,N,P,Q,R,U,V,W,X,Y,Z,a0,a1,a2,a3,a4,a5,a6,a7,a8,a9,b0,b1,b2,b3,b4,b5,b6,b7,b8,b9,c0],S1)) ()):=by kernel_rfl
theorem wH.r7 :zW zi ⟨false,false,false⟩ (zU zi O) (reg Try.f58 7) (reg Try.f58 7).toList ([x0,b,x2,x3,x4,x5,x6,x7,x8,x9,d,f,g,i,k,l,m,n,o,p,q,r,s,t,u,w,x,y,z,c,A,B,C,D,E,F,G,H,I,J,K,L,M,N,P,Q,R,U,V,W,X,Y,Z,a0,a1,a2,a3,a4,a5,a6,a7,a8,a9,b0,b1,b2,b3,b4,b5,b6,b7,b8,b9,c0]) S =
  (zT (jf zi 48 b 7 S) (fun v0 S1=>zT (zZ zi false 46 v0 S1) (fun v1 S2=>zT ((zU zi O) 45 [(zQ v1)] S2) (fun v2 S3=>some ([x0,b,v2,x3,x4,x5,x6,x7,x8,x9,d,f,g,i,k,l,m,n,o,p,q,r,s,t,u,w,x,y,z,c,A,B,C,D,E,F,G,v0,v1,zQ v2,K,L,M,N,P,Q,R,U,V,W,X,Y,Z,a0,a1,a2,a3,a4,a5,a6,a7,a8,a9,b0,b1,b2,b3,b4,b5,b6,b7,b8,b9,c0],S3)) ()) ()) ()):=by kernel_rfl
theorem wH.r8 :zW zi ⟨false,false,false⟩ (zU zi O) (reg Try.f58 8) (reg Try.f58 8).toList ([x0,b,x2,x3,x4,x5,x6,x7,x8,x9,d,f,g,i,k,l,m,n,o,p,q,r,s,t,u,w,x,y,z,c,A,B,C,D,E,F,G,H,I,J,K,L,M,N,P,Q,R,U,V,W,X,Y,Z,a0,a1,a2,a3,a4,a5,a6,a7,a8,a9,b0,b1,b2,b3,b4,b5,b6,b7,b8,b9,c0]) S =
  (zT (jd zi BinOp.eql 3 c (.int .i64 3) S) (fun v0 S1=>some ([x0,b,x2,x3,x4,x5,x6,x7,x8,x9,d,f,g,i,k,l,m,n,o,p,q,r,s,t,u,w,x,y,z,c,A,B,C,D,E,F,G,H,I,J,v0,zQ v0,M,N,P,Q,R,U,V,W,X,Y,Z,a0,a1,a2,a3,a4,a5,a6,a7,a8,a9,b0,b1,b2,b3,b4,b5,b6,b7,b8,b9,c0],S1)) ()):=by kernel_rfl
theorem wH.r9 :zW zi ⟨false,false,false⟩ (zU zi O) (reg Try.f58 9) (reg Try.f58 9).toList ([x0,b,x2,x3,x4,x5,x6,x7,x8,x9,d,f,g,i,k,l,m,n,o,p,q,r,s,t,u,w,x,y,z,c,A,B,C,D,E,F,G,H,I,J,K,L,M,N,P,Q,R,U,V,W,X,Y,Z,a0,a1,a2,a3,a4,a5,a6,a7,a8,a9,b0,b1,b2,b3,b4,b5,b6,b7,b8,b9,c0]) S =
  (zT (jf zi 48 b 5 S) (fun v0 S1=>zT (zZ zi false 3 v0 S1) (fun v1 S2=>zT (jd zi BinOp.lss 3 v1 (.int .i64 (-1)) S2) (fun v2 S3=>zY (zQ v2) false (jf zi 48 b 5) S3 (fun v4 S4=>zY (zQ v2) false (zZ zi false 3 v4) S4 (fun v5 S5=>zY (zQ v2) false (jf zi 48 b 3) S5 (fun v6 S6=>zY (zQ v2) false (zZ zi false 3 v6) S6 (fun v7 S7=>zY (zQ v2) false (jd zi BinOp.geq 3 v5 v7) S7 (fun v8 S8=>zT (jH (zQ v2) (Value.bool true) v8 S8) (fun v9 S9=>some ([x0,b,x2,x3,x4,x5,x6,x7,x8,x9,d,f,g,i,k,l,m,n,o,p,q,r,s,t,u,w,x,y,z,c,A,B,C,D,E,F,G,H,I,J,K,L,v0,v1,v2,zQ v2,v4,v5,v6,v7,v8,v9,Z,a0,a1,a2,a3,a4,a5,a6,a7,a8,a9,b0,b1,b2,b3,b4,b5,b6,b7,b8,b9,c0],S9)) ()) ()) ()) ()) ()) ()) ()) ()) ()):=by
 refine sD Try.f58 9 0 (fun v0 S1=>?_)
 refine sD Try.f58 9 1 (fun v1 S2=>?_)
 refine sD Try.f58 9 2 (fun v2 S3=>?_)
 refine sP Try.f58 9 3 (v:=v2) ?_;refine sG Try.f58 9 4 (j:=3) (fun v4 S4=>?_)
 refine sG Try.f58 9 5 (j:=3) (fun v5 S5=>?_)
 refine sG Try.f58 9 6 (j:=3) (fun v6 S6=>?_)
 refine sG Try.f58 9 7 (j:=3) (fun v7 S7=>?_)
 refine sG Try.f58 9 8 (j:=3) (fun v8 S8=>?_)
 refine sD Try.f58 9 9 (fun v9 S9=>?_)
 kernel_rfl
theorem wH.r10 :zW zi ⟨false,false,false⟩ (zU zi O) (reg Try.f58 10) (reg Try.f58 10).toList ([x0,b,x2,x3,x4,x5,x6,x7,x8,x9,d,f,g,i,k,l,m,n,o,p,q,r,s,t,u,w,x,y,z,c,A,B,C,D,E,F,G,H,I,J,K,L,M,N,P,Q,R,U,V,W,X,Y,Z,a0,a1,a2,a3,a4,a5,a6,a7,a8,a9,b0,b1,b2,b3,b4,b5,b6,b7,b8,b9,c0]) S =
  ( some ([x0,b,Value.bool false,x3,x4,x5,x6,x7,x8,x9,d,f,g,i,k,l,m,n,o,p,q,r,s,t,u,w,x,y,z,c,A,B,C,D,E,F,G,H,I,J,K,L,M,N,P,Q,R,U,V,W,X,Y,Z,a0,a1,a2,a3,a4,a5,a6,a7,a8,a9,b0,b1,b2,b3,b4,b5,b6,b7,b8,b9,c0],S)):=by kernel_rfl
theorem wH.r11 :zW zi ⟨false,false,false⟩ (zU zi O) (reg Try.f58 11) (reg Try.f58 11).toList ([x0,b,x2,x3,x4,x5,x6,x7,x8,x9,d,f,g,i,k,l,m,n,o,p,q,r,s,t,u,w,x,y,z,c,A,B,C,D,E,F,G,H,I,J,K,L,M,N,P,Q,R,U,V,W,X,Y,Z,a0,a1,a2,a3,a4,a5,a6,a7,a8,a9,b0,b1,b2,b3,b4,b5,b6,b7,b8,b9,c0]) S =
  (zT (jf zi 48 b 2 S) (fun v0 S1=>zT (zZ zi false 3 v0 S1) (fun v1 S2=>zT (jd zi BinOp.geq 3 v1 (.int .i64 0) S2) (fun v2 S3=>zY (zQ v2) true (jf zi 48 b 2) S3 (fun v4 S4=>zY (zQ v2) true (zZ zi false 3 v4) S4 (fun v5 S5=>zY (zQ v2) true (jd zi BinOp.leq 3 v5 (.int .i64 1000)) S5 (fun v6 S6=>zT (jH (zQ v2) v6 (Value.bool false) S6) (fun v7 S7=>zY (zQ v7) true (jf zi 48 b 3) S7 (fun v9 S8=>zY (zQ v7) true (zZ zi false 3 v9) S8 (fun c5 S9=>zY (zQ v7) true (jd zi BinOp.geq 3 c5 (.int .i64 0)) S9 (fun c6 d4=>zT (jH (zQ v7) c6 (Value.bool false) d4) (fun c2 d5=>zY (zQ c2) true (jf zi 48 b 3) d5 (fun c3 d6=>zY (zQ c2) true (zZ zi false 3 c3) d6 (fun c7 d7=>zY (zQ c2) true (jd zi BinOp.leq 3 c7 (.int .i64 1000)) d7 (fun c8 d8=>zT (jH (zQ c2) c8 (Value.bool false) d8) (fun c1 d2=>zY (zQ c1) true (zZ zi false 48 b) d2 (fun c9 d9=>zY (zQ c1) true ((zU zi O) 69 [(zQ c9)]) d9 (fun d0 f0=>zT (jH (zQ c1) d0 (Value.bool false) f0) (fun c4 d3=>some ([x0,b,c4,x3,x4,x5,x6,x7,x8,x9,d,f,g,i,k,l,m,n,o,p,q,r,s,t,u,w,x,y,z,c,A,B,C,D,E,F,G,H,I,J,K,L,M,N,P,Q,R,U,V,W,X,Y,v0,v1,v2,zQ v2,v4,v5,v6,v7,zQ v7,v9,c5,c6,c2,zQ c2,c3,c7,c8,c1,zQ c1,c9,d0,zQ c4],d3)) ()) ()) ()) ()) ()) ()) ()) ()) ()) ()) ()) ()) ()) ()) ()) ()) ()) ()):=by
 refine sD Try.f58 11 0 (fun v0 S1=>?_)
 refine sD Try.f58 11 1 (fun v1 S2=>?_)
 refine sD Try.f58 11 2 (fun v2 S3=>?_)
 refine sP Try.f58 11 3 (v:=v2) ?_;refine sG Try.f58 11 4 (j:=3) (fun v4 S4=>?_)
 refine sG Try.f58 11 5 (j:=3) (fun v5 S5=>?_)
 refine sG Try.f58 11 6 (j:=3) (fun v6 S6=>?_)
 refine sD Try.f58 11 7 (fun v7 S7=>?_)
 refine sP Try.f58 11 8 (v:=v7) ?_;refine sG Try.f58 11 9 (j:=8) (fun v9 S8=>?_)
 refine sG Try.f58 11 10 (j:=8) (fun c5 S9=>?_)
 refine sG Try.f58 11 11 (j:=8) (fun c6 d4=>?_)
 refine sD Try.f58 11 12 (fun c2 d5=>?_)
 refine sP Try.f58 11 13 (v:=c2) ?_;refine sG Try.f58 11 14 (j:=13) (fun c3 d6=>?_)
 refine sG Try.f58 11 15 (j:=13) (fun c7 d7=>?_)
 refine sG Try.f58 11 16 (j:=13) (fun c8 d8=>?_)
 refine sD Try.f58 11 17 (fun c1 d2=>?_)
 refine sP Try.f58 11 18 (v:=c1) ?_;refine sG Try.f58 11 19 (j:=18) (fun c9 d9=>?_)
 refine sG Try.f58 11 20 (j:=18) (fun d0 f0=>?_)
 refine sD Try.f58 11 21 (fun c4 d3=>?_)
 refine sP Try.f58 11 22 (v:=c4) ?_
 kernel_rfl
theorem wH.rs :type_of% (zJ @wH.r0 (zJ @wH.r1 (zJ @wH.r2 (zJ @wH.r3 (zJ @wH.r4 (zJ @wH.r5 (zJ @wH.r6 (zJ @wH.r7 (zJ @wH.r8 (zJ @wH.r9 (zJ @wH.r10 (@wH.r11)))))))))))):=zJ @wH.r0 (zJ @wH.r1 (zJ @wH.r2 (zJ @wH.r3 (zJ @wH.r4 (zJ @wH.r5 (zJ @wH.r6 (zJ @wH.r7 (zJ @wH.r8 (zJ @wH.r9 (zJ @wH.r10 (@wH.r11)))))))))))
theorem wH.runs {x0:zu}{S S1:zS}{e:wC}{T:List zu}(h:zX zi O false wH.code ([x0,zh,zh,zh,zh,zh,zh,zh,zh,zh,zh,zh,zh,zh,zh,zh,zh,zh,zh,zh,zh,zh,zh,zh,zh,zh,zh,zh,zh,zh,zh,zh,zh,zh,zh,zh,zh,zh,zh,zh,zh,zh,zh,zh,zh,zh,zh,zh,zh,zh,zh,zh,zh,zh,zh,zh,zh,zh,zh,zh,zh,zh,zh,zh,zh,zh,zh,zh,zh,zh,zh,zh,zh,zh]) zS.empty=some (e,T,S1)) (he:e=.normal∨e=.ret) (hca:[x0].all (jw 16)=true) (hcv:jw 16 (T.getD 2 zh)=true):zU zi O 58 [x0] S=some (T.getD 2 zh,S) :=
 kC rfl rfl Try.func58 (by decide) wH.body (by exact h) he (qI (a:=T.getD 2 zh) ((show jl zi T S1 Try.f58.results.toList=jl zi T S1 [(ResultVar.tmp 2)] from by kernel_rfl).trans (by simp only[jl])) (by kernel_rfl)) hca hcv
end
section
abbrev jo.id :FuncId:=34
noncomputable def jo.code :Code:=(.seq (.region 0 (reg Try.f34 0) false) (.seq (.seq (.region 1 (reg Try.f34 1) false) (.cond (.tmp 12) (.seq (.region 2 (reg Try.f34 2) false) Code.ret) Code.skip)) (.seq (.seq (.region 3 (reg Try.f34 3) false) (.cond (.tmp 42) (.seq (.region 4 (reg Try.f34 4) false) Code.ret) Code.skip)) (.seq (.region 5 (reg Try.f34 5) false) (.seq (.region 6 (reg Try.f34 6) false) (.seq (.seq (.region 7 (reg Try.f34 7) false) (.block 0 (.seq (.region 8 (reg Try.f34 8) false) (.cond (.tmp 61) (.seq (.region 9 (reg Try.f34 9) false) Code.ret) (.seq (.region 10 (reg Try.f34 10) false) (.cond (.tmp 81) (.seq (.region 11 (reg Try.f34 11) false) Code.ret) (.seq (.region 12 (reg Try.f34 12) false) (.cond (.tmp 101) (.seq (.region 13 (reg Try.f34 13) false) Code.ret) (.seq (.region 14 (reg Try.f34 14) false) (.cond (.tmp 116) (.seq (.region 15 (reg Try.f34 15) false) Code.ret) (.seq (.seq (.region 16 (reg Try.f34 16) false) (.cond (.tmp 139) Code.skip (.region 17 (reg Try.f34 17) false))) (.cond (.tmp 139) (.seq (.region 18 (reg Try.f34 18) false) Code.ret) (.seq (.region 19 (reg Try.f34 19) false) (.cond (.tmp 156) (.seq (.region 20 (reg Try.f34 20) false) Code.ret) Code.skip)))))))))))))) (.seq (.region 21 (reg Try.f34 21) false) Code.ret)))))))
theorem jo.body :Try.f34.body=some jo.code:=by kernel_rfl
variable (x0 x1 x2 x3 x4 x5 x6 x7 x8 x9 c6 c7 c8 c9 d0 d1 d2 d3 d4 d5 d6 d7 d8 d9 f0 f1 f2 f3 f4 f5 f6 f7 f8 f9 g0 g1 g2 g3 g4 g5 g6 g7 g8 g9 i0 i1 i2 i3 i4 i5 i6 i7 i8 i9 j0 j1 j2 j3 j4 j5 c5 j6 j7 j8 j9 k0 k1 k2 k3 k4 k5 k6 k7 k8 k9 l0 l1 l2 l3 l4 l5 l6 l7 l8 l9 m0 m1 m2 m3 m4 m5 m6 m7 m8 m9 n0 n1 n2 n3 n4 b c d f g i k l m n o p q r s t u w x y z A B C D E F G H I J K L M N P Q R U c4 V W X Y Z a0 a1 a2 a3 a4 a5 a6 a7 a8 a9 b0 b1 b2 b3 b4 b5 b6 b7 b8 b9 c0 c1 c2 c3:zu) (S:zS)
theorem jo.r0 :zW zi ⟨false,false,false⟩ (zU zi O) (reg Try.f34 0) (reg Try.f34 0).toList ([x0,x1,x2,x3,x4,x5,x6,x7,x8,x9,c6,c7,c8,c9,d0,d1,d2,d3,d4,d5,d6,d7,d8,d9,f0,f1,f2,f3,f4,f5,f6,f7,f8,f9,g0,g1,g2,g3,g4,g5,g6,g7,g8,g9,i0,i1,i2,i3,i4,i5,i6,i7,i8,i9,j0,j1,j2,j3,j4,j5,c5,j6,j7,j8,j9,k0,k1,k2,k3,k4,k5,k6,k7,k8,k9,l0,l1,l2,l3,l4,l5,l6,l7,l8,l9,m0,m1,m2,m3,m4,m5,m6,m7,m8,m9,n0,n1,n2,n3,n4,b,c,d,f,g,i,k,l,m,n,o,p,q,r,s,t,u,w,x,y,z,A,B,C,D,E,F,G,H,I,J,K,L,M,N,P,Q,R,U,c4,V,W,X,Y,Z,a0,a1,a2,a3,a4,a5,a6,a7,a8,a9,b0,b1,b2,b3,b4,b5,b6,b7,b8,b9,c0,c1,c2,c3]) S =
  (zT (qm (zQ x0) S) (fun v0 S1=>some ([x0,v0,Value.bool false,x3,x4,x5,x6,x7,x8,x9,c6,c7,c8,c9,d0,d1,d2,d3,d4,d5,d6,d7,d8,d9,f0,f1,f2,f3,f4,f5,f6,f7,f8,f9,g0,g1,g2,g3,g4,g5,g6,g7,g8,g9,i0,i1,i2,i3,i4,i5,i6,i7,i8,i9,j0,j1,j2,j3,j4,j5,c5,j6,j7,j8,j9,k0,k1,k2,k3,k4,k5,k6,k7,k8,k9,l0,l1,l2,l3,l4,l5,l6,l7,l8,l9,m0,m1,m2,m3,m4,m5,m6,m7,m8,m9,n0,n1,n2,n3,n4,b,c,d,f,g,i,k,l,m,n,o,p,q,r,s,t,u,w,x,y,z,A,B,C,D,E,F,G,H,I,J,K,L,M,N,P,Q,R,U,c4,V,W,X,Y,Z,a0,a1,a2,a3,a4,a5,a6,a7,a8,a9,b0,b1,b2,b3,b4,b5,b6,b7,b8,b9,c0,c1,c2,c3],S1)) ()):=by kernel_rfl
theorem jo.r1 :zW zi ⟨false,false,false⟩ (zU zi O) (reg Try.f34 1) (reg Try.f34 1).toList ([x0,x1,x2,x3,x4,x5,x6,x7,x8,x9,c6,c7,c8,c9,d0,d1,d2,d3,d4,d5,d6,d7,d8,d9,f0,f1,f2,f3,f4,f5,f6,f7,f8,f9,g0,g1,g2,g3,g4,g5,g6,g7,g8,g9,i0,i1,i2,i3,i4,i5,i6,i7,i8,i9,j0,j1,j2,j3,j4,j5,c5,j6,j7,j8,j9,k0,k1,k2,k3,k4,k5,k6,k7,k8,k9,l0,l1,l2,l3,l4,l5,l6,l7,l8,l9,m0,m1,m2,m3,m4,m5,m6,m7,m8,m9,n0,n1,n2,n3,n4,b,c,d,f,g,i,k,l,m,n,o,p,q,r,s,t,u,w,x,y,z,A,B,C,D,E,F,G,H,I,J,K,L,M,N,P,Q,R,U,c4,V,W,X,Y,Z,a0,a1,a2,a3,a4,a5,a6,a7,a8,a9,b0,b1,b2,b3,b4,b5,b6,b7,b8,b9,c0,c1,c2,c3]) S =
  (zT (jf zi 48 x1 1 S) (fun v0 S1=>zT (zZ zi false 3 v0 S1) (fun v1 S2=>zT (jd zi BinOp.lss 3 v1 (.int .i64 0) S2) (fun v2 S3=>zY (zQ v2) false (jf zi 48 x1 1) S3 (fun v4 S4=>zY (zQ v2) false (zZ zi false 3 v4) S4 (fun v5 S5=>zY (zQ v2) false (jd zi BinOp.gtr 3 v5 (.int .i64 6)) S5 (fun v6 S6=>zT (jH (zQ v2) (Value.bool true) v6 S6) (fun v7 S7=>some ([x0,x1,x2,x3,x4,v0,v1,v2,zQ v2,v4,v5,v6,v7,c9,d0,d1,d2,d3,d4,d5,d6,d7,d8,d9,f0,f1,f2,f3,f4,f5,f6,f7,f8,f9,g0,g1,g2,g3,g4,g5,g6,g7,g8,g9,i0,i1,i2,i3,i4,i5,i6,i7,i8,i9,j0,j1,j2,j3,j4,j5,c5,j6,j7,j8,j9,k0,k1,k2,k3,k4,k5,k6,k7,k8,k9,l0,l1,l2,l3,l4,l5,l6,l7,l8,l9,m0,m1,m2,m3,m4,m5,m6,m7,m8,m9,n0,n1,n2,n3,n4,b,c,d,f,g,i,k,l,m,n,o,p,q,r,s,t,u,w,x,y,z,A,B,C,D,E,F,G,H,I,J,K,L,M,N,P,Q,R,U,c4,V,W,X,Y,Z,a0,a1,a2,a3,a4,a5,a6,a7,a8,a9,b0,b1,b2,b3,b4,b5,b6,b7,b8,b9,c0,c1,c2,c3],S7)) ()) ()) ()) ()) ()) ()) ()):=by
 refine sD Try.f34 1 0 (fun v0 S1=>?_)
 refine sD Try.f34 1 1 (fun v1 S2=>?_)
 refine sD Try.f34 1 2 (fun v2 S3=>?_)
 refine sP Try.f34 1 3 (v:=v2) ?_;refine sG Try.f34 1 4 (j:=3) (fun v4 S4=>?_)
 refine sG Try.f34 1 5 (j:=3) (fun v5 S5=>?_)
 refine sG Try.f34 1 6 (j:=3) (fun v6 S6=>?_)
 refine sD Try.f34 1 7 (fun v7 S7=>?_)
 kernel_rfl
theorem jo.r2 :zW zi ⟨false,false,false⟩ (zU zi O) (reg Try.f34 2) (reg Try.f34 2).toList ([x0,x1,x2,x3,x4,x5,x6,x7,x8,x9,c6,c7,c8,c9,d0,d1,d2,d3,d4,d5,d6,d7,d8,d9,f0,f1,f2,f3,f4,f5,f6,f7,f8,f9,g0,g1,g2,g3,g4,g5,g6,g7,g8,g9,i0,i1,i2,i3,i4,i5,i6,i7,i8,i9,j0,j1,j2,j3,j4,j5,c5,j6,j7,j8,j9,k0,k1,k2,k3,k4,k5,k6,k7,k8,k9,l0,l1,l2,l3,l4,l5,l6,l7,l8,l9,m0,m1,m2,m3,m4,m5,m6,m7,m8,m9,n0,n1,n2,n3,n4,b,c,d,f,g,i,k,l,m,n,o,p,q,r,s,t,u,w,x,y,z,A,B,C,D,E,F,G,H,I,J,K,L,M,N,P,Q,R,U,c4,V,W,X,Y,Z,a0,a1,a2,a3,a4,a5,a6,a7,a8,a9,b0,b1,b2,b3,b4,b5,b6,b7,b8,b9,c0,c1,c2,c3]) S =
  ( some ([x0,x1,Value.bool false,x3,x4,x5,x6,x7,x8,x9,c6,c7,c8,c9,d0,d1,d2,d3,d4,d5,d6,d7,d8,d9,f0,f1,f2,f3,f4,f5,f6,f7,f8,f9,g0,g1,g2,g3,g4,g5,g6,g7,g8,g9,i0,i1,i2,i3,i4,i5,i6,i7,i8,i9,j0,j1,j2,j3,j4,j5,c5,j6,j7,j8,j9,k0,k1,k2,k3,k4,k5,k6,k7,k8,k9,l0,l1,l2,l3,l4,l5,l6,l7,l8,l9,m0,m1,m2,m3,m4,m5,m6,m7,m8,m9,n0,n1,n2,n3,n4,b,c,d,f,g,i,k,l,m,n,o,p,q,r,s,t,u,w,x,y,z,A,B,C,D,E,F,G,H,I,J,K,L,M,N,P,Q,R,U,c4,V,W,X,Y,Z,a0,a1,a2,a3,a4,a5,a6,a7,a8,a9,b0,b1,b2,b3,b4,b5,b6,b7,b8,b9,c0,c1,c2,c3],S)):=by kernel_rfl
theorem jo.r3 :zW zi ⟨false,false,false⟩ (zU zi O) (reg Try.f34 3) (reg Try.f34 3).toList ([x0,x1,x2,x3,x4,x5,x6,x7,x8,x9,c6,c7,c8,c9,d0,d1,d2,d3,d4,d5,d6,d7,d8,d9,f0,f1,f2,f3,f4,f5,f6,f7,f8,f9,g0,g1,g2,g3,g4,g5,g6,g7,g8,g9,i0,i1,i2,i3,i4,i5,i6,i7,i8,i9,j0,j1,j2,j3,j4,j5,c5,j6,j7,j8,j9,k0,k1,k2,k3,k4,k5,k6,k7,k8,k9,l0,l1,l2,l3,l4,l5,l6,l7,l8,l9,m0,m1,m2,m3,m4,m5,m6,m7,m8,m9,n0,n1,n2,n3,n4,b,c,d,f,g,i,k,l,m,n,o,p,q,r,s,t,u,w,x,y,z,A,B,C,D,E,F,G,H,I,J,K,L,M,N,P,Q,R,U,c4,V,W,X,Y,Z,a0,a1,a2,a3,a4,a5,a6,a7,a8,a9,b0,b1,b2,b3,b4,b5,b6,b7,b8,b9,c0,c1,c2,c3]) S =
  (zT (jf zi 48 x1 0 S) (fun v0 S1=>zT (zZ zi false 3 v0 S1) (fun v1 S2=>zT (jd zi BinOp.neq 3 v1 (.int .i64 0) S2) (fun v2 S3=>zY (zQ v2) true (jf zi 48 x1 6) S3 (fun v4 S4=>zY (zQ v2) true (zZ zi false 43 v4) S4 (fun v5 S5=>zY (zQ v2) true (wS zi 43 []) S5 (fun v6 S6=>zY (zQ v2) true (jd zi BinOp.neq 43 v5 v6) S6 (fun v7 S7=>zT (jH (zQ v2) v7 (Value.bool false) S7) (fun v8 S8=>zY (zQ v8) false (jf zi 48 x1 0) S8 (fun n6 S9=>zY (zQ v8) false (zZ zi false 3 n6) S9 (fun n7 n9=>zY (zQ v8) false (jd zi BinOp.neq 3 n7 (.int .i64 1)) n9 (fun n5 o0=>zY (zQ v8) false (ret n5) o0 (fun n8 o5=>zY (zQ n8) true (jf zi 48 x1 7) o5 (fun o6 o7=>zY (zQ n8) true (zZ zi false 46 o6) o7 (fun o2 o8=>zY (zQ n8) true ((zU zi O) 52 [(zQ o2)]) o8 (fun o3 o9=>zY (zQ n8) true (qo zi UnOp.not o3) o9 (fun o1 p2=>zY (zQ v8) false (jH (zQ n8) o1 (Value.bool false)) p2 (fun p0 q1=>zT (jH (zQ v8) (Value.bool true) p0 q1) (fun o4 q2=>zY (zQ o4) false (jf zi 48 x1 0) q2 (fun p4 q3=>zY (zQ o4) false (zZ zi false 3 p4) q3 (fun p5 q4=>zY (zQ o4) false (jd zi BinOp.neq 3 p5 (.int .i64 3)) q4 (fun p6 q5=>zY (zQ o4) false (ret p6) q5 (fun p1 q6=>zY (zQ p1) true (jf zi 48 x1 5) q6 (fun p7 q7=>zY (zQ p1) true (zZ zi false 3 p7) q7 (fun p8 q8=>zY (zQ p1) true (jd zi BinOp.neq 3 p8 (.int .i64 0)) q8 (fun p9 q9=>zY (zQ o4) false (jH (zQ p1) p9 (Value.bool false)) q9 (fun q0 s0=>zT (jH (zQ o4) (Value.bool true) q0 s0) (fun s1 s2=>some ([x0,x1,x2,x3,x4,x5,x6,x7,x8,x9,c6,c7,c8,v0,v1,v2,zQ v2,v4,v5,v6,v7,v8,zQ v8,n6,n7,n5,zQ n8,o6,o2,o3,o1,p0,o4,zQ o4,p4,p5,p6,zQ p1,p7,p8,p9,q0,s1,g9,i0,i1,i2,i3,i4,i5,i6,i7,i8,i9,j0,j1,j2,j3,j4,j5,c5,j6,j7,j8,j9,k0,k1,k2,k3,k4,k5,k6,k7,k8,k9,l0,l1,l2,l3,l4,l5,l6,l7,l8,l9,m0,m1,m2,m3,m4,m5,m6,m7,m8,m9,n0,n1,n2,n3,n4,b,c,d,f,g,i,k,l,m,n,o,p,q,r,s,t,u,w,x,y,z,A,B,C,D,E,F,G,H,I,J,K,L,M,N,P,Q,R,U,c4,V,W,X,Y,Z,a0,a1,a2,a3,a4,a5,a6,a7,a8,a9,b0,b1,b2,b3,b4,b5,b6,b7,b8,b9,c0,c1,c2,c3],s2)) ()) ()) ()) ()) ()) ()) ()) ()) ()) ()) ()) ()) ()) ()) ()) ()) ()) ()) ()) ()) ()) ()) ()) ()) ()) ()) ()):=by
 refine sD Try.f34 3 0 (fun v0 S1=>?_)
 refine sD Try.f34 3 1 (fun v1 S2=>?_)
 refine sD Try.f34 3 2 (fun v2 S3=>?_)
 refine sP Try.f34 3 3 (v:=v2) ?_;refine sG Try.f34 3 4 (j:=3) (fun v4 S4=>?_)
 refine sG Try.f34 3 5 (j:=3) (fun v5 S5=>?_)
 refine sG Try.f34 3 6 (j:=3) (fun v6 S6=>?_)
 refine sG Try.f34 3 7 (j:=3) (fun v7 S7=>?_)
 refine sD Try.f34 3 8 (fun v8 S8=>?_)
 refine sP Try.f34 3 9 (v:=v8) ?_;refine sG Try.f34 3 10 (j:=9) (fun n6 S9=>?_)
 refine sG Try.f34 3 11 (j:=9) (fun n7 n9=>?_)
 refine sG Try.f34 3 12 (j:=9) (fun n5 o0=>?_)
 refine sG Try.f34 3 13 (j:=9) (fun n8 o5=>?_)
 refine sG Try.f34 3 14 (j:=13) (fun o6 o7=>?_)
 refine sG Try.f34 3 15 (j:=13) (fun o2 o8=>?_)
 refine sG Try.f34 3 16 (j:=13) (fun o3 o9=>?_)
 refine sG Try.f34 3 17 (j:=13) (fun o1 p2=>?_)
 refine sG Try.f34 3 18 (j:=9) (fun p0 q1=>?_)
 refine sD Try.f34 3 19 (fun o4 q2=>?_)
 refine sP Try.f34 3 20 (v:=o4) ?_;refine sG Try.f34 3 21 (j:=20) (fun p4 q3=>?_)
 refine sG Try.f34 3 22 (j:=20) (fun p5 q4=>?_)
 refine sG Try.f34 3 23 (j:=20) (fun p6 q5=>?_)
 refine sG Try.f34 3 24 (j:=20) (fun p1 q6=>?_)
 refine sG Try.f34 3 25 (j:=24) (fun p7 q7=>?_)
 refine sG Try.f34 3 26 (j:=24) (fun p8 q8=>?_)
 refine sG Try.f34 3 27 (j:=24) (fun p9 q9=>?_)
 refine sG Try.f34 3 28 (j:=20) (fun q0 s0=>?_)
 refine sD Try.f34 3 29 (fun s1 s2=>?_)
 kernel_rfl
theorem jo.r4 :zW zi ⟨false,false,false⟩ (zU zi O) (reg Try.f34 4) (reg Try.f34 4).toList ([x0,x1,x2,x3,x4,x5,x6,x7,x8,x9,c6,c7,c8,c9,d0,d1,d2,d3,d4,d5,d6,d7,d8,d9,f0,f1,f2,f3,f4,f5,f6,f7,f8,f9,g0,g1,g2,g3,g4,g5,g6,g7,g8,g9,i0,i1,i2,i3,i4,i5,i6,i7,i8,i9,j0,j1,j2,j3,j4,j5,c5,j6,j7,j8,j9,k0,k1,k2,k3,k4,k5,k6,k7,k8,k9,l0,l1,l2,l3,l4,l5,l6,l7,l8,l9,m0,m1,m2,m3,m4,m5,m6,m7,m8,m9,n0,n1,n2,n3,n4,b,c,d,f,g,i,k,l,m,n,o,p,q,r,s,t,u,w,x,y,z,A,B,C,D,E,F,G,H,I,J,K,L,M,N,P,Q,R,U,c4,V,W,X,Y,Z,a0,a1,a2,a3,a4,a5,a6,a7,a8,a9,b0,b1,b2,b3,b4,b5,b6,b7,b8,b9,c0,c1,c2,c3]) S =
  ( some ([x0,x1,Value.bool false,x3,x4,x5,x6,x7,x8,x9,c6,c7,c8,c9,d0,d1,d2,d3,d4,d5,d6,d7,d8,d9,f0,f1,f2,f3,f4,f5,f6,f7,f8,f9,g0,g1,g2,g3,g4,g5,g6,g7,g8,g9,i0,i1,i2,i3,i4,i5,i6,i7,i8,i9,j0,j1,j2,j3,j4,j5,c5,j6,j7,j8,j9,k0,k1,k2,k3,k4,k5,k6,k7,k8,k9,l0,l1,l2,l3,l4,l5,l6,l7,l8,l9,m0,m1,m2,m3,m4,m5,m6,m7,m8,m9,n0,n1,n2,n3,n4,b,c,d,f,g,i,k,l,m,n,o,p,q,r,s,t,u,w,x,y,z,A,B,C,D,E,F,G,H,I,J,K,L,M,N,P,Q,R,U,c4,V,W,X,Y,Z,a0,a1,a2,a3,a4,a5,a6,a7,a8,a9,b0,b1,b2,b3,b4,b5,b6,b7,b8,b9,c0,c1,c2,c3],S)):=by kernel_rfl
theorem jo.r5 :zW zi ⟨false,false,false⟩ (zU zi O) (reg Try.f34 5) (reg Try.f34 5).toList ([x0,x1,x2,x3,x4,x5,x6,x7,x8,x9,c6,c7,c8,c9,d0,d1,d2,d3,d4,d5,d6,d7,d8,d9,f0,f1,f2,f3,f4,f5,f6,f7,f8,f9,g0,g1,g2,g3,g4,g5,g6,g7,g8,g9,i0,i1,i2,i3,i4,i5,i6,i7,i8,i9,j0,j1,j2,j3,j4,j5,c5,j6,j7,j8,j9,k0,k1,k2,k3,k4,k5,k6,k7,k8,k9,l0,l1,l2,l3,l4,l5,l6,l7,l8,l9,m0,m1,m2,m3,m4,m5,m6,m7,m8,m9,n0,n1,n2,n3,n4,b,c,d,f,g,i,k,l,m,n,o,p,q,r,s,t,u,w,x,y,z,A,B,C,D,E,F,G,H,I,J,K,L,M,N,P,Q,R,U,c4,V,W,X,Y,Z,a0,a1,a2,a3,a4,a5,a6,a7,a8,a9,b0,b1,b2,b3,b4,b5,b6,b7,b8,b9,c0,c1,c2,c3]) S =
  (zT (jf zi 48 x1 3 S) (fun v0 S1=>zT (zZ zi false 3 v0 S1) (fun v1 S2=>zT (jd zi BinOp.geq 3 v1 (.int .i64 0) S2) (fun v2 S3=>zY (zQ v2) true (jf zi 48 x1 3) S3 (fun v4 S4=>zY (zQ v2) true (zZ zi false 3 v4) S4 (fun v5 S5=>zY (zQ v2) true (jd zi BinOp.leq 3 v5 (.int .i64 1000)) S5 (fun v6 S6=>zT (jH (zQ v2) v6 (Value.bool false) S6) (fun v7 S7=>some ([x0,x1,x2,v7,x4,x5,x6,x7,x8,x9,c6,c7,c8,c9,d0,d1,d2,d3,d4,d5,d6,d7,d8,d9,f0,f1,f2,f3,f4,f5,f6,f7,f8,f9,g0,g1,g2,g3,g4,g5,g6,g7,g8,v0,v1,v2,zQ v2,v4,v5,v6,zQ v7,i7,i8,i9,j0,j1,j2,j3,j4,j5,c5,j6,j7,j8,j9,k0,k1,k2,k3,k4,k5,k6,k7,k8,k9,l0,l1,l2,l3,l4,l5,l6,l7,l8,l9,m0,m1,m2,m3,m4,m5,m6,m7,m8,m9,n0,n1,n2,n3,n4,b,c,d,f,g,i,k,l,m,n,o,p,q,r,s,t,u,w,x,y,z,A,B,C,D,E,F,G,H,I,J,K,L,M,N,P,Q,R,U,c4,V,W,X,Y,Z,a0,a1,a2,a3,a4,a5,a6,a7,a8,a9,b0,b1,b2,b3,b4,b5,b6,b7,b8,b9,c0,c1,c2,c3],S7)) ()) ()) ()) ()) ()) ()) ()):=by
 refine sD Try.f34 5 0 (fun v0 S1=>?_)
 refine sD Try.f34 5 1 (fun v1 S2=>?_)
 refine sD Try.f34 5 2 (fun v2 S3=>?_)
 refine sP Try.f34 5 3 (v:=v2) ?_;refine sG Try.f34 5 4 (j:=3) (fun v4 S4=>?_)
 refine sG Try.f34 5 5 (j:=3) (fun v5 S5=>?_)
 refine sG Try.f34 5 6 (j:=3) (fun v6 S6=>?_)
 refine sD Try.f34 5 7 (fun v7 S7=>?_)
 refine sP Try.f34 5 8 (v:=v7) ?_
 kernel_rfl
theorem jo.r6 :zW zi ⟨false,false,false⟩ (zU zi O) (reg Try.f34 6) (reg Try.f34 6).toList ([x0,x1,x2,x3,x4,x5,x6,x7,x8,x9,c6,c7,c8,c9,d0,d1,d2,d3,d4,d5,d6,d7,d8,d9,f0,f1,f2,f3,f4,f5,f6,f7,f8,f9,g0,g1,g2,g3,g4,g5,g6,g7,g8,g9,i0,i1,i2,i3,i4,i5,i6,i7,i8,i9,j0,j1,j2,j3,j4,j5,c5,j6,j7,j8,j9,k0,k1,k2,k3,k4,k5,k6,k7,k8,k9,l0,l1,l2,l3,l4,l5,l6,l7,l8,l9,m0,m1,m2,m3,m4,m5,m6,m7,m8,m9,n0,n1,n2,n3,n4,b,c,d,f,g,i,k,l,m,n,o,p,q,r,s,t,u,w,x,y,z,A,B,C,D,E,F,G,H,I,J,K,L,M,N,P,Q,R,U,c4,V,W,X,Y,Z,a0,a1,a2,a3,a4,a5,a6,a7,a8,a9,b0,b1,b2,b3,b4,b5,b6,b7,b8,b9,c0,c1,c2,c3]) S =
  (zT (jf zi 48 x1 2 S) (fun v0 S1=>zT (zZ zi false 3 v0 S1) (fun v1 S2=>zT (jd zi BinOp.geq 3 v1 (.int .i64 0) S2) (fun v2 S3=>zY (zQ v2) true (jf zi 48 x1 2) S3 (fun v4 S4=>zY (zQ v2) true (zZ zi false 3 v4) S4 (fun v5 S5=>zY (zQ v2) true (jd zi BinOp.leq 3 v5 (.int .i64 1000)) S5 (fun v6 S6=>zT (jH (zQ v2) v6 (Value.bool false) S6) (fun v7 S7=>some ([x0,x1,x2,x3,v7,x5,x6,x7,x8,x9,c6,c7,c8,c9,d0,d1,d2,d3,d4,d5,d6,d7,d8,d9,f0,f1,f2,f3,f4,f5,f6,f7,f8,f9,g0,g1,g2,g3,g4,g5,g6,g7,g8,g9,i0,i1,i2,i3,i4,i5,i6,v0,v1,v2,zQ v2,v4,v5,v6,zQ v7,j5,c5,j6,j7,j8,j9,k0,k1,k2,k3,k4,k5,k6,k7,k8,k9,l0,l1,l2,l3,l4,l5,l6,l7,l8,l9,m0,m1,m2,m3,m4,m5,m6,m7,m8,m9,n0,n1,n2,n3,n4,b,c,d,f,g,i,k,l,m,n,o,p,q,r,s,t,u,w,x,y,z,A,B,C,D,E,F,G,H,I,J,K,L,M,N,P,Q,R,U,c4,V,W,X,Y,Z,a0,a1,a2,a3,a4,a5,a6,a7,a8,a9,b0,b1,b2,b3,b4,b5,b6,b7,b8,b9,c0,c1,c2,c3],S7)) ()) ()) ()) ()) ()) ()) ()):=by
 refine sD Try.f34 6 0 (fun v0 S1=>?_)
 refine sD Try.f34 6 1 (fun v1 S2=>?_)
 refine sD Try.f34 6 2 (fun v2 S3=>?_)
 refine sP Try.f34 6 3 (v:=v2) ?_;refine sG Try.f34 6 4 (j:=3) (fun v4 S4=>?_)
 refine sG Try.f34 6 5 (j:=3) (fun v5 S5=>?_)
 refine sG Try.f34 6 6 (j:=3) (fun v6 S6=>?_)
 refine sD Try.f34 6 7 (fun v7 S7=>?_)
 refine sP Try.f34 6 8 (v:=v7) ?_
 kernel_rfl
theorem jo.r7 :zW zi ⟨false,false,false⟩ (zU zi O) (reg Try.f34 7) (reg Try.f34 7).toList ([x0,x1,x2,x3,x4,x5,x6,x7,x8,x9,c6,c7,c8,c9,d0,d1,d2,d3,d4,d5,d6,d7,d8,d9,f0,f1,f2,f3,f4,f5,f6,f7,f8,f9,g0,g1,g2,g3,g4,g5,g6,g7,g8,g9,i0,i1,i2,i3,i4,i5,i6,i7,i8,i9,j0,j1,j2,j3,j4,j5,c5,j6,j7,j8,j9,k0,k1,k2,k3,k4,k5,k6,k7,k8,k9,l0,l1,l2,l3,l4,l5,l6,l7,l8,l9,m0,m1,m2,m3,m4,m5,m6,m7,m8,m9,n0,n1,n2,n3,n4,b,c,d,f,g,i,k,l,m,n,o,p,q,r,s,t,u,w,x,y,z,A,B,C,D,E,F,G,H,I,J,K,L,M,N,P,Q,R,U,c4,V,W,X,Y,Z,a0,a1,a2,a3,a4,a5,a6,a7,a8,a9,b0,b1,b2,b3,b4,b5,b6,b7,b8,b9,c0,c1,c2,c3]) S =
  (zT (jf zi 48 x1 0 S) (fun v0 S1=>zT (zZ zi false 3 v0 S1) (fun v1 S2=>some ([x0,x1,x2,x3,x4,x5,x6,x7,x8,x9,c6,c7,c8,c9,d0,d1,d2,d3,d4,d5,d6,d7,d8,d9,f0,f1,f2,f3,f4,f5,f6,f7,f8,f9,g0,g1,g2,g3,g4,g5,g6,g7,g8,g9,i0,i1,i2,i3,i4,i5,i6,i7,i8,i9,j0,j1,j2,j3,j4,v0,v1,j6,j7,j8,j9,k0,k1,k2,k3,k4,k5,k6,k7,k8,k9,l0,l1,l2,l3,l4,l5,l6,l7,l8,l9,m0,m1,m2,m3,m4,m5,m6,m7,m8,m9,n0,n1,n2,n3,n4,b,c,d,f,g,i,k,l,m,n,o,p,q,r,s,t,u,w,x,y,z,A,B,C,D,E,F,G,H,I,J,K,L,M,N,P,Q,R,U,c4,V,W,X,Y,Z,a0,a1,a2,a3,a4,a5,a6,a7,a8,a9,b0,b1,b2,b3,b4,b5,b6,b7,b8,b9,c0,c1,c2,c3],S2)) ()) ()):=by kernel_rfl
theorem jo.r8 :zW zi ⟨false,false,false⟩ (zU zi O) (reg Try.f34 8) (reg Try.f34 8).toList ([x0,x1,x2,x3,x4,x5,x6,x7,x8,x9,c6,c7,c8,c9,d0,d1,d2,d3,d4,d5,d6,d7,d8,d9,f0,f1,f2,f3,f4,f5,f6,f7,f8,f9,g0,g1,g2,g3,g4,g5,g6,g7,g8,g9,i0,i1,i2,i3,i4,i5,i6,i7,i8,i9,j0,j1,j2,j3,j4,j5,c5,j6,j7,j8,j9,k0,k1,k2,k3,k4,k5,k6,k7,k8,k9,l0,l1,l2,l3,l4,l5,l6,l7,l8,l9,m0,m1,m2,m3,m4,m5,m6,m7,m8,m9,n0,n1,n2,n3,n4,b,c,d,f,g,i,k,l,m,n,o,p,q,r,s,t,u,w,x,y,z,A,B,C,D,E,F,G,H,I,J,K,L,M,N,P,Q,R,U,c4,V,W,X,Y,Z,a0,a1,a2,a3,a4,a5,a6,a7,a8,a9,b0,b1,b2,b3,b4,b5,b6,b7,b8,b9,c0,c1,c2,c3]) S =
  (zT (jd zi BinOp.eql 3 c5 (.int .i64 0) S) (fun v0 S1=>some ([x0,x1,x2,x3,x4,x5,x6,x7,x8,x9,c6,c7,c8,c9,d0,d1,d2,d3,d4,d5,d6,d7,d8,d9,f0,f1,f2,f3,f4,f5,f6,f7,f8,f9,g0,g1,g2,g3,g4,g5,g6,g7,g8,g9,i0,i1,i2,i3,i4,i5,i6,i7,i8,i9,j0,j1,j2,j3,j4,j5,c5,v0,zQ v0,j8,j9,k0,k1,k2,k3,k4,k5,k6,k7,k8,k9,l0,l1,l2,l3,l4,l5,l6,l7,l8,l9,m0,m1,m2,m3,m4,m5,m6,m7,m8,m9,n0,n1,n2,n3,n4,b,c,d,f,g,i,k,l,m,n,o,p,q,r,s,t,u,w,x,y,z,A,B,C,D,E,F,G,H,I,J,K,L,M,N,P,Q,R,U,c4,V,W,X,Y,Z,a0,a1,a2,a3,a4,a5,a6,a7,a8,a9,b0,b1,b2,b3,b4,b5,b6,b7,b8,b9,c0,c1,c2,c3],S1)) ()):=by kernel_rfl
theorem jo.r9 :zW zi ⟨false,false,false⟩ (zU zi O) (reg Try.f34 9) (reg Try.f34 9).toList ([x0,x1,x2,x3,x4,x5,x6,x7,x8,x9,c6,c7,c8,c9,d0,d1,d2,d3,d4,d5,d6,d7,d8,d9,f0,f1,f2,f3,f4,f5,f6,f7,f8,f9,g0,g1,g2,g3,g4,g5,g6,g7,g8,g9,i0,i1,i2,i3,i4,i5,i6,i7,i8,i9,j0,j1,j2,j3,j4,j5,c5,j6,j7,j8,j9,k0,k1,k2,k3,k4,k5,k6,k7,k8,k9,l0,l1,l2,l3,l4,l5,l6,l7,l8,l9,m0,m1,m2,m3,m4,m5,m6,m7,m8,m9,n0,n1,n2,n3,n4,b,c,d,f,g,i,k,l,m,n,o,p,q,r,s,t,u,w,x,y,z,A,B,C,D,E,F,G,H,I,J,K,L,M,N,P,Q,R,U,c4,V,W,X,Y,Z,a0,a1,a2,a3,a4,a5,a6,a7,a8,a9,b0,b1,b2,b3,b4,b5,b6,b7,b8,b9,c0,c1,c2,c3]) S =
  (zT (jf zi 48 x1 2 S) (fun v0 S1=>zT (zZ zi false 3 v0 S1) (fun v1 S2=>zT (jd zi BinOp.eql 3 v1 (.int .i64 0) S2) (fun v2 S3=>zY (zQ v2) true (jf zi 48 x1 3) S3 (fun v4 S4=>zY (zQ v2) true (zZ zi false 3 v4) S4 (fun v5 S5=>zY (zQ v2) true (jd zi BinOp.eql 3 v5 (.int .i64 0)) S5 (fun v6 S6=>zT (jH (zQ v2) v6 (Value.bool false) S6) (fun v7 S7=>zY (zQ v7) true (jf zi 48 x1 4) S7 (fun v9 S8=>zY (zQ v7) true (zZ zi false 3 v9) S8 (fun n6 S9=>zY (zQ v7) true (jd zi BinOp.eql 3 n6 (.int .i64 0)) S9 (fun n7 n9=>zT (jH (zQ v7) n7 (Value.bool false) n9) (fun n5 o0=>zY (zQ n5) true (jf zi 48 x1 6) o0 (fun o6 o5=>zY (zQ n5) true (zZ zi false 43 o6) o5 (fun o2 o7=>zY (zQ n5) true ((zU zi O) 48 [(zQ o2)]) o7 (fun o3 o8=>zT (jH (zQ n5) o3 (Value.bool false) o8) (fun o1 o9=>some ([x0,x1,o1,x3,x4,x5,x6,x7,x8,x9,c6,c7,c8,c9,d0,d1,d2,d3,d4,d5,d6,d7,d8,d9,f0,f1,f2,f3,f4,f5,f6,f7,f8,f9,g0,g1,g2,g3,g4,g5,g6,g7,g8,g9,i0,i1,i2,i3,i4,i5,i6,i7,i8,i9,j0,j1,j2,j3,j4,j5,c5,j6,j7,v0,v1,v2,zQ v2,v4,v5,v6,v7,zQ v7,v9,n6,n7,n5,zQ n5,o6,o2,o3,zQ o1,l6,l7,l8,l9,m0,m1,m2,m3,m4,m5,m6,m7,m8,m9,n0,n1,n2,n3,n4,b,c,d,f,g,i,k,l,m,n,o,p,q,r,s,t,u,w,x,y,z,A,B,C,D,E,F,G,H,I,J,K,L,M,N,P,Q,R,U,c4,V,W,X,Y,Z,a0,a1,a2,a3,a4,a5,a6,a7,a8,a9,b0,b1,b2,b3,b4,b5,b6,b7,b8,b9,c0,c1,c2,c3],o9)) ()) ()) ()) ()) ()) ()) ()) ()) ()) ()) ()) ()) ()) ()) ()):=by
 refine sD Try.f34 9 0 (fun v0 S1=>?_)
 refine sD Try.f34 9 1 (fun v1 S2=>?_)
 refine sD Try.f34 9 2 (fun v2 S3=>?_)
 refine sP Try.f34 9 3 (v:=v2) ?_;refine sG Try.f34 9 4 (j:=3) (fun v4 S4=>?_)
 refine sG Try.f34 9 5 (j:=3) (fun v5 S5=>?_)
 refine sG Try.f34 9 6 (j:=3) (fun v6 S6=>?_)
 refine sD Try.f34 9 7 (fun v7 S7=>?_)
 refine sP Try.f34 9 8 (v:=v7) ?_;refine sG Try.f34 9 9 (j:=8) (fun v9 S8=>?_)
 refine sG Try.f34 9 10 (j:=8) (fun n6 S9=>?_)
 refine sG Try.f34 9 11 (j:=8) (fun n7 n9=>?_)
 refine sD Try.f34 9 12 (fun n5 o0=>?_)
 refine sP Try.f34 9 13 (v:=n5) ?_;refine sG Try.f34 9 14 (j:=13) (fun o6 o5=>?_)
 refine sG Try.f34 9 15 (j:=13) (fun o2 o7=>?_)
 refine sG Try.f34 9 16 (j:=13) (fun o3 o8=>?_)
 refine sD Try.f34 9 17 (fun o1 o9=>?_)
 refine sP Try.f34 9 18 (v:=o1) ?_
 kernel_rfl
theorem jo.r10 :zW zi ⟨false,false,false⟩ (zU zi O) (reg Try.f34 10) (reg Try.f34 10).toList ([x0,x1,x2,x3,x4,x5,x6,x7,x8,x9,c6,c7,c8,c9,d0,d1,d2,d3,d4,d5,d6,d7,d8,d9,f0,f1,f2,f3,f4,f5,f6,f7,f8,f9,g0,g1,g2,g3,g4,g5,g6,g7,g8,g9,i0,i1,i2,i3,i4,i5,i6,i7,i8,i9,j0,j1,j2,j3,j4,j5,c5,j6,j7,j8,j9,k0,k1,k2,k3,k4,k5,k6,k7,k8,k9,l0,l1,l2,l3,l4,l5,l6,l7,l8,l9,m0,m1,m2,m3,m4,m5,m6,m7,m8,m9,n0,n1,n2,n3,n4,b,c,d,f,g,i,k,l,m,n,o,p,q,r,s,t,u,w,x,y,z,A,B,C,D,E,F,G,H,I,J,K,L,M,N,P,Q,R,U,c4,V,W,X,Y,Z,a0,a1,a2,a3,a4,a5,a6,a7,a8,a9,b0,b1,b2,b3,b4,b5,b6,b7,b8,b9,c0,c1,c2,c3]) S =
  (zT (jd zi BinOp.eql 3 c5 (.int .i64 1) S) (fun v0 S1=>some ([x0,x1,x2,x3,x4,x5,x6,x7,x8,x9,c6,c7,c8,c9,d0,d1,d2,d3,d4,d5,d6,d7,d8,d9,f0,f1,f2,f3,f4,f5,f6,f7,f8,f9,g0,g1,g2,g3,g4,g5,g6,g7,g8,g9,i0,i1,i2,i3,i4,i5,i6,i7,i8,i9,j0,j1,j2,j3,j4,j5,c5,j6,j7,j8,j9,k0,k1,k2,k3,k4,k5,k6,k7,k8,k9,l0,l1,l2,l3,l4,l5,v0,zQ v0,l8,l9,m0,m1,m2,m3,m4,m5,m6,m7,m8,m9,n0,n1,n2,n3,n4,b,c,d,f,g,i,k,l,m,n,o,p,q,r,s,t,u,w,x,y,z,A,B,C,D,E,F,G,H,I,J,K,L,M,N,P,Q,R,U,c4,V,W,X,Y,Z,a0,a1,a2,a3,a4,a5,a6,a7,a8,a9,b0,b1,b2,b3,b4,b5,b6,b7,b8,b9,c0,c1,c2,c3],S1)) ()):=by kernel_rfl
theorem jo.r11 :zW zi ⟨false,false,false⟩ (zU zi O) (reg Try.f34 11) (reg Try.f34 11).toList ([x0,x1,x2,x3,x4,x5,x6,x7,x8,x9,c6,c7,c8,c9,d0,d1,d2,d3,d4,d5,d6,d7,d8,d9,f0,f1,f2,f3,f4,f5,f6,f7,f8,f9,g0,g1,g2,g3,g4,g5,g6,g7,g8,g9,i0,i1,i2,i3,i4,i5,i6,i7,i8,i9,j0,j1,j2,j3,j4,j5,c5,j6,j7,j8,j9,k0,k1,k2,k3,k4,k5,k6,k7,k8,k9,l0,l1,l2,l3,l4,l5,l6,l7,l8,l9,m0,m1,m2,m3,m4,m5,m6,m7,m8,m9,n0,n1,n2,n3,n4,b,c,d,f,g,i,k,l,m,n,o,p,q,r,s,t,u,w,x,y,z,A,B,C,D,E,F,G,H,I,J,K,L,M,N,P,Q,R,U,c4,V,W,X,Y,Z,a0,a1,a2,a3,a4,a5,a6,a7,a8,a9,b0,b1,b2,b3,b4,b5,b6,b7,b8,b9,c0,c1,c2,c3]) S =
  (zT (jf zi 48 x1 2 S) (fun v0 S1=>zT (zZ zi false 3 v0 S1) (fun v1 S2=>zT (jd zi BinOp.eql 3 v1 (.int .i64 0) S2) (fun v2 S3=>zY (zQ v2) true (jf zi 48 x1 3) S3 (fun v4 S4=>zY (zQ v2) true (zZ zi false 3 v4) S4 (fun v5 S5=>zY (zQ v2) true (jd zi BinOp.eql 3 v5 (.int .i64 0)) S5 (fun v6 S6=>zT (jH (zQ v2) v6 (Value.bool false) S6) (fun v7 S7=>zY (zQ v7) true (jf zi 48 x1 4) S7 (fun v9 S8=>zY (zQ v7) true (zZ zi false 3 v9) S8 (fun n6 S9=>zY (zQ v7) true (jd zi BinOp.eql 3 n6 (.int .i64 0)) S9 (fun n7 n9=>zT (jH (zQ v7) n7 (Value.bool false) n9) (fun n5 o0=>zY (zQ n5) true (jf zi 48 x1 7) o0 (fun o6 o5=>zY (zQ n5) true (zZ zi false 46 o6) o5 (fun o2 o7=>zY (zQ n5) true ((zU zi O) 32 [(zQ o2)]) o7 (fun o3 o8=>zT (jH (zQ n5) o3 (Value.bool false) o8) (fun o1 o9=>some ([x0,x1,o1,x3,x4,x5,x6,x7,x8,x9,c6,c7,c8,c9,d0,d1,d2,d3,d4,d5,d6,d7,d8,d9,f0,f1,f2,f3,f4,f5,f6,f7,f8,f9,g0,g1,g2,g3,g4,g5,g6,g7,g8,g9,i0,i1,i2,i3,i4,i5,i6,i7,i8,i9,j0,j1,j2,j3,j4,j5,c5,j6,j7,j8,j9,k0,k1,k2,k3,k4,k5,k6,k7,k8,k9,l0,l1,l2,l3,l4,l5,l6,l7,v0,v1,v2,zQ v2,v4,v5,v6,v7,zQ v7,v9,n6,n7,n5,zQ n5,o6,o2,o3,zQ o1,c,d,f,g,i,k,l,m,n,o,p,q,r,s,t,u,w,x,y,z,A,B,C,D,E,F,G,H,I,J,K,L,M,N,P,Q,R,U,c4,V,W,X,Y,Z,a0,a1,a2,a3,a4,a5,a6,a7,a8,a9,b0,b1,b2,b3,b4,b5,b6,b7,b8,b9,c0,c1,c2,c3],o9)) ()) ()) ()) ()) ()) ()) ()) ()) ()) ()) ()) ()) ()) ()) ()):=by
 refine sD Try.f34 11 0 (fun v0 S1=>?_)
 refine sD Try.f34 11 1 (fun v1 S2=>?_)
 refine sD Try.f34 11 2 (fun v2 S3=>?_)
 refine sP Try.f34 11 3 (v:=v2) ?_;refine sG Try.f34 11 4 (j:=3) (fun v4 S4=>?_)
 refine sG Try.f34 11 5 (j:=3) (fun v5 S5=>?_)
 refine sG Try.f34 11 6 (j:=3) (fun v6 S6=>?_)
 refine sD Try.f34 11 7 (fun v7 S7=>?_)
 refine sP Try.f34 11 8 (v:=v7) ?_;refine sG Try.f34 11 9 (j:=8) (fun v9 S8=>?_)
 refine sG Try.f34 11 10 (j:=8) (fun n6 S9=>?_)
 refine sG Try.f34 11 11 (j:=8) (fun n7 n9=>?_)
 refine sD Try.f34 11 12 (fun n5 o0=>?_)
 refine sP Try.f34 11 13 (v:=n5) ?_;refine sG Try.f34 11 14 (j:=13) (fun o6 o5=>?_)
 refine sG Try.f34 11 15 (j:=13) (fun o2 o7=>?_)
 refine sG Try.f34 11 16 (j:=13) (fun o3 o8=>?_)
 refine sD Try.f34 11 17 (fun o1 o9=>?_)
 refine sP Try.f34 11 18 (v:=o1) ?_
 kernel_rfl
theorem jo.r12 :zW zi ⟨false,false,false⟩ (zU zi O) (reg Try.f34 12) (reg Try.f34 12).toList ([x0,x1,x2,x3,x4,x5,x6,x7,x8,x9,c6,c7,c8,c9,d0,d1,d2,d3,d4,d5,d6,d7,d8,d9,f0,f1,f2,f3,f4,f5,f6,f7,f8,f9,g0,g1,g2,g3,g4,g5,g6,g7,g8,g9,i0,i1,i2,i3,i4,i5,i6,i7,i8,i9,j0,j1,j2,j3,j4,j5,c5,j6,j7,j8,j9,k0,k1,k2,k3,k4,k5,k6,k7,k8,k9,l0,l1,l2,l3,l4,l5,l6,l7,l8,l9,m0,m1,m2,m3,m4,m5,m6,m7,m8,m9,n0,n1,n2,n3,n4,b,c,d,f,g,i,k,l,m,n,o,p,q,r,s,t,u,w,x,y,z,A,B,C,D,E,F,G,H,I,J,K,L,M,N,P,Q,R,U,c4,V,W,X,Y,Z,a0,a1,a2,a3,a4,a5,a6,a7,a8,a9,b0,b1,b2,b3,b4,b5,b6,b7,b8,b9,c0,c1,c2,c3]) S =
  (zT (jd zi BinOp.eql 3 c5 (.int .i64 2) S) (fun v0 S1=>some ([x0,x1,x2,x3,x4,x5,x6,x7,x8,x9,c6,c7,c8,c9,d0,d1,d2,d3,d4,d5,d6,d7,d8,d9,f0,f1,f2,f3,f4,f5,f6,f7,f8,f9,g0,g1,g2,g3,g4,g5,g6,g7,g8,g9,i0,i1,i2,i3,i4,i5,i6,i7,i8,i9,j0,j1,j2,j3,j4,j5,c5,j6,j7,j8,j9,k0,k1,k2,k3,k4,k5,k6,k7,k8,k9,l0,l1,l2,l3,l4,l5,l6,l7,l8,l9,m0,m1,m2,m3,m4,m5,m6,m7,m8,m9,n0,n1,n2,n3,n4,b,v0,zQ v0,f,g,i,k,l,m,n,o,p,q,r,s,t,u,w,x,y,z,A,B,C,D,E,F,G,H,I,J,K,L,M,N,P,Q,R,U,c4,V,W,X,Y,Z,a0,a1,a2,a3,a4,a5,a6,a7,a8,a9,b0,b1,b2,b3,b4,b5,b6,b7,b8,b9,c0,c1,c2,c3],S1)) ()):=by kernel_rfl
theorem jo.r13 :zW zi ⟨false,false,false⟩ (zU zi O) (reg Try.f34 13) (reg Try.f34 13).toList ([x0,x1,x2,x3,x4,x5,x6,x7,x8,x9,c6,c7,c8,c9,d0,d1,d2,d3,d4,d5,d6,d7,d8,d9,f0,f1,f2,f3,f4,f5,f6,f7,f8,f9,g0,g1,g2,g3,g4,g5,g6,g7,g8,g9,i0,i1,i2,i3,i4,i5,i6,i7,i8,i9,j0,j1,j2,j3,j4,j5,c5,j6,j7,j8,j9,k0,k1,k2,k3,k4,k5,k6,k7,k8,k9,l0,l1,l2,l3,l4,l5,l6,l7,l8,l9,m0,m1,m2,m3,m4,m5,m6,m7,m8,m9,n0,n1,n2,n3,n4,b,c,d,f,g,i,k,l,m,n,o,p,q,r,s,t,u,w,x,y,z,A,B,C,D,E,F,G,H,I,J,K,L,M,N,P,Q,R,U,c4,V,W,X,Y,Z,a0,a1,a2,a3,a4,a5,a6,a7,a8,a9,b0,b1,b2,b3,b4,b5,b6,b7,b8,b9,c0,c1,c2,c3]) S =
  (zT (jf zi 48 x1 2 S) (fun v0 S1=>zT (zZ zi false 3 v0 S1) (fun v1 S2=>zT (jd zi BinOp.eql 3 v1 (.int .i64 0) S2) (fun v2 S3=>zY (zQ v2) true (jf zi 48 x1 3) S3 (fun v4 S4=>zY (zQ v2) true (zZ zi false 3 v4) S4 (fun v5 S5=>zY (zQ v2) true (jd zi BinOp.eql 3 v5 (.int .i64 0)) S5 (fun v6 S6=>zT (jH (zQ v2) v6 (Value.bool false) S6) (fun v7 S7=>zY (zQ v7) true (jf zi 48 x1 4) S7 (fun v9 S8=>zY (zQ v7) true (zZ zi false 3 v9) S8 (fun n6 S9=>zY (zQ v7) true ((zU zi O) 53 [(zQ n6)]) S9 (fun n7 n9=>zT (jH (zQ v7) n7 (Value.bool false) n9) (fun n5 o0=>some ([x0,x1,n5,x3,x4,x5,x6,x7,x8,x9,c6,c7,c8,c9,d0,d1,d2,d3,d4,d5,d6,d7,d8,d9,f0,f1,f2,f3,f4,f5,f6,f7,f8,f9,g0,g1,g2,g3,g4,g5,g6,g7,g8,g9,i0,i1,i2,i3,i4,i5,i6,i7,i8,i9,j0,j1,j2,j3,j4,j5,c5,j6,j7,j8,j9,k0,k1,k2,k3,k4,k5,k6,k7,k8,k9,l0,l1,l2,l3,l4,l5,l6,l7,l8,l9,m0,m1,m2,m3,m4,m5,m6,m7,m8,m9,n0,n1,n2,n3,n4,b,c,d,v0,v1,v2,zQ v2,v4,v5,v6,v7,zQ v7,v9,n6,n7,zQ n5,u,w,x,y,z,A,B,C,D,E,F,G,H,I,J,K,L,M,N,P,Q,R,U,c4,V,W,X,Y,Z,a0,a1,a2,a3,a4,a5,a6,a7,a8,a9,b0,b1,b2,b3,b4,b5,b6,b7,b8,b9,c0,c1,c2,c3],o0)) ()) ()) ()) ()) ()) ()) ()) ()) ()) ()) ()):=by
 refine sD Try.f34 13 0 (fun v0 S1=>?_)
 refine sD Try.f34 13 1 (fun v1 S2=>?_)
 refine sD Try.f34 13 2 (fun v2 S3=>?_)
 refine sP Try.f34 13 3 (v:=v2) ?_;refine sG Try.f34 13 4 (j:=3) (fun v4 S4=>?_)
 refine sG Try.f34 13 5 (j:=3) (fun v5 S5=>?_)
 refine sG Try.f34 13 6 (j:=3) (fun v6 S6=>?_)
 refine sD Try.f34 13 7 (fun v7 S7=>?_)
 refine sP Try.f34 13 8 (v:=v7) ?_;refine sG Try.f34 13 9 (j:=8) (fun v9 S8=>?_)
 refine sG Try.f34 13 10 (j:=8) (fun n6 S9=>?_)
 refine sG Try.f34 13 11 (j:=8) (fun n7 n9=>?_)
 refine sD Try.f34 13 12 (fun n5 o0=>?_)
 refine sP Try.f34 13 13 (v:=n5) ?_
 kernel_rfl
theorem jo.vP :zW zi ⟨false,false,false⟩ (zU zi O) (reg Try.f34 14) (reg Try.f34 14).toList ([x0,x1,x2,x3,x4,x5,x6,x7,x8,x9,c6,c7,c8,c9,d0,d1,d2,d3,d4,d5,d6,d7,d8,d9,f0,f1,f2,f3,f4,f5,f6,f7,f8,f9,g0,g1,g2,g3,g4,g5,g6,g7,g8,g9,i0,i1,i2,i3,i4,i5,i6,i7,i8,i9,j0,j1,j2,j3,j4,j5,c5,j6,j7,j8,j9,k0,k1,k2,k3,k4,k5,k6,k7,k8,k9,l0,l1,l2,l3,l4,l5,l6,l7,l8,l9,m0,m1,m2,m3,m4,m5,m6,m7,m8,m9,n0,n1,n2,n3,n4,b,c,d,f,g,i,k,l,m,n,o,p,q,r,s,t,u,w,x,y,z,A,B,C,D,E,F,G,H,I,J,K,L,M,N,P,Q,R,U,c4,V,W,X,Y,Z,a0,a1,a2,a3,a4,a5,a6,a7,a8,a9,b0,b1,b2,b3,b4,b5,b6,b7,b8,b9,c0,c1,c2,c3]) S =
  (zT (jd zi BinOp.eql 3 c5 (.int .i64 3) S) (fun v0 S1=>some ([x0,x1,x2,x3,x4,x5,x6,x7,x8,x9,c6,c7,c8,c9,d0,d1,d2,d3,d4,d5,d6,d7,d8,d9,f0,f1,f2,f3,f4,f5,f6,f7,f8,f9,g0,g1,g2,g3,g4,g5,g6,g7,g8,g9,i0,i1,i2,i3,i4,i5,i6,i7,i8,i9,j0,j1,j2,j3,j4,j5,c5,j6,j7,j8,j9,k0,k1,k2,k3,k4,k5,k6,k7,k8,k9,l0,l1,l2,l3,l4,l5,l6,l7,l8,l9,m0,m1,m2,m3,m4,m5,m6,m7,m8,m9,n0,n1,n2,n3,n4,b,c,d,f,g,i,k,l,m,n,o,p,q,r,s,t,v0,zQ v0,x,y,z,A,B,C,D,E,F,G,H,I,J,K,L,M,N,P,Q,R,U,c4,V,W,X,Y,Z,a0,a1,a2,a3,a4,a5,a6,a7,a8,a9,b0,b1,b2,b3,b4,b5,b6,b7,b8,b9,c0,c1,c2,c3],S1)) ()):=by kernel_rfl
theorem jo.Zi :zW zi ⟨false,false,false⟩ (zU zi O) (reg Try.f34 15) (reg Try.f34 15).toList ([x0,x1,x2,x3,x4,x5,x6,x7,x8,x9,c6,c7,c8,c9,d0,d1,d2,d3,d4,d5,d6,d7,d8,d9,f0,f1,f2,f3,f4,f5,f6,f7,f8,f9,g0,g1,g2,g3,g4,g5,g6,g7,g8,g9,i0,i1,i2,i3,i4,i5,i6,i7,i8,i9,j0,j1,j2,j3,j4,j5,c5,j6,j7,j8,j9,k0,k1,k2,k3,k4,k5,k6,k7,k8,k9,l0,l1,l2,l3,l4,l5,l6,l7,l8,l9,m0,m1,m2,m3,m4,m5,m6,m7,m8,m9,n0,n1,n2,n3,n4,b,c,d,f,g,i,k,l,m,n,o,p,q,r,s,t,u,w,x,y,z,A,B,C,D,E,F,G,H,I,J,K,L,M,N,P,Q,R,U,c4,V,W,X,Y,Z,a0,a1,a2,a3,a4,a5,a6,a7,a8,a9,b0,b1,b2,b3,b4,b5,b6,b7,b8,b9,c0,c1,c2,c3]) S =
  (zY (zQ x4) true (ret x3) S (fun v2 S1=>zT (jH (zQ x4) (zQ v2) (Value.bool false) S1) (fun v3 S2=>zY (zQ v3) true (jf zi 48 x1 4) S2 (fun v5 S3=>zY (zQ v3) true (zZ zi false 3 v5) S3 (fun v6 S4=>zY (zQ v3) true ((zU zi O) 53 [(zQ v6)]) S4 (fun v7 S5=>zT (jH (zQ v3) v7 (Value.bool false) S5) (fun v8 S6=>zY (zQ v8) true (jf zi 48 x1 5) S6 (fun n6 S7=>zY (zQ v8) true (zZ zi false 3 n6) S7 (fun n7 S8=>zY (zQ v8) true (jd zi BinOp.geq 3 n7 (.int .i64 (-1))) S8 (fun n5 S9=>zT (jH (zQ v8) n5 (Value.bool false) S9) (fun n8 n9=>zY (zQ n8) true (jf zi 48 x1 5) n9 (fun o2 o0=>zY (zQ n8) true (zZ zi false 3 o2) o0 (fun o3 o5=>zY (zQ n8) true (jf zi 48 x1 3) o5 (fun o1 o7=>zY (zQ n8) true (zZ zi false 3 o1) o7 (fun p0 o8=>zY (zQ n8) true (jd zi BinOp.lss 3 o3 p0) o8 (fun o4 o9=>zT (jH (zQ n8) o4 (Value.bool false) o9) (fun p3 p2=>some ([x0,x1,p3,x3,zQ x4,x5,x6,x7,x8,x9,c6,c7,c8,c9,d0,d1,d2,d3,d4,d5,d6,d7,d8,d9,f0,f1,f2,f3,f4,f5,f6,f7,f8,f9,g0,g1,g2,g3,g4,g5,g6,g7,g8,g9,i0,i1,i2,i3,i4,i5,i6,i7,i8,i9,j0,j1,j2,j3,j4,j5,c5,j6,j7,j8,j9,k0,k1,k2,k3,k4,k5,k6,k7,k8,k9,l0,l1,l2,l3,l4,l5,l6,l7,l8,l9,m0,m1,m2,m3,m4,m5,m6,m7,m8,m9,n0,n1,n2,n3,n4,b,c,d,f,g,i,k,l,m,n,o,p,q,r,s,t,u,w,x4,zQ x4,zQ v2,v3,zQ v3,v5,v6,v7,v8,zQ v8,n6,n7,n5,n8,zQ n8,o2,o3,o1,p0,o4,zQ p3,c4,V,W,X,Y,Z,a0,a1,a2,a3,a4,a5,a6,a7,a8,a9,b0,b1,b2,b3,b4,b5,b6,b7,b8,b9,c0,c1,c2,c3],p2)) ()) ()) ()) ()) ()) ()) ()) ()) ()) ()) ()) ()) ()) ()) ()) ()):=by
 refine sP Try.f34 15 0 (v:=x4) ?_;refine sP Try.f34 15 1 (v:=x4) ?_;refine sG Try.f34 15 2 (j:=1) (fun v2 S1=>?_)
 refine sD Try.f34 15 3 (fun v3 S2=>?_)
 refine sP Try.f34 15 4 (v:=v3) ?_;refine sG Try.f34 15 5 (j:=4) (fun v5 S3=>?_)
 refine sG Try.f34 15 6 (j:=4) (fun v6 S4=>?_)
 refine sG Try.f34 15 7 (j:=4) (fun v7 S5=>?_)
 refine sD Try.f34 15 8 (fun v8 S6=>?_)
 refine sP Try.f34 15 9 (v:=v8) ?_;refine sG Try.f34 15 10 (j:=9) (fun n6 S7=>?_)
 refine sG Try.f34 15 11 (j:=9) (fun n7 S8=>?_)
 refine sG Try.f34 15 12 (j:=9) (fun n5 S9=>?_)
 refine sD Try.f34 15 13 (fun n8 n9=>?_)
 refine sP Try.f34 15 14 (v:=n8) ?_;refine sG Try.f34 15 15 (j:=14) (fun o2 o0=>?_)
 refine sG Try.f34 15 16 (j:=14) (fun o3 o5=>?_)
 refine sG Try.f34 15 17 (j:=14) (fun o1 o7=>?_)
 refine sG Try.f34 15 18 (j:=14) (fun p0 o8=>?_)
 refine sG Try.f34 15 19 (j:=14) (fun o4 o9=>?_)
 refine sD Try.f34 15 20 (fun p3 p2=>?_)
 refine sP Try.f34 15 21 (v:=p3) ?_
 kernel_rfl
theorem jo.r16 :zW zi ⟨false,false,false⟩ (zU zi O) (reg Try.f34 16) (reg Try.f34 16).toList ([x0,x1,x2,x3,x4,x5,x6,x7,x8,x9,c6,c7,c8,c9,d0,d1,d2,d3,d4,d5,d6,d7,d8,d9,f0,f1,f2,f3,f4,f5,f6,f7,f8,f9,g0,g1,g2,g3,g4,g5,g6,g7,g8,g9,i0,i1,i2,i3,i4,i5,i6,i7,i8,i9,j0,j1,j2,j3,j4,j5,c5,j6,j7,j8,j9,k0,k1,k2,k3,k4,k5,k6,k7,k8,k9,l0,l1,l2,l3,l4,l5,l6,l7,l8,l9,m0,m1,m2,m3,m4,m5,m6,m7,m8,m9,n0,n1,n2,n3,n4,b,c,d,f,g,i,k,l,m,n,o,p,q,r,s,t,u,w,x,y,z,A,B,C,D,E,F,G,H,I,J,K,L,M,N,P,Q,R,U,c4,V,W,X,Y,Z,a0,a1,a2,a3,a4,a5,a6,a7,a8,a9,b0,b1,b2,b3,b4,b5,b6,b7,b8,b9,c0,c1,c2,c3]) S =
  (zT (jd zi BinOp.eql 3 c5 (.int .i64 4) S) (fun v0 S1=>some ([x0,x1,x2,x3,x4,x5,x6,x7,x8,x9,c6,c7,c8,c9,d0,d1,d2,d3,d4,d5,d6,d7,d8,d9,f0,f1,f2,f3,f4,f5,f6,f7,f8,f9,g0,g1,g2,g3,g4,g5,g6,g7,g8,g9,i0,i1,i2,i3,i4,i5,i6,i7,i8,i9,j0,j1,j2,j3,j4,j5,c5,j6,j7,j8,j9,k0,k1,k2,k3,k4,k5,k6,k7,k8,k9,l0,l1,l2,l3,l4,l5,l6,l7,l8,l9,m0,m1,m2,m3,m4,m5,m6,m7,m8,m9,n0,n1,n2,n3,n4,b,c,d,f,g,i,k,l,m,n,o,p,q,r,s,t,u,w,x,y,z,A,B,C,D,E,F,G,H,I,J,K,L,M,N,P,Q,R,U,v0,zQ v0,W,X,Y,Z,a0,a1,a2,a3,a4,a5,a6,a7,a8,a9,b0,b1,b2,b3,b4,b5,b6,b7,b8,b9,c0,c1,c2,c3],S1)) ()):=by kernel_rfl
theorem jo.JX :zW zi ⟨false,false,false⟩ (zU zi O) (reg Try.f34 17) (reg Try.f34 17).toList ([x0,x1,x2,x3,x4,x5,x6,x7,x8,x9,c6,c7,c8,c9,d0,d1,d2,d3,d4,d5,d6,d7,d8,d9,f0,f1,f2,f3,f4,f5,f6,f7,f8,f9,g0,g1,g2,g3,g4,g5,g6,g7,g8,g9,i0,i1,i2,i3,i4,i5,i6,i7,i8,i9,j0,j1,j2,j3,j4,j5,c5,j6,j7,j8,j9,k0,k1,k2,k3,k4,k5,k6,k7,k8,k9,l0,l1,l2,l3,l4,l5,l6,l7,l8,l9,m0,m1,m2,m3,m4,m5,m6,m7,m8,m9,n0,n1,n2,n3,n4,b,c,d,f,g,i,k,l,m,n,o,p,q,r,s,t,u,w,x,y,z,A,B,C,D,E,F,G,H,I,J,K,L,M,N,P,Q,R,U,c4,V,W,X,Y,Z,a0,a1,a2,a3,a4,a5,a6,a7,a8,a9,b0,b1,b2,b3,b4,b5,b6,b7,b8,b9,c0,c1,c2,c3]) S =
  (zT (jd zi BinOp.eql 3 c5 (.int .i64 5) S) (fun v0 S1=>some ([x0,x1,x2,x3,x4,x5,x6,x7,x8,x9,c6,c7,c8,c9,d0,d1,d2,d3,d4,d5,d6,d7,d8,d9,f0,f1,f2,f3,f4,f5,f6,f7,f8,f9,g0,g1,g2,g3,g4,g5,g6,g7,g8,g9,i0,i1,i2,i3,i4,i5,i6,i7,i8,i9,j0,j1,j2,j3,j4,j5,c5,j6,j7,j8,j9,k0,k1,k2,k3,k4,k5,k6,k7,k8,k9,l0,l1,l2,l3,l4,l5,l6,l7,l8,l9,m0,m1,m2,m3,m4,m5,m6,m7,m8,m9,n0,n1,n2,n3,n4,b,c,d,f,g,i,k,l,m,n,o,p,q,r,s,t,u,w,x,y,z,A,B,C,D,E,F,G,H,I,J,K,L,M,N,P,Q,R,U,v0,V,zQ v0,X,Y,Z,a0,a1,a2,a3,a4,a5,a6,a7,a8,a9,b0,b1,b2,b3,b4,b5,b6,b7,b8,b9,c0,c1,c2,c3],S1)) ()):=by kernel_rfl
theorem jo.QO :zW zi ⟨false,false,false⟩ (zU zi O) (reg Try.f34 18) (reg Try.f34 18).toList ([x0,x1,x2,x3,x4,x5,x6,x7,x8,x9,c6,c7,c8,c9,d0,d1,d2,d3,d4,d5,d6,d7,d8,d9,f0,f1,f2,f3,f4,f5,f6,f7,f8,f9,g0,g1,g2,g3,g4,g5,g6,g7,g8,g9,i0,i1,i2,i3,i4,i5,i6,i7,i8,i9,j0,j1,j2,j3,j4,j5,c5,j6,j7,j8,j9,k0,k1,k2,k3,k4,k5,k6,k7,k8,k9,l0,l1,l2,l3,l4,l5,l6,l7,l8,l9,m0,m1,m2,m3,m4,m5,m6,m7,m8,m9,n0,n1,n2,n3,n4,b,c,d,f,g,i,k,l,m,n,o,p,q,r,s,t,u,w,x,y,z,A,B,C,D,E,F,G,H,I,J,K,L,M,N,P,Q,R,U,c4,V,W,X,Y,Z,a0,a1,a2,a3,a4,a5,a6,a7,a8,a9,b0,b1,b2,b3,b4,b5,b6,b7,b8,b9,c0,c1,c2,c3]) S =
  (zY (zQ x4) true (ret x3) S (fun v2 S1=>zT (jH (zQ x4) (zQ v2) (Value.bool false) S1) (fun v3 S2=>zY (zQ v3) true (jf zi 48 x1 4) S2 (fun v5 S3=>zY (zQ v3) true (zZ zi false 3 v5) S3 (fun v6 S4=>zY (zQ v3) true (jd zi BinOp.eql 3 v6 (.int .i64 (-1))) S4 (fun v7 S5=>zY (zQ v3) true (ret v7) S5 (fun v8 S6=>zY (zQ v8) false (jf zi 48 x1 4) S6 (fun v9 S7=>zY (zQ v8) false (zZ zi false 3 v9) S7 (fun n6 S8=>zY (zQ v8) false ((zU zi O) 53 [(zQ n6)]) S8 (fun n7 S9=>zY (zQ v3) true (jH (zQ v8) (Value.bool true) n7) S9 (fun n5 n9=>zT (jH (zQ v3) n5 (Value.bool false) n9) (fun n8 o0=>some ([x0,x1,n8,x3,zQ x4,x5,x6,x7,x8,x9,c6,c7,c8,c9,d0,d1,d2,d3,d4,d5,d6,d7,d8,d9,f0,f1,f2,f3,f4,f5,f6,f7,f8,f9,g0,g1,g2,g3,g4,g5,g6,g7,g8,g9,i0,i1,i2,i3,i4,i5,i6,i7,i8,i9,j0,j1,j2,j3,j4,j5,c5,j6,j7,j8,j9,k0,k1,k2,k3,k4,k5,k6,k7,k8,k9,l0,l1,l2,l3,l4,l5,l6,l7,l8,l9,m0,m1,m2,m3,m4,m5,m6,m7,m8,m9,n0,n1,n2,n3,n4,b,c,d,f,g,i,k,l,m,n,o,p,q,r,s,t,u,w,x,y,z,A,B,C,D,E,F,G,H,I,J,K,L,M,N,P,Q,R,U,c4,V,W,x4,zQ x4,zQ v2,v3,zQ v3,v5,v6,v7,zQ v8,v9,n6,n7,n5,zQ n8,b1,b2,b3,b4,b5,b6,b7,b8,b9,c0,c1,c2,c3],o0)) ()) ()) ()) ()) ()) ()) ()) ()) ()) ()) ()):=by
 refine sP Try.f34 18 0 (v:=x4) ?_;refine sP Try.f34 18 1 (v:=x4) ?_;refine sG Try.f34 18 2 (j:=1) (fun v2 S1=>?_)
 refine sD Try.f34 18 3 (fun v3 S2=>?_)
 refine sP Try.f34 18 4 (v:=v3) ?_;refine sG Try.f34 18 5 (j:=4) (fun v5 S3=>?_)
 refine sG Try.f34 18 6 (j:=4) (fun v6 S4=>?_)
 refine sG Try.f34 18 7 (j:=4) (fun v7 S5=>?_)
 refine sG Try.f34 18 8 (j:=4) (fun v8 S6=>?_)
 refine sG Try.f34 18 9 (j:=8) (fun v9 S7=>?_)
 refine sG Try.f34 18 10 (j:=8) (fun n6 S8=>?_)
 refine sG Try.f34 18 11 (j:=8) (fun n7 S9=>?_)
 refine sG Try.f34 18 12 (j:=4) (fun n5 n9=>?_)
 refine sD Try.f34 18 13 (fun n8 o0=>?_)
 refine sP Try.f34 18 14 (v:=n8) ?_
 kernel_rfl
theorem jo.QS :zW zi ⟨false,false,false⟩ (zU zi O) (reg Try.f34 19) (reg Try.f34 19).toList ([x0,x1,x2,x3,x4,x5,x6,x7,x8,x9,c6,c7,c8,c9,d0,d1,d2,d3,d4,d5,d6,d7,d8,d9,f0,f1,f2,f3,f4,f5,f6,f7,f8,f9,g0,g1,g2,g3,g4,g5,g6,g7,g8,g9,i0,i1,i2,i3,i4,i5,i6,i7,i8,i9,j0,j1,j2,j3,j4,j5,c5,j6,j7,j8,j9,k0,k1,k2,k3,k4,k5,k6,k7,k8,k9,l0,l1,l2,l3,l4,l5,l6,l7,l8,l9,m0,m1,m2,m3,m4,m5,m6,m7,m8,m9,n0,n1,n2,n3,n4,b,c,d,f,g,i,k,l,m,n,o,p,q,r,s,t,u,w,x,y,z,A,B,C,D,E,F,G,H,I,J,K,L,M,N,P,Q,R,U,c4,V,W,X,Y,Z,a0,a1,a2,a3,a4,a5,a6,a7,a8,a9,b0,b1,b2,b3,b4,b5,b6,b7,b8,b9,c0,c1,c2,c3]) S =
  (zT (jd zi BinOp.eql 3 c5 (.int .i64 6) S) (fun v0 S1=>some ([x0,x1,x2,x3,x4,x5,x6,x7,x8,x9,c6,c7,c8,c9,d0,d1,d2,d3,d4,d5,d6,d7,d8,d9,f0,f1,f2,f3,f4,f5,f6,f7,f8,f9,g0,g1,g2,g3,g4,g5,g6,g7,g8,g9,i0,i1,i2,i3,i4,i5,i6,i7,i8,i9,j0,j1,j2,j3,j4,j5,c5,j6,j7,j8,j9,k0,k1,k2,k3,k4,k5,k6,k7,k8,k9,l0,l1,l2,l3,l4,l5,l6,l7,l8,l9,m0,m1,m2,m3,m4,m5,m6,m7,m8,m9,n0,n1,n2,n3,n4,b,c,d,f,g,i,k,l,m,n,o,p,q,r,s,t,u,w,x,y,z,A,B,C,D,E,F,G,H,I,J,K,L,M,N,P,Q,R,U,c4,V,W,X,Y,Z,a0,a1,a2,a3,a4,a5,a6,a7,a8,a9,b0,v0,zQ v0,b3,b4,b5,b6,b7,b8,b9,c0,c1,c2,c3],S1)) ()):=by kernel_rfl
theorem jo.VB :zW zi ⟨false,false,false⟩ (zU zi O) (reg Try.f34 20) (reg Try.f34 20).toList ([x0,x1,x2,x3,x4,x5,x6,x7,x8,x9,c6,c7,c8,c9,d0,d1,d2,d3,d4,d5,d6,d7,d8,d9,f0,f1,f2,f3,f4,f5,f6,f7,f8,f9,g0,g1,g2,g3,g4,g5,g6,g7,g8,g9,i0,i1,i2,i3,i4,i5,i6,i7,i8,i9,j0,j1,j2,j3,j4,j5,c5,j6,j7,j8,j9,k0,k1,k2,k3,k4,k5,k6,k7,k8,k9,l0,l1,l2,l3,l4,l5,l6,l7,l8,l9,m0,m1,m2,m3,m4,m5,m6,m7,m8,m9,n0,n1,n2,n3,n4,b,c,d,f,g,i,k,l,m,n,o,p,q,r,s,t,u,w,x,y,z,A,B,C,D,E,F,G,H,I,J,K,L,M,N,P,Q,R,U,c4,V,W,X,Y,Z,a0,a1,a2,a3,a4,a5,a6,a7,a8,a9,b0,b1,b2,b3,b4,b5,b6,b7,b8,b9,c0,c1,c2,c3]) S =
  (zY (zQ x4) true (jf zi 48 x1 3) S (fun v2 S1=>zY (zQ x4) true (zZ zi false 3 v2) S1 (fun v3 S2=>zY (zQ x4) true (jd zi BinOp.eql 3 v3 (.int .i64 0)) S2 (fun v4 S3=>zT (jH (zQ x4) v4 (Value.bool false) S3) (fun v5 S4=>zY (zQ v5) true (jf zi 48 x1 4) S4 (fun v7 S5=>zY (zQ v5) true (zZ zi false 3 v7) S5 (fun v8 S6=>zY (zQ v5) true ((zU zi O) 53 [(zQ v8)]) S6 (fun v9 S7=>zT (jH (zQ v5) v9 (Value.bool false) S7) (fun n6 S8=>some ([x0,x1,n6,x3,zQ x4,x5,x6,x7,x8,x9,c6,c7,c8,c9,d0,d1,d2,d3,d4,d5,d6,d7,d8,d9,f0,f1,f2,f3,f4,f5,f6,f7,f8,f9,g0,g1,g2,g3,g4,g5,g6,g7,g8,g9,i0,i1,i2,i3,i4,i5,i6,i7,i8,i9,j0,j1,j2,j3,j4,j5,c5,j6,j7,j8,j9,k0,k1,k2,k3,k4,k5,k6,k7,k8,k9,l0,l1,l2,l3,l4,l5,l6,l7,l8,l9,m0,m1,m2,m3,m4,m5,m6,m7,m8,m9,n0,n1,n2,n3,n4,b,c,d,f,g,i,k,l,m,n,o,p,q,r,s,t,u,w,x,y,z,A,B,C,D,E,F,G,H,I,J,K,L,M,N,P,Q,R,U,c4,V,W,X,Y,Z,a0,a1,a2,a3,a4,a5,a6,a7,a8,a9,b0,b1,b2,x4,zQ x4,v2,v3,v4,v5,zQ v5,v7,v8,v9,zQ n6],S8)) ()) ()) ()) ()) ()) ()) ()) ()):=by
 refine sP Try.f34 20 0 (v:=x4) ?_;refine sP Try.f34 20 1 (v:=x4) ?_;refine sG Try.f34 20 2 (j:=1) (fun v2 S1=>?_)
 refine sG Try.f34 20 3 (j:=1) (fun v3 S2=>?_)
 refine sG Try.f34 20 4 (j:=1) (fun v4 S3=>?_)
 refine sD Try.f34 20 5 (fun v5 S4=>?_)
 refine sP Try.f34 20 6 (v:=v5) ?_;refine sG Try.f34 20 7 (j:=6) (fun v7 S5=>?_)
 refine sG Try.f34 20 8 (j:=6) (fun v8 S6=>?_)
 refine sG Try.f34 20 9 (j:=6) (fun v9 S7=>?_)
 refine sD Try.f34 20 10 (fun n6 S8=>?_)
 refine sP Try.f34 20 11 (v:=n6) ?_
 kernel_rfl
theorem jo.VD :zW zi ⟨false,false,false⟩ (zU zi O) (reg Try.f34 21) (reg Try.f34 21).toList ([x0,x1,x2,x3,x4,x5,x6,x7,x8,x9,c6,c7,c8,c9,d0,d1,d2,d3,d4,d5,d6,d7,d8,d9,f0,f1,f2,f3,f4,f5,f6,f7,f8,f9,g0,g1,g2,g3,g4,g5,g6,g7,g8,g9,i0,i1,i2,i3,i4,i5,i6,i7,i8,i9,j0,j1,j2,j3,j4,j5,c5,j6,j7,j8,j9,k0,k1,k2,k3,k4,k5,k6,k7,k8,k9,l0,l1,l2,l3,l4,l5,l6,l7,l8,l9,m0,m1,m2,m3,m4,m5,m6,m7,m8,m9,n0,n1,n2,n3,n4,b,c,d,f,g,i,k,l,m,n,o,p,q,r,s,t,u,w,x,y,z,A,B,C,D,E,F,G,H,I,J,K,L,M,N,P,Q,R,U,c4,V,W,X,Y,Z,a0,a1,a2,a3,a4,a5,a6,a7,a8,a9,b0,b1,b2,b3,b4,b5,b6,b7,b8,b9,c0,c1,c2,c3]) S =
  ( some ([x0,x1,Value.bool false,x3,x4,x5,x6,x7,x8,x9,c6,c7,c8,c9,d0,d1,d2,d3,d4,d5,d6,d7,d8,d9,f0,f1,f2,f3,f4,f5,f6,f7,f8,f9,g0,g1,g2,g3,g4,g5,g6,g7,g8,g9,i0,i1,i2,i3,i4,i5,i6,i7,i8,i9,j0,j1,j2,j3,j4,j5,c5,j6,j7,j8,j9,k0,k1,k2,k3,k4,k5,k6,k7,k8,k9,l0,l1,l2,l3,l4,l5,l6,l7,l8,l9,m0,m1,m2,m3,m4,m5,m6,m7,m8,m9,n0,n1,n2,n3,n4,b,c,d,f,g,i,k,l,m,n,o,p,q,r,s,t,u,w,x,y,z,A,B,C,D,E,F,G,H,I,J,K,L,M,N,P,Q,R,U,c4,V,W,X,Y,Z,a0,a1,a2,a3,a4,a5,a6,a7,a8,a9,b0,b1,b2,b3,b4,b5,b6,b7,b8,b9,c0,c1,c2,c3],S)):=by kernel_rfl
theorem jo.rs :type_of% (zJ @jo.r0 (zJ @jo.r1 (zJ @jo.r2 (zJ @jo.r3 (zJ @jo.r4 (zJ @jo.r5 (zJ @jo.r6 (zJ @jo.r7 (zJ @jo.r8 (zJ @jo.r9 (zJ @jo.r10 (zJ @jo.r11 (zJ @jo.r12 (zJ @jo.r13 (zJ @jo.vP (zJ @jo.Zi (zJ @jo.r16 (zJ @jo.JX (zJ @jo.QO (zJ @jo.QS (zJ @jo.VB (@jo.VD)))))))))))))))))))))):=zJ @jo.r0 (zJ @jo.r1 (zJ @jo.r2 (zJ @jo.r3 (zJ @jo.r4 (zJ @jo.r5 (zJ @jo.r6 (zJ @jo.r7 (zJ @jo.r8 (zJ @jo.r9 (zJ @jo.r10 (zJ @jo.r11 (zJ @jo.r12 (zJ @jo.r13 (zJ @jo.vP (zJ @jo.Zi (zJ @jo.r16 (zJ @jo.JX (zJ @jo.QO (zJ @jo.QS (zJ @jo.VB (@jo.VD)))))))))))))))))))))
theorem jo.runs {x0:zu}{S S1:zS}{e:wC}{T:List zu}(h:zX zi O false jo.code ([x0,zh,zh,zh,zh,zh,zh,zh,zh,zh,zh,zh,zh,zh,zh,zh,zh,zh,zh,zh,zh,zh,zh,zh,zh,zh,zh,zh,zh,zh,zh,zh,zh,zh,zh,zh,zh,zh,zh,zh,zh,zh,zh,zh,zh,zh,zh,zh,zh,zh,zh,zh,zh,zh,zh,zh,zh,zh,zh,zh,zh,zh,zh,zh,zh,zh,zh,zh,zh,zh,zh,zh,zh,zh,zh,zh,zh,zh,zh,zh,zh,zh,zh,zh,zh,zh,zh,zh,zh,zh,zh,zh,zh,zh,zh,zh,zh,zh,zh,zh,zh,zh,zh,zh,zh,zh,zh,zh,zh,zh,zh,zh,zh,zh,zh,zh,zh,zh,zh,zh,zh,zh,zh,zh,zh,zh,zh,zh,zh,zh,zh,zh,zh,zh,zh,zh,zh,zh,zh,zh,zh,zh,zh,zh,zh,zh,zh,zh,zh,zh,zh,zh,zh,zh,zh,zh,zh,zh,zh,zh,zh,zh,zh,zh,zh,zh,zh,zh,zh]) zS.empty=some (e,T,S1)) (he:e=.normal∨e=.ret) (hca:[x0].all (jw 16)=true) (hcv:jw 16 (T.getD 2 zh)=true):zU zi O 34 [x0] S=some (T.getD 2 zh,S) :=
 kC rfl rfl Try.func34 (by decide) jo.body (by exact h) he (qI (a:=T.getD 2 zh) ((show jl zi T S1 Try.f34.results.toList=jl zi T S1 [(ResultVar.tmp 2)] from by kernel_rfl).trans (by simp only[jl])) (by kernel_rfl)) hca hcv
end
section
abbrev xK.id :FuncId:=53
noncomputable def xK.code :Code:=(.seq (.region 0 (reg Try.f53 0) false) (.seq (.region 1 (reg Try.f53 1) false) (.seq (.region 2 (reg Try.f53 2) false) Code.ret)))
theorem xK.body :Try.f53.body=some xK.code:=by kernel_rfl
variable (b r B u w x s y z A f g i k l m n o p:zu) (S:zS)
theorem xK.r0 :zW zi ⟨false,false,false⟩ (zU zi O) (reg Try.f53 0) (reg Try.f53 0).toList ([b,r,B,u,w,x,s,y,z,A,f,g,i,k,l,m,n,o,p]) S =
  ( some ([b,r,Value.bool false,u,w,x,s,y,z,A,f,g,i,k,l,m,n,o,p],S)):=by kernel_rfl
theorem xK.r1 :zW zi ⟨false,false,false⟩ (zU zi O) (reg Try.f53 1) (reg Try.f53 1).toList ([b,r,B,u,w,x,s,y,z,A,f,g,i,k,l,m,n,o,p]) S =
  (zT ((zU zi O) 51 [(zQ (zQ b))] S) (fun c d=>zT (jv c 0 d) (fun t C=>zT (jv (jh 0 c) 1 C) (fun q D=>zT (jv (jh 1 (jh 0 c)) 2 D) (fun E G=>zT (jv (jh 2 (jh 1 (jh 0 c))) 3 G) (fun F H=>some ([b,r,B,t,q,E,F,jh 3 (jh 2 (jh 1 (jh 0 c))),zQ b,zQ c,zQ t,zQ q,zQ E,zQ F,l,m,n,o,p],H)) ()) ()) ()) ()) ()):=by kernel_rfl
theorem xK.r2 :zW zi ⟨false,false,false⟩ (zU zi O) (reg Try.f53 2) (reg Try.f53 2).toList ([b,r,B,u,w,x,s,y,z,A,f,g,i,k,l,m,n,o,p]) S =
  (zT (jd zi BinOp.eql 3 (zQ b) (.int .i64 0) S) (fun c d=>zY (zQ c) false (ret s) d (fun t C=>zT (jH (zQ c) (Value.bool true) (zQ t) C) (fun q D=>some ([b,r,q,u,w,x,s,y,z,A,f,g,i,k,zQ b,c,zQ c,zQ t,zQ q],D)) ()) ()) ()):=by
 refine sP Try.f53 2 0 (v:=b) ?_;refine sD Try.f53 2 1 (fun c d=>?_)
 refine sP Try.f53 2 2 (v:=c) ?_;refine sG Try.f53 2 3 (j:=2) (fun t C=>?_)
 refine sD Try.f53 2 4 (fun q D=>?_)
 refine sP Try.f53 2 5 (v:=q) ?_
 kernel_rfl
theorem xK.rs :type_of% (zJ @xK.r0 (zJ @xK.r1 (@xK.r2))):=zJ @xK.r0 (zJ @xK.r1 (@xK.r2))
theorem xK.runs {b:zu}{S d:zS}{e:wC}{T:List zu}(h:zX zi O false xK.code ([b,zh,zh,zh,zh,zh,zh,zh,zh,zh,zh,zh,zh,zh,zh,zh,zh,zh,zh]) S=some (e,T,d)) (he:e=.normal∨e=.ret):zU zi O 53 [b] S=some (T.getD 2 zh,d) :=
 xX rfl rfl Try.func53 (by decide) xK.body (by exact h) he (qI (a:=T.getD 2 zh) ((show jl zi T d Try.f53.results.toList=jl zi T d [(ResultVar.tmp 2)] from by kernel_rfl).trans (by simp only[jl])) (by kernel_rfl))
end
section
abbrev vN.id :FuncId:=52
noncomputable def vN.code :Code:=(.seq (.region 0 (reg Try.f52 0) false) (.seq (.region 1 (reg Try.f52 1) false) Code.ret))
theorem vN.body :Try.f52.body=some vN.code:=by kernel_rfl
variable (b d k g i j:zu) (S:zS)
theorem vN.r0 :zW zi ⟨false,false,false⟩ (zU zi O) (reg Try.f52 0) (reg Try.f52 0).toList ([b,d,k,g,i,j]) S =
  (zT (qm (zQ b) S) (fun f c=>some ([b,f,Value.bool false,g,i,j],c)) ()):=by kernel_rfl
theorem vN.r1 :zW zi ⟨false,false,false⟩ (zU zi O) (reg Try.f52 1) (reg Try.f52 1).toList ([b,d,k,g,i,j]) S =
  (zT (zZ zi false 46 d S) (fun f c=>zT (wS zi 46 [] c) (fun l n=>zT ((zU zi O) 18 [(zQ f),(zQ l)] n) (fun m o=>some ([b,d,m,f,l,zQ m],o)) ()) ()) ()):=by kernel_rfl
theorem vN.rs :type_of% (zJ @vN.r0 (@vN.r1)):=zJ @vN.r0 (@vN.r1)
theorem vN.runs {b:zu}{S c:zS}{e:wC}{T:List zu}(h:zX zi O false vN.code ([b,zh,zh,zh,zh,zh]) zS.empty=some (e,T,c)) (he:e=.normal∨e=.ret) (hca:[b].all (jw 16)=true) (hcv:jw 16 (T.getD 2 zh)=true):zU zi O 52 [b] S=some (T.getD 2 zh,S) :=
 kC rfl rfl Try.func52 (by decide) vN.body (by exact h) he (qI (a:=T.getD 2 zh) ((show jl zi T c Try.f52.results.toList=jl zi T c [(ResultVar.tmp 2)] from by kernel_rfl).trans (by simp only[jl])) (by kernel_rfl)) hca hcv
end
section
abbrev jC.id :FuncId:=67
noncomputable def jC.code :Code:=(.seq (.region 0 (reg Try.f67 0) false) (.seq (.region 1 (reg Try.f67 1) false) (.seq (.seq (.region 2 (reg Try.f67 2) false) (.block 0 (.seq (.block 6 (.seq (.block 5 (.seq (.block 4 (.seq (.block 3 (.seq (.block 2 (.seq (.block 1 (.seq (.seq (.seq (.region 3 (reg Try.f67 3) false) (.cond (.tmp 11) (.exit 1) Code.skip)) (.seq (.seq (.region 4 (reg Try.f67 4) false) (.cond (.tmp 13) (.exit 2) Code.skip)) (.seq (.seq (.region 5 (reg Try.f67 5) false) (.cond (.tmp 15) (.exit 3) Code.skip)) (.seq (.seq (.region 6 (reg Try.f67 6) false) (.cond (.tmp 17) (.exit 4) Code.skip)) (.seq (.seq (.seq (.region 7 (reg Try.f67 7) false) (.cond (.tmp 19) Code.skip (.region 8 (reg Try.f67 8) false))) (.cond (.tmp 19) (.exit 5) Code.skip)) (.seq (.region 9 (reg Try.f67 9) false) (.cond (.tmp 22) (.exit 6) Code.skip))))))) (.exit 0))) (.seq (.region 10 (reg Try.f67 10) false) (.exit 0)))) (.seq (.region 11 (reg Try.f67 11) false) (.exit 0)))) (.seq (.region 12 (reg Try.f67 12) false) (.exit 0)))) (.region 13 (reg Try.f67 13) false))) (.region 14 (reg Try.f67 14) false))) (.seq (.region 15 (reg Try.f67 15) true) (.exit 0))))) (.seq (.region 16 (reg Try.f67 16) false) Code.ret))))
theorem jC.body :Try.f67.body=some jC.code:=by kernel_rfl
variable (U P V Q W X Y Z x8 x9 b d f g i j k l m N n o p q r s t u v w x y z A B C D E F G H I J K L M:zu) (S:zS)
theorem jC.r0 :zW zi ⟨false,false,false⟩ (zU zi O) (reg Try.f67 0) (reg Try.f67 0).toList ([U,P,V,Q,W,X,Y,Z,x8,x9,b,d,f,g,i,j,k,l,m,N,n,o,p,q,r,s,t,u,v,w,x,y,z,A,B,C,D,E,F,G,H,I,J,K,L,M]) S =
  (zT (qm (zQ U) S) (fun c R=>zT (wR zi 48 R) (fun v1 S2=>some ([U,c,v1,Q,W,X,Y,Z,x8,x9,b,d,f,g,i,j,k,l,m,N,n,o,p,q,r,s,t,u,v,w,x,y,z,A,B,C,D,E,F,G,H,I,J,K,L,M],S2)) ()) ()):=by kernel_rfl
theorem jC.r1 :zW zi ⟨false,false,false⟩ (zU zi O) (reg Try.f67 1) (reg Try.f67 1).toList ([U,P,V,Q,W,X,Y,Z,x8,x9,b,d,f,g,i,j,k,l,m,N,n,o,p,q,r,s,t,u,v,w,x,y,z,A,B,C,D,E,F,G,H,I,J,K,L,M]) S =
  (zT (jf zi 48 P 0 S) (fun c R=>zT (zZ zi false 3 c R) (fun v1 S2=>zT (jf zi 48 P 1 S2) (fun v2 S3=>zT (zZ zi false 3 v2 S3) (fun v3 S4=>zT (wS zi 48 [(0,(zQ v1)),(1,(zQ v3))] S4) (fun v4 S5=>zT (wR zi 48 S5) (fun v5 S6=>zT (jI zi 48 v5 (zQ v4) S6) (fun v6 S7=>some ([U,P,V,v5,c,v1,v2,v3,v4,x9,b,d,f,g,i,j,k,l,m,N,n,o,p,q,r,s,t,u,v,w,x,y,z,A,B,C,D,E,F,G,H,I,J,K,L,M],S7)) ()) ()) ()) ()) ()) ()) ()):=by kernel_rfl
theorem jC.r2 :zW zi ⟨false,false,false⟩ (zU zi O) (reg Try.f67 2) (reg Try.f67 2).toList ([U,P,V,Q,W,X,Y,Z,x8,x9,b,d,f,g,i,j,k,l,m,N,n,o,p,q,r,s,t,u,v,w,x,y,z,A,B,C,D,E,F,G,H,I,J,K,L,M]) S =
  (zT (jf zi 48 P 0 S) (fun c R=>zT (zZ zi false 3 c R) (fun v1 S2=>some ([U,P,V,Q,W,X,Y,Z,x8,c,v1,d,f,g,i,j,k,l,m,N,n,o,p,q,r,s,t,u,v,w,x,y,z,A,B,C,D,E,F,G,H,I,J,K,L,M],S2)) ()) ()):=by kernel_rfl
theorem jC.r3 :zW zi ⟨false,false,false⟩ (zU zi O) (reg Try.f67 3) (reg Try.f67 3).toList ([U,P,V,Q,W,X,Y,Z,x8,x9,b,d,f,g,i,j,k,l,m,N,n,o,p,q,r,s,t,u,v,w,x,y,z,A,B,C,D,E,F,G,H,I,J,K,L,M]) S =
  (zT (jd zi BinOp.eql 3 b (.int .i64 0) S) (fun c R=>some ([U,P,V,Q,W,X,Y,Z,x8,x9,b,c,zQ c,g,i,j,k,l,m,N,n,o,p,q,r,s,t,u,v,w,x,y,z,A,B,C,D,E,F,G,H,I,J,K,L,M],R)) ()):=by kernel_rfl
theorem jC.r4 :zW zi ⟨false,false,false⟩ (zU zi O) (reg Try.f67 4) (reg Try.f67 4).toList ([U,P,V,Q,W,X,Y,Z,x8,x9,b,d,f,g,i,j,k,l,m,N,n,o,p,q,r,s,t,u,v,w,x,y,z,A,B,C,D,E,F,G,H,I,J,K,L,M]) S =
  (zT (jd zi BinOp.eql 3 b (.int .i64 1) S) (fun c R=>some ([U,P,V,Q,W,X,Y,Z,x8,x9,b,d,f,c,zQ c,j,k,l,m,N,n,o,p,q,r,s,t,u,v,w,x,y,z,A,B,C,D,E,F,G,H,I,J,K,L,M],R)) ()):=by kernel_rfl
theorem jC.r5 :zW zi ⟨false,false,false⟩ (zU zi O) (reg Try.f67 5) (reg Try.f67 5).toList ([U,P,V,Q,W,X,Y,Z,x8,x9,b,d,f,g,i,j,k,l,m,N,n,o,p,q,r,s,t,u,v,w,x,y,z,A,B,C,D,E,F,G,H,I,J,K,L,M]) S =
  (zT (jd zi BinOp.eql 3 b (.int .i64 2) S) (fun c R=>some ([U,P,V,Q,W,X,Y,Z,x8,x9,b,d,f,g,i,c,zQ c,l,m,N,n,o,p,q,r,s,t,u,v,w,x,y,z,A,B,C,D,E,F,G,H,I,J,K,L,M],R)) ()):=by kernel_rfl
theorem jC.r6 :zW zi ⟨false,false,false⟩ (zU zi O) (reg Try.f67 6) (reg Try.f67 6).toList ([U,P,V,Q,W,X,Y,Z,x8,x9,b,d,f,g,i,j,k,l,m,N,n,o,p,q,r,s,t,u,v,w,x,y,z,A,B,C,D,E,F,G,H,I,J,K,L,M]) S =
  (zT (jd zi BinOp.eql 3 b (.int .i64 3) S) (fun c R=>some ([U,P,V,Q,W,X,Y,Z,x8,x9,b,d,f,g,i,j,k,c,zQ c,N,n,o,p,q,r,s,t,u,v,w,x,y,z,A,B,C,D,E,F,G,H,I,J,K,L,M],R)) ()):=by kernel_rfl
theorem jC.r7 :zW zi ⟨false,false,false⟩ (zU zi O) (reg Try.f67 7) (reg Try.f67 7).toList ([U,P,V,Q,W,X,Y,Z,x8,x9,b,d,f,g,i,j,k,l,m,N,n,o,p,q,r,s,t,u,v,w,x,y,z,A,B,C,D,E,F,G,H,I,J,K,L,M]) S =
  (zT (jd zi BinOp.eql 3 b (.int .i64 4) S) (fun c R=>some ([U,P,V,Q,W,X,Y,Z,x8,x9,b,d,f,g,i,j,k,l,m,c,zQ c,o,p,q,r,s,t,u,v,w,x,y,z,A,B,C,D,E,F,G,H,I,J,K,L,M],R)) ()):=by kernel_rfl
theorem jC.r8 :zW zi ⟨false,false,false⟩ (zU zi O) (reg Try.f67 8) (reg Try.f67 8).toList ([U,P,V,Q,W,X,Y,Z,x8,x9,b,d,f,g,i,j,k,l,m,N,n,o,p,q,r,s,t,u,v,w,x,y,z,A,B,C,D,E,F,G,H,I,J,K,L,M]) S =
  (zT (jd zi BinOp.eql 3 b (.int .i64 5) S) (fun c R=>some ([U,P,V,Q,W,X,Y,Z,x8,x9,b,d,f,g,i,j,k,l,m,c,n,zQ c,p,q,r,s,t,u,v,w,x,y,z,A,B,C,D,E,F,G,H,I,J,K,L,M],R)) ()):=by kernel_rfl
theorem jC.r9 :zW zi ⟨false,false,false⟩ (zU zi O) (reg Try.f67 9) (reg Try.f67 9).toList ([U,P,V,Q,W,X,Y,Z,x8,x9,b,d,f,g,i,j,k,l,m,N,n,o,p,q,r,s,t,u,v,w,x,y,z,A,B,C,D,E,F,G,H,I,J,K,L,M]) S =
  (zT (jd zi BinOp.eql 3 b (.int .i64 6) S) (fun c R=>some ([U,P,V,Q,W,X,Y,Z,x8,x9,b,d,f,g,i,j,k,l,m,N,n,o,c,zQ c,r,s,t,u,v,w,x,y,z,A,B,C,D,E,F,G,H,I,J,K,L,M],R)) ()):=by kernel_rfl
theorem jC.r10 :zW zi ⟨false,false,false⟩ (zU zi O) (reg Try.f67 10) (reg Try.f67 10).toList ([U,P,V,Q,W,X,Y,Z,x8,x9,b,d,f,g,i,j,k,l,m,N,n,o,p,q,r,s,t,u,v,w,x,y,z,A,B,C,D,E,F,G,H,I,J,K,L,M]) S =
  (zT (jf zi 48 P 6 S) (fun c R=>zT (zZ zi false 43 c R) (fun v1 S2=>zT (jf zi 48 Q 6 S2) (fun v2 S3=>zT (jI zi 43 v2 (zQ v1) S3) (fun v3 S4=>some ([U,P,V,Q,W,X,Y,Z,x8,x9,b,d,f,g,i,j,k,l,m,N,n,o,p,q,c,v1,v2,u,v,w,x,y,z,A,B,C,D,E,F,G,H,I,J,K,L,M],S4)) ()) ()) ()) ()):=by kernel_rfl
theorem jC.r11 :zW zi ⟨false,false,false⟩ (zU zi O) (reg Try.f67 11) (reg Try.f67 11).toList ([U,P,V,Q,W,X,Y,Z,x8,x9,b,d,f,g,i,j,k,l,m,N,n,o,p,q,r,s,t,u,v,w,x,y,z,A,B,C,D,E,F,G,H,I,J,K,L,M]) S =
  (zT (jf zi 48 P 7 S) (fun c R=>zT (zZ zi false 46 c R) (fun v1 S2=>zT (jf zi 48 Q 7 S2) (fun v2 S3=>zT (jI zi 46 v2 (zQ v1) S3) (fun v3 S4=>some ([U,P,V,Q,W,X,Y,Z,x8,x9,b,d,f,g,i,j,k,l,m,N,n,o,p,q,r,s,t,c,v1,v2,x,y,z,A,B,C,D,E,F,G,H,I,J,K,L,M],S4)) ()) ()) ()) ()):=by kernel_rfl
theorem jC.r12 :zW zi ⟨false,false,false⟩ (zU zi O) (reg Try.f67 12) (reg Try.f67 12).toList ([U,P,V,Q,W,X,Y,Z,x8,x9,b,d,f,g,i,j,k,l,m,N,n,o,p,q,r,s,t,u,v,w,x,y,z,A,B,C,D,E,F,G,H,I,J,K,L,M]) S =
  (zT (jf zi 48 P 4 S) (fun c R=>zT (zZ zi false 3 c R) (fun v1 S2=>zT (jf zi 48 Q 4 S2) (fun v2 S3=>zT (jI zi 3 v2 (zQ v1) S3) (fun v3 S4=>some ([U,P,V,Q,W,X,Y,Z,x8,x9,b,d,f,g,i,j,k,l,m,N,n,o,p,q,r,s,t,u,v,w,c,v1,v2,A,B,C,D,E,F,G,H,I,J,K,L,M],S4)) ()) ()) ()) ()):=by kernel_rfl
theorem jC.r13 :zW zi ⟨false,false,false⟩ (zU zi O) (reg Try.f67 13) (reg Try.f67 13).toList ([U,P,V,Q,W,X,Y,Z,x8,x9,b,d,f,g,i,j,k,l,m,N,n,o,p,q,r,s,t,u,v,w,x,y,z,A,B,C,D,E,F,G,H,I,J,K,L,M]) S =
  (zT (jf zi 48 P 5 S) (fun c R=>zT (zZ zi false 3 c R) (fun v1 S2=>zT (jf zi 48 Q 5 S2) (fun v2 S3=>zT (jI zi 3 v2 (zQ v1) S3) (fun v3 S4=>some ([U,P,V,Q,W,X,Y,Z,x8,x9,b,d,f,g,i,j,k,l,m,N,n,o,p,q,r,s,t,u,v,w,x,y,z,c,v1,v2,D,E,F,G,H,I,J,K,L,M],S4)) ()) ()) ()) ()):=by kernel_rfl
theorem jC.vP :zW zi ⟨false,false,false⟩ (zU zi O) (reg Try.f67 14) (reg Try.f67 14).toList ([U,P,V,Q,W,X,Y,Z,x8,x9,b,d,f,g,i,j,k,l,m,N,n,o,p,q,r,s,t,u,v,w,x,y,z,A,B,C,D,E,F,G,H,I,J,K,L,M]) S =
  (zT (jf zi 48 P 3 S) (fun c R=>zT (zZ zi false 3 c R) (fun v1 S2=>zT (jf zi 48 Q 3 S2) (fun v2 S3=>zT (jI zi 3 v2 (zQ v1) S3) (fun v3 S4=>some ([U,P,V,Q,W,X,Y,Z,x8,x9,b,d,f,g,i,j,k,l,m,N,n,o,p,q,r,s,t,u,v,w,x,y,z,A,B,C,c,v1,v2,G,H,I,J,K,L,M],S4)) ()) ()) ()) ()):=by kernel_rfl
theorem jC.MG :vg zi (reg Try.f67 15)=true:=by kernel_rfl
theorem jC.Nq :fixed zi (reg Try.f67 15)=false:=by kernel_rfl
theorem jC.k15 :checked zi (reg Try.f67 15)=[2,3]:=by kernel_rfl
theorem jC.g15 :again zi (reg Try.f67 15)=[(3,5)]:=by kernel_rfl
theorem jC.Zi :zX zi O false (.region 15 (reg Try.f67 15) true) ([U,P,V,Q,W,X,Y,Z,x8,x9,b,d,f,g,i,j,k,l,m,N,n,o,p,q,r,s,t,u,v,w,x,y,z,A,B,C,D,E,F,G,H,I,J,K,L,M]) S =
  yY (zT (jf zi 48 P 2 S) (fun c R=>zT (zZ zi false 3 c R) (fun v1 S2=>zT (jf zi 48 P 4 S2) (fun v2 S3=>jK v2 ( zT (zZ zi false 3 v2 S3) (fun v3 S4=>jK v3 ( zT (jf zi 48 Q 2 S4) (fun v4 S5=>zT (jI zi 3 v4 (zQ v1) S5) (fun v5 S6=>zT (jf zi 48 Q 4 S6) (fun v6 S7=>zT (jI zi 3 v6 (zQ v3) S7) (fun v7 S8=>Jy (y8 v2 S3 S6&&(true)) (some ([U,P,V,Q,W,X,Y,Z,x8,x9,b,d,f,g,i,j,k,l,m,N,n,o,p,q,r,s,t,u,v,w,x,y,z,A,B,C,D,E,F,c,v1,v2,v3,v4,v6,M],S8)) ()) ()) ()) ()) ()) ()) ()) ()) ()) ()) ()):=by
 rw[Jh jC.MG jC.Nq jC.k15 jC.g15];refine congrArg yY ?_;refine uD Try.f67 15 0 (pe:=zh) (fun c R=>?_)
 refine uD Try.f67 15 1 (pe:=c) (fun v1 S2=>?_)
 refine yH Try.f67 15 2 (pe:=zh) (fun v2 S3=>?_)
 refine yH Try.f67 15 3 (pe:=v2) (fun v3 S4=>?_)
 refine uD Try.f67 15 4 (pe:=zh) (fun v4 S5=>?_)
 refine uD Try.f67 15 5 (pe:=zh) (fun v5 S6=>?_)
 refine uD Try.f67 15 6 (pe:=zh) (fun v6 S7=>?_)
 refine uD Try.f67 15 7 (pe:=zh) (fun v7 S8=>?_)
 kernel_rfl
theorem jC.r16 :zW zi ⟨false,false,false⟩ (zU zi O) (reg Try.f67 16) (reg Try.f67 16).toList ([U,P,V,Q,W,X,Y,Z,x8,x9,b,d,f,g,i,j,k,l,m,N,n,o,p,q,r,s,t,u,v,w,x,y,z,A,B,C,D,E,F,G,H,I,J,K,L,M]) S =
  (zT (zZ zi false 48 Q S) (fun c R=>zT (jI zi 48 V (zQ c) R) (fun v1 S2=>some ([U,P,V,Q,W,X,Y,Z,x8,x9,b,d,f,g,i,j,k,l,m,N,n,o,p,q,r,s,t,u,v,w,x,y,z,A,B,C,D,E,F,G,H,I,J,K,L,c],S2)) ()) ()):=by kernel_rfl
theorem jC.rs :type_of% (zJ @jC.r0 (zJ @jC.r1 (zJ @jC.r2 (zJ @jC.r3 (zJ @jC.r4 (zJ @jC.r5 (zJ @jC.r6 (zJ @jC.r7 (zJ @jC.r8 (zJ @jC.r9 (zJ @jC.r10 (zJ @jC.r11 (zJ @jC.r12 (zJ @jC.r13 (zJ @jC.vP (zJ @jC.Zi (@jC.r16))))))))))))))))):=zJ @jC.r0 (zJ @jC.r1 (zJ @jC.r2 (zJ @jC.r3 (zJ @jC.r4 (zJ @jC.r5 (zJ @jC.r6 (zJ @jC.r7 (zJ @jC.r8 (zJ @jC.r9 (zJ @jC.r10 (zJ @jC.r11 (zJ @jC.r12 (zJ @jC.r13 (zJ @jC.vP (zJ @jC.Zi (@jC.r16))))))))))))))))
theorem jC.runs {U:zu}{S R:zS}{e:wC}{T:List zu}(h:zX zi O false jC.code ([U,zh,zh,zh,zh,zh,zh,zh,zh,zh,zh,zh,zh,zh,zh,zh,zh,zh,zh,zh,zh,zh,zh,zh,zh,zh,zh,zh,zh,zh,zh,zh,zh,zh,zh,zh,zh,zh,zh,zh,zh,zh,zh,zh,zh,zh]) zS.empty=some (e,T,R)) (he:e=.normal∨e=.ret) {w0:zu}(c0:zZ zi false 48 (T.getD 2 zh) R=some (w0,R)) (hca:[U].all (jw 16)=true) (hcv:jw 16 (w0)=true):zU zi O 67 [U] S=some (w0,S) :=
 kC rfl rfl Try.func67 (by decide) jC.body (by exact h) he (qI (a:=w0) ((show jl zi T R Try.f67.results.toList=jl zi T R [(ResultVar.cell 2 48)] from by kernel_rfl).trans (by simp only[jl,c0])) (by kernel_rfl)) hca hcv
end
section
abbrev qp.id :FuncId:=66
noncomputable def qp.code :Code:=(.seq (.region 0 (reg Try.f66 0) false) (.seq (.region 1 (reg Try.f66 1) false) (.seq (.region 2 (reg Try.f66 2) false) Code.ret)))
theorem qp.body :Try.f66.body=some qp.code:=by kernel_rfl
variable (o p l m x4 g x6 x7 x8 x9 z A B C D E F G H I J K L M N P Q R U V W X Y Z a0 a1 a2 a3 a4 a5 a6 a7 a8 a9 b0 b1 b2 b3 b4 b5 b6 b7 b8 b9 c0 c1 c2 c3 c4 c5 c6:zu) (S:zS)
theorem qp.r0 :zW zi ⟨false,false,false⟩ (zU zi O) (reg Try.f66 0) (reg Try.f66 0).toList ([o,p,l,m,x4,g,x6,x7,x8,x9,z,A,B,C,D,E,F,G,H,I,J,K,L,M,N,P,Q,R,U,V,W,X,Y,Z,a0,a1,a2,a3,a4,a5,a6,a7,a8,a9,b0,b1,b2,b3,b4,b5,b6,b7,b8,b9,c0,c1,c2,c3,c4,c5,c6]) S =
  (zT (qm (zQ o) S) (fun v0 q=>zT (qm (zQ p) q) (fun v1 S2=>some ([o,p,v0,v1,Value.bool false,g,x6,x7,x8,x9,z,A,B,C,D,E,F,G,H,I,J,K,L,M,N,P,Q,R,U,V,W,X,Y,Z,a0,a1,a2,a3,a4,a5,a6,a7,a8,a9,b0,b1,b2,b3,b4,b5,b6,b7,b8,b9,c0,c1,c2,c3,c4,c5,c6],S2)) ()) ()):=by kernel_rfl
theorem qp.r1 :zW zi ⟨false,false,false⟩ (zU zi O) (reg Try.f66 1) (reg Try.f66 1).toList ([o,p,l,m,x4,g,x6,x7,x8,x9,z,A,B,C,D,E,F,G,H,I,J,K,L,M,N,P,Q,R,U,V,W,X,Y,Z,a0,a1,a2,a3,a4,a5,a6,a7,a8,a9,b0,b1,b2,b3,b4,b5,b6,b7,b8,b9,c0,c1,c2,c3,c4,c5,c6]) S =
  (zT (jf zi 48 l 0 S) (fun v0 q=>zT (zZ zi false 3 v0 q) (fun v1 S2=>zT (jf zi 48 m 0 S2) (fun v2 S3=>zT (zZ zi false 3 v2 S3) (fun v3 S4=>zT (jd zi BinOp.eql 3 v1 v3 S4) (fun i S5=>zY (zQ i) true (jf zi 48 l 1) S5 (fun v6 S6=>zY (zQ i) true (zZ zi false 3 v6) S6 (fun k S7=>zY (zQ i) true (jf zi 48 m 1) S7 (fun v8 S8=>zY (zQ i) true (zZ zi false 3 v8) S8 (fun v9 S9=>zY (zQ i) true (jd zi BinOp.eql 3 k v9) S9 (fun r c7=>zT (jH (zQ i) r (Value.bool false) c7) (fun b c8=>zY (zQ b) true (jf zi 48 l 2) c8 (fun s c9=>zY (zQ b) true (zZ zi false 3 s) c9 (fun c d0=>zY (zQ b) true (jf zi 48 m 2) d0 (fun f2 d1=>zY (zQ b) true (zZ zi false 3 f2) d1 (fun t d2=>zY (zQ b) true (jd zi BinOp.eql 3 c t) d2 (fun u d3=>zT (jH (zQ b) u (Value.bool false) d3) (fun d d4=>zY (zQ d) true (jf zi 48 l 3) d4 (fun w d5=>zY (zQ d) true (zZ zi false 3 w) d5 (fun f d6=>zY (zQ d) true (jf zi 48 m 3) d6 (fun f3 d7=>zY (zQ d) true (zZ zi false 3 f3) d7 (fun x d8=>zY (zQ d) true (jd zi BinOp.eql 3 f x) d8 (fun y d9=>zT (jH (zQ d) y (Value.bool false) d9) (fun n f0=>some ([o,p,l,m,x4,n,v0,v1,v2,v3,i,zQ i,v6,k,v8,v9,r,b,zQ b,s,c,f2,t,u,d,zQ d,w,f,f3,x,y,zQ n,Y,Z,a0,a1,a2,a3,a4,a5,a6,a7,a8,a9,b0,b1,b2,b3,b4,b5,b6,b7,b8,b9,c0,c1,c2,c3,c4,c5,c6],f0)) ()) ()) ()) ()) ()) ()) ()) ()) ()) ()) ()) ()) ()) ()) ()) ()) ()) ()) ()) ()) ()) ()) ()):=by
 refine sD Try.f66 1 0 (fun v0 q=>?_)
 refine sD Try.f66 1 1 (fun v1 S2=>?_)
 refine sD Try.f66 1 2 (fun v2 S3=>?_)
 refine sD Try.f66 1 3 (fun v3 S4=>?_)
 refine sD Try.f66 1 4 (fun i S5=>?_)
 refine sP Try.f66 1 5 (v:=i) ?_;refine sG Try.f66 1 6 (j:=5) (fun v6 S6=>?_)
 refine sG Try.f66 1 7 (j:=5) (fun k S7=>?_)
 refine sG Try.f66 1 8 (j:=5) (fun v8 S8=>?_)
 refine sG Try.f66 1 9 (j:=5) (fun v9 S9=>?_)
 refine sG Try.f66 1 10 (j:=5) (fun r c7=>?_)
 refine sD Try.f66 1 11 (fun b c8=>?_)
 refine sP Try.f66 1 12 (v:=b) ?_;refine sG Try.f66 1 13 (j:=12) (fun s c9=>?_)
 refine sG Try.f66 1 14 (j:=12) (fun c d0=>?_)
 refine sG Try.f66 1 15 (j:=12) (fun f2 d1=>?_)
 refine sG Try.f66 1 16 (j:=12) (fun t d2=>?_)
 refine sG Try.f66 1 17 (j:=12) (fun u d3=>?_)
 refine sD Try.f66 1 18 (fun d d4=>?_)
 refine sP Try.f66 1 19 (v:=d) ?_;refine sG Try.f66 1 20 (j:=19) (fun w d5=>?_)
 refine sG Try.f66 1 21 (j:=19) (fun f d6=>?_)
 refine sG Try.f66 1 22 (j:=19) (fun f3 d7=>?_)
 refine sG Try.f66 1 23 (j:=19) (fun x d8=>?_)
 refine sG Try.f66 1 24 (j:=19) (fun y d9=>?_)
 refine sD Try.f66 1 25 (fun n f0=>?_)
 refine sP Try.f66 1 26 (v:=n) ?_
 kernel_rfl
theorem qp.r2 :zW zi ⟨false,false,false⟩ (zU zi O) (reg Try.f66 2) (reg Try.f66 2).toList ([o,p,l,m,x4,g,x6,x7,x8,x9,z,A,B,C,D,E,F,G,H,I,J,K,L,M,N,P,Q,R,U,V,W,X,Y,Z,a0,a1,a2,a3,a4,a5,a6,a7,a8,a9,b0,b1,b2,b3,b4,b5,b6,b7,b8,b9,c0,c1,c2,c3,c4,c5,c6]) S =
  (zY (zQ g) true (jf zi 48 l 4) S (fun v2 q=>zY (zQ g) true (zZ zi false 3 v2) q (fun v3 S2=>zY (zQ g) true (jf zi 48 m 4) S2 (fun i S3=>zY (zQ g) true (zZ zi false 3 i) S3 (fun v5 S4=>zY (zQ g) true (jd zi BinOp.eql 3 v3 v5) S4 (fun v6 S5=>zT (jH (zQ g) v6 (Value.bool false) S5) (fun k S6=>zY (zQ k) true (jf zi 48 l 5) S6 (fun v9 S7=>zY (zQ k) true (zZ zi false 3 v9) S7 (fun r S8=>zY (zQ k) true (jf zi 48 m 5) S8 (fun b S9=>zY (zQ k) true (zZ zi false 3 b) S9 (fun f4 c7=>zY (zQ k) true (jd zi BinOp.eql 3 r f4) c7 (fun s c8=>zT (jH (zQ k) s (Value.bool false) c8) (fun c c9=>zY (zQ c) true (jf zi 48 l 6) c9 (fun t d0=>zY (zQ c) true (zZ zi false 43 t) d0 (fun u d1=>zY (zQ c) true (jf zi 48 m 6) d1 (fun d d2=>zY (zQ c) true (zZ zi false 43 d) d2 (fun f5 d3=>zY (zQ c) true (jd zi BinOp.eql 43 u f5) d3 (fun w d4=>zT (jH (zQ c) w (Value.bool false) d4) (fun f d5=>zY (zQ f) true (jf zi 48 l 7) d5 (fun x d6=>zY (zQ f) true (zZ zi false 46 x) d6 (fun y d7=>zY (zQ f) true (jf zi 48 m 7) d7 (fun n d8=>zY (zQ f) true (zZ zi false 46 n) d8 (fun f6 d9=>zY (zQ f) true ((zU zi O) 73 [(zQ y),(zQ f6)]) d9 (fun f7 f0=>zT (jH (zQ f) f7 (Value.bool false) f0) (fun f1 f8=>some ([o,p,l,m,f1,zQ g,x6,x7,x8,x9,z,A,B,C,D,E,F,G,H,I,J,K,L,M,N,P,Q,R,U,V,W,X,g,zQ g,v2,v3,i,v5,v6,k,zQ k,v9,r,b,f4,s,c,zQ c,t,u,d,f5,w,f,zQ f,x,y,n,f6,f7,zQ f1],f8)) ()) ()) ()) ()) ()) ()) ()) ()) ()) ()) ()) ()) ()) ()) ()) ()) ()) ()) ()) ()) ()) ()) ()) ()):=by
 refine sP Try.f66 2 0 (v:=g) ?_;refine sP Try.f66 2 1 (v:=g) ?_;refine sG Try.f66 2 2 (j:=1) (fun v2 q=>?_)
 refine sG Try.f66 2 3 (j:=1) (fun v3 S2=>?_)
 refine sG Try.f66 2 4 (j:=1) (fun i S3=>?_)
 refine sG Try.f66 2 5 (j:=1) (fun v5 S4=>?_)
 refine sG Try.f66 2 6 (j:=1) (fun v6 S5=>?_)
 refine sD Try.f66 2 7 (fun k S6=>?_)
 refine sP Try.f66 2 8 (v:=k) ?_;refine sG Try.f66 2 9 (j:=8) (fun v9 S7=>?_)
 refine sG Try.f66 2 10 (j:=8) (fun r S8=>?_)
 refine sG Try.f66 2 11 (j:=8) (fun b S9=>?_)
 refine sG Try.f66 2 12 (j:=8) (fun f4 c7=>?_)
 refine sG Try.f66 2 13 (j:=8) (fun s c8=>?_)
 refine sD Try.f66 2 14 (fun c c9=>?_)
 refine sP Try.f66 2 15 (v:=c) ?_;refine sG Try.f66 2 16 (j:=15) (fun t d0=>?_)
 refine sG Try.f66 2 17 (j:=15) (fun u d1=>?_)
 refine sG Try.f66 2 18 (j:=15) (fun d d2=>?_)
 refine sG Try.f66 2 19 (j:=15) (fun f5 d3=>?_)
 refine sG Try.f66 2 20 (j:=15) (fun w d4=>?_)
 refine sD Try.f66 2 21 (fun f d5=>?_)
 refine sP Try.f66 2 22 (v:=f) ?_;refine sG Try.f66 2 23 (j:=22) (fun x d6=>?_)
 refine sG Try.f66 2 24 (j:=22) (fun y d7=>?_)
 refine sG Try.f66 2 25 (j:=22) (fun n d8=>?_)
 refine sG Try.f66 2 26 (j:=22) (fun f6 d9=>?_)
 refine sG Try.f66 2 27 (j:=22) (fun f7 f0=>?_)
 refine sD Try.f66 2 28 (fun f1 f8=>?_)
 refine sP Try.f66 2 29 (v:=f1) ?_
 kernel_rfl
theorem qp.rs :type_of% (zJ @qp.r0 (zJ @qp.r1 (@qp.r2))):=zJ @qp.r0 (zJ @qp.r1 (@qp.r2))
theorem qp.runs {o p:zu}{S q:zS}{e:wC}{T:List zu}(h:zX zi O false qp.code ([o,p,zh,zh,zh,zh,zh,zh,zh,zh,zh,zh,zh,zh,zh,zh,zh,zh,zh,zh,zh,zh,zh,zh,zh,zh,zh,zh,zh,zh,zh,zh,zh,zh,zh,zh,zh,zh,zh,zh,zh,zh,zh,zh,zh,zh,zh,zh,zh,zh,zh,zh,zh,zh,zh,zh,zh,zh,zh,zh,zh]) zS.empty=some (e,T,q)) (he:e=.normal∨e=.ret) (hca:[o,p].all (jw 16)=true) (hcv:jw 16 (T.getD 4 zh)=true):zU zi O 66 [o,p] S=some (T.getD 4 zh,S) :=
 kC rfl rfl Try.func66 (by decide) qp.body (by exact h) he (qI (a:=T.getD 4 zh) ((show jl zi T q Try.f66.results.toList=jl zi T q [(ResultVar.tmp 4)] from by kernel_rfl).trans (by simp only[jl])) (by kernel_rfl)) hca hcv
end
section
abbrev yT.id :FuncId:=69
noncomputable def yT.code :Code:=(.seq (.region 0 (reg Try.f69 0) false) (.seq (.region 1 (reg Try.f69 1) false) (.seq (.region 2 (reg Try.f69 2) false) Code.ret)))
theorem yT.body :Try.f69.body=some yT.code:=by kernel_rfl
variable (c f x2 L M N P Q R U k l m n o p q r s t u w x y z A B C D:zu) (S:zS)
theorem yT.r0 :zW zi ⟨false,false,false⟩ (zU zi O) (reg Try.f69 0) (reg Try.f69 0).toList ([c,f,x2,L,M,N,P,Q,R,U,k,l,m,n,o,p,q,r,s,t,u,w,x,y,z,A,B,C,D]) S =
  (zT (qm (zQ c) S) (fun i d=>some ([c,i,Value.bool false,L,M,N,P,Q,R,U,k,l,m,n,o,p,q,r,s,t,u,w,x,y,z,A,B,C,D],d)) ()):=by kernel_rfl
theorem yT.r1 :zW zi ⟨false,false,false⟩ (zU zi O) (reg Try.f69 1) (reg Try.f69 1).toList ([c,f,x2,L,M,N,P,Q,R,U,k,l,m,n,o,p,q,r,s,t,u,w,x,y,z,A,B,C,D]) S =
  (zT (jf zi 48 f 0 S) (fun i d=>zT (zZ zi false 3 i d) (fun G V=>zT (jd zi BinOp.eql 3 G (.int .i64 4) V) (fun b W=>zY (zQ b) false (jf zi 48 f 0) W (fun H X=>zY (zQ b) false (zZ zi false 3 H) X (fun I Y=>zY (zQ b) false (jd zi BinOp.eql 3 I (.int .i64 5)) Y (fun J Z=>zT (jH (zQ b) (Value.bool true) J Z) (fun E S7=>some ([c,f,x2,E,i,G,b,zQ b,H,I,J,zQ E,m,n,o,p,q,r,s,t,u,w,x,y,z,A,B,C,D],S7)) ()) ()) ()) ()) ()) ()) ()):=by
 refine sD Try.f69 1 0 (fun i d=>?_)
 refine sD Try.f69 1 1 (fun G V=>?_)
 refine sD Try.f69 1 2 (fun b W=>?_)
 refine sP Try.f69 1 3 (v:=b) ?_;refine sG Try.f69 1 4 (j:=3) (fun H X=>?_)
 refine sG Try.f69 1 5 (j:=3) (fun I Y=>?_)
 refine sG Try.f69 1 6 (j:=3) (fun J Z=>?_)
 refine sD Try.f69 1 7 (fun E S7=>?_)
 refine sP Try.f69 1 8 (v:=E) ?_
 kernel_rfl
theorem yT.r2 :zW zi ⟨false,false,false⟩ (zU zi O) (reg Try.f69 2) (reg Try.f69 2).toList ([c,f,x2,L,M,N,P,Q,R,U,k,l,m,n,o,p,q,r,s,t,u,w,x,y,z,A,B,C,D]) S =
  (zT (jf zi 48 f 4 S) (fun i d=>zT (zZ zi false 3 i d) (fun G V=>zT (jd zi BinOp.eql 3 G (.int .i64 0) V) (fun b W=>zY (zQ b) false (jf zi 48 f 4) W (fun H X=>zY (zQ b) false (zZ zi false 3 H) X (fun I Y=>zY (zQ b) false ((zU zi O) 74 [(zQ I)]) Y (fun J Z=>zY (zQ b) false (jd zi BinOp.gtr 3 J (.int .i64 0)) Z (fun E S7=>zT (jH (zQ b) (Value.bool true) E S7) (fun F S8=>zY (zQ F) false (ret L) S8 (fun a0 S9=>zY (zQ F) false (ret a0) S9 (fun g a5=>zY (zQ g) true (jf zi 48 f 4) a5 (fun a1 a6=>zY (zQ g) true (zZ zi false 3 a1) a6 (fun a2 a7=>zY (zQ g) true (jd zi BinOp.eql 3 a2 (.int .i64 (-1))) a7 (fun a3 a8=>zY (zQ F) false (jH (zQ g) a3 (Value.bool false)) a8 (fun a4 a9=>zT (jH (zQ F) (Value.bool true) a4 a9) (fun K b0=>some ([c,f,K,zQ L,M,N,P,Q,R,U,k,l,i,G,b,zQ b,H,I,J,E,F,zQ F,a0,zQ g,a1,a2,a3,a4,zQ K],b0)) ()) ()) ()) ()) ()) ()) ()) ()) ()) ()) ()) ()) ()) ()) ()):=by
 refine sD Try.f69 2 0 (fun i d=>?_)
 refine sD Try.f69 2 1 (fun G V=>?_)
 refine sD Try.f69 2 2 (fun b W=>?_)
 refine sP Try.f69 2 3 (v:=b) ?_;refine sG Try.f69 2 4 (j:=3) (fun H X=>?_)
 refine sG Try.f69 2 5 (j:=3) (fun I Y=>?_)
 refine sG Try.f69 2 6 (j:=3) (fun J Z=>?_)
 refine sG Try.f69 2 7 (j:=3) (fun E S7=>?_)
 refine sD Try.f69 2 8 (fun F S8=>?_)
 refine sP Try.f69 2 9 (v:=F) ?_;refine sG Try.f69 2 10 (j:=9) (fun a0 S9=>?_)
 refine sG Try.f69 2 11 (j:=9) (fun g a5=>?_)
 refine sG Try.f69 2 12 (j:=11) (fun a1 a6=>?_)
 refine sG Try.f69 2 13 (j:=11) (fun a2 a7=>?_)
 refine sG Try.f69 2 14 (j:=11) (fun a3 a8=>?_)
 refine sG Try.f69 2 15 (j:=9) (fun a4 a9=>?_)
 refine sD Try.f69 2 16 (fun K b0=>?_)
 refine sP Try.f69 2 17 (v:=K) ?_
 kernel_rfl
theorem yT.rs :type_of% (zJ @yT.r0 (zJ @yT.r1 (@yT.r2))):=zJ @yT.r0 (zJ @yT.r1 (@yT.r2))
theorem yT.runs {c:zu}{S d:zS}{e:wC}{T:List zu}(h:zX zi O false yT.code ([c,zh,zh,zh,zh,zh,zh,zh,zh,zh,zh,zh,zh,zh,zh,zh,zh,zh,zh,zh,zh,zh,zh,zh,zh,zh,zh,zh,zh]) zS.empty=some (e,T,d)) (he:e=.normal∨e=.ret) (hca:[c].all (jw 16)=true) (hcv:jw 16 (T.getD 2 zh)=true):zU zi O 69 [c] S=some (T.getD 2 zh,S) :=
 kC rfl rfl Try.func69 (by decide) yT.body (by exact h) he (qI (a:=T.getD 2 zh) ((show jl zi T d Try.f69.results.toList=jl zi T d [(ResultVar.tmp 2)] from by kernel_rfl).trans (by simp only[jl])) (by kernel_rfl)) hca hcv
end
section
abbrev ZL.id :FuncId:=44
noncomputable def ZL.code :Code:=(.seq (.region 0 (reg Try.f44 0) false) (.seq (.region 1 (reg Try.f44 1) false) Code.ret))
theorem ZL.body :Try.f44.body=some ZL.code:=by kernel_rfl
variable (b d k f g i j:zu) (S:zS)
theorem ZL.r0 :zW zi ⟨false,false,false⟩ (zU zi O) (reg Try.f44 0) (reg Try.f44 0).toList ([b,d,k,f,g,i,j]) S =
  ( some ([b,d,Value.int IntKind.u64 0,f,g,i,j],S)):=by kernel_rfl
theorem ZL.r1 :zW zi ⟨false,false,false⟩ (zU zi O) (reg Try.f44 1) (reg Try.f44 1).toList ([b,d,k,f,g,i,j]) S =
  (zT (qB zi false false 3 73 (zQ b) S) (fun l c=>zT (jd zi BinOp.add 73 l (Value.int IntKind.u64 1) c) (fun m o=>zT (jd zi BinOp.mul 73 m (Value.int IntKind.u64 11400714819323198485) o) (fun n p=>some ([b,d,n,zQ b,l,m,zQ n],p)) ()) ()) ()):=by kernel_rfl
theorem ZL.rs :type_of% (zJ @ZL.r0 (@ZL.r1)):=zJ @ZL.r0 (@ZL.r1)
theorem ZL.runs {b:zu}{S c:zS}{e:wC}{T:List zu}(h:zX zi O false ZL.code ([b,zh,zh,zh,zh,zh,zh]) S=some (e,T,c)) (he:e=.normal∨e=.ret):zU zi O 44 [b] S=some (T.getD 2 zh,c) :=
 xX rfl rfl Try.func44 (by decide) ZL.body (by exact h) he (qI (a:=T.getD 2 zh) ((show jl zi T c Try.f44.results.toList=jl zi T c [(ResultVar.tmp 2)] from by kernel_rfl).trans (by simp only[jl])) (by kernel_rfl))
end
section
abbrev jY.id :FuncId:=59
noncomputable def jY.jg :Code:=(.seq (.region 6 (reg Try.f59 6) false) (.seq (.cond (.tmp 21) Code.skip (.exit 2)) (.seq (.block 3 (.seq (.region 7 (reg Try.f59 7) false) (.region 8 (reg Try.f59 8) false))) (.region 9 (reg Try.f59 9) false))))
noncomputable def jY.qE :Code:=(.seq (.region 3 (reg Try.f59 3) false) (.seq (.cond (.tmp 15) Code.skip (.exit 0)) (.seq (.block 1 (.seq (.region 4 (reg Try.f59 4) false) (.seq (.region 5 (reg Try.f59 5) false) (.block 2 (.loop jY.jg))))) (.region 10 (reg Try.f59 10) false))))
noncomputable def jY.code :Code:=(.seq (.region 0 (reg Try.f59 0) false) (.seq (.region 1 (reg Try.f59 1) false) (.seq (.seq (.region 2 (reg Try.f59 2) false) (.block 0 (.loop jY.qE))) (.seq (.region 11 (reg Try.f59 11) false) Code.ret))))
theorem jY.body :Try.f59.body=some jY.code:=by kernel_rfl
theorem jY.eta {T:List zu}(h:T.length=35):T=[T.getD 0 zh,T.getD 1 zh,T.getD 2 zh,T.getD 3 zh,T.getD 4 zh,T.getD 5 zh,T.getD 6 zh,T.getD 7 zh,T.getD 8 zh,T.getD 9 zh,T.getD 10 zh,T.getD 11 zh,T.getD 12 zh,T.getD 13 zh,T.getD 14 zh,T.getD 15 zh,T.getD 16 zh,T.getD 17 zh,T.getD 18 zh,T.getD 19 zh,T.getD 20 zh,T.getD 21 zh,T.getD 22 zh,T.getD 23 zh,T.getD 24 zh,T.getD 25 zh,T.getD 26 zh,T.getD 27 zh,T.getD 28 zh,T.getD 29 zh,T.getD 30 zh,T.getD 31 zh,T.getD 32 zh,T.getD 33 zh,T.getD 34 zh]:=(ZE T 35 h).trans (by kernel_rfl)
variable (C D I J M E K G L H j k d f b l m n g i c o p q r s t u v w x y z A B:zu) (S:zS)
theorem jY.r0 :zW zi ⟨false,false,false⟩ (zU zi O) (reg Try.f59 0) (reg Try.f59 0).toList ([C,D,I,J,M,E,K,G,L,H,j,k,d,f,b,l,m,n,g,i,c,o,p,q,r,s,t,u,v,w,x,y,z,A,B]) S =
  ( some ([C,D,I,J,Value.int IntKind.u64 0,E,K,G,L,H,j,k,d,f,b,l,m,n,g,i,c,o,p,q,r,s,t,u,v,w,x,y,z,A,B],S)):=by kernel_rfl
theorem jY.r1 :zW zi ⟨false,false,false⟩ (zU zi O) (reg Try.f59 1) (reg Try.f59 1).toList ([C,D,I,J,M,E,K,G,L,H,j,k,d,f,b,l,m,n,g,i,c,o,p,q,r,s,t,u,v,w,x,y,z,A,B]) S =
  (zT (jd zi BinOp.xor 73 (zQ C) (Value.int IntKind.u64 14695981039346656037) S) (fun P F=>some ([C,D,I,J,M,P,K,G,L,H,zQ C,zQ P,d,f,b,l,m,n,g,i,c,o,p,q,r,s,t,u,v,w,x,y,z,A,B],F)) ()):=by kernel_rfl
theorem jY.r2 :zW zi ⟨false,false,false⟩ (zU zi O) (reg Try.f59 2) (reg Try.f59 2).toList ([C,D,I,J,M,E,K,G,L,H,j,k,d,f,b,l,m,n,g,i,c,o,p,q,r,s,t,u,v,w,x,y,z,A,B]) S =
  (zT (yK zi 29 (zQ D) S) (fun P F=>some ([C,D,I,J,M,E,K,G,L,H,j,k,zQ D,P,.int .i64 0,l,m,n,g,i,c,o,p,q,r,s,t,u,v,w,x,y,z,A,B],F)) ()):=by kernel_rfl
theorem jY.r3 :zW zi ⟨false,false,false⟩ (zU zi O) (reg Try.f59 3) (reg Try.f59 3).toList ([C,D,I,J,M,E,K,G,L,H,j,k,d,f,b,l,m,n,g,i,c,o,p,q,r,s,t,u,v,w,x,y,z,A,B]) S =
  (zT (jd zi BinOp.lss 3 b f S) (fun N F=>some ([C,D,I,J,M,E,K,G,L,H,j,k,d,f,b,N,m,n,g,i,c,o,p,q,r,s,t,u,v,w,x,y,z,A,B],F)) ()):=by kernel_rfl
theorem jY.r4 :zW zi ⟨false,false,false⟩ (zU zi O) (reg Try.f59 4) (reg Try.f59 4).toList ([C,D,I,J,M,E,K,G,L,H,j,k,d,f,b,l,m,n,g,i,c,o,p,q,r,s,t,u,v,w,x,y,z,A,B]) S =
  (zT (jZ zi 29 d b S) (fun N F=>zT (zZ zi false 33 N F) (fun P Q=>some ([C,D,I,J,M,E,K,P,L,H,j,k,d,f,b,l,N,zQ P,g,i,c,o,p,q,r,s,t,u,v,w,x,y,z,A,B],Q)) ()) ()):=by kernel_rfl
theorem jY.r5 :zW zi ⟨false,false,false⟩ (zU zi O) (reg Try.f59 5) (reg Try.f59 5).toList ([C,D,I,J,M,E,K,G,L,H,j,k,d,f,b,l,m,n,g,i,c,o,p,q,r,s,t,u,v,w,x,y,z,A,B]) S =
  (zT (yK zi 33 (zQ G) S) (fun P F=>some ([C,D,I,J,M,E,K,G,L,H,j,k,d,f,b,l,m,n,zQ G,P,.int .i64 0,o,p,q,r,s,t,u,v,w,x,y,z,A,B],F)) ()):=by kernel_rfl
theorem jY.r6 :zW zi ⟨false,false,false⟩ (zU zi O) (reg Try.f59 6) (reg Try.f59 6).toList ([C,D,I,J,M,E,K,G,L,H,j,k,d,f,b,l,m,n,g,i,c,o,p,q,r,s,t,u,v,w,x,y,z,A,B]) S =
  (zT (jd zi BinOp.lss 3 c i S) (fun N F=>some ([C,D,I,J,M,E,K,G,L,H,j,k,d,f,b,l,m,n,g,i,c,N,p,q,r,s,t,u,v,w,x,y,z,A,B],F)) ()):=by kernel_rfl
theorem jY.r7 :zW zi ⟨false,false,false⟩ (zU zi O) (reg Try.f59 7) (reg Try.f59 7).toList ([C,D,I,J,M,E,K,G,L,H,j,k,d,f,b,l,m,n,g,i,c,o,p,q,r,s,t,u,v,w,x,y,z,A,B]) S =
  (zT (jZ zi 33 g c S) (fun N F=>zT (zZ zi false 5 N F) (fun P Q=>some ([C,D,I,J,M,E,K,G,L,P,j,k,d,f,b,l,m,n,g,i,c,o,N,zQ P,r,s,t,u,v,w,x,y,z,A,B],Q)) ()) ()):=by kernel_rfl
theorem jY.r8 :zW zi ⟨false,false,false⟩ (zU zi O) (reg Try.f59 8) (reg Try.f59 8).toList ([C,D,I,J,M,E,K,G,L,H,j,k,d,f,b,l,m,n,g,i,c,o,p,q,r,s,t,u,v,w,x,y,z,A,B]) S =
  (zT (qB zi false false 5 73 (zQ H) S) (fun R F=>zT (jd zi BinOp.xor 73 (zQ E) R F) (fun U Q=>zT (jd zi BinOp.mul 73 U (Value.int IntKind.u64 1099511628211) Q) (fun V W=>some ([C,D,I,J,M,V,K,G,L,H,j,k,d,f,b,l,m,n,g,i,c,o,p,q,zQ E,zQ H,R,U,zQ V,w,x,y,z,A,B],W)) ()) ()) ()):=by kernel_rfl
theorem jY.r9 :zW zi ⟨false,false,false⟩ (zU zi O) (reg Try.f59 9) (reg Try.f59 9).toList ([C,D,I,J,M,E,K,G,L,H,j,k,d,f,b,l,m,n,g,i,c,o,p,q,r,s,t,u,v,w,x,y,z,A,B]) S =
  (zT (jd zi BinOp.add 3 c (.int .i64 1) S) (fun N F=>some ([C,D,I,J,M,E,K,G,L,H,j,k,d,f,b,l,m,n,g,i,zQ N,o,p,q,r,s,t,u,v,N,x,y,z,A,B],F)) ()):=by kernel_rfl
theorem jY.r10 :zW zi ⟨false,false,false⟩ (zU zi O) (reg Try.f59 10) (reg Try.f59 10).toList ([C,D,I,J,M,E,K,G,L,H,j,k,d,f,b,l,m,n,g,i,c,o,p,q,r,s,t,u,v,w,x,y,z,A,B]) S =
  (zT (jd zi BinOp.add 3 b (.int .i64 1) S) (fun N F=>some ([C,D,I,J,M,E,K,G,L,H,j,k,d,f,zQ N,l,m,n,g,i,c,o,p,q,r,s,t,u,v,w,N,y,z,A,B],F)) ()):=by kernel_rfl
theorem jY.r11 :zW zi ⟨false,false,false⟩ (zU zi O) (reg Try.f59 11) (reg Try.f59 11).toList ([C,D,I,J,M,E,K,G,L,H,j,k,d,f,b,l,m,n,g,i,c,o,p,q,r,s,t,u,v,w,x,y,z,A,B]) S =
  (zT (jd zi BinOp.shr 73 (zQ E) (Value.int IntKind.u64 29) S) (fun R F=>zT (jd zi BinOp.xor 73 (zQ E) R F) (fun U Q=>some ([C,D,I,J,U,E,K,G,L,H,j,k,d,f,b,l,m,n,g,i,c,o,p,q,r,s,t,u,v,w,x,zQ E,zQ E,R,zQ U],Q)) ()) ()):=by kernel_rfl
theorem jY.rs :type_of% (zJ @jY.r0 (zJ @jY.r1 (zJ @jY.r2 (zJ @jY.r3 (zJ @jY.r4 (zJ @jY.r5 (zJ @jY.r6 (zJ @jY.r7 (zJ @jY.r8 (zJ @jY.r9 (zJ @jY.r10 (@jY.r11)))))))))))):=zJ @jY.r0 (zJ @jY.r1 (zJ @jY.r2 (zJ @jY.r3 (zJ @jY.r4 (zJ @jY.r5 (zJ @jY.r6 (zJ @jY.r7 (zJ @jY.r8 (zJ @jY.r9 (zJ @jY.r10 (@jY.r11)))))))))))
theorem jY.runs {C D:zu}{S F:zS}{e:wC}{T:List zu}(h:zX zi O false jY.code ([C,D,zh,zh,zh,zh,zh,zh,zh,zh,zh,zh,zh,zh,zh,zh,zh,zh,zh,zh,zh,zh,zh,zh,zh,zh,zh,zh,zh,zh,zh,zh,zh,zh,zh]) S=some (e,T,F)) (he:e=.normal∨e=.ret):zU zi O 59 [C,D] S=some (T.getD 4 zh,F) :=
 xX rfl rfl Try.func59 (by decide) jY.body (by exact h) he (qI (a:=T.getD 4 zh) ((show jl zi T F Try.f59.results.toList=jl zi T F [(ResultVar.tmp 4)] from by kernel_rfl).trans (by simp only[jl])) (by kernel_rfl))
end
section
abbrev ZM.id :FuncId:=43
noncomputable def ZM.code :Code:=(.seq (.region 0 (reg Try.f43 0) false) (.seq (.region 1 (reg Try.f43 1) false) Code.ret))
theorem ZM.body :Try.f43.body=some ZM.code:=by kernel_rfl
variable (b c d k l m q n o p g i j:zu) (S:zS)
theorem ZM.r0 :zW zi ⟨false,false,false⟩ (zU zi O) (reg Try.f43 0) (reg Try.f43 0).toList ([b,c,d,k,l,m,q,n,o,p,g,i,j]) S =
  ( some ([b,c,d,k,l,m,Value.bool false,n,o,p,g,i,j],S)):=by kernel_rfl
theorem ZM.r1 :zW zi ⟨false,false,false⟩ (zU zi O) (reg Try.f43 1) (reg Try.f43 1).toList ([b,c,d,k,l,m,q,n,o,p,g,i,j]) S =
  (zT (yO zi 29 1 [(0,(zQ d))] S) (fun r f=>zT ((zU zi O) 59 [(zQ (zQ b)),(zQ r)] f) (fun s u=>zT (jd zi BinOp.eql 73 s (zQ c) u) (fun t v=>some ([b,c,d,k,l,m,t,zQ b,zQ d,r,s,zQ c,zQ t],v)) ()) ()) ()):=by kernel_rfl
theorem ZM.rs :type_of% (zJ @ZM.r0 (@ZM.r1)):=zJ @ZM.r0 (@ZM.r1)
theorem ZM.runs {b c d:zu}{S f:zS}{e:wC}{T:List zu}(h:zX zi O false ZM.code ([b,c,d,zh,zh,zh,zh,zh,zh,zh,zh,zh,zh]) S=some (e,T,f)) (he:e=.normal∨e=.ret):zU zi O 43 [b,c,d] S=some (T.getD 6 zh,f) :=
 xX rfl rfl Try.func43 (by decide) ZM.body (by exact h) he (qI (a:=T.getD 6 zh) ((show jl zi T f Try.f43.results.toList=jl zi T f [(ResultVar.tmp 6)] from by kernel_rfl).trans (by simp only[jl])) (by kernel_rfl))
end
section
abbrev YL.id :FuncId:=40
variable (p q r s t u v w x y a b c d f g i j k l m n o:zu) (S:zS)
end
section
abbrev yG.id :FuncId:=39
noncomputable def yG.jg :Code:=(.seq (.seq (.region 3 (reg Try.f39 3) false) (.cond (.tmp 12) Code.skip (.exit 0))) (.seq (.block 1 (.seq (.region 5 (reg Try.f39 5) false) (.region 6 (reg Try.f39 6) false))) (.region 4 (reg Try.f39 4) false)))
noncomputable def yG.code :Code:=(.seq (.region 0 (reg Try.f39 0) false) (.seq (.region 1 (reg Try.f39 1) false) (.seq (.seq (.region 2 (reg Try.f39 2) false) (.block 0 (.loop yG.jg))) (.seq (.region 7 (reg Try.f39 7) false) Code.ret))))
theorem yG.body :Try.f39.body=some yG.code:=by kernel_rfl
theorem yG.eta {T:List zu}(h:T.length=34):T=[T.getD 0 zh,T.getD 1 zh,T.getD 2 zh,T.getD 3 zh,T.getD 4 zh,T.getD 5 zh,T.getD 6 zh,T.getD 7 zh,T.getD 8 zh,T.getD 9 zh,T.getD 10 zh,T.getD 11 zh,T.getD 12 zh,T.getD 13 zh,T.getD 14 zh,T.getD 15 zh,T.getD 16 zh,T.getD 17 zh,T.getD 18 zh,T.getD 19 zh,T.getD 20 zh,T.getD 21 zh,T.getD 22 zh,T.getD 23 zh,T.getD 24 zh,T.getD 25 zh,T.getD 26 zh,T.getD 27 zh,T.getD 28 zh,T.getD 29 zh,T.getD 30 zh,T.getD 31 zh,T.getD 32 zh,T.getD 33 zh]:=(ZE T 34 h).trans (by kernel_rfl)
variable (D c F G L b E I J K d f g i j k l m n o p q r s t u v w x y z A B C:zu) (S:zS)
theorem yG.r0 :zW zi ⟨false,false,false⟩ (zU zi O) (reg Try.f39 0) (reg Try.f39 0).toList ([D,c,F,G,L,b,E,I,J,K,d,f,g,i,j,k,l,m,n,o,p,q,r,s,t,u,v,w,x,y,z,A,B,C]) S =
  ( some ([D,c,F,G,Value.int IntKind.u64 0,b,E,I,J,K,d,f,g,i,j,k,l,m,n,o,p,q,r,s,t,u,v,w,x,y,z,A,B,C],S)):=by kernel_rfl
theorem yG.r1 :zW zi ⟨false,false,false⟩ (zU zi O) (reg Try.f39 1) (reg Try.f39 1).toList ([D,c,F,G,L,b,E,I,J,K,d,f,g,i,j,k,l,m,n,o,p,q,r,s,t,u,v,w,x,y,z,A,B,C]) S =
  (zT (jd zi BinOp.xor 73 (zQ D) (Value.int IntKind.u64 14695981039346656037) S) (fun N H=>some ([D,c,F,G,L,N,E,zQ D,zQ N,K,d,f,g,i,j,k,l,m,n,o,p,q,r,s,t,u,v,w,x,y,z,A,B,C],H)) ()):=by kernel_rfl
theorem yG.r2 :zW zi ⟨false,false,false⟩ (zU zi O) (reg Try.f39 2) (reg Try.f39 2).toList ([D,c,F,G,L,b,E,I,J,K,d,f,g,i,j,k,l,m,n,o,p,q,r,s,t,u,v,w,x,y,z,A,B,C]) S =
  ( some ([D,c,F,G,L,b,.int .i64 0,I,J,K,d,f,g,i,j,k,l,m,n,o,p,q,r,s,t,u,v,w,x,y,z,A,B,C],S)):=by kernel_rfl
theorem yG.r3 :zW zi ⟨false,false,false⟩ (zU zi O) (reg Try.f39 3) (reg Try.f39 3).toList ([D,c,F,G,L,b,E,I,J,K,d,f,g,i,j,k,l,m,n,o,p,q,r,s,t,u,v,w,x,y,z,A,B,C]) S =
  (zT (yK zi 33 (zQ c) S) (fun Q H=>zT (jd zi BinOp.lss 3 (zQ E) Q H) (fun M P=>some ([D,c,F,G,L,b,E,I,J,zQ E,zQ c,Q,M,i,j,k,l,m,n,o,p,q,r,s,t,u,v,w,x,y,z,A,B,C],P)) ()) ()):=by kernel_rfl
theorem yG.r5 :zW zi ⟨false,false,false⟩ (zU zi O) (reg Try.f39 5) (reg Try.f39 5).toList ([D,c,F,G,L,b,E,I,J,K,d,f,g,i,j,k,l,m,n,o,p,q,r,s,t,u,v,w,x,y,z,A,B,C]) S =
  (zT (jZ zi 33 (zQ c) (zQ E) S) (fun M H=>zT (zZ zi false 5 M H) (fun R P=>zT (qB zi false false 5 73 R P) (fun X V=>zT (jd zi BinOp.xor 73 (zQ b) X V) (fun U W=>some ([D,c,F,G,L,U,E,I,J,K,d,f,g,i,j,zQ b,zQ c,zQ E,M,R,X,zQ U,r,s,t,u,v,w,x,y,z,A,B,C],W)) ()) ()) ()) ()):=by kernel_rfl
theorem yG.r6 :zW zi ⟨false,false,false⟩ (zU zi O) (reg Try.f39 6) (reg Try.f39 6).toList ([D,c,F,G,L,b,E,I,J,K,d,f,g,i,j,k,l,m,n,o,p,q,r,s,t,u,v,w,x,y,z,A,B,C]) S =
  (zT (jd zi BinOp.shl 73 (zQ b) (Value.int IntKind.u64 40) S) (fun N H=>zT (jd zi BinOp.shl 73 (zQ b) (Value.int IntKind.u64 8) H) (fun M P=>zT (jd zi BinOp.add 73 N M P) (fun R V=>zT (jd zi BinOp.mul 73 (zQ b) (Value.int IntKind.u64 179) V) (fun U W=>zT (jd zi BinOp.add 73 R U W) (fun Y Z=>some ([D,c,F,G,L,Y,E,I,J,K,d,f,g,i,j,k,l,m,n,o,p,q,zQ b,N,zQ b,M,R,zQ b,U,zQ Y,z,A,B,C],Z)) ()) ()) ()) ()) ()):=by kernel_rfl
theorem yG.r4 :zW zi ⟨false,false,false⟩ (zU zi O) (reg Try.f39 4) (reg Try.f39 4).toList ([D,c,F,G,L,b,E,I,J,K,d,f,g,i,j,k,l,m,n,o,p,q,r,s,t,u,v,w,x,y,z,A,B,C]) S =
  (zT (jd zi BinOp.add 3 (zQ E) (.int .i64 1) S) (fun N H=>some ([D,c,F,G,L,b,N,I,J,K,d,f,g,zQ E,zQ N,k,l,m,n,o,p,q,r,s,t,u,v,w,x,y,z,A,B,C],H)) ()):=by kernel_rfl
theorem yG.r7 :zW zi ⟨false,false,false⟩ (zU zi O) (reg Try.f39 7) (reg Try.f39 7).toList ([D,c,F,G,L,b,E,I,J,K,d,f,g,i,j,k,l,m,n,o,p,q,r,s,t,u,v,w,x,y,z,A,B,C]) S =
  (zT (jd zi BinOp.quo 73 (zQ b) (Value.int IntKind.u64 536870912) S) (fun Q H=>zT (jd zi BinOp.xor 73 (zQ b) Q H) (fun M P=>some ([D,c,F,G,M,b,E,I,J,K,d,f,g,i,j,k,l,m,n,o,p,q,r,s,t,u,v,w,x,y,zQ b,zQ b,Q,zQ M],P)) ()) ()):=by kernel_rfl
theorem yG.rs :type_of% (zJ @yG.r0 (zJ @yG.r1 (zJ @yG.r2 (zJ @yG.r3 (zJ @yG.r5 (zJ @yG.r6 (zJ @yG.r4 (@yG.r7)))))))):=zJ @yG.r0 (zJ @yG.r1 (zJ @yG.r2 (zJ @yG.r3 (zJ @yG.r5 (zJ @yG.r6 (zJ @yG.r4 (@yG.r7)))))))
theorem yG.runs {D c:zu}{S H:zS}{e:wC}{T:List zu}(h:zX zi O false yG.code ([D,c,zh,zh,zh,zh,zh,zh,zh,zh,zh,zh,zh,zh,zh,zh,zh,zh,zh,zh,zh,zh,zh,zh,zh,zh,zh,zh,zh,zh,zh,zh,zh,zh]) S=some (e,T,H)) (he:e=.normal∨e=.ret):zU zi O 39 [D,c] S=some (T.getD 4 zh,H) :=
 xX rfl rfl Try.func39 (by decide) yG.body (by exact h) he (qI (a:=T.getD 4 zh) ((show jl zi T H Try.f39.results.toList=jl zi T H [(ResultVar.tmp 4)] from by kernel_rfl).trans (by simp only[jl])) (by kernel_rfl))
end
section
abbrev jT.id :FuncId:=55
noncomputable def jT.jg :Code:=(.seq (.region 6 (reg Try.f55 6) false) (.seq (.cond (.tmp 22) Code.skip (.exit 0)) (.seq (.block 1 (.seq (.region 7 (reg Try.f55 7) false) (.seq (.seq (.region 8 (reg Try.f55 8) false) (.cond (.tmp 34) (.seq (.region 9 (reg Try.f55 9) false) Code.ret) Code.skip)) (.seq (.region 10 (reg Try.f55 10) false) (.region 11 (reg Try.f55 11) false))))) (.region 12 (reg Try.f55 12) false))))
noncomputable def jT.code :Code:=(.seq (.region 0 (reg Try.f55 0) false) (.seq (.seq (.region 1 (reg Try.f55 1) false) (.cond (.tmp 17) (.seq (.region 2 (reg Try.f55 2) false) Code.ret) Code.skip)) (.seq (.region 3 (reg Try.f55 3) false) (.seq (.region 4 (reg Try.f55 4) false) (.seq (.seq (.region 5 (reg Try.f55 5) false) (.block 0 (.loop jT.jg))) (.seq (.region 13 (reg Try.f55 13) false) Code.ret))))))
theorem jT.body :Try.f55.body=some jT.code:=by kernel_rfl
theorem jT.eta {T:List zu}(h:T.length=45):T=[T.getD 0 zh,T.getD 1 zh,T.getD 2 zh,T.getD 3 zh,T.getD 4 zh,T.getD 5 zh,T.getD 6 zh,T.getD 7 zh,T.getD 8 zh,T.getD 9 zh,T.getD 10 zh,T.getD 11 zh,T.getD 12 zh,T.getD 13 zh,T.getD 14 zh,T.getD 15 zh,T.getD 16 zh,T.getD 17 zh,T.getD 18 zh,T.getD 19 zh,T.getD 20 zh,T.getD 21 zh,T.getD 22 zh,T.getD 23 zh,T.getD 24 zh,T.getD 25 zh,T.getD 26 zh,T.getD 27 zh,T.getD 28 zh,T.getD 29 zh,T.getD 30 zh,T.getD 31 zh,T.getD 32 zh,T.getD 33 zh,T.getD 34 zh,T.getD 35 zh,T.getD 36 zh,T.getD 37 zh,T.getD 38 zh,T.getD 39 zh,T.getD 40 zh,T.getD 41 zh,T.getD 42 zh,T.getD 43 zh,T.getD 44 zh]:=(ZE T 45 h).trans (by kernel_rfl)
variable (P N V W X Y Z Q R U b a f g i k l m n o c d p q r s t u w x y z A B C D E F G H I J K L M:zu) (S:zS)
theorem jT.r0 :zW zi ⟨false,false,false⟩ (zU zi O) (reg Try.f55 0) (reg Try.f55 0).toList ([P,N,V,W,X,Y,Z,Q,R,U,b,a,f,g,i,k,l,m,n,o,c,d,p,q,r,s,t,u,w,x,y,z,A,B,C,D,E,F,G,H,I,J,K,L,M]) S =
  ( some ([P,N,V,W,Value.slice none 0 0,Value.slice none 0 0,.int .i64 0,Q,R,U,b,a,f,g,i,k,l,m,n,o,c,d,p,q,r,s,t,u,w,x,y,z,A,B,C,D,E,F,G,H,I,J,K,L,M],S)):=by kernel_rfl
theorem jT.r1 :zW zi ⟨false,false,false⟩ (zU zi O) (reg Try.f55 1) (reg Try.f55 1).toList ([P,N,V,W,X,Y,Z,Q,R,U,b,a,f,g,i,k,l,m,n,o,c,d,p,q,r,s,t,u,w,x,y,z,A,B,C,D,E,F,G,H,I,J,K,L,M]) S =
  (zT (jd zi BinOp.lss 3 (zQ N) (.int .i64 0) S) (fun v1 S1=>zY (zQ v1) false (ret N) S1 (fun v3 S2=>zY (zQ v1) false (jd zi BinOp.gtr 3 (zQ v3) (.int .i64 64)) S2 (fun v4 S3=>zT (jH (zQ v1) (Value.bool true) v4 S3) (fun v5 S4=>some ([P,N,V,W,X,Y,Z,Q,R,U,b,a,zQ N,v1,zQ v1,zQ v3,v4,v5,n,o,c,d,p,q,r,s,t,u,w,x,y,z,A,B,C,D,E,F,G,H,I,J,K,L,M],S4)) ()) ()) ()) ()):=by
 refine sP Try.f55 1 0 (v:=N) ?_;refine sD Try.f55 1 1 (fun v1 S1=>?_)
 refine sP Try.f55 1 2 (v:=v1) ?_;refine sG Try.f55 1 3 (j:=2) (fun v3 S2=>?_)
 refine sG Try.f55 1 4 (j:=2) (fun v4 S3=>?_)
 refine sD Try.f55 1 5 (fun v5 S4=>?_)
 kernel_rfl
theorem jT.r2 :zW zi ⟨false,false,false⟩ (zU zi O) (reg Try.f55 2) (reg Try.f55 2).toList ([P,N,V,W,X,Y,Z,Q,R,U,b,a,f,g,i,k,l,m,n,o,c,d,p,q,r,s,t,u,w,x,y,z,A,B,C,D,E,F,G,H,I,J,K,L,M]) S =
  ( some ([P,N,V,W,Value.slice none 0 0,Value.slice none 0 0,.int .i64 11,Q,R,U,b,a,f,g,i,k,l,m,n,o,c,d,p,q,r,s,t,u,w,x,y,z,A,B,C,D,E,F,G,H,I,J,K,L,M],S)):=by kernel_rfl
theorem jT.r3 :zW zi ⟨false,false,false⟩ (zU zi O) (reg Try.f55 3) (reg Try.f55 3).toList ([P,N,V,W,X,Y,Z,Q,R,U,b,a,f,g,i,k,l,m,n,o,c,d,p,q,r,s,t,u,w,x,y,z,A,B,C,D,E,F,G,H,I,J,K,L,M]) S =
  (zT ((zU zi O) 54 [(zQ (zQ P))] S) (fun v1 S1=>some ([P,N,V,W,X,Y,Z,v1,R,U,b,a,f,g,i,k,l,m,zQ P,zQ v1,c,d,p,q,r,s,t,u,w,x,y,z,A,B,C,D,E,F,G,H,I,J,K,L,M],S1)) ()):=by kernel_rfl
theorem jT.r4 :zW zi ⟨false,false,false⟩ (zU zi O) (reg Try.f55 4) (reg Try.f55 4).toList ([P,N,V,W,X,Y,Z,Q,R,U,b,a,f,g,i,k,l,m,n,o,c,d,p,q,r,s,t,u,w,x,y,z,A,B,C,D,E,F,G,H,I,J,K,L,M]) S =
  ( some ([P,N,V,W,X,Y,Z,Q,Value.slice none 0 0,U,b,a,f,g,i,k,l,m,n,o,c,d,p,q,r,s,t,u,w,x,y,z,A,B,C,D,E,F,G,H,I,J,K,L,M],S)):=by kernel_rfl
theorem jT.r5 :zW zi ⟨false,false,false⟩ (zU zi O) (reg Try.f55 5) (reg Try.f55 5).toList ([P,N,V,W,X,Y,Z,Q,R,U,b,a,f,g,i,k,l,m,n,o,c,d,p,q,r,s,t,u,w,x,y,z,A,B,C,D,E,F,G,H,I,J,K,L,M]) S =
  ( some ([P,N,V,W,X,Y,Z,Q,R,U,b,a,f,g,i,k,l,m,n,o,zQ N,.int .i64 0,p,q,r,s,t,u,w,x,y,z,A,B,C,D,E,F,G,H,I,J,K,L,M],S)):=by kernel_rfl
theorem jT.r6 :zW zi ⟨false,false,false⟩ (zU zi O) (reg Try.f55 6) (reg Try.f55 6).toList ([P,N,V,W,X,Y,Z,Q,R,U,b,a,f,g,i,k,l,m,n,o,c,d,p,q,r,s,t,u,w,x,y,z,A,B,C,D,E,F,G,H,I,J,K,L,M]) S =
  (zT (jd zi BinOp.lss 3 d c S) (fun v0 S1=>some ([P,N,V,W,X,Y,Z,Q,R,U,b,a,f,g,i,k,l,m,n,o,c,d,v0,q,r,s,t,u,w,x,y,z,A,B,C,D,E,F,G,H,I,J,K,L,M],S1)) ()):=by kernel_rfl
theorem jT.r7 :zW zi ⟨false,false,false⟩ (zU zi O) (reg Try.f55 7) (reg Try.f55 7).toList ([P,N,V,W,X,Y,Z,Q,R,U,b,a,f,g,i,k,l,m,n,o,c,d,p,q,r,s,t,u,w,x,y,z,A,B,C,D,E,F,G,H,I,J,K,L,M]) S =
  (zT ((zU zi O) 41 [(zQ (zQ Q))] S) (fun v1 S1=>zT (jv v1 0 S1) (fun v3 S2=>zT (jv (jh 0 v1) 1 S2) (fun v4 S3=>zT (jv (jh 1 (jh 0 v1)) 2 S3) (fun v5 S4=>some ([P,N,V,W,X,Y,Z,Q,R,v3,v4,v5,f,g,i,k,l,m,n,o,c,d,p,jh 2 (jh 1 (jh 0 v1)),zQ Q,zQ v1,zQ v3,zQ v4,zQ v5,x,y,z,A,B,C,D,E,F,G,H,I,J,K,L,M],S4)) ()) ()) ()) ()):=by kernel_rfl
theorem jT.r8 :zW zi ⟨false,false,false⟩ (zU zi O) (reg Try.f55 8) (reg Try.f55 8).toList ([P,N,V,W,X,Y,Z,Q,R,U,b,a,f,g,i,k,l,m,n,o,c,d,p,q,r,s,t,u,w,x,y,z,A,B,C,D,E,F,G,H,I,J,K,L,M]) S =
  (zT (jd zi BinOp.neq 64 (zQ a) (.int .i64 0) S) (fun v1 S1=>zY (zQ v1) false (ret U) S1 (fun v3 S2=>zY (zQ v1) false (jd zi BinOp.gtr 73 (zQ v3) (Value.int IntKind.u64 4611686018427387905)) S2 (fun v4 S3=>zT (jH (zQ v1) (Value.bool true) v4 S3) (fun v5 S4=>some ([P,N,V,W,X,Y,Z,Q,R,U,b,a,f,g,i,k,l,m,n,o,c,d,p,q,r,s,t,u,w,zQ a,v1,zQ v1,zQ v3,v4,v5,D,E,F,G,H,I,J,K,L,M],S4)) ()) ()) ()) ()):=by
 refine sP Try.f55 8 0 (v:=a) ?_;refine sD Try.f55 8 1 (fun v1 S1=>?_)
 refine sP Try.f55 8 2 (v:=v1) ?_;refine sG Try.f55 8 3 (j:=2) (fun v3 S2=>?_)
 refine sG Try.f55 8 4 (j:=2) (fun v4 S3=>?_)
 refine sD Try.f55 8 5 (fun v5 S4=>?_)
 kernel_rfl
theorem jT.r9 :zW zi ⟨false,false,false⟩ (zU zi O) (reg Try.f55 9) (reg Try.f55 9).toList ([P,N,V,W,X,Y,Z,Q,R,U,b,a,f,g,i,k,l,m,n,o,c,d,p,q,r,s,t,u,w,x,y,z,A,B,C,D,E,F,G,H,I,J,K,L,M]) S =
  ( some ([P,N,V,W,Value.slice none 0 0,Value.slice none 0 0,.int .i64 11,Q,R,U,b,a,f,g,i,k,l,m,n,o,c,d,p,q,r,s,t,u,w,x,y,z,A,B,C,D,E,F,G,H,I,J,K,L,M],S)):=by kernel_rfl
theorem jT.r10 :zW zi ⟨false,false,false⟩ (zU zi O) (reg Try.f55 10) (reg Try.f55 10).toList ([P,N,V,W,X,Y,Z,Q,R,U,b,a,f,g,i,k,l,m,n,o,c,d,p,q,r,s,t,u,w,x,y,z,A,B,C,D,E,F,G,H,I,J,K,L,M]) S =
  (zT (qB zi false false 73 3 (zQ U) S) (fun v2 S1=>zT (jd zi BinOp.sub 3 v2 (.int .i64 1) S1) (fun v3 S2=>zT (yO zi 24 1 [(0,v3)] S2) (fun v4 S3=>zT (yF zi 24 24 R v4 S3) (fun v5 S4=>some ([P,N,V,W,X,Y,Z,Q,v5,U,b,a,f,g,i,k,l,m,n,o,c,d,p,q,r,s,t,u,w,x,y,z,A,B,C,zQ R,zQ U,v2,v3,v4,zQ v5,J,K,L,M],S4)) ()) ()) ()) ()):=by kernel_rfl
theorem jT.r11 :zW zi ⟨false,false,false⟩ (zU zi O) (reg Try.f55 11) (reg Try.f55 11).toList ([P,N,V,W,X,Y,Z,Q,R,U,b,a,f,g,i,k,l,m,n,o,c,d,p,q,r,s,t,u,w,x,y,z,A,B,C,D,E,F,G,H,I,J,K,L,M]) S =
  ( some ([P,N,V,W,X,Y,Z,b,R,U,zQ b,a,f,g,i,k,l,m,n,o,c,d,p,q,r,s,t,u,w,x,y,z,A,B,C,D,E,F,G,H,I,zQ b,K,L,M],S)):=by kernel_rfl
theorem jT.r12 :zW zi ⟨false,false,false⟩ (zU zi O) (reg Try.f55 12) (reg Try.f55 12).toList ([P,N,V,W,X,Y,Z,Q,R,U,b,a,f,g,i,k,l,m,n,o,c,d,p,q,r,s,t,u,w,x,y,z,A,B,C,D,E,F,G,H,I,J,K,L,M]) S =
  (zT (jd zi BinOp.add 3 d (.int .i64 1) S) (fun v0 S1=>some ([P,N,V,W,X,Y,Z,Q,R,U,b,a,f,g,i,k,l,m,n,o,c,zQ v0,p,q,r,s,t,u,w,x,y,z,A,B,C,D,E,F,G,H,I,J,v0,L,M],S1)) ()):=by kernel_rfl
theorem jT.r13 :zW zi ⟨false,false,false⟩ (zU zi O) (reg Try.f55 13) (reg Try.f55 13).toList ([P,N,V,W,X,Y,Z,Q,R,U,b,a,f,g,i,k,l,m,n,o,c,d,p,q,r,s,t,u,w,x,y,z,A,B,C,D,E,F,G,H,I,J,K,L,M]) S =
  ( some ([P,N,V,W,R,Q,.int .i64 0,zQ Q,zQ R,U,b,a,f,g,i,k,l,m,n,o,c,d,p,q,r,s,t,u,w,x,y,z,A,B,C,D,E,F,G,H,I,J,K,zQ R,zQ Q],S)):=by kernel_rfl
theorem jT.rs :type_of% (zJ @jT.r0 (zJ @jT.r1 (zJ @jT.r2 (zJ @jT.r3 (zJ @jT.r4 (zJ @jT.r5 (zJ @jT.r6 (zJ @jT.r7 (zJ @jT.r8 (zJ @jT.r9 (zJ @jT.r10 (zJ @jT.r11 (zJ @jT.r12 (@jT.r13)))))))))))))):=zJ @jT.r0 (zJ @jT.r1 (zJ @jT.r2 (zJ @jT.r3 (zJ @jT.r4 (zJ @jT.r5 (zJ @jT.r6 (zJ @jT.r7 (zJ @jT.r8 (zJ @jT.r9 (zJ @jT.r10 (zJ @jT.r11 (zJ @jT.r12 (@jT.r13)))))))))))))
theorem jT.runs {P N:zu}{S S1:zS}{e:wC}{T:List zu}(h:zX zi O false jT.code ([P,N,zh,zh,zh,zh,zh,zh,zh,zh,zh,zh,zh,zh,zh,zh,zh,zh,zh,zh,zh,zh,zh,zh,zh,zh,zh,zh,zh,zh,zh,zh,zh,zh,zh,zh,zh,zh,zh,zh,zh,zh,zh,zh,zh]) S=some (e,T,S1)) (he:e=.normal∨e=.ret)  (h0:yc (T.getD 4 zh)=true) (h1:yc (T.getD 5 zh)=true) (h2:yc (T.getD 6 zh)=true):zU zi O 55 [P,N] S=some (Value.tuple #[T.getD 4 zh,T.getD 5 zh,T.getD 6 zh],S1) :=
 xX rfl rfl Try.func55 (by decide) jT.body (by exact h) he ((Zc ((show jl zi T S1 Try.f55.results.toList=jl zi T S1 [(ResultVar.tmp 4),(ResultVar.tmp 5),(ResultVar.tmp 6)] from by kernel_rfl).trans (by simp only[jl])) (by kernel_rfl) (by simp only[List.all_cons,List.all_nil,h0,h1,h2,Bool.and_true])).trans rfl)
end
section
abbrev jS.id :FuncId:=29
noncomputable def jS.jg :Code:=(.seq (.seq (.region 6 (reg Try.f29 6) false) (.cond (.tmp 25) Code.skip (.exit 0))) (.seq (.block 1 (.seq (.region 8 (reg Try.f29 8) false) (.seq (.seq (.region 9 (reg Try.f29 9) false) (.cond (.tmp 39) (.seq (.region 10 (reg Try.f29 10) false) Code.ret) Code.skip)) (.seq (.region 11 (reg Try.f29 11) false) (.region 12 (reg Try.f29 12) false))))) (.region 7 (reg Try.f29 7) false)))
noncomputable def jS.code :Code:=(.seq (.region 0 (reg Try.f29 0) false) (.seq (.seq (.region 1 (reg Try.f29 1) false) (.cond (.tmp 18) (.seq (.region 2 (reg Try.f29 2) false) Code.ret) Code.skip)) (.seq (.region 3 (reg Try.f29 3) false) (.seq (.region 4 (reg Try.f29 4) false) (.seq (.seq (.region 5 (reg Try.f29 5) false) (.block 0 (.loop jS.jg))) (.seq (.region 13 (reg Try.f29 13) false) Code.ret))))))
theorem jS.body :Try.f29.body=some jS.code:=by kernel_rfl
theorem jS.eta {T:List zu}(h:T.length=49):T=[T.getD 0 zh,T.getD 1 zh,T.getD 2 zh,T.getD 3 zh,T.getD 4 zh,T.getD 5 zh,T.getD 6 zh,T.getD 7 zh,T.getD 8 zh,T.getD 9 zh,T.getD 10 zh,T.getD 11 zh,T.getD 12 zh,T.getD 13 zh,T.getD 14 zh,T.getD 15 zh,T.getD 16 zh,T.getD 17 zh,T.getD 18 zh,T.getD 19 zh,T.getD 20 zh,T.getD 21 zh,T.getD 22 zh,T.getD 23 zh,T.getD 24 zh,T.getD 25 zh,T.getD 26 zh,T.getD 27 zh,T.getD 28 zh,T.getD 29 zh,T.getD 30 zh,T.getD 31 zh,T.getD 32 zh,T.getD 33 zh,T.getD 34 zh,T.getD 35 zh,T.getD 36 zh,T.getD 37 zh,T.getD 38 zh,T.getD 39 zh,T.getD 40 zh,T.getD 41 zh,T.getD 42 zh,T.getD 43 zh,T.getD 44 zh,T.getD 45 zh,T.getD 46 zh,T.getD 47 zh,T.getD 48 zh]:=(ZE T 49 h).trans (by kernel_rfl)
variable (V U Z x3 x4 x5 x6 W X Y a c b d f g i k l m n o p q r s t u w x y z A B C D E F G H I J K L M N P Q R:zu) (S:zS)
theorem jS.r0 :zW zi ⟨false,false,false⟩ (zU zi O) (reg Try.f29 0) (reg Try.f29 0).toList ([V,U,Z,x3,x4,x5,x6,W,X,Y,a,c,b,d,f,g,i,k,l,m,n,o,p,q,r,s,t,u,w,x,y,z,A,B,C,D,E,F,G,H,I,J,K,L,M,N,P,Q,R]) S =
  ( some ([V,U,Z,x3,Value.slice none 0 0,Value.slice none 0 0,.int .i64 0,W,X,Y,a,c,b,d,f,g,i,k,l,m,n,o,p,q,r,s,t,u,w,x,y,z,A,B,C,D,E,F,G,H,I,J,K,L,M,N,P,Q,R],S)):=by kernel_rfl
theorem jS.r1 :zW zi ⟨false,false,false⟩ (zU zi O) (reg Try.f29 1) (reg Try.f29 1).toList ([V,U,Z,x3,x4,x5,x6,W,X,Y,a,c,b,d,f,g,i,k,l,m,n,o,p,q,r,s,t,u,w,x,y,z,A,B,C,D,E,F,G,H,I,J,K,L,M,N,P,Q,R]) S =
  (zT (jd zi BinOp.lss 3 (zQ U) (.int .i64 0) S) (fun v1 S1=>zY (zQ v1) false (ret U) S1 (fun v3 S2=>zY (zQ v1) false (jd zi BinOp.gtr 3 (zQ v3) (.int .i64 64)) S2 (fun v4 S3=>zT (jH (zQ v1) (Value.bool true) v4 S3) (fun v5 S4=>some ([V,U,Z,x3,x4,x5,x6,W,X,Y,a,c,b,zQ U,v1,zQ v1,zQ v3,v4,v5,m,n,o,p,q,r,s,t,u,w,x,y,z,A,B,C,D,E,F,G,H,I,J,K,L,M,N,P,Q,R],S4)) ()) ()) ()) ()):=by
 refine sP Try.f29 1 0 (v:=U) ?_;refine sD Try.f29 1 1 (fun v1 S1=>?_)
 refine sP Try.f29 1 2 (v:=v1) ?_;refine sG Try.f29 1 3 (j:=2) (fun v3 S2=>?_)
 refine sG Try.f29 1 4 (j:=2) (fun v4 S3=>?_)
 refine sD Try.f29 1 5 (fun v5 S4=>?_)
 kernel_rfl
theorem jS.r2 :zW zi ⟨false,false,false⟩ (zU zi O) (reg Try.f29 2) (reg Try.f29 2).toList ([V,U,Z,x3,x4,x5,x6,W,X,Y,a,c,b,d,f,g,i,k,l,m,n,o,p,q,r,s,t,u,w,x,y,z,A,B,C,D,E,F,G,H,I,J,K,L,M,N,P,Q,R]) S =
  ( some ([V,U,Z,x3,Value.slice none 0 0,Value.slice none 0 0,.int .i64 11,W,X,Y,a,c,b,d,f,g,i,k,l,m,n,o,p,q,r,s,t,u,w,x,y,z,A,B,C,D,E,F,G,H,I,J,K,L,M,N,P,Q,R],S)):=by kernel_rfl
theorem jS.r3 :zW zi ⟨false,false,false⟩ (zU zi O) (reg Try.f29 3) (reg Try.f29 3).toList ([V,U,Z,x3,x4,x5,x6,W,X,Y,a,c,b,d,f,g,i,k,l,m,n,o,p,q,r,s,t,u,w,x,y,z,A,B,C,D,E,F,G,H,I,J,K,L,M,N,P,Q,R]) S =
  (zT (yO zi 24 0 [] S) (fun v0 S1=>some ([V,U,Z,x3,x4,x5,x6,v0,X,Y,a,c,b,d,f,g,i,k,l,zQ v0,n,o,p,q,r,s,t,u,w,x,y,z,A,B,C,D,E,F,G,H,I,J,K,L,M,N,P,Q,R],S1)) ()):=by kernel_rfl
theorem jS.r4 :zW zi ⟨false,false,false⟩ (zU zi O) (reg Try.f29 4) (reg Try.f29 4).toList ([V,U,Z,x3,x4,x5,x6,W,X,Y,a,c,b,d,f,g,i,k,l,m,n,o,p,q,r,s,t,u,w,x,y,z,A,B,C,D,E,F,G,H,I,J,K,L,M,N,P,Q,R]) S =
  (zT (yO zi 33 0 [] S) (fun v0 S1=>zT (yF zi 33 33 v0 (zQ V) S1) (fun v2 S2=>some ([V,U,Z,x3,x4,x5,x6,W,v2,Y,a,c,b,d,f,g,i,k,l,m,zQ v0,zQ V,zQ v2,q,r,s,t,u,w,x,y,z,A,B,C,D,E,F,G,H,I,J,K,L,M,N,P,Q,R],S2)) ()) ()):=by kernel_rfl
theorem jS.r5 :zW zi ⟨false,false,false⟩ (zU zi O) (reg Try.f29 5) (reg Try.f29 5).toList ([V,U,Z,x3,x4,x5,x6,W,X,Y,a,c,b,d,f,g,i,k,l,m,n,o,p,q,r,s,t,u,w,x,y,z,A,B,C,D,E,F,G,H,I,J,K,L,M,N,P,Q,R]) S =
  ( some ([V,U,Z,x3,x4,x5,x6,W,X,.int .i64 0,a,c,b,d,f,g,i,k,l,m,n,o,p,q,r,s,t,u,w,x,y,z,A,B,C,D,E,F,G,H,I,J,K,L,M,N,P,Q,R],S)):=by kernel_rfl
theorem jS.r6 :zW zi ⟨false,false,false⟩ (zU zi O) (reg Try.f29 6) (reg Try.f29 6).toList ([V,U,Z,x3,x4,x5,x6,W,X,Y,a,c,b,d,f,g,i,k,l,m,n,o,p,q,r,s,t,u,w,x,y,z,A,B,C,D,E,F,G,H,I,J,K,L,M,N,P,Q,R]) S =
  (zT (jd zi BinOp.lss 3 (zQ Y) (zQ U) S) (fun v2 S1=>some ([V,U,Z,x3,x4,x5,x6,W,X,Y,a,c,b,d,f,g,i,k,l,m,n,o,p,zQ Y,zQ U,v2,t,u,w,x,y,z,A,B,C,D,E,F,G,H,I,J,K,L,M,N,P,Q,R],S1)) ()):=by kernel_rfl
theorem jS.r8 :zW zi ⟨false,false,false⟩ (zU zi O) (reg Try.f29 8) (reg Try.f29 8).toList ([V,U,Z,x3,x4,x5,x6,W,X,Y,a,c,b,d,f,g,i,k,l,m,n,o,p,q,r,s,t,u,w,x,y,z,A,B,C,D,E,F,G,H,I,J,K,L,M,N,P,Q,R]) S =
  (zT ((zU zi O) 28 [(zQ (zQ X))] S) (fun v1 S1=>zT (jv v1 0 S1) (fun v3 S2=>zT (jv (jh 0 v1) 1 S2) (fun v4 S3=>zT (jv (jh 1 (jh 0 v1)) 2 S3) (fun v5 S4=>some ([V,U,Z,x3,x4,x5,x6,W,X,Y,v3,v4,v5,d,f,g,i,k,l,m,n,o,p,q,r,s,t,u,jh 2 (jh 1 (jh 0 v1)),zQ X,zQ v1,zQ v3,zQ v4,zQ v5,C,D,E,F,G,H,I,J,K,L,M,N,P,Q,R],S4)) ()) ()) ()) ()):=by kernel_rfl
theorem jS.r9 :zW zi ⟨false,false,false⟩ (zU zi O) (reg Try.f29 9) (reg Try.f29 9).toList ([V,U,Z,x3,x4,x5,x6,W,X,Y,a,c,b,d,f,g,i,k,l,m,n,o,p,q,r,s,t,u,w,x,y,z,A,B,C,D,E,F,G,H,I,J,K,L,M,N,P,Q,R]) S =
  (zT (jd zi BinOp.neq 3 (zQ b) (.int .i64 0) S) (fun v1 S1=>zY (zQ v1) false (ret a) S1 (fun v3 S2=>zY (zQ v1) false (jd zi BinOp.gtr 73 (zQ v3) (Value.int IntKind.u64 4611686018427387905)) S2 (fun v4 S3=>zT (jH (zQ v1) (Value.bool true) v4 S3) (fun v5 S4=>some ([V,U,Z,x3,x4,x5,x6,W,X,Y,a,c,b,d,f,g,i,k,l,m,n,o,p,q,r,s,t,u,w,x,y,z,A,B,zQ b,v1,zQ v1,zQ v3,v4,v5,I,J,K,L,M,N,P,Q,R],S4)) ()) ()) ()) ()):=by
 refine sP Try.f29 9 0 (v:=b) ?_;refine sD Try.f29 9 1 (fun v1 S1=>?_)
 refine sP Try.f29 9 2 (v:=v1) ?_;refine sG Try.f29 9 3 (j:=2) (fun v3 S2=>?_)
 refine sG Try.f29 9 4 (j:=2) (fun v4 S3=>?_)
 refine sD Try.f29 9 5 (fun v5 S4=>?_)
 kernel_rfl
theorem jS.r10 :zW zi ⟨false,false,false⟩ (zU zi O) (reg Try.f29 10) (reg Try.f29 10).toList ([V,U,Z,x3,x4,x5,x6,W,X,Y,a,c,b,d,f,g,i,k,l,m,n,o,p,q,r,s,t,u,w,x,y,z,A,B,C,D,E,F,G,H,I,J,K,L,M,N,P,Q,R]) S =
  ( some ([V,U,Z,x3,Value.slice none 0 0,Value.slice none 0 0,.int .i64 11,W,X,Y,a,c,b,d,f,g,i,k,l,m,n,o,p,q,r,s,t,u,w,x,y,z,A,B,C,D,E,F,G,H,I,J,K,L,M,N,P,Q,R],S)):=by kernel_rfl
theorem jS.r11 :zW zi ⟨false,false,false⟩ (zU zi O) (reg Try.f29 11) (reg Try.f29 11).toList ([V,U,Z,x3,x4,x5,x6,W,X,Y,a,c,b,d,f,g,i,k,l,m,n,o,p,q,r,s,t,u,w,x,y,z,A,B,C,D,E,F,G,H,I,J,K,L,M,N,P,Q,R]) S =
  (zT (qB zi false false 73 3 (zQ a) S) (fun v2 S1=>zT (jd zi BinOp.sub 3 v2 (.int .i64 1) S1) (fun v3 S2=>zT (yO zi 24 1 [(0,v3)] S2) (fun v4 S3=>zT (yF zi 24 24 W v4 S3) (fun v5 S4=>some ([V,U,Z,x3,x4,x5,x6,v5,X,Y,a,c,b,d,f,g,i,k,l,m,n,o,p,q,r,s,t,u,w,x,y,z,A,B,C,D,E,F,G,H,zQ W,zQ a,v2,v3,v4,zQ v5,P,Q,R],S4)) ()) ()) ()) ()):=by kernel_rfl
theorem jS.r12 :zW zi ⟨false,false,false⟩ (zU zi O) (reg Try.f29 12) (reg Try.f29 12).toList ([V,U,Z,x3,x4,x5,x6,W,X,Y,a,c,b,d,f,g,i,k,l,m,n,o,p,q,r,s,t,u,w,x,y,z,A,B,C,D,E,F,G,H,I,J,K,L,M,N,P,Q,R]) S =
  ( some ([V,U,Z,x3,x4,x5,x6,W,c,Y,a,zQ c,b,d,f,g,i,k,l,m,n,o,p,q,r,s,t,u,w,x,y,z,A,B,C,D,E,F,G,H,I,J,K,L,M,N,zQ c,Q,R],S)):=by kernel_rfl
theorem jS.r7 :zW zi ⟨false,false,false⟩ (zU zi O) (reg Try.f29 7) (reg Try.f29 7).toList ([V,U,Z,x3,x4,x5,x6,W,X,Y,a,c,b,d,f,g,i,k,l,m,n,o,p,q,r,s,t,u,w,x,y,z,A,B,C,D,E,F,G,H,I,J,K,L,M,N,P,Q,R]) S =
  (zT (jd zi BinOp.add 3 (zQ Y) (.int .i64 1) S) (fun v1 S1=>some ([V,U,Z,x3,x4,x5,x6,W,X,v1,a,c,b,d,f,g,i,k,l,m,n,o,p,q,r,s,zQ Y,zQ v1,w,x,y,z,A,B,C,D,E,F,G,H,I,J,K,L,M,N,P,Q,R],S1)) ()):=by kernel_rfl
theorem jS.r13 :zW zi ⟨false,false,false⟩ (zU zi O) (reg Try.f29 13) (reg Try.f29 13).toList ([V,U,Z,x3,x4,x5,x6,W,X,Y,a,c,b,d,f,g,i,k,l,m,n,o,p,q,r,s,t,u,w,x,y,z,A,B,C,D,E,F,G,H,I,J,K,L,M,N,P,Q,R]) S =
  ( some ([V,U,Z,x3,W,X,.int .i64 0,zQ W,zQ X,Y,a,c,b,d,f,g,i,k,l,m,n,o,p,q,r,s,t,u,w,x,y,z,A,B,C,D,E,F,G,H,I,J,K,L,M,N,P,zQ W,zQ X],S)):=by kernel_rfl
theorem jS.rs :type_of% (zJ @jS.r0 (zJ @jS.r1 (zJ @jS.r2 (zJ @jS.r3 (zJ @jS.r4 (zJ @jS.r5 (zJ @jS.r6 (zJ @jS.r8 (zJ @jS.r9 (zJ @jS.r10 (zJ @jS.r11 (zJ @jS.r12 (zJ @jS.r7 (@jS.r13)))))))))))))):=zJ @jS.r0 (zJ @jS.r1 (zJ @jS.r2 (zJ @jS.r3 (zJ @jS.r4 (zJ @jS.r5 (zJ @jS.r6 (zJ @jS.r8 (zJ @jS.r9 (zJ @jS.r10 (zJ @jS.r11 (zJ @jS.r12 (zJ @jS.r7 (@jS.r13)))))))))))))
theorem jS.runs {V U:zu}{S S1:zS}{e:wC}{T:List zu}(h:zX zi O false jS.code ([V,U,zh,zh,zh,zh,zh,zh,zh,zh,zh,zh,zh,zh,zh,zh,zh,zh,zh,zh,zh,zh,zh,zh,zh,zh,zh,zh,zh,zh,zh,zh,zh,zh,zh,zh,zh,zh,zh,zh,zh,zh,zh,zh,zh,zh,zh,zh,zh]) S=some (e,T,S1)) (he:e=.normal∨e=.ret)  (h0:yc (T.getD 4 zh)=true) (h1:yc (T.getD 5 zh)=true) (h2:yc (T.getD 6 zh)=true):zU zi O 29 [V,U] S=some (Value.tuple #[T.getD 4 zh,T.getD 5 zh,T.getD 6 zh],S1) :=
 xX rfl rfl Try.func29 (by decide) jS.body (by exact h) he ((Zc ((show jl zi T S1 Try.f29.results.toList=jl zi T S1 [(ResultVar.tmp 4),(ResultVar.tmp 5),(ResultVar.tmp 6)] from by kernel_rfl).trans (by simp only[jl])) (by kernel_rfl) (by simp only[List.all_cons,List.all_nil,h0,h1,h2,Bool.and_true])).trans rfl)
end
section
abbrev wJ.id :FuncId:=63
noncomputable def wJ.jg :Code:=(.seq (.region 5 (reg Try.f63 5) false) (.seq (.cond (.tmp 13) Code.skip (.exit 0)) (.seq (.block 1 (.seq (.region 6 (reg Try.f63 6) false) (.seq (.seq (.region 7 (reg Try.f63 7) false) (.cond (.tmp 17) (.seq (.region 8 (reg Try.f63 8) false) Code.ret) Code.skip)) (.region 9 (reg Try.f63 9) false)))) (.region 10 (reg Try.f63 10) false))))
noncomputable def wJ.code :Code:=(.seq (.region 0 (reg Try.f63 0) false) (.seq (.seq (.region 1 (reg Try.f63 1) false) (.cond (.tmp 9) (.seq (.region 2 (reg Try.f63 2) false) Code.ret) Code.skip)) (.seq (.region 3 (reg Try.f63 3) false) (.seq (.seq (.region 4 (reg Try.f63 4) false) (.block 0 (.loop wJ.jg))) (.seq (.region 11 (reg Try.f63 11) false) Code.ret)))))
theorem wJ.body :Try.f63.body=some wJ.code:=by kernel_rfl
theorem wJ.eta {T:List zu}(h:T.length=26):T=[T.getD 0 zh,T.getD 1 zh,T.getD 2 zh,T.getD 3 zh,T.getD 4 zh,T.getD 5 zh,T.getD 6 zh,T.getD 7 zh,T.getD 8 zh,T.getD 9 zh,T.getD 10 zh,T.getD 11 zh,T.getD 12 zh,T.getD 13 zh,T.getD 14 zh,T.getD 15 zh,T.getD 16 zh,T.getD 17 zh,T.getD 18 zh,T.getD 19 zh,T.getD 20 zh,T.getD 21 zh,T.getD 22 zh,T.getD 23 zh,T.getD 24 zh,T.getD 25 zh]:=(ZE T 26 h).trans (by kernel_rfl)
variable (s v A B u w t x y z b c a d f g i j k l m n o p q r:zu) (S:zS)
theorem wJ.r0 :zW zi ⟨false,false,false⟩ (zU zi O) (reg Try.f63 0) (reg Try.f63 0).toList ([s,v,A,B,u,w,t,x,y,z,b,c,a,d,f,g,i,j,k,l,m,n,o,p,q,r]) S =
  ( some ([s,v,Value.slice none 0 0,.int .i64 0,u,w,t,x,y,z,b,c,a,d,f,g,i,j,k,l,m,n,o,p,q,r],S)):=by kernel_rfl
theorem wJ.r1 :zW zi ⟨false,false,false⟩ (zU zi O) (reg Try.f63 1) (reg Try.f63 1).toList ([s,v,A,B,u,w,t,x,y,z,b,c,a,d,f,g,i,j,k,l,m,n,o,p,q,r]) S =
  (zT (yK zi 24 (zQ s) S) (fun D C=>zT (jd zi BinOp.gtr 3 D (.int .i64 64) C) (fun G F=>some ([s,v,A,B,u,w,t,zQ s,D,G,b,c,a,d,f,g,i,j,k,l,m,n,o,p,q,r],F)) ()) ()):=by kernel_rfl
theorem wJ.r2 :zW zi ⟨false,false,false⟩ (zU zi O) (reg Try.f63 2) (reg Try.f63 2).toList ([s,v,A,B,u,w,t,x,y,z,b,c,a,d,f,g,i,j,k,l,m,n,o,p,q,r]) S =
  ( some ([s,v,Value.slice none 0 0,.int .i64 11,u,w,t,x,y,z,b,c,a,d,f,g,i,j,k,l,m,n,o,p,q,r],S)):=by kernel_rfl
theorem wJ.r3 :zW zi ⟨false,false,false⟩ (zU zi O) (reg Try.f63 3) (reg Try.f63 3).toList ([s,v,A,B,u,w,t,x,y,z,b,c,a,d,f,g,i,j,k,l,m,n,o,p,q,r]) S =
  ( some ([s,v,A,B,Value.slice none 0 0,w,t,x,y,z,b,c,a,d,f,g,i,j,k,l,m,n,o,p,q,r],S)):=by kernel_rfl
theorem wJ.r4 :zW zi ⟨false,false,false⟩ (zU zi O) (reg Try.f63 4) (reg Try.f63 4).toList ([s,v,A,B,u,w,t,x,y,z,b,c,a,d,f,g,i,j,k,l,m,n,o,p,q,r]) S =
  (zT (yK zi 24 (zQ s) S) (fun D C=>some ([s,v,A,B,u,w,t,x,y,z,zQ s,D,.int .i64 0,d,f,g,i,j,k,l,m,n,o,p,q,r],C)) ()):=by kernel_rfl
theorem wJ.r5 :zW zi ⟨false,false,false⟩ (zU zi O) (reg Try.f63 5) (reg Try.f63 5).toList ([s,v,A,B,u,w,t,x,y,z,b,c,a,d,f,g,i,j,k,l,m,n,o,p,q,r]) S =
  (zT (jd zi BinOp.lss 3 a c S) (fun E C=>some ([s,v,A,B,u,w,t,x,y,z,b,c,a,E,f,g,i,j,k,l,m,n,o,p,q,r],C)) ()):=by kernel_rfl
theorem wJ.r6 :zW zi ⟨false,false,false⟩ (zU zi O) (reg Try.f63 6) (reg Try.f63 6).toList ([s,v,A,B,u,w,t,x,y,z,b,c,a,d,f,g,i,j,k,l,m,n,o,p,q,r]) S =
  (zT (jZ zi 24 b a S) (fun E C=>zT (zZ zi false 3 E C) (fun D F=>some ([s,v,A,B,u,w,D,x,y,z,b,c,a,d,E,zQ D,i,j,k,l,m,n,o,p,q,r],F)) ()) ()):=by kernel_rfl
theorem wJ.r7 :zW zi ⟨false,false,false⟩ (zU zi O) (reg Try.f63 7) (reg Try.f63 7).toList ([s,v,A,B,u,w,t,x,y,z,b,c,a,d,f,g,i,j,k,l,m,n,o,p,q,r]) S =
  (zT (jd zi BinOp.lss 3 (zQ t) (.int .i64 (-1)) S) (fun D C=>some ([s,v,A,B,u,w,t,x,y,z,b,c,a,d,f,g,zQ t,D,k,l,m,n,o,p,q,r],C)) ()):=by kernel_rfl
theorem wJ.r8 :zW zi ⟨false,false,false⟩ (zU zi O) (reg Try.f63 8) (reg Try.f63 8).toList ([s,v,A,B,u,w,t,x,y,z,b,c,a,d,f,g,i,j,k,l,m,n,o,p,q,r]) S =
  ( some ([s,v,Value.slice none 0 0,.int .i64 11,u,w,t,x,y,z,b,c,a,d,f,g,i,j,k,l,m,n,o,p,q,r],S)):=by kernel_rfl
theorem wJ.r9 :zW zi ⟨false,false,false⟩ (zU zi O) (reg Try.f63 9) (reg Try.f63 9).toList ([s,v,A,B,u,w,t,x,y,z,b,c,a,d,f,g,i,j,k,l,m,n,o,p,q,r]) S =
  (zT (qB zi false false 3 73 (zQ t) S) (fun G C=>zT (jd zi BinOp.add 73 G (Value.int IntKind.u64 1) C) (fun H F=>zT ((zU zi O) 72 [(zQ H)] F) (fun I K=>zT (yF zi 33 33 u I K) (fun J L=>some ([s,v,A,B,J,w,t,x,y,z,b,c,a,d,f,g,i,j,zQ u,zQ t,G,H,I,zQ J,q,r],L)) ()) ()) ()) ()):=by kernel_rfl
theorem wJ.r10 :zW zi ⟨false,false,false⟩ (zU zi O) (reg Try.f63 10) (reg Try.f63 10).toList ([s,v,A,B,u,w,t,x,y,z,b,c,a,d,f,g,i,j,k,l,m,n,o,p,q,r]) S =
  (zT (jd zi BinOp.add 3 a (.int .i64 1) S) (fun E C=>some ([s,v,A,B,u,w,t,x,y,z,b,c,zQ E,d,f,g,i,j,k,l,m,n,o,p,E,r],C)) ()):=by kernel_rfl
theorem wJ.r11 :zW zi ⟨false,false,false⟩ (zU zi O) (reg Try.f63 11) (reg Try.f63 11).toList ([s,v,A,B,u,w,t,x,y,z,b,c,a,d,f,g,i,j,k,l,m,n,o,p,q,r]) S =
  ( some ([s,v,u,.int .i64 0,zQ u,w,t,x,y,z,b,c,a,d,f,g,i,j,k,l,m,n,o,p,q,zQ u],S)):=by kernel_rfl
theorem wJ.rs :type_of% (zJ @wJ.r0 (zJ @wJ.r1 (zJ @wJ.r2 (zJ @wJ.r3 (zJ @wJ.r4 (zJ @wJ.r5 (zJ @wJ.r6 (zJ @wJ.r7 (zJ @wJ.r8 (zJ @wJ.r9 (zJ @wJ.r10 (@wJ.r11)))))))))))):=zJ @wJ.r0 (zJ @wJ.r1 (zJ @wJ.r2 (zJ @wJ.r3 (zJ @wJ.r4 (zJ @wJ.r5 (zJ @wJ.r6 (zJ @wJ.r7 (zJ @wJ.r8 (zJ @wJ.r9 (zJ @wJ.r10 (@wJ.r11)))))))))))
theorem wJ.runs {s:zu}{S C:zS}{e:wC}{T:List zu}(h:zX zi O false wJ.code ([s,zh,zh,zh,zh,zh,zh,zh,zh,zh,zh,zh,zh,zh,zh,zh,zh,zh,zh,zh,zh,zh,zh,zh,zh,zh]) S=some (e,T,C)) (he:e=.normal∨e=.ret)  (h0:yc (T.getD 2 zh)=true) (h1:yc (T.getD 3 zh)=true):zU zi O 63 [s] S=some (Value.tuple #[T.getD 2 zh,T.getD 3 zh],C) :=
 xX rfl rfl Try.func63 (by decide) wJ.body (by exact h) he ((Zc ((show jl zi T C Try.f63.results.toList=jl zi T C [(ResultVar.tmp 2),(ResultVar.tmp 3)] from by kernel_rfl).trans (by simp only[jl])) (by kernel_rfl) (by simp only[List.all_cons,List.all_nil,h0,h1,Bool.and_true])).trans rfl)
end
section
abbrev wF.id :FuncId:=35
noncomputable def wF.jg :Code:=(.seq (.region 5 (reg Try.f35 5) false) (.seq (.cond (.tmp 14) Code.skip (.exit 0)) (.seq (.block 1 (.seq (.region 6 (reg Try.f35 6) false) (.seq (.seq (.region 7 (reg Try.f35 7) false) (.cond (.tmp 18) (.seq (.region 8 (reg Try.f35 8) false) Code.ret) Code.skip)) (.region 9 (reg Try.f35 9) false)))) (.region 10 (reg Try.f35 10) false))))
noncomputable def wF.code :Code:=(.seq (.region 0 (reg Try.f35 0) false) (.seq (.seq (.region 1 (reg Try.f35 1) false) (.cond (.tmp 9) (.seq (.region 2 (reg Try.f35 2) false) Code.ret) Code.skip)) (.seq (.region 3 (reg Try.f35 3) false) (.seq (.seq (.region 4 (reg Try.f35 4) false) (.block 0 (.loop wF.jg))) (.seq (.region 11 (reg Try.f35 11) false) Code.ret)))))
theorem wF.body :Try.f35.body=some wF.code:=by kernel_rfl
theorem wF.eta {T:List zu}(h:T.length=27):T=[T.getD 0 zh,T.getD 1 zh,T.getD 2 zh,T.getD 3 zh,T.getD 4 zh,T.getD 5 zh,T.getD 6 zh,T.getD 7 zh,T.getD 8 zh,T.getD 9 zh,T.getD 10 zh,T.getD 11 zh,T.getD 12 zh,T.getD 13 zh,T.getD 14 zh,T.getD 15 zh,T.getD 16 zh,T.getD 17 zh,T.getD 18 zh,T.getD 19 zh,T.getD 20 zh,T.getD 21 zh,T.getD 22 zh,T.getD 23 zh,T.getD 24 zh,T.getD 25 zh,T.getD 26 zh]:=(ZE T 27 h).trans (by kernel_rfl)
variable (t w B C v x u y z A d b c a f g i j k l m n o p q r s:zu) (S:zS)
theorem wF.r0 :zW zi ⟨false,false,false⟩ (zU zi O) (reg Try.f35 0) (reg Try.f35 0).toList ([t,w,B,C,v,x,u,y,z,A,d,b,c,a,f,g,i,j,k,l,m,n,o,p,q,r,s]) S =
  ( some ([t,w,Value.slice none 0 0,.int .i64 0,v,x,u,y,z,A,d,b,c,a,f,g,i,j,k,l,m,n,o,p,q,r,s],S)):=by kernel_rfl
theorem wF.r1 :zW zi ⟨false,false,false⟩ (zU zi O) (reg Try.f35 1) (reg Try.f35 1).toList ([t,w,B,C,v,x,u,y,z,A,d,b,c,a,f,g,i,j,k,l,m,n,o,p,q,r,s]) S =
  (zT (yK zi 24 (zQ t) S) (fun F D=>zT (jd zi BinOp.gtr 3 F (.int .i64 64) D) (fun H G=>some ([t,w,B,C,v,x,u,zQ t,F,H,d,b,c,a,f,g,i,j,k,l,m,n,o,p,q,r,s],G)) ()) ()):=by kernel_rfl
theorem wF.r2 :zW zi ⟨false,false,false⟩ (zU zi O) (reg Try.f35 2) (reg Try.f35 2).toList ([t,w,B,C,v,x,u,y,z,A,d,b,c,a,f,g,i,j,k,l,m,n,o,p,q,r,s]) S =
  ( some ([t,w,Value.slice none 0 0,.int .i64 11,v,x,u,y,z,A,d,b,c,a,f,g,i,j,k,l,m,n,o,p,q,r,s],S)):=by kernel_rfl
theorem wF.r3 :zW zi ⟨false,false,false⟩ (zU zi O) (reg Try.f35 3) (reg Try.f35 3).toList ([t,w,B,C,v,x,u,y,z,A,d,b,c,a,f,g,i,j,k,l,m,n,o,p,q,r,s]) S =
  (zT (yO zi 33 0 [] S) (fun E D=>some ([t,w,B,C,E,x,u,y,z,A,zQ E,b,c,a,f,g,i,j,k,l,m,n,o,p,q,r,s],D)) ()):=by kernel_rfl
theorem wF.r4 :zW zi ⟨false,false,false⟩ (zU zi O) (reg Try.f35 4) (reg Try.f35 4).toList ([t,w,B,C,v,x,u,y,z,A,d,b,c,a,f,g,i,j,k,l,m,n,o,p,q,r,s]) S =
  (zT (yK zi 24 (zQ t) S) (fun F D=>some ([t,w,B,C,v,x,u,y,z,A,d,zQ t,F,.int .i64 0,f,g,i,j,k,l,m,n,o,p,q,r,s],D)) ()):=by kernel_rfl
theorem wF.r5 :zW zi ⟨false,false,false⟩ (zU zi O) (reg Try.f35 5) (reg Try.f35 5).toList ([t,w,B,C,v,x,u,y,z,A,d,b,c,a,f,g,i,j,k,l,m,n,o,p,q,r,s]) S =
  (zT (jd zi BinOp.lss 3 a c S) (fun E D=>some ([t,w,B,C,v,x,u,y,z,A,d,b,c,a,E,g,i,j,k,l,m,n,o,p,q,r,s],D)) ()):=by kernel_rfl
theorem wF.r6 :zW zi ⟨false,false,false⟩ (zU zi O) (reg Try.f35 6) (reg Try.f35 6).toList ([t,w,B,C,v,x,u,y,z,A,d,b,c,a,f,g,i,j,k,l,m,n,o,p,q,r,s]) S =
  (zT (jZ zi 24 b a S) (fun E D=>zT (zZ zi false 3 E D) (fun F G=>some ([t,w,B,C,v,x,F,y,z,A,d,b,c,a,f,E,zQ F,j,k,l,m,n,o,p,q,r,s],G)) ()) ()):=by kernel_rfl
theorem wF.r7 :zW zi ⟨false,false,false⟩ (zU zi O) (reg Try.f35 7) (reg Try.f35 7).toList ([t,w,B,C,v,x,u,y,z,A,d,b,c,a,f,g,i,j,k,l,m,n,o,p,q,r,s]) S =
  (zT (jd zi BinOp.lss 3 (zQ u) (.int .i64 (-1)) S) (fun F D=>some ([t,w,B,C,v,x,u,y,z,A,d,b,c,a,f,g,i,zQ u,F,l,m,n,o,p,q,r,s],D)) ()):=by kernel_rfl
theorem wF.r8 :zW zi ⟨false,false,false⟩ (zU zi O) (reg Try.f35 8) (reg Try.f35 8).toList ([t,w,B,C,v,x,u,y,z,A,d,b,c,a,f,g,i,j,k,l,m,n,o,p,q,r,s]) S =
  ( some ([t,w,Value.slice none 0 0,.int .i64 11,v,x,u,y,z,A,d,b,c,a,f,g,i,j,k,l,m,n,o,p,q,r,s],S)):=by kernel_rfl
theorem wF.r9 :zW zi ⟨false,false,false⟩ (zU zi O) (reg Try.f35 9) (reg Try.f35 9).toList ([t,w,B,C,v,x,u,y,z,A,d,b,c,a,f,g,i,j,k,l,m,n,o,p,q,r,s]) S =
  (zT (qB zi false false 3 73 (zQ u) S) (fun H D=>zT (jd zi BinOp.add 73 H (Value.int IntKind.u64 1) D) (fun I G=>zT ((zU zi O) 38 [(zQ I)] G) (fun J L=>zT (yF zi 33 33 v J L) (fun K M=>some ([t,w,B,C,K,x,u,y,z,A,d,b,c,a,f,g,i,j,k,zQ v,zQ u,H,I,J,zQ K,r,s],M)) ()) ()) ()) ()):=by kernel_rfl
theorem wF.r10 :zW zi ⟨false,false,false⟩ (zU zi O) (reg Try.f35 10) (reg Try.f35 10).toList ([t,w,B,C,v,x,u,y,z,A,d,b,c,a,f,g,i,j,k,l,m,n,o,p,q,r,s]) S =
  (zT (jd zi BinOp.add 3 a (.int .i64 1) S) (fun E D=>some ([t,w,B,C,v,x,u,y,z,A,d,b,c,zQ E,f,g,i,j,k,l,m,n,o,p,q,E,s],D)) ()):=by kernel_rfl
theorem wF.r11 :zW zi ⟨false,false,false⟩ (zU zi O) (reg Try.f35 11) (reg Try.f35 11).toList ([t,w,B,C,v,x,u,y,z,A,d,b,c,a,f,g,i,j,k,l,m,n,o,p,q,r,s]) S =
  ( some ([t,w,v,.int .i64 0,zQ v,x,u,y,z,A,d,b,c,a,f,g,i,j,k,l,m,n,o,p,q,r,zQ v],S)):=by kernel_rfl
theorem wF.rs :type_of% (zJ @wF.r0 (zJ @wF.r1 (zJ @wF.r2 (zJ @wF.r3 (zJ @wF.r4 (zJ @wF.r5 (zJ @wF.r6 (zJ @wF.r7 (zJ @wF.r8 (zJ @wF.r9 (zJ @wF.r10 (@wF.r11)))))))))))):=zJ @wF.r0 (zJ @wF.r1 (zJ @wF.r2 (zJ @wF.r3 (zJ @wF.r4 (zJ @wF.r5 (zJ @wF.r6 (zJ @wF.r7 (zJ @wF.r8 (zJ @wF.r9 (zJ @wF.r10 (@wF.r11)))))))))))
theorem wF.runs {t:zu}{S D:zS}{e:wC}{T:List zu}(h:zX zi O false wF.code ([t,zh,zh,zh,zh,zh,zh,zh,zh,zh,zh,zh,zh,zh,zh,zh,zh,zh,zh,zh,zh,zh,zh,zh,zh,zh,zh]) S=some (e,T,D)) (he:e=.normal∨e=.ret)  (h0:yc (T.getD 2 zh)=true) (h1:yc (T.getD 3 zh)=true):zU zi O 35 [t] S=some (Value.tuple #[T.getD 2 zh,T.getD 3 zh],D) :=
 xX rfl rfl Try.func35 (by decide) wF.body (by exact h) he ((Zc ((show jl zi T D Try.f35.results.toList=jl zi T D [(ResultVar.tmp 2),(ResultVar.tmp 3)] from by kernel_rfl).trans (by simp only[jl])) (by kernel_rfl) (by simp only[List.all_cons,List.all_nil,h0,h1,Bool.and_true])).trans rfl)
end
section
abbrev wK.id :FuncId:=28
noncomputable def wK.jg :Code:=(.seq (.seq (.region 4 (reg Try.f28 4) false) (.cond (.tmp 17) Code.skip (.exit 0))) (.seq (.block 1 (.seq (.region 6 (reg Try.f28 6) false) (.seq (.seq (.region 7 (reg Try.f28 7) false) (.cond (.tmp 31) (.seq (.region 8 (reg Try.f28 8) false) Code.ret) Code.skip)) (.seq (.region 9 (reg Try.f28 9) false) (.seq (.region 10 (reg Try.f28 10) false) (.seq (.region 11 (reg Try.f28 11) false) (.cond (.tmp 43) (.seq (.region 12 (reg Try.f28 12) false) (.seq (.seq (.region 13 (reg Try.f28 13) false) (.cond (.tmp 50) (.seq (.region 14 (reg Try.f28 14) false) Code.ret) Code.skip)) (.seq (.region 15 (reg Try.f28 15) false) Code.ret))) Code.skip))))))) (.region 5 (reg Try.f28 5) false)))
noncomputable def wK.code :Code:=(.seq (.region 0 (reg Try.f28 0) false) (.seq (.region 1 (reg Try.f28 1) false) (.seq (.region 2 (reg Try.f28 2) false) (.seq (.seq (.region 3 (reg Try.f28 3) false) (.block 0 (.loop wK.jg))) (.seq (.region 16 (reg Try.f28 16) false) Code.ret)))))
theorem wK.body :Try.f28.body=some wK.code:=by kernel_rfl
theorem wK.eta {T:List zu}(h:T.length=58):T=[T.getD 0 zh,T.getD 1 zh,T.getD 2 zh,T.getD 3 zh,T.getD 4 zh,T.getD 5 zh,T.getD 6 zh,T.getD 7 zh,T.getD 8 zh,T.getD 9 zh,T.getD 10 zh,T.getD 11 zh,T.getD 12 zh,T.getD 13 zh,T.getD 14 zh,T.getD 15 zh,T.getD 16 zh,T.getD 17 zh,T.getD 18 zh,T.getD 19 zh,T.getD 20 zh,T.getD 21 zh,T.getD 22 zh,T.getD 23 zh,T.getD 24 zh,T.getD 25 zh,T.getD 26 zh,T.getD 27 zh,T.getD 28 zh,T.getD 29 zh,T.getD 30 zh,T.getD 31 zh,T.getD 32 zh,T.getD 33 zh,T.getD 34 zh,T.getD 35 zh,T.getD 36 zh,T.getD 37 zh,T.getD 38 zh,T.getD 39 zh,T.getD 40 zh,T.getD 41 zh,T.getD 42 zh,T.getD 43 zh,T.getD 44 zh,T.getD 45 zh,T.getD 46 zh,T.getD 47 zh,T.getD 48 zh,T.getD 49 zh,T.getD 50 zh,T.getD 51 zh,T.getD 52 zh,T.getD 53 zh,T.getD 54 zh,T.getD 55 zh,T.getD 56 zh,T.getD 57 zh]:=(ZE T 58 h).trans (by kernel_rfl)
theorem wK.list {T:List zu}(h:T.length=58):∃x0 x1 x2 x3 x4 x5 x6 x7 x8 x9 a b c d f g i k l m n o p q r s t u w x y z A B C D E F G H I J K L M N P Q R U V W X Y Z a0 a1 a2,T=[x0,x1,x2,x3,x4,x5,x6,x7,x8,x9,a,b,c,d,f,g,i,k,l,m,n,o,p,q,r,s,t,u,w,x,y,z,A,B,C,D,E,F,G,H,I,J,K,L,M,N,P,Q,R,U,V,W,X,Y,Z,a0,a1,a2]:=⟨_,_,_,_,_,_,_,_,_,_,_,_,_,_,_,_,_,_,_,_,_,_,_,_,_,_,_,_,_,_,_,_,_,_,_,_,_,_,_,_,_,_,_,_,_,_,_,_,_,_,_,_,_,_,_,_,_,_,wK.eta h⟩
variable (x0 x1 x2 x3 x4 x5 x6 x7 x8 x9 a b c d f g i k l m n o p q r s t u w x y z A B C D E F G H I J K L M N P Q R U V W X Y Z a0 a1 a2:zu) (S:zS)
theorem wK.r0 :zW zi ⟨false,false,false⟩ (zU zi O) (reg Try.f28 0) (reg Try.f28 0).toList ([x0,x1,x2,x3,x4,x5,x6,x7,x8,x9,a,b,c,d,f,g,i,k,l,m,n,o,p,q,r,s,t,u,w,x,y,z,A,B,C,D,E,F,G,H,I,J,K,L,M,N,P,Q,R,U,V,W,X,Y,Z,a0,a1,a2]) S =
  ( some ([x0,x1,Value.int IntKind.u64 0,Value.slice none 0 0,.int .i64 0,x5,x6,x7,x8,x9,a,b,c,d,f,g,i,k,l,m,n,o,p,q,r,s,t,u,w,x,y,z,A,B,C,D,E,F,G,H,I,J,K,L,M,N,P,Q,R,U,V,W,X,Y,Z,a0,a1,a2],S)):=by kernel_rfl
theorem wK.r1 :zW zi ⟨false,false,false⟩ (zU zi O) (reg Try.f28 1) (reg Try.f28 1).toList ([x0,x1,x2,x3,x4,x5,x6,x7,x8,x9,a,b,c,d,f,g,i,k,l,m,n,o,p,q,r,s,t,u,w,x,y,z,A,B,C,D,E,F,G,H,I,J,K,L,M,N,P,Q,R,U,V,W,X,Y,Z,a0,a1,a2]) S =
  ( some ([x0,x1,x2,x3,x4,Value.int IntKind.u64 0,x6,x7,x8,x9,a,b,c,d,f,g,i,k,l,m,n,o,p,q,r,s,t,u,w,x,y,z,A,B,C,D,E,F,G,H,I,J,K,L,M,N,P,Q,R,U,V,W,X,Y,Z,a0,a1,a2],S)):=by kernel_rfl
theorem wK.r2 :zW zi ⟨false,false,false⟩ (zU zi O) (reg Try.f28 2) (reg Try.f28 2).toList ([x0,x1,x2,x3,x4,x5,x6,x7,x8,x9,a,b,c,d,f,g,i,k,l,m,n,o,p,q,r,s,t,u,w,x,y,z,A,B,C,D,E,F,G,H,I,J,K,L,M,N,P,Q,R,U,V,W,X,Y,Z,a0,a1,a2]) S =
  ( some ([x0,x1,x2,x3,x4,x5,Value.int IntKind.u64 1,x7,x8,x9,a,b,c,d,f,g,i,k,l,m,n,o,p,q,r,s,t,u,w,x,y,z,A,B,C,D,E,F,G,H,I,J,K,L,M,N,P,Q,R,U,V,W,X,Y,Z,a0,a1,a2],S)):=by kernel_rfl
theorem wK.r3 :zW zi ⟨false,false,false⟩ (zU zi O) (reg Try.f28 3) (reg Try.f28 3).toList ([x0,x1,x2,x3,x4,x5,x6,x7,x8,x9,a,b,c,d,f,g,i,k,l,m,n,o,p,q,r,s,t,u,w,x,y,z,A,B,C,D,E,F,G,H,I,J,K,L,M,N,P,Q,R,U,V,W,X,Y,Z,a0,a1,a2]) S =
  ( some ([x0,x1,x2,x3,x4,x5,x6,.int .i64 0,x8,x9,a,b,c,d,f,g,i,k,l,m,n,o,p,q,r,s,t,u,w,x,y,z,A,B,C,D,E,F,G,H,I,J,K,L,M,N,P,Q,R,U,V,W,X,Y,Z,a0,a1,a2],S)):=by kernel_rfl
theorem wK.r4 :zW zi ⟨false,false,false⟩ (zU zi O) (reg Try.f28 4) (reg Try.f28 4).toList ([x0,x1,x2,x3,x4,x5,x6,x7,x8,x9,a,b,c,d,f,g,i,k,l,m,n,o,p,q,r,s,t,u,w,x,y,z,A,B,C,D,E,F,G,H,I,J,K,L,M,N,P,Q,R,U,V,W,X,Y,Z,a0,a1,a2]) S =
  (zT (yK zi 33 (zQ x0) S) (fun v2 S1=>zT (jd zi BinOp.lss 3 (zQ x7) v2 S1) (fun v3 S2=>zY (zQ v3) true (ret x7) S2 (fun v5 S3=>zY (zQ v3) true (jd zi BinOp.lss 3 (zQ v5) (.int .i64 10)) S3 (fun v6 S4=>zT (jH (zQ v3) v6 (Value.bool false) S4) (fun v7 S5=>some ([x0,x1,x2,x3,x4,x5,x6,x7,x8,x9,zQ x7,zQ x0,v2,v3,zQ v3,zQ v5,v6,v7,l,m,n,o,p,q,r,s,t,u,w,x,y,z,A,B,C,D,E,F,G,H,I,J,K,L,M,N,P,Q,R,U,V,W,X,Y,Z,a0,a1,a2],S5)) ()) ()) ()) ()) ()):=by
 refine sP Try.f28 4 0 (v:=x7) ?_;refine sP Try.f28 4 1 (v:=x0) ?_;refine sD Try.f28 4 2 (fun v2 S1=>?_)
 refine sD Try.f28 4 3 (fun v3 S2=>?_)
 refine sP Try.f28 4 4 (v:=v3) ?_;refine sG Try.f28 4 5 (j:=4) (fun v5 S3=>?_)
 refine sG Try.f28 4 6 (j:=4) (fun v6 S4=>?_)
 refine sD Try.f28 4 7 (fun v7 S5=>?_)
 kernel_rfl
theorem wK.r6 :zW zi ⟨false,false,false⟩ (zU zi O) (reg Try.f28 6) (reg Try.f28 6).toList ([x0,x1,x2,x3,x4,x5,x6,x7,x8,x9,a,b,c,d,f,g,i,k,l,m,n,o,p,q,r,s,t,u,w,x,y,z,A,B,C,D,E,F,G,H,I,J,K,L,M,N,P,Q,R,U,V,W,X,Y,Z,a0,a1,a2]) S =
  (zT (jZ zi 33 (zQ x0) (zQ x7) S) (fun v2 S1=>zT (zZ zi false 5 v2 S1) (fun v3 S2=>zT (jd zi BinOp.rem 5 v3 (Value.int IntKind.u8 128) S2) (fun v4 S3=>zT (qB zi false false 5 73 v4 S3) (fun v5 S4=>some ([x0,x1,x2,x3,x4,x5,x6,x7,v5,x9,a,b,c,d,f,g,i,k,l,m,zQ x0,zQ x7,v2,v3,v4,zQ v5,t,u,w,x,y,z,A,B,C,D,E,F,G,H,I,J,K,L,M,N,P,Q,R,U,V,W,X,Y,Z,a0,a1,a2],S4)) ()) ()) ()) ()):=by kernel_rfl
theorem wK.r7 :zW zi ⟨false,false,false⟩ (zU zi O) (reg Try.f28 7) (reg Try.f28 7).toList ([x0,x1,x2,x3,x4,x5,x6,x7,x8,x9,a,b,c,d,f,g,i,k,l,m,n,o,p,q,r,s,t,u,w,x,y,z,A,B,C,D,E,F,G,H,I,J,K,L,M,N,P,Q,R,U,V,W,X,Y,Z,a0,a1,a2]) S =
  (zT (jd zi BinOp.eql 3 (zQ x7) (.int .i64 9) S) (fun v1 S1=>zY (zQ v1) true (ret x8) S1 (fun v3 S2=>zY (zQ v1) true (jd zi BinOp.gtr 73 (zQ v3) (Value.int IntKind.u64 1)) S2 (fun v4 S3=>zT (jH (zQ v1) v4 (Value.bool false) S3) (fun v5 S4=>some ([x0,x1,x2,x3,x4,x5,x6,x7,x8,x9,a,b,c,d,f,g,i,k,l,m,n,o,p,q,r,s,zQ x7,v1,zQ v1,zQ v3,v4,v5,A,B,C,D,E,F,G,H,I,J,K,L,M,N,P,Q,R,U,V,W,X,Y,Z,a0,a1,a2],S4)) ()) ()) ()) ()):=by
 refine sP Try.f28 7 0 (v:=x7) ?_;refine sD Try.f28 7 1 (fun v1 S1=>?_)
 refine sP Try.f28 7 2 (v:=v1) ?_;refine sG Try.f28 7 3 (j:=2) (fun v3 S2=>?_)
 refine sG Try.f28 7 4 (j:=2) (fun v4 S3=>?_)
 refine sD Try.f28 7 5 (fun v5 S4=>?_)
 kernel_rfl
theorem wK.r8 :zW zi ⟨false,false,false⟩ (zU zi O) (reg Try.f28 8) (reg Try.f28 8).toList ([x0,x1,x2,x3,x4,x5,x6,x7,x8,x9,a,b,c,d,f,g,i,k,l,m,n,o,p,q,r,s,t,u,w,x,y,z,A,B,C,D,E,F,G,H,I,J,K,L,M,N,P,Q,R,U,V,W,X,Y,Z,a0,a1,a2]) S =
  ( some ([x0,x1,Value.int IntKind.u64 0,Value.slice none 0 0,.int .i64 11,x5,x6,x7,x8,x9,a,b,c,d,f,g,i,k,l,m,n,o,p,q,r,s,t,u,w,x,y,z,A,B,C,D,E,F,G,H,I,J,K,L,M,N,P,Q,R,U,V,W,X,Y,Z,a0,a1,a2],S)):=by kernel_rfl
theorem wK.r9 :zW zi ⟨false,false,false⟩ (zU zi O) (reg Try.f28 9) (reg Try.f28 9).toList ([x0,x1,x2,x3,x4,x5,x6,x7,x8,x9,a,b,c,d,f,g,i,k,l,m,n,o,p,q,r,s,t,u,w,x,y,z,A,B,C,D,E,F,G,H,I,J,K,L,M,N,P,Q,R,U,V,W,X,Y,Z,a0,a1,a2]) S =
  (zT (jd zi BinOp.mul 73 (zQ x8) (zQ x6) S) (fun v3 S1=>zT (jd zi BinOp.add 73 (zQ x5) v3 S1) (fun v4 S2=>some ([x0,x1,x2,x3,x4,v4,x6,x7,x8,x9,a,b,c,d,f,g,i,k,l,m,n,o,p,q,r,s,t,u,w,x,y,z,zQ x5,zQ x8,zQ x6,v3,zQ v4,F,G,H,I,J,K,L,M,N,P,Q,R,U,V,W,X,Y,Z,a0,a1,a2],S2)) ()) ()):=by kernel_rfl
theorem wK.r10 :zW zi ⟨false,false,false⟩ (zU zi O) (reg Try.f28 10) (reg Try.f28 10).toList ([x0,x1,x2,x3,x4,x5,x6,x7,x8,x9,a,b,c,d,f,g,i,k,l,m,n,o,p,q,r,s,t,u,w,x,y,z,A,B,C,D,E,F,G,H,I,J,K,L,M,N,P,Q,R,U,V,W,X,Y,Z,a0,a1,a2]) S =
  (zT (jd zi BinOp.mul 73 (zQ x6) (Value.int IntKind.u64 128) S) (fun v1 S1=>some ([x0,x1,x2,x3,x4,x5,v1,x7,x8,x9,a,b,c,d,f,g,i,k,l,m,n,o,p,q,r,s,t,u,w,x,y,z,A,B,C,D,E,zQ x6,zQ v1,H,I,J,K,L,M,N,P,Q,R,U,V,W,X,Y,Z,a0,a1,a2],S1)) ()):=by kernel_rfl
theorem wK.r11 :zW zi ⟨false,false,false⟩ (zU zi O) (reg Try.f28 11) (reg Try.f28 11).toList ([x0,x1,x2,x3,x4,x5,x6,x7,x8,x9,a,b,c,d,f,g,i,k,l,m,n,o,p,q,r,s,t,u,w,x,y,z,A,B,C,D,E,F,G,H,I,J,K,L,M,N,P,Q,R,U,V,W,X,Y,Z,a0,a1,a2]) S =
  (zT (jZ zi 33 (zQ x0) (zQ x7) S) (fun v2 S1=>zT (zZ zi false 5 v2 S1) (fun v3 S2=>zT (jd zi BinOp.lss 5 v3 (Value.int IntKind.u8 128) S2) (fun v4 S3=>some ([x0,x1,x2,x3,x4,x5,x6,x7,x8,x9,a,b,c,d,f,g,i,k,l,m,n,o,p,q,r,s,t,u,w,x,y,z,A,B,C,D,E,F,G,zQ x0,zQ x7,v2,v3,v4,M,N,P,Q,R,U,V,W,X,Y,Z,a0,a1,a2],S3)) ()) ()) ()):=by kernel_rfl
theorem wK.r12 :zW zi ⟨false,false,false⟩ (zU zi O) (reg Try.f28 12) (reg Try.f28 12).toList ([x0,x1,x2,x3,x4,x5,x6,x7,x8,x9,a,b,c,d,f,g,i,k,l,m,n,o,p,q,r,s,t,u,w,x,y,z,A,B,C,D,E,F,G,H,I,J,K,L,M,N,P,Q,R,U,V,W,X,Y,Z,a0,a1,a2]) S =
  (zT ((zU zi O) 38 [(zQ (zQ x5))] S) (fun v1 S1=>some ([x0,x1,x2,x3,x4,x5,x6,x7,x8,v1,a,b,c,d,f,g,i,k,l,m,n,o,p,q,r,s,t,u,w,x,y,z,A,B,C,D,E,F,G,H,I,J,K,L,zQ x5,zQ v1,P,Q,R,U,V,W,X,Y,Z,a0,a1,a2],S1)) ()):=by kernel_rfl
theorem wK.r13 :zW zi ⟨false,false,false⟩ (zU zi O) (reg Try.f28 13) (reg Try.f28 13).toList ([x0,x1,x2,x3,x4,x5,x6,x7,x8,x9,a,b,c,d,f,g,i,k,l,m,n,o,p,q,r,s,t,u,w,x,y,z,A,B,C,D,E,F,G,H,I,J,K,L,M,N,P,Q,R,U,V,W,X,Y,Z,a0,a1,a2]) S =
  (zT (yK zi 33 (zQ x9) S) (fun v1 S1=>zT (jd zi BinOp.add 3 (zQ x7) (.int .i64 1) S1) (fun v3 S2=>zT (jd zi BinOp.neq 3 v1 v3 S2) (fun v4 S3=>some ([x0,x1,x2,x3,x4,x5,x6,x7,x8,x9,a,b,c,d,f,g,i,k,l,m,n,o,p,q,r,s,t,u,w,x,y,z,A,B,C,D,E,F,G,H,I,J,K,L,M,N,zQ x9,v1,zQ x7,v3,v4,W,X,Y,Z,a0,a1,a2],S3)) ()) ()) ()):=by kernel_rfl
theorem wK.vP :zW zi ⟨false,false,false⟩ (zU zi O) (reg Try.f28 14) (reg Try.f28 14).toList ([x0,x1,x2,x3,x4,x5,x6,x7,x8,x9,a,b,c,d,f,g,i,k,l,m,n,o,p,q,r,s,t,u,w,x,y,z,A,B,C,D,E,F,G,H,I,J,K,L,M,N,P,Q,R,U,V,W,X,Y,Z,a0,a1,a2]) S =
  ( some ([x0,x1,Value.int IntKind.u64 0,Value.slice none 0 0,.int .i64 11,x5,x6,x7,x8,x9,a,b,c,d,f,g,i,k,l,m,n,o,p,q,r,s,t,u,w,x,y,z,A,B,C,D,E,F,G,H,I,J,K,L,M,N,P,Q,R,U,V,W,X,Y,Z,a0,a1,a2],S)):=by kernel_rfl
theorem wK.Zi :zW zi ⟨false,false,false⟩ (zU zi O) (reg Try.f28 15) (reg Try.f28 15).toList ([x0,x1,x2,x3,x4,x5,x6,x7,x8,x9,a,b,c,d,f,g,i,k,l,m,n,o,p,q,r,s,t,u,w,x,y,z,A,B,C,D,E,F,G,H,I,J,K,L,M,N,P,Q,R,U,V,W,X,Y,Z,a0,a1,a2]) S =
  (zT (yO zi 33 0 [] S) (fun v1 S1=>zT (jd zi BinOp.add 3 (zQ x7) (.int .i64 1) S1) (fun v4 S2=>zT (WZ zi false 33 (zQ x0) (some v4) none S2) (fun v5 S3=>zT (yF zi 33 33 v1 v5 S3) (fun v6 S4=>some ([x0,x1,x5,v6,.int .i64 0,zQ x5,x6,x7,x8,x9,a,b,c,d,f,g,i,k,l,m,n,o,p,q,r,s,t,u,w,x,y,z,A,B,C,D,E,F,G,H,I,J,K,L,M,N,P,Q,R,U,V,zQ x5,zQ v1,zQ x0,zQ x7,v4,v5,zQ v6],S4)) ()) ()) ()) ()):=by kernel_rfl
theorem wK.r5 :zW zi ⟨false,false,false⟩ (zU zi O) (reg Try.f28 5) (reg Try.f28 5).toList ([x0,x1,x2,x3,x4,x5,x6,x7,x8,x9,a,b,c,d,f,g,i,k,l,m,n,o,p,q,r,s,t,u,w,x,y,z,A,B,C,D,E,F,G,H,I,J,K,L,M,N,P,Q,R,U,V,W,X,Y,Z,a0,a1,a2]) S =
  (zT (jd zi BinOp.add 3 (zQ x7) (.int .i64 1) S) (fun v1 S1=>some ([x0,x1,x2,x3,x4,x5,x6,v1,x8,x9,a,b,c,d,f,g,i,k,zQ x7,zQ v1,n,o,p,q,r,s,t,u,w,x,y,z,A,B,C,D,E,F,G,H,I,J,K,L,M,N,P,Q,R,U,V,W,X,Y,Z,a0,a1,a2],S1)) ()):=by kernel_rfl
theorem wK.r16 :zW zi ⟨false,false,false⟩ (zU zi O) (reg Try.f28 16) (reg Try.f28 16).toList ([x0,x1,x2,x3,x4,x5,x6,x7,x8,x9,a,b,c,d,f,g,i,k,l,m,n,o,p,q,r,s,t,u,w,x,y,z,A,B,C,D,E,F,G,H,I,J,K,L,M,N,P,Q,R,U,V,W,X,Y,Z,a0,a1,a2]) S =
  ( some ([x0,x1,Value.int IntKind.u64 0,Value.slice none 0 0,.int .i64 11,x5,x6,x7,x8,x9,a,b,c,d,f,g,i,k,l,m,n,o,p,q,r,s,t,u,w,x,y,z,A,B,C,D,E,F,G,H,I,J,K,L,M,N,P,Q,R,U,V,W,X,Y,Z,a0,a1,a2],S)):=by kernel_rfl
theorem wK.runs {x0:zu}{S S1:zS}{e:wC}{T:List zu}(h:zX zi O false wK.code ([x0,zh,zh,zh,zh,zh,zh,zh,zh,zh,zh,zh,zh,zh,zh,zh,zh,zh,zh,zh,zh,zh,zh,zh,zh,zh,zh,zh,zh,zh,zh,zh,zh,zh,zh,zh,zh,zh,zh,zh,zh,zh,zh,zh,zh,zh,zh,zh,zh,zh,zh,zh,zh,zh,zh,zh,zh,zh]) S=some (e,T,S1)) (he:e=.normal∨e=.ret)  (h0:yc (T.getD 2 zh)=true) (h1:yc (T.getD 3 zh)=true) (h2:yc (T.getD 4 zh)=true):zU zi O 28 [x0] S=some (Value.tuple #[T.getD 2 zh,T.getD 3 zh,T.getD 4 zh],S1) :=
 xX rfl rfl Try.func28 (by decide) wK.body (by exact h) he ((Zc ((show jl zi T S1 Try.f28.results.toList=jl zi T S1 [(ResultVar.tmp 2),(ResultVar.tmp 3),(ResultVar.tmp 4)] from by kernel_rfl).trans (by simp only[jl])) (by kernel_rfl) (by simp only[List.all_cons,List.all_nil,h0,h1,h2,Bool.and_true])).trans rfl)
end
section
abbrev slices_Clone.id :FuncId:=54
noncomputable def slices_Clone.code :Code:=(.seq (.region 0 (reg Try.f54 0) false) (.seq (.seq (.region 1 (reg Try.f54 1) false) (.cond (.tmp 4) (.seq (.region 2 (reg Try.f54 2) false) Code.ret) Code.skip)) (.seq (.region 3 (reg Try.f54 3) false) Code.ret)))
theorem slices_Clone.body :Try.f54.body=some slices_Clone.code:=by kernel_rfl
variable (b c l f g i j k:zu) (S:zS)
theorem slices_Clone.r0 :zW zi ⟨false,false,false⟩ (zU zi O) (reg Try.f54 0) (reg Try.f54 0).toList ([b,c,l,f,g,i,j,k]) S =
  ( some ([b,c,Value.slice none 0 0,f,g,i,j,k],S)):=by kernel_rfl
theorem slices_Clone.r1 :zW zi ⟨false,false,false⟩ (zU zi O) (reg Try.f54 1) (reg Try.f54 1).toList ([b,c,l,f,g,i,j,k]) S =
  (zT (jd zi BinOp.eql 33 (zQ b) (Value.slice none 0 0) S) (fun o d=>some ([b,c,l,zQ b,o,i,j,k],d)) ()):=by kernel_rfl
theorem slices_Clone.r2 :zW zi ⟨false,false,false⟩ (zU zi O) (reg Try.f54 2) (reg Try.f54 2).toList ([b,c,l,f,g,i,j,k]) S =
  ( some ([b,c,Value.slice none 0 0,f,g,i,j,k],S)):=by kernel_rfl
theorem slices_Clone.r3 :zW zi ⟨false,false,false⟩ (zU zi O) (reg Try.f54 3) (reg Try.f54 3).toList ([b,c,l,f,g,i,j,k]) S =
  (zT (yO zi 33 0 [] S) (fun m d=>zT (yF zi 33 33 m (zQ b) d) (fun n p=>some ([b,c,n,f,g,zQ m,zQ b,zQ n],p)) ()) ()):=by kernel_rfl
theorem slices_Clone.runs {b:zu}{S d:zS}{e:wC}{T:List zu}(h:zX zi O false slices_Clone.code ([b,zh,zh,zh,zh,zh,zh,zh]) S=some (e,T,d)) (he:e=.normal∨e=.ret):zU zi O 54 [b] S=some (T.getD 2 zh,d) :=
 xX rfl rfl Try.func54 (by decide) slices_Clone.body (by exact h) he (qI (a:=T.getD 2 zh) ((show jl zi T d Try.f54.results.toList=jl zi T d [(ResultVar.tmp 2)] from by kernel_rfl).trans (by simp only[jl])) (by kernel_rfl))
end
section
abbrev yL.id :FuncId:=41
noncomputable def yL.jg :Code:=(.seq (.region 3 (reg Try.f41 3) false) (.seq (.cond (.tmp 11) Code.skip (.exit 0)) (.seq (.block 1 (.seq (.region 4 (reg Try.f41 4) false) (.seq (.seq (.region 5 (reg Try.f41 5) false) (.cond (.tmp 28) (.exit 0) Code.skip)) (.seq (.region 6 (reg Try.f41 6) false) (.seq (.region 7 (reg Try.f41 7) false) (.cond (.tmp 38) (.seq (.region 8 (reg Try.f41 8) false) Code.ret) Code.skip)))))) (.region 9 (reg Try.f41 9) false))))
noncomputable def yL.code :Code:=(.seq (.region 0 (reg Try.f41 0) false) (.seq (.region 1 (reg Try.f41 1) false) (.seq (.seq (.region 2 (reg Try.f41 2) false) (.block 0 (.loop yL.jg))) (.seq (.region 10 (reg Try.f41 10) false) Code.ret))))
theorem yL.body :Try.f41.body=some yL.code:=by kernel_rfl
theorem yL.eta {T:List zu}(h:T.length=46):T=[T.getD 0 zh,T.getD 1 zh,T.getD 2 zh,T.getD 3 zh,T.getD 4 zh,T.getD 5 zh,T.getD 6 zh,T.getD 7 zh,T.getD 8 zh,T.getD 9 zh,T.getD 10 zh,T.getD 11 zh,T.getD 12 zh,T.getD 13 zh,T.getD 14 zh,T.getD 15 zh,T.getD 16 zh,T.getD 17 zh,T.getD 18 zh,T.getD 19 zh,T.getD 20 zh,T.getD 21 zh,T.getD 22 zh,T.getD 23 zh,T.getD 24 zh,T.getD 25 zh,T.getD 26 zh,T.getD 27 zh,T.getD 28 zh,T.getD 29 zh,T.getD 30 zh,T.getD 31 zh,T.getD 32 zh,T.getD 33 zh,T.getD 34 zh,T.getD 35 zh,T.getD 36 zh,T.getD 37 zh,T.getD 38 zh,T.getD 39 zh,T.getD 40 zh,T.getD 41 zh,T.getD 42 zh,T.getD 43 zh,T.getD 44 zh,T.getD 45 zh]:=(ZE T 46 h).trans (by kernel_rfl)
theorem yL.list {T:List zu}(h:T.length=46):∃P V Y Z x4 U Q R W X a b c d f g i k l m n o p q r s t u w x y z A B C D E F G H I J K L M N,T=[P,V,Y,Z,x4,U,Q,R,W,X,a,b,c,d,f,g,i,k,l,m,n,o,p,q,r,s,t,u,w,x,y,z,A,B,C,D,E,F,G,H,I,J,K,L,M,N]:=⟨_,_,_,_,_,_,_,_,_,_,_,_,_,_,_,_,_,_,_,_,_,_,_,_,_,_,_,_,_,_,_,_,_,_,_,_,_,_,_,_,_,_,_,_,_,_,yL.eta h⟩
variable (P V Y Z x4 U Q R W X a b c d f g i k l m n o p q r s t u w x y z A B C D E F G H I J K L M N:zu) (S:zS)
theorem yL.r0 :zW zi ⟨false,false,false⟩ (zU zi O) (reg Try.f41 0) (reg Try.f41 0).toList ([P,V,Y,Z,x4,U,Q,R,W,X,a,b,c,d,f,g,i,k,l,m,n,o,p,q,r,s,t,u,w,x,y,z,A,B,C,D,E,F,G,H,I,J,K,L,M,N]) S =
  ( some ([P,V,Value.int IntKind.u64 0,Value.slice none 0 0,.int .i64 0,U,Q,R,W,X,a,b,c,d,f,g,i,k,l,m,n,o,p,q,r,s,t,u,w,x,y,z,A,B,C,D,E,F,G,H,I,J,K,L,M,N],S)):=by kernel_rfl
theorem yL.r1 :zW zi ⟨false,false,false⟩ (zU zi O) (reg Try.f41 1) (reg Try.f41 1).toList ([P,V,Y,Z,x4,U,Q,R,W,X,a,b,c,d,f,g,i,k,l,m,n,o,p,q,r,s,t,u,w,x,y,z,A,B,C,D,E,F,G,H,I,J,K,L,M,N]) S =
  ( some ([P,V,Y,Z,x4,Value.int IntKind.u64 0,Q,R,W,X,a,b,c,d,f,g,i,k,l,m,n,o,p,q,r,s,t,u,w,x,y,z,A,B,C,D,E,F,G,H,I,J,K,L,M,N],S)):=by kernel_rfl
theorem yL.r2 :zW zi ⟨false,false,false⟩ (zU zi O) (reg Try.f41 2) (reg Try.f41 2).toList ([P,V,Y,Z,x4,U,Q,R,W,X,a,b,c,d,f,g,i,k,l,m,n,o,p,q,r,s,t,u,w,x,y,z,A,B,C,D,E,F,G,H,I,J,K,L,M,N]) S =
  (zT (yK zi 33 (zQ P) S) (fun v1 S1=>some ([P,V,Y,Z,x4,U,Q,R,zQ P,v1,.int .i64 0,b,c,d,f,g,i,k,l,m,n,o,p,q,r,s,t,u,w,x,y,z,A,B,C,D,E,F,G,H,I,J,K,L,M,N],S1)) ()):=by kernel_rfl
theorem yL.r3 :zW zi ⟨false,false,false⟩ (zU zi O) (reg Try.f41 3) (reg Try.f41 3).toList ([P,V,Y,Z,x4,U,Q,R,W,X,a,b,c,d,f,g,i,k,l,m,n,o,p,q,r,s,t,u,w,x,y,z,A,B,C,D,E,F,G,H,I,J,K,L,M,N]) S =
  (zT (jd zi BinOp.lss 3 a X S) (fun v0 S1=>some ([P,V,Y,Z,x4,U,Q,R,W,X,a,v0,c,d,f,g,i,k,l,m,n,o,p,q,r,s,t,u,w,x,y,z,A,B,C,D,E,F,G,H,I,J,K,L,M,N],S1)) ()):=by kernel_rfl
theorem yL.r4 :zW zi ⟨false,false,false⟩ (zU zi O) (reg Try.f41 4) (reg Try.f41 4).toList ([P,V,Y,Z,x4,U,Q,R,W,X,a,b,c,d,f,g,i,k,l,m,n,o,p,q,r,s,t,u,w,x,y,z,A,B,C,D,E,F,G,H,I,J,K,L,M,N]) S =
  (zT (jZ zi 33 W (zQ a) S) (fun v1 S1=>zT (zZ zi false 5 v1 S1) (fun v2 S2=>some ([P,V,Y,Z,x4,U,a,v2,W,X,zQ a,b,zQ a,v1,zQ v2,g,i,k,l,m,n,o,p,q,r,s,t,u,w,x,y,z,A,B,C,D,E,F,G,H,I,J,K,L,M,N],S2)) ()) ()):=by kernel_rfl
theorem yL.r5 :zW zi ⟨false,false,false⟩ (zU zi O) (reg Try.f41 5) (reg Try.f41 5).toList ([P,V,Y,Z,x4,U,Q,R,W,X,a,b,c,d,f,g,i,k,l,m,n,o,p,q,r,s,t,u,w,x,y,z,A,B,C,D,E,F,G,H,I,J,K,L,M,N]) S =
  (zT (jd zi BinOp.eql 3 (zQ Q) (.int .i64 9) S) (fun v1 S1=>zY (zQ v1) true (ret R) S1 (fun v3 S2=>zY (zQ v1) true (jd zi BinOp.gtr 5 (zQ v3) (Value.int IntKind.u8 1)) S2 (fun v4 S3=>zT (jH (zQ v1) v4 (Value.bool false) S3) (fun v5 S4=>zY (zQ v5) false (ret Q) S4 (fun v7 S5=>zY (zQ v5) false (jd zi BinOp.gtr 3 (zQ v7) (.int .i64 0)) S5 (fun v8 S6=>zY (zQ v5) false (ret v8) S6 (fun v9 S7=>zY (zQ v9) true (ret R) S7 (fun a0 S8=>zY (zQ v9) true (jd zi BinOp.eql 5 (zQ a0) (Value.int IntKind.u8 0)) S8 (fun a1 S9=>zY (zQ v5) false (jH (zQ v9) a1 (Value.bool false)) S9 (fun a2 a3=>zT (jH (zQ v5) (Value.bool true) a2 a3) (fun a4 a5=>some ([P,V,Y,Z,x4,U,Q,R,W,X,a,b,c,d,f,zQ Q,v1,zQ v1,zQ v3,v4,v5,zQ v5,zQ v7,v8,zQ v9,zQ a0,a1,a2,a4,x,y,z,A,B,C,D,E,F,G,H,I,J,K,L,M,N],a5)) ()) ()) ()) ()) ()) ()) ()) ()) ()) ()) ()):=by
 refine sP Try.f41 5 0 (v:=Q) ?_;refine sD Try.f41 5 1 (fun v1 S1=>?_)
 refine sP Try.f41 5 2 (v:=v1) ?_;refine sG Try.f41 5 3 (j:=2) (fun v3 S2=>?_)
 refine sG Try.f41 5 4 (j:=2) (fun v4 S3=>?_)
 refine sD Try.f41 5 5 (fun v5 S4=>?_)
 refine sP Try.f41 5 6 (v:=v5) ?_;refine sG Try.f41 5 7 (j:=6) (fun v7 S5=>?_)
 refine sG Try.f41 5 8 (j:=6) (fun v8 S6=>?_)
 refine sG Try.f41 5 9 (j:=6) (fun v9 S7=>?_)
 refine sG Try.f41 5 10 (j:=9) (fun a0 S8=>?_)
 refine sG Try.f41 5 11 (j:=9) (fun a1 S9=>?_)
 refine sG Try.f41 5 12 (j:=6) (fun a2 a3=>?_)
 refine sD Try.f41 5 13 (fun a4 a5=>?_)
 kernel_rfl
theorem yL.r6 :zW zi ⟨false,false,false⟩ (zU zi O) (reg Try.f41 6) (reg Try.f41 6).toList ([P,V,Y,Z,x4,U,Q,R,W,X,a,b,c,d,f,g,i,k,l,m,n,o,p,q,r,s,t,u,w,x,y,z,A,B,C,D,E,F,G,H,I,J,K,L,M,N]) S =
  (zT (jd zi BinOp.and 5 (zQ R) (Value.int IntKind.u8 127) S) (fun v2 S1=>zT (qB zi false false 5 73 v2 S1) (fun v3 S2=>zT (jd zi BinOp.mul 3 (.int .i64 7) (zQ Q) S2) (fun v5 S3=>zT (jd zi BinOp.shl 73 v3 v5 S3) (fun v6 S4=>zT (jd zi BinOp.or 73 (zQ U) v6 S4) (fun v7 S5=>some ([P,V,Y,Z,x4,v7,Q,R,W,X,a,b,c,d,f,g,i,k,l,m,n,o,p,q,r,s,t,u,w,zQ U,zQ R,v2,v3,zQ Q,v5,v6,zQ v7,F,G,H,I,J,K,L,M,N],S5)) ()) ()) ()) ()) ()):=by kernel_rfl
theorem yL.r7 :zW zi ⟨false,false,false⟩ (zU zi O) (reg Try.f41 7) (reg Try.f41 7).toList ([P,V,Y,Z,x4,U,Q,R,W,X,a,b,c,d,f,g,i,k,l,m,n,o,p,q,r,s,t,u,w,x,y,z,A,B,C,D,E,F,G,H,I,J,K,L,M,N]) S =
  (zT (jd zi BinOp.lss 5 (zQ R) (Value.int IntKind.u8 128) S) (fun v1 S1=>some ([P,V,Y,Z,x4,U,Q,R,W,X,a,b,c,d,f,g,i,k,l,m,n,o,p,q,r,s,t,u,w,x,y,z,A,B,C,D,E,zQ R,v1,H,I,J,K,L,M,N],S1)) ()):=by kernel_rfl
theorem yL.r8 :zW zi ⟨false,false,false⟩ (zU zi O) (reg Try.f41 8) (reg Try.f41 8).toList ([P,V,Y,Z,x4,U,Q,R,W,X,a,b,c,d,f,g,i,k,l,m,n,o,p,q,r,s,t,u,w,x,y,z,A,B,C,D,E,F,G,H,I,J,K,L,M,N]) S =
  (zT (jd zi BinOp.add 3 (zQ Q) (.int .i64 1) S) (fun v3 S1=>zT (WZ zi false 33 (zQ P) (some v3) none S1) (fun v4 S2=>zT ((zU zi O) 54 [(zQ v4)] S2) (fun v5 S3=>some ([P,V,U,v5,.int .i64 0,zQ U,Q,R,W,X,a,b,c,d,f,g,i,k,l,m,n,o,p,q,r,s,t,u,w,x,y,z,A,B,C,D,E,F,G,zQ U,zQ P,zQ Q,v3,v4,zQ v5,N],S3)) ()) ()) ()):=by kernel_rfl
theorem yL.r9 :zW zi ⟨false,false,false⟩ (zU zi O) (reg Try.f41 9) (reg Try.f41 9).toList ([P,V,Y,Z,x4,U,Q,R,W,X,a,b,c,d,f,g,i,k,l,m,n,o,p,q,r,s,t,u,w,x,y,z,A,B,C,D,E,F,G,H,I,J,K,L,M,N]) S =
  (zT (jd zi BinOp.add 3 a (.int .i64 1) S) (fun v0 S1=>some ([P,V,Y,Z,x4,U,Q,R,W,X,zQ v0,b,c,d,f,g,i,k,l,m,n,o,p,q,r,s,t,u,w,x,y,z,A,B,C,D,E,F,G,H,I,J,K,L,M,v0],S1)) ()):=by kernel_rfl
theorem yL.r10 :zW zi ⟨false,false,false⟩ (zU zi O) (reg Try.f41 10) (reg Try.f41 10).toList ([P,V,Y,Z,x4,U,Q,R,W,X,a,b,c,d,f,g,i,k,l,m,n,o,p,q,r,s,t,u,w,x,y,z,A,B,C,D,E,F,G,H,I,J,K,L,M,N]) S =
  ( some ([P,V,Value.int IntKind.u64 0,Value.slice none 0 0,.int .i64 11,U,Q,R,W,X,a,b,c,d,f,g,i,k,l,m,n,o,p,q,r,s,t,u,w,x,y,z,A,B,C,D,E,F,G,H,I,J,K,L,M,N],S)):=by kernel_rfl
theorem yL.runs {P:zu}{S S1:zS}{e:wC}{T:List zu}(h:zX zi O false yL.code ([P,zh,zh,zh,zh,zh,zh,zh,zh,zh,zh,zh,zh,zh,zh,zh,zh,zh,zh,zh,zh,zh,zh,zh,zh,zh,zh,zh,zh,zh,zh,zh,zh,zh,zh,zh,zh,zh,zh,zh,zh,zh,zh,zh,zh,zh]) S=some (e,T,S1)) (he:e=.normal∨e=.ret)  (h0:yc (T.getD 2 zh)=true) (h1:yc (T.getD 3 zh)=true) (h2:yc (T.getD 4 zh)=true):zU zi O 41 [P] S=some (Value.tuple #[T.getD 2 zh,T.getD 3 zh,T.getD 4 zh],S1) :=
 xX rfl rfl Try.func41 (by decide) yL.body (by exact h) he ((Zc ((show jl zi T S1 Try.f41.results.toList=jl zi T S1 [(ResultVar.tmp 2),(ResultVar.tmp 3),(ResultVar.tmp 4)] from by kernel_rfl).trans (by simp only[jl])) (by kernel_rfl) (by simp only[List.all_cons,List.all_nil,h0,h1,h2,Bool.and_true])).trans rfl)
end
section
abbrev qJ.id :FuncId:=72
noncomputable def qJ.jg :Code:=(.seq (.seq (.region 2 (reg Try.f72 2) false) (.cond (.tmp 5) Code.skip (.exit 0))) (.block 1 (.seq (.region 3 (reg Try.f72 3) false) (.region 4 (reg Try.f72 4) false))))
noncomputable def qJ.code :Code:=(.seq (.region 0 (reg Try.f72 0) false) (.seq (.region 1 (reg Try.f72 1) false) (.seq (.block 0 (.loop qJ.jg)) (.seq (.region 5 (reg Try.f72 5) false) Code.ret))))
theorem qJ.body :Try.f72.body=some qJ.code:=by kernel_rfl
theorem qJ.eta {T:List zu}(h:T.length=19):T=[T.getD 0 zh,T.getD 1 zh,T.getD 2 zh,T.getD 3 zh,T.getD 4 zh,T.getD 5 zh,T.getD 6 zh,T.getD 7 zh,T.getD 8 zh,T.getD 9 zh,T.getD 10 zh,T.getD 11 zh,T.getD 12 zh,T.getD 13 zh,T.getD 14 zh,T.getD 15 zh,T.getD 16 zh,T.getD 17 zh,T.getD 18 zh]:=(ZE T 19 h).trans (by kernel_rfl)
theorem qJ.list {T:List zu}(h:T.length=19):∃b o v n p q r s t u c d f g i j k l m,T=[b,o,v,n,p,q,r,s,t,u,c,d,f,g,i,j,k,l,m]:=⟨_,_,_,_,_,_,_,_,_,_,_,_,_,_,_,_,_,_,_,qJ.eta h⟩
variable (b o v n p q r s t u c d f g i j k l m:zu) (S:zS)
theorem qJ.r0 :zW zi ⟨false,false,false⟩ (zU zi O) (reg Try.f72 0) (reg Try.f72 0).toList ([b,o,v,n,p,q,r,s,t,u,c,d,f,g,i,j,k,l,m]) S =
  ( some ([b,o,Value.slice none 0 0,n,p,q,r,s,t,u,c,d,f,g,i,j,k,l,m],S)):=by kernel_rfl
theorem qJ.r1 :zW zi ⟨false,false,false⟩ (zU zi O) (reg Try.f72 1) (reg Try.f72 1).toList ([b,o,v,n,p,q,r,s,t,u,c,d,f,g,i,j,k,l,m]) S =
  ( some ([b,o,v,Value.slice none 0 0,p,q,r,s,t,u,c,d,f,g,i,j,k,l,m],S)):=by kernel_rfl
theorem qJ.r2 :zW zi ⟨false,false,false⟩ (zU zi O) (reg Try.f72 2) (reg Try.f72 2).toList ([b,o,v,n,p,q,r,s,t,u,c,d,f,g,i,j,k,l,m]) S =
  (zT (jd zi BinOp.geq 73 (zQ b) (Value.int IntKind.u64 128) S) (fun A w=>some ([b,o,v,n,zQ b,A,r,s,t,u,c,d,f,g,i,j,k,l,m],w)) ()):=by kernel_rfl
theorem qJ.r3 :zW zi ⟨false,false,false⟩ (zU zi O) (reg Try.f72 3) (reg Try.f72 3).toList ([b,o,v,n,p,q,r,s,t,u,c,d,f,g,i,j,k,l,m]) S =
  (zT (qB zi false false 73 5 (zQ b) S) (fun x w=>zT (jd zi BinOp.or 5 x (Value.int IntKind.u8 128) w) (fun y B=>zT (yO zi 33 1 [(0,y)] B) (fun z C=>zT (yF zi 33 33 n z C) (fun D E=>some ([b,o,v,D,p,q,zQ n,zQ b,x,y,z,zQ D,f,g,i,j,k,l,m],E)) ()) ()) ()) ()):=by kernel_rfl
theorem qJ.r4 :zW zi ⟨false,false,false⟩ (zU zi O) (reg Try.f72 4) (reg Try.f72 4).toList ([b,o,v,n,p,q,r,s,t,u,c,d,f,g,i,j,k,l,m]) S =
  (zT (jd zi BinOp.shr 73 (zQ b) (Value.int IntKind.u64 7) S) (fun A w=>some ([A,o,v,n,p,q,r,s,t,u,c,d,zQ b,zQ A,i,j,k,l,m],w)) ()):=by kernel_rfl
theorem qJ.r5 :zW zi ⟨false,false,false⟩ (zU zi O) (reg Try.f72 5) (reg Try.f72 5).toList ([b,o,v,n,p,q,r,s,t,u,c,d,f,g,i,j,k,l,m]) S =
  (zT (qB zi false false 73 5 (zQ b) S) (fun x w=>zT (yO zi 33 1 [(0,x)] w) (fun y B=>zT (yF zi 33 33 n y B) (fun z C=>some ([b,o,z,zQ n,p,q,r,s,t,u,c,d,f,g,zQ n,zQ b,x,y,zQ z],C)) ()) ()) ()):=by kernel_rfl
theorem qJ.runs {b:zu}{S w:zS}{e:wC}{T:List zu}(h:zX zi O false qJ.code ([b,zh,zh,zh,zh,zh,zh,zh,zh,zh,zh,zh,zh,zh,zh,zh,zh,zh,zh]) S=some (e,T,w)) (he:e=.normal∨e=.ret):zU zi O 72 [b] S=some (T.getD 2 zh,w) :=
 xX rfl rfl Try.func72 (by decide) qJ.body (by exact h) he (qI (a:=T.getD 2 zh) ((show jl zi T w Try.f72.results.toList=jl zi T w [(ResultVar.tmp 2)] from by kernel_rfl).trans (by simp only[jl])) (by kernel_rfl))
end
section
abbrev qF.id :FuncId:=38
noncomputable def qF.jg :Code:=(.block 1 (.seq (.region 2 (reg Try.f38 2) false) (.seq (.region 3 (reg Try.f38 3) false) (.seq (.seq (.region 4 (reg Try.f38 4) false) (.cond (.tmp 12) (.seq (.region 5 (reg Try.f38 5) false) Code.ret) Code.skip)) (.region 6 (reg Try.f38 6) false)))))
noncomputable def qF.code :Code:=(.seq (.region 0 (reg Try.f38 0) false) (.seq (.region 1 (reg Try.f38 1) false) (.block 0 (.loop qF.jg))))
theorem qF.body :Try.f38.body=some qF.code:=by kernel_rfl
theorem qF.eta {T:List zu}(h:T.length=22):T=[T.getD 0 zh,T.getD 1 zh,T.getD 2 zh,T.getD 3 zh,T.getD 4 zh,T.getD 5 zh,T.getD 6 zh,T.getD 7 zh,T.getD 8 zh,T.getD 9 zh,T.getD 10 zh,T.getD 11 zh,T.getD 12 zh,T.getD 13 zh,T.getD 14 zh,T.getD 15 zh,T.getD 16 zh,T.getD 17 zh,T.getD 18 zh,T.getD 19 zh,T.getD 20 zh,T.getD 21 zh]:=(ZE T 22 h).trans (by kernel_rfl)
theorem qF.list {T:List zu}(h:T.length=22):∃b s z r q u v w x y c d f g i j k l m n o p,T=[b,s,z,r,q,u,v,w,x,y,c,d,f,g,i,j,k,l,m,n,o,p]:=⟨_,_,_,_,_,_,_,_,_,_,_,_,_,_,_,_,_,_,_,_,_,_,qF.eta h⟩
variable (b s z r q u v w x y c d f g i j k l m n o p:zu) (S:zS)
theorem qF.r0 :zW zi ⟨false,false,false⟩ (zU zi O) (reg Try.f38 0) (reg Try.f38 0).toList ([b,s,z,r,q,u,v,w,x,y,c,d,f,g,i,j,k,l,m,n,o,p]) S =
  ( some ([b,s,Value.slice none 0 0,r,q,u,v,w,x,y,c,d,f,g,i,j,k,l,m,n,o,p],S)):=by kernel_rfl
theorem qF.r1 :zW zi ⟨false,false,false⟩ (zU zi O) (reg Try.f38 1) (reg Try.f38 1).toList ([b,s,z,r,q,u,v,w,x,y,c,d,f,g,i,j,k,l,m,n,o,p]) S =
  (zT (yO zi 33 0 [] S) (fun E t=>some ([b,s,z,E,q,zQ E,v,w,x,y,c,d,f,g,i,j,k,l,m,n,o,p],t)) ()):=by kernel_rfl
theorem qF.r2 :zW zi ⟨false,false,false⟩ (zU zi O) (reg Try.f38 2) (reg Try.f38 2).toList ([b,s,z,r,q,u,v,w,x,y,c,d,f,g,i,j,k,l,m,n,o,p]) S =
  (zT (jd zi BinOp.rem 73 (zQ b) (Value.int IntKind.u64 128) S) (fun B t=>zT (qB zi false false 73 5 B t) (fun A C=>some ([b,s,z,r,A,u,zQ b,B,zQ A,y,c,d,f,g,i,j,k,l,m,n,o,p],C)) ()) ()):=by kernel_rfl
theorem qF.r3 :zW zi ⟨false,false,false⟩ (zU zi O) (reg Try.f38 3) (reg Try.f38 3).toList ([b,s,z,r,q,u,v,w,x,y,c,d,f,g,i,j,k,l,m,n,o,p]) S =
  (zT (jd zi BinOp.quo 73 (zQ b) (Value.int IntKind.u64 128) S) (fun B t=>some ([B,s,z,r,q,u,v,w,x,zQ b,zQ B,d,f,g,i,j,k,l,m,n,o,p],t)) ()):=by kernel_rfl
theorem qF.r4 :zW zi ⟨false,false,false⟩ (zU zi O) (reg Try.f38 4) (reg Try.f38 4).toList ([b,s,z,r,q,u,v,w,x,y,c,d,f,g,i,j,k,l,m,n,o,p]) S =
  (zT (jd zi BinOp.eql 73 (zQ b) (Value.int IntKind.u64 0) S) (fun B t=>some ([b,s,z,r,q,u,v,w,x,y,c,zQ b,B,g,i,j,k,l,m,n,o,p],t)) ()):=by kernel_rfl
theorem qF.r5 :zW zi ⟨false,false,false⟩ (zU zi O) (reg Try.f38 5) (reg Try.f38 5).toList ([b,s,z,r,q,u,v,w,x,y,c,d,f,g,i,j,k,l,m,n,o,p]) S =
  (zT (yO zi 33 1 [(0,(zQ q))] S) (fun A t=>zT (yF zi 33 33 r A t) (fun D C=>some ([b,s,D,zQ r,q,u,v,w,x,y,c,d,f,zQ r,zQ q,A,zQ D,l,m,n,o,p],C)) ()) ()):=by kernel_rfl
theorem qF.r6 :zW zi ⟨false,false,false⟩ (zU zi O) (reg Try.f38 6) (reg Try.f38 6).toList ([b,s,z,r,q,u,v,w,x,y,c,d,f,g,i,j,k,l,m,n,o,p]) S =
  (zT (jd zi BinOp.add 5 (zQ q) (Value.int IntKind.u8 128) S) (fun A t=>zT (yO zi 33 1 [(0,A)] t) (fun D C=>zT (yF zi 33 33 r D C) (fun F G=>some ([b,s,z,F,q,u,v,w,x,y,c,d,f,g,i,j,k,zQ r,zQ q,A,D,zQ F],G)) ()) ()) ()):=by kernel_rfl
theorem qF.runs {b:zu}{S t:zS}{e:wC}{T:List zu}(h:zX zi O false qF.code ([b,zh,zh,zh,zh,zh,zh,zh,zh,zh,zh,zh,zh,zh,zh,zh,zh,zh,zh,zh,zh,zh]) S=some (e,T,t)) (he:e=.normal∨e=.ret):zU zi O 38 [b] S=some (T.getD 2 zh,t) :=
 xX rfl rfl Try.func38 (by decide) qF.body (by exact h) he (qI (a:=T.getD 2 zh) ((show jl zi T t Try.f38.results.toList=jl zi T t [(ResultVar.tmp 2)] from by kernel_rfl).trans (by simp only[jl])) (by kernel_rfl))
end
def enc (n:Nat):List UInt8:=if n<128 then [UInt8.ofNat n]else UInt8.ofNat (n % 128+128)::enc (n / 128)
termination_by n
decreasing_by omega
theorem Y4 {n:Nat}(h:n<128):enc n=[UInt8.ofNat n]:=by rw[enc,zN h]
theorem KD {n:Nat}(h:¬n<128):enc n=UInt8.ofNat (n % 128+128)::enc (n / 128):=by rw[enc,zM h]
theorem wrap_u8 (n:Nat):IntKind.u8.wrap (n:Int)=((n % 256:Nat):Int):=by
 simp[IntKind.wrap,IntKind.bits,IntKind.signed]
theorem wrap_u64 (n:Nat):IntKind.u64.wrap (n:Int)=((n % 2 ^ 64:Nat):Int):=by
 simp[IntKind.wrap,IntKind.bits,IntKind.signed]
theorem Rl :∀m:Fin 256,XD .u8 (m.val:Int) 128=((m.val % 128+128:Nat):Int):=by decide +kernel
theorem Rn (n:Nat):XD .u8 (IntKind.u8.wrap (n:Int)) 128=((UInt8.ofNat (n % 128+128)).toNat:Int):=by
 rw[wrap_u8,Rl ⟨n % 256,by omega⟩]
 simp only[UInt8.toNat_ofNat'];omega
theorem mV {n:Nat}:IntKind.u8.wrap (n:Int)=((UInt8.ofNat n).toNat:Int):=by
 rw[wrap_u8];simp
theorem TN (n:Nat):(n:Int).fdiv (2 ^ min (Int.toNat 7) (IntKind.bits .u64))=((n / 128:Nat):Int):=by
 have:(2:Int) ^ min (Int.toNat 7) (IntKind.bits .u64)=128:=by decide
 rw[this,Int.fdiv_eq_ediv_of_nonneg _ (by omega)]
 omega
theorem rZ (k:Nat):∀n,n<128 ^ (k+1)→(enc n).length≤k+1:=by
 induction k with
 |zero=>intro n h;rw[Y4 (by omega)];simp
 |succ k ih=>
  intro n h;by_cases hn:n<128
  ·rw[Y4 hn];simp
  ·rw[KD hn];have:=ih (n / 128) (by rw[Nat.div_lt_iff_lt_mul (by omega)];exact h)
   simp only[List.length_cons];omega
theorem Xn {n:Nat}(h:n<2 ^ 64):(enc n).length≤10:=rZ 9 n (Nat.lt_of_lt_of_le h (by decide))
theorem Fe (n:Nat):(n:Int).tmod 128=((n % 128:Nat):Int):=by
 rw[Int.tmod_eq_emod_of_nonneg (by omega)];omega
theorem UU (n:Nat) (h:n<2 ^ 64):IntKind.u64.wrap ((n:Int).tdiv 128)=((n / 128:Nat):Int):=by
 rw[Int.tdiv_eq_ediv_of_nonneg (by omega),show(n:Int) / 128=((n / 128:Nat):Int) by omega,wrap_u64]
 omega
theorem O4 (n:Nat):IntKind.u8.wrap ((n % 128:Nat):Int)=((UInt8.ofNat (n % 128)).toNat:Int):=mV
theorem O3 (n:Nat):IntKind.u8.wrap (((UInt8.ofNat (n % 128)).toNat:Int)+128)=((UInt8.ofNat (n % 128+128)).toNat:Int):=by
 have:((UInt8.ofNat (n % 128)).toNat:Int)+128=((n % 128+128:Nat):Int):=by simp only[UInt8.toNat_ofNat'];omega
 rw[this];exact mV
theorem X0 :sv 2 1 0 []=jk 2 []:=rfl
theorem aB (x:UInt8):sv 2 1 1 [.int .u8 x.toNat]=jk 2 [x]:=rfl
theorem fU {k:Nat}{l:List UInt8} {x:UInt8} {S:zS}(h:je k l) (hk:k≠1) (hl:l.length≤140737488355000):yF zi 33 33 (jk k l) (jk 2 [x]) S=some (jk 2 (l++[x]),S):=by
 rw[Wj h hk je.own (by simp;omega),zM (fun h=>by have:=h.2;simp at this)]
theorem qJ.round :∀(n:Nat) (l:List UInt8) (k:Nat) {T:List zu}{S:zS}{r:St},yj (zX zi O false qJ.jg) T S=r→T.length=19→T.getD 0 zh=.int .u64 n→T.getD 3 zh=jk k l →
  je k l→k≠1→n*2 ^ l.length<2 ^ 64→∃T' l' k' n',r=some (.exit 0,T',S)∧T'.length=19∧T'.getD 0 zh=.int .u64 (n':Nat)∧T'.getD 3 zh=jk k' l' ∧
   je k' l'∧k'≠1∧n'<128∧l'++[UInt8.ofNat n']=l++enc n:=by
 intro n;induction n using Nat.strongRecOn with
 | _ n ih=>
  intro l k T S r hL hT h0 h3 hs hk hl;obtain⟨x0,x1,x2,x3,x4,x5,x6,x7,x8,x9,x10,x11,x12,x13,x14,x15,x16,x17,x18,hTe⟩:=qJ.list hT;rw[hTe]at h0 h3;simp only[List.getD_cons_succ,List.getD_cons_zero]at h0 h3;subst h0 h3;have hr:=Eq.refl (zX zi O false qJ.jg T S);by_cases hlt:n<128
  ·have hd:decide ((128:Int)≤(n:Int))=false:=by simp;omega
   conv at hr=>
    rhs;rw[hTe];simp only[qJ.jg,jc,reduceIte,zk,zn,zo,zq,qJ.r2,hd]
   exact⟨_,l,k,n,hL.symm.trans (yX hr (by simp)),rfl,rfl,rfl,hs,hk,hlt,by rw[Y4 hlt]⟩
  ·have hd:decide ((128:Int)≤(n:Int))=true:=by simp;omega
   have hll:l.length<64:=by
    have:2 ^ l.length<2 ^ 64:=Nat.lt_of_le_of_lt (Nat.le_mul_of_pos_left _ (by omega)) hl
    exact(Nat.pow_lt_pow_iff_right (by omega)).1 this
   have e1:∀x S,yF zi 33 33 (jk k l) (jk 2 [x]) S=some (jk 2 (l++[x]),S):=fun x S=>fU hs hk (by omega)
   conv at hr=>
    rhs;rw[hTe];simp only[qJ.jg,jc,reduceIte,zk,zn,zo,zq,qJ.r2,hd,qJ.r3,gK,oh,Rn,ay,aB,e1,qJ.r4,oq _ _ _ _ (show(0:Int)≤7 by omega),TN]
   have hmul:n / 128*2 ^ (l.length+1)<2 ^ 64:=by
    refine Nat.lt_of_le_of_lt ?_ hl;rw[Nat.pow_succ,Nat.mul_comm (2 ^ l.length) 2,←Nat.mul_assoc];exact Nat.mul_le_mul_right _ (by omega)
   obtain⟨T',l',k',n',g1,g2,g3,g4,g5,g6,g7,g8⟩:=ih (n / 128) (by omega) _ 2 ((xk hr).symm.trans hL) rfl rfl rfl je.own (by decide) (by simpa using hmul)
   refine⟨T',l',k',n',g1,g2,g3,g4,g5,g6,g7,?_⟩;rw[g8,KD hlt,List.append_assoc];rfl
theorem qJ.v (n:Nat) (hn:n<2 ^ 64) (S:zS):zU zi O qJ.id [.int .u64 n] S=some (jk 2 (enc n),S):=by
 obtain⟨T,hTe⟩:∃T,T=(.int .u64 n::[zh,zh,zh,zh,zh,zh,zh,zh,zh,zh,zh,zh,zh,zh,zh,zh,zh,zh]):=⟨_,rfl⟩;have hr:=Eq.refl (zX zi O false qJ.code T S);conv at hr=>
  rhs;rw[hTe];simp only[qJ.code,jc,reduceIte,zk,zn,zo,zq,qJ.r0,qJ.r1]
 generalize hL:yj (zX zi O false qJ.jg) _ _=r at hr;obtain⟨T',l',k',n',rfl,g2,g3,g4,g5,g6,g7,g8⟩:=qJ.round n [] 0 hL rfl rfl rfl je.none (by decide) (by simpa using hn)
 obtain⟨x0,x1,x2,x3,x4,x5,x6,x7,x8,x9,x10,x11,x12,x13,x14,x15,x16,x17,x18,hT'⟩:=qJ.list g2;rw[hT']at g3 g4;simp only[List.getD_cons_succ,List.getD_cons_zero]at g3 g4;subst g3 g4;have hlen:l'.length+1=(enc n).length:=by simpa using congrArg List.length g8
 have h10:=Xn hn;have e1:∀x S,yF zi 33 33 (jk k' l') (jk 2 [x]) S=some (jk 2 (l'++[x]),S):=fun x S=>fU g5 g6 (by omega)
 conv at hr=>
  rhs;rw[hT'];simp only[jc,reduceIte,zk,zn,zo,zq,qJ.r5,gK,mV,ay,aB,e1]
 rw[hTe]at hr;have:=qJ.runs hr (.inr rfl);rw[List.nil_append]at g8;rw[←g8];exact this
theorem qF.round :∀(n:Nat) (l:List UInt8) {T:List zu}{S:zS}{r:St},yj (zX zi O false qF.jg) T S=r→T.length=22→T.getD 0 zh=.int .u64 n→T.getD 3 zh=jk 2 l →
  n*2 ^ l.length<2 ^ 64→l.length<64→∃T',r=some (.ret,T',S)∧T'.getD 2 zh=jk 2 (l++enc n):=by
 intro n;induction n using Nat.strongRecOn with
 | _ n ih=>
  intro l T S r hL hT h0 h3 hl hll;obtain⟨x0,x1,x2,x3,x4,x5,x6,x7,x8,x9,x10,x11,x12,x13,x14,x15,x16,x17,x18,x19,x20,x21,hTe⟩:=qF.list hT;rw[hTe]at h0 h3;simp only[List.getD_cons_succ,List.getD_cons_zero]at h0 h3;subst h0 h3;have hn:n<2 ^ 64:=Nat.lt_of_le_of_lt (Nat.le_mul_of_pos_right _ (by exact Nat.two_pow_pos _)) hl
  have e1:∀x S,yF zi 33 33 (jk 2 l) (jk 2 [x]) S=some (jk 2 (l++[x]),S):=fun x S=>fU je.own (by decide) (by omega)
  have hr:=Eq.refl (zX zi O false qF.jg T S);conv at hr=>
   rhs;rw[hTe];simp only[qF.jg,jc,reduceIte,zk,zn,zo,zq,qF.r2,qF.r3,qF.r4,Xe _ _ _ (show(128:Int)≠0 by omega),Wh _ _ _ (show(128:Int)≠0 by omega),Fe,UU n hn,gK,O4]
  by_cases hz:n / 128=0
  ·have hd:decide (((n / 128:Nat):Int)=0)=true:=by simp;omega
   conv at hr=>
    rhs;simp only[hd,jc,reduceIte,zk,zn,zo,zq,qF.r5,ay,aB,e1]
   refine⟨_,hL.symm.trans (yX hr (by simp)),?_⟩
   rw[Y4 (by omega)]
   simp only[List.getD_cons_succ,List.getD_cons_zero];rw[show n % 128=n by omega]
  ·have hd:decide (((n / 128:Nat):Int)=0)=false:=by simp;omega
   conv at hr=>
    rhs;simp only[hd,jc,reduceIte,zk,zn,zo,zq,qF.r6,O3,ay,aB,e1]
   have hmul:n / 128*2 ^ (l.length+1)<2 ^ 64:=by
    refine Nat.lt_of_le_of_lt ?_ hl;rw[Nat.pow_succ,Nat.mul_comm (2 ^ l.length) 2,←Nat.mul_assoc];exact Nat.mul_le_mul_right _ (by omega)
   have hl2:l.length+1<64:=by
    have:2 ^ (l.length+1)<2 ^ 64:=Nat.lt_of_le_of_lt (Nat.le_mul_of_pos_left _ (by omega)) hmul
    exact(Nat.pow_lt_pow_iff_right (by omega)).1 this
   obtain⟨T',g1,g2⟩:=ih (n / 128) (by omega) _ ((xk hr).symm.trans hL) rfl rfl rfl (by simpa using hmul) (by simpa using hl2)
   refine⟨T',g1,?_⟩;rw[g2,KD (n:=n) (by omega),List.append_assoc]
   rfl
theorem qF.v (n:Nat) (hn:n<2 ^ 64) (S:zS):zU zi O qF.id [.int .u64 n] S=some (jk 2 (enc n),S):=by
 obtain⟨T,hTe⟩:∃T,T=(.int .u64 n::[zh,zh,zh,zh,zh,zh,zh,zh,zh,zh,zh,zh,zh,zh,zh,zh,zh,zh,zh,zh,zh]):=⟨_,rfl⟩;have hr:=Eq.refl (zX zi O false qF.code T S);conv at hr=>
  rhs;rw[hTe];simp only[qF.code,jc,reduceIte,zk,zn,zo,zq,qF.r0,qF.r1,KA,X0]
 generalize hL:yj (zX zi O false qF.jg) _ _=r at hr;obtain⟨T',rfl,g2⟩:=qF.round n [] hL rfl rfl rfl (by simpa using hn) (by simp)
 conv at hr=>
  rhs;simp only[jc,reduceIte,zk,zn,zo,zq]
 rw[hTe]at hr;have hrun:=qF.runs hr (.inr rfl);rw[g2]at hrun;exact hrun
theorem slices_Clone.v {k:Nat}{l:List UInt8} (h:je k l) (hk:k≠2) (hl:l.length≤140737488355328) (S:zS):zU zi O slices_Clone.id [jk k l] S=some (jk (if k=0 then 0 else 2) l,S):=by
 obtain⟨T,hTe⟩:∃T,T=(jk k l::[zh,zh,zh,zh,zh,zh,zh]):=⟨_,rfl⟩;have hr:=Eq.refl (zX zi O false slices_Clone.code T S);conv at hr=>
  rhs;rw[hTe];simp only[slices_Clone.code,jc,reduceIte,zk,zn,zo,zq,slices_Clone.r0,slices_Clone.r1,zM hk,Lc h]
 by_cases h0:k=0
 ·have hl0:=h.nil h0;subst h0 hl0;conv at hr=>
   rhs;simp only[decide_true,jc,reduceIte,zk,zn,zo,zq,slices_Clone.r2]
  rw[hTe]at hr;exact slices_Clone.runs hr (.inr rfl)
 ·have e1:∀S,yF zi 33 33 (jk 2 []) (jk k l) S=some (jk 2 l,S):=fun S=>by
   rw[Wj je.own (by decide) h (by simpa using hl)];rfl
  conv at hr=>
   rhs;simp only[h0,decide_false,jc,reduceIte,zk,zn,zo,zq,slices_Clone.r3,KA,X0,zM hk,e1]
  rw[hTe]at hr;rw[zM h0];exact slices_Clone.runs hr (.inr rfl)
def scan :Nat→Nat→List UInt8→Option (Nat×List UInt8)
 | _,_,[]=>none
 |i,acc,x::r=>if(i=9∧1<x.toNat)∨(0<i∧x.toNat=0)then none else if x.toNat<128 then some (acc+x.toNat*128 ^ i,r)else scan (i+1) (acc+(x.toNat - 128)*128 ^ i) r
def YP (l:List UInt8):zu :=
 match scan 0 0 l with
 |none=>.tuple #[.int .u64 0,.slice none 0 0,.int .i64 11]
 |some (m,rest)=>.tuple #[.int .u64 (m:Nat),jk 2 rest,.int .i64 0]
theorem yL.stop (x0 x1 x2 x3 x4 x5 x6 x7 x8 x9 x10 x11 x12 x13 x14 x15 x16 x17 x18 x19 x20 x21 x22 x23 x24 x25 x26 x27 x28 x29 x30 x31 x32 x33 x34 x35 x36 x37 x38 x39 x40 x41 x42 x43 x44 x45:zu) (i x:Int) (S:zS) (h6:x6=.int .i64 i) (h7:x7=.int .u8 x):∃y15 y16 y17 y18 y19 y20 y21 y22 y23 y24 y25 y26 y27,zW zi ⟨false,false,false⟩ (zU zi O) (reg Try.f41 5) (reg Try.f41 5).toList (x0::x1::x2::x3::x4::x5::x6::x7::x8::x9::x10::x11::x12::x13::x14::x15::x16::x17::x18::x19::x20::x21::x22::x23::x24::x25::x26::x27::x28::x29::x30::x31::x32::x33::x34::x35::x36::x37::x38::x39::x40::x41::x42::x43::x44::x45::[]) S =
  some ((x0::x1::x2::x3::x4::x5::x6::x7::x8::x9::x10::x11::x12::x13::x14::y15::y16::y17::y18::y19::y20::y21::y22::y23::y24::y25::y26::y27::.bool (decide ((i=9∧1<x)∨(0<i∧x=0)))::x29::x30::x31::x32::x33::x34::x35::x36::x37::x38::x39::x40::x41::x42::x43::x44::x45::[]),S):=by
 subst h6 h7;rw[yL.r5];simp only[jc,reduceIte,zk,zn,zo,zq];rcases Bool.eq_false_or_eq_true (decide (i=9))with d1 |d1<;>rcases Bool.eq_false_or_eq_true (decide (1<x))with d2 |d2<;>rcases Bool.eq_false_or_eq_true (decide (0<i))with d3 |d3<;>rcases Bool.eq_false_or_eq_true (decide (x=0))with d4 |d4 <;>
  simp only[d1,d2,d3,d4,jc,reduceIte,zk,zn,zo,zq]<;>simp only[decide_eq_true_eq,decide_eq_false_iff_not]at d1 d2 d3 d4 <;>
  simp only[d1,d2,d3,d4,true_and,false_and,and_true,and_false,or_true,true_or,or_false,false_or,decide_true,decide_false,not_true,not_false_iff,zo,zn,and_self,or_self]<;>first |exact⟨_,_,_,_,_,_,_,_,_,_,_,_,_,rfl⟩ |omega
theorem Ic :∀m:Fin 256,V9 .u8 (m.val:Int) 127=((m.val % 128:Nat):Int):=by decide +kernel
theorem Ie (x:UInt8):V9 .u8 (x.toNat:Int) 127=((x.toNat % 128:Nat):Int):=Ic ⟨x.toNat,x.toNat_lt⟩
theorem Kt {n:Nat}(h:n<2 ^ 64):IntKind.u64.wrap (n:Int)=(n:Int):=by
 rw[wrap_u64,Nat.mod_eq_of_lt h]
theorem Ro {a c i:Nat}(ha:a<2 ^ i) (h:c*2 ^ i<2 ^ 64) (h2:a<2 ^ 64):XD .u64 (a:Int) ((c*2 ^ i:Nat):Int)=((a+c*2 ^ i:Nat):Int):=by
 have hor:a |||c*2 ^ i=a+c*2 ^ i:=by
  have:=Nat.shiftLeft_add_eq_or_of_lt ha c;rw[Nat.shiftLeft_eq]at this;rw[Nat.or_comm,←this,Nat.add_comm]
 have hlt:a |||c*2 ^ i<2 ^ 64:=Nat.or_lt_two_pow h2 h;unfold XD;rw[BitVec.ofInt_natCast,BitVec.ofInt_natCast,BitVec.toNat_or,BitVec.toNat_ofNat,BitVec.toNat_ofNat];rw[show IntKind.bits .u64=64 from rfl,Nat.mod_eq_of_lt h2,Nat.mod_eq_of_lt h,Kt hlt,hor]
theorem TM {c i:Nat}(hi:i≤9) (h:c*128 ^ i<2 ^ 64):IntKind.u64.wrap ((c:Int)*2 ^ (min (Int.toNat (7*(i:Int))) (IntKind.bits .u64)))=((c*2 ^ (7*i):Nat):Int):=by
 have e1:min (Int.toNat (7*(i:Int))) (IntKind.bits .u64)=7*i:=by
  rw[show IntKind.bits .u64=64 from rfl];omega
 have e2:(128:Nat) ^ i=2 ^ (7*i):=by rw[Nat.pow_mul]
 rw[e1,show(c:Int)*2 ^ (7*i)=((c*2 ^ (7*i):Nat):Int) by simp,Kt (by rw[←e2];exact h)]
theorem rY {l pre suf:List UInt8} {x:UInt8} (hl:l=pre++x::suf):(l.drop ((pre.length:Int)+1).toNat).take ((l.length:Int).toNat-((pre.length:Int)+1).toNat)=suf:=by
 rw[show((pre.length:Int)+1).toNat=pre.length+1 by omega,show(l.length:Int).toNat=l.length by omega,hl]
 rw[show pre++x::suf=(pre++[x])++suf by simp,show pre.length+1=(pre++[x]).length by simp,List.drop_left]
 rw[List.take_of_length_le];simp;omega
theorem yL.round {k:Nat}{l:List UInt8} (hv:je k l) (hk:k≠2) (hlen:l.length≤140737488355328) {S:zS}:∀(suf pre:List UInt8) (acc:Nat) {T:List zu}{r:St},yj (zX zi O false yL.jg) T S=r→T.length=46 →
  T.getD 0 zh=jk k l→T.getD 8 zh=jk k l→T.getD 9 zh=.int .i64 l.length→T.getD 10 zh=.int .i64 pre.length→T.getD 5 zh=.int .u64 acc→l=pre++suf→acc<128 ^ pre.length→pre.length≤9 →
  ∃e T',r=some (e,T',S)∧match scan pre.length acc suf with
   |none=>e=.exit 0∧T'.length=46
   |some (m,rest)=>e=.ret∧m<2 ^ 64∧T'.getD 2 zh=.int .u64 m∧T'.getD 3 zh=jk 2 rest∧T'.getD 4 zh=.int .i64 0:=by
 intro suf;induction suf with
 |nil=>
  intro pre acc T r hL hT h0 h8 h9 h10 h5 hl hacc hpre;obtain⟨x0,x1,x2,x3,x4,x5,x6,x7,x8,x9,x10,x11,x12,x13,x14,x15,x16,x17,x18,x19,x20,x21,x22,x23,x24,x25,x26,x27,x28,x29,x30,x31,x32,x33,x34,x35,x36,x37,x38,x39,x40,x41,x42,x43,x44,x45,hTe⟩:=yL.list hT;rw[hTe]at h0 h8 h9 h10 h5;simp only[List.getD_cons_succ,List.getD_cons_zero]at h0 h8 h9 h10 h5;subst h0 h8 h9 h10 h5;have hr:=Eq.refl (zX zi O false yL.jg T S);have hd:decide ((pre.length:Int)<(l.length:Int))=false:=by rw[hl];simp
  conv at hr=>
   rhs;rw[hTe];simp only[yL.jg,jc,reduceIte,zk,zn,zo,zq,yL.r3,hd]
  exact⟨_,_,hL.symm.trans (yX hr (by simp)),rfl,rfl⟩
 |cons x suf ih=>
  intro pre acc T r hL hT h0 h8 h9 h10 h5 hl hacc hpre;obtain⟨x0,x1,x2,x3,x4,x5,x6,x7,x8,x9,x10,x11,x12,x13,x14,x15,x16,x17,x18,x19,x20,x21,x22,x23,x24,x25,x26,x27,x28,x29,x30,x31,x32,x33,x34,x35,x36,x37,x38,x39,x40,x41,x42,x43,x44,x45,hTe⟩:=yL.list hT;rw[hTe]at h0 h8 h9 h10 h5;simp only[List.getD_cons_succ,List.getD_cons_zero]at h0 h8 h9 h10 h5;subst h0 h8 h9 h10 h5;have hr:=Eq.refl (zX zi O false yL.jg T S);have hlt:(pre.length:Int)<(l.length:Int):=by rw[hl];simp;omega
  have hd:decide ((pre.length:Int)<(l.length:Int))=true:=by simpa using hlt
  have k0:k≠0:=fun h=>by have:=hv.nil h;rw[this]at hl;simp at hl
  have e1:∀S,jZ zi 33 (jk k l) (.int .i64 pre.length) S=some (EP [.int .u8 x.toNat],S):=fun S=>by
   rw[aC hv (by omega) hlt];rw[Qu hl]
  obtain⟨y15,y16,y17,y18,y19,y20,y21,y22,y23,y24,y25,y26,y27,e3⟩:=yL.stop (jk k l) x1 x2 x3 x4 (.int .u64 acc) (.int .i64 pre.length) (.int .u8 x.toNat) (jk k l) (.int .i64 l.length) (.int .i64 pre.length) (.bool true) (.int .i64 pre.length) (EP [.int .u8 x.toNat]) (.int .u8 x.toNat) x15 x16 x17 x18 x19 x20 x21 x22 x23 x24 x25 x26 x27 x28 x29 x30 x31 x32 x33 x34 x35 x36 x37 x38 x39 x40 x41 x42 x43 x44 x45 (pre.length:Int) (x.toNat:Int) S rfl rfl;conv at hr=>
   rhs;rw[hTe];simp only[yL.jg,jc,reduceIte,zk,zn,zo,zq,yL.r3,hd,yL.r4,e1,X3,zM hk,e3]
  have hst:((pre.length:Int)=9∧1<(x.toNat:Int)∨0<(pre.length:Int)∧(x.toNat:Int)=0)↔((pre.length=9∧1<x.toNat)∨(0<pre.length∧x.toNat=0)):=by omega
  by_cases hs:(pre.length=9∧1<x.toNat)∨(0<pre.length∧x.toNat=0)
  ·have hs2:=zL (hst.2 hs);conv at hr=>
    rhs;simp only[hs2,jc,reduceIte,zk,zn,zo,zq]
   refine⟨_,_,hL.symm.trans (yX hr (by simp)),?_⟩
   rw[scan,zN hs];exact⟨rfl,rfl⟩
  ·have hs2:=zK (fun h=>hs (hst.1 h))
   have hx256:=x.toNat_lt;have hpw:128 ^ pre.length≤128 ^ 9:=Nat.pow_le_pow_right (by omega) hpre
   have hc64:x.toNat % 128*128 ^ pre.length<2 ^ 64:=by
    by_cases h9:pre.length=9
    ·rw[h9];have:x.toNat % 128≤1:=by omega
     exact Nat.lt_of_le_of_lt (Nat.mul_le_mul_right _ this) (by decide)
    ·have h8:128 ^ pre.length≤128 ^ 8:=Nat.pow_le_pow_right (by omega) (by omega)
     exact Nat.lt_of_le_of_lt (Nat.mul_le_mul (by omega:x.toNat % 128≤127) h8) (by decide)
   have hm:IntKind.i64.wrap (7*(pre.length:Int))=7*(pre.length:Int):=wrap_i64 (by omega) (by omega)
   have e128:(128:Nat) ^ pre.length=2 ^ (7*pre.length):=by rw[Nat.pow_mul]
   have hor:=Ro (a:=acc) (c:=x.toNat % 128) (i:=7*pre.length) (by rw[←e128];exact hacc) (by rw[←e128];exact hc64) (Nat.lt_of_lt_of_le hacc (Nat.le_trans hpw (by decide)))
   conv at hr=>
    rhs;simp only[hs2,jc,reduceIte,zk,zn,zo,zq,yL.r6,Hf,Ie,aJ,Kt (show x.toNat % 128<2 ^ 64 by omega),hm,eP _ _ _ _ (show(0:Int)≤7*(pre.length:Int) by omega),TM hpre hc64,oh,hor,yL.r7]
   rw[←e128]at hr;have hadd:acc+x.toNat % 128*128 ^ pre.length<128 ^ (pre.length+1):=by
    rw[Nat.pow_succ];have:x.toNat % 128*128 ^ pre.length≤127*128 ^ pre.length:=Nat.mul_le_mul_right _ (by omega)
    omega
   have hi1:IntKind.i64.wrap ((pre.length:Int)+1)=(pre.length:Int)+1:=wrap_i64 (by omega) (by omega)
   by_cases hxs:x.toNat<128
   ·have hd2:decide ((x.toNat:Int)<128)=true:=by simp;omega
    have e4:∀S,JI zi 33 (jk k l) (some (.int .i64 ((pre.length:Int)+1))) none S=some (jk k suf,S):=fun S=>by
     rw[pO hv (lo:=some (.int .i64 ((pre.length:Int)+1))) (hi:=none) (i:=(pre.length:Int)+1) (j:=l.length) rfl rfl (by omega) (by omega) (by omega),rY hl,zM hk]
    have ok2:je k suf:=⟨hv.le,fun h=>absurd h k0⟩
    have e5:∀S,zU zi O slices_Clone.id [jk k suf] S=some (jk 2 suf,S):=fun S=>by
     rw[slices_Clone.v ok2 hk (by have:=congrArg List.length hl;simp at this;omega),zM k0]
    conv at hr=>
     rhs;simp only[hd2,jc,reduceIte,zk,zn,zo,zq,yL.r8,hi1,zM hk,e4,e5]
    refine⟨_,_,hL.symm.trans (yX hr (by simp)),?_⟩
    rw[scan,zM hs,zN hxs];have hxm:x.toNat % 128=x.toNat:=by omega
    rw[hxm];refine⟨rfl,?_,rfl,rfl,rfl⟩;rw[hxm]at hadd;by_cases h9:pre.length=9
    ·rw[h9]at hacc ⊢;have:x.toNat≤1:=by omega
     have h1:x.toNat*128 ^ 9≤1*128 ^ 9:=Nat.mul_le_mul_right _ this;have h2:(128:Nat) ^ 9+1*128 ^ 9=2 ^ 64:=by decide
     omega
    ·have h8:128 ^ (pre.length+1)≤128 ^ 9:=Nat.pow_le_pow_right (by omega) (by omega)
     exact Nat.lt_of_lt_of_le hadd (Nat.le_trans h8 (by decide))
   ·have hd2:decide ((x.toNat:Int)<128)=false:=by simp;omega
    conv at hr=>
     rhs;simp only[hd2,jc,reduceIte,zk,zn,zo,zq,yL.r9,hi1]
    obtain⟨e,T',g1,g3⟩:=ih (pre++[x]) (acc+x.toNat % 128*128 ^ pre.length) ((xk hr).symm.trans hL) rfl rfl rfl rfl (by simp) rfl (by simp[hl]) (by simpa using hadd) (by simp;omega)
    refine⟨e,T',g1,?_⟩;rw[scan,zM hs,zM hxs];have hxm:x.toNat % 128=x.toNat - 128:=by omega
    rw[hxm]at g3;simpa using g3
theorem yL.v {k:Nat}{l:List UInt8} (hv:je k l) (hk:k≠2) (hlen:l.length≤140737488355328) (S:zS):zU zi O yL.id [jk k l] S=some (YP l,S):=by
 obtain⟨T,hTe⟩:∃T,T=(jk k l::[zh,zh,zh,zh,zh,zh,zh,zh,zh,zh,zh,zh,zh,zh,zh,zh,zh,zh,zh,zh,zh,zh,zh,zh,zh,zh,zh,zh,zh,zh,zh,zh,zh,zh,zh,zh,zh,zh,zh,zh,zh,zh,zh,zh,zh]):=⟨_,rfl⟩;have hr:=Eq.refl (zX zi O false yL.code T S);conv at hr=>
  rhs;rw[hTe];simp only[yL.code,jc,reduceIte,zk,zn,zo,zq,yL.r0,yL.r1,yL.r2,zM hk,Jm hv]
 generalize hL:yj (zX zi O false yL.jg) _ _=r at hr;obtain⟨e,T',rfl,g3⟩:=yL.round hv hk hlen l [] 0 hL rfl rfl rfl rfl rfl rfl rfl (by simp) (by simp)
 simp only[List.length_nil]at g3;unfold YP;cases hsc:scan 0 0 l with
 |none=>
  rw[hsc]at g3;obtain⟨rfl,hT'⟩:=g3;obtain⟨x0,x1,x2,x3,x4,x5,x6,x7,x8,x9,x10,x11,x12,x13,x14,x15,x16,x17,x18,x19,x20,x21,x22,x23,x24,x25,x26,x27,x28,x29,x30,x31,x32,x33,x34,x35,x36,x37,x38,x39,x40,x41,x42,x43,x44,x45,hTe'⟩:=yL.list hT';conv at hr=>
   rhs;rw[hTe'];simp only[jc,reduceIte,zk,zn,zo,zq,yL.r10]
  rw[hTe]at hr;exact yL.runs hr (.inr rfl) rfl rfl rfl
 |some mr=>
  obtain⟨m,rest⟩:=mr;rw[hsc]at g3;obtain⟨rfl,hm,h2,h3,h4⟩:=g3;conv at hr=>
   rhs;simp only[jc,reduceIte,zk,zn,zo,zq]
  rw[hTe]at hr;have hrun:=yL.runs hr (.inr rfl) (by rw[h2];rfl) (by rw[h3];exact qQ) (by rw[h4];rfl)
  rw[h2,h3,h4]at hrun;exact hrun
theorem VH :∀(suf:List UInt8) (i acc:Nat),acc<128 ^ i→i≤9→∀m rest,scan i acc suf=some (m,rest)→m<2 ^ 64∧rest.length<suf.length:=by
 intro suf;induction suf with
 |nil=>intro i acc _ _ m rest h;cases h
 |cons x suf ih=>
  intro i acc hacc hi m rest h;rw[scan]at h;have hx256:=x.toNat_lt;split at h
  ·cases h
  ·rename_i hs;split at h
   ·rename_i hx;cases h;refine⟨?_,by simp⟩
    by_cases h9:i=9
    ·subst h9;have:x.toNat≤1:=by omega
     have h1:x.toNat*128 ^ 9≤1*128 ^ 9:=Nat.mul_le_mul_right _ this;have h2:(128:Nat) ^ 9+1*128 ^ 9=2 ^ 64:=by decide
     omega
    ·have h8:128 ^ (i+1)≤128 ^ 9:=Nat.pow_le_pow_right (by omega) (by omega)
     have h3:acc+x.toNat*128 ^ i<128 ^ (i+1):=by
      rw[Nat.pow_succ];have:x.toNat*128 ^ i≤127*128 ^ i:=Nat.mul_le_mul_right _ (by omega)
      omega
     exact Nat.lt_of_lt_of_le h3 (Nat.le_trans h8 (by decide))
   ·rename_i hx;have h9:i≠9:=by omega
    have hadd:acc+(x.toNat - 128)*128 ^ i<128 ^ (i+1):=by
     rw[Nat.pow_succ];have:(x.toNat - 128)*128 ^ i≤127*128 ^ i:=Nat.mul_le_mul_right _ (by omega)
     omega
    obtain⟨h1,h2⟩:=ih (i+1) _ hadd (by omega) m rest h
    exact⟨h1,by simp;omega⟩
end Go.Proofs.Ytfjogganfjkckaa
