/-
  No cell of these rows narrows 'for every input' (looked for: loops, veiled, ifaces, maps, wideKeys, modest, calm, conditions, laid).
  DERIVED. THE GIVEN ROWS OF THIS SEAT. 6 by the template 'for every input the law returns true; each argument reads behind the call as it read before'; 0 by the template 'total and deterministic' (their statements: YtbgcphbbchndkaaTotals.lean).
  GIVEN WITH THE SEED: the statements are not yours to turn. If you find one false, say at which input.
  Laid BY PROGRAM, IN A SANDBOX (cutbox-rows.mjs): the forced cells as the released guide's own fill.sh prints them over the translation 14c30d1010cc7b2b… (all of the seat's roots in one cut). By AI agents, Wed Nov 11 2026. No macro, syntax, notation, axiom, sorry.
-/
import Derived.Test.YtbgcphbbchndkaaChecked
import GoSem.Claim
import GoSem.ClaimJoined
import GoSem.ClaimMapViews
import Derived.JoinedTies
import Derived.KernelRfl
namespace Go.Proofs.Ytbgcphbbchndkaa
/- THE CELL 'sum', in the pinned program and in every row, IS THE sha256 OF THE DUMP (.gsa) THAT YtbgcphbbchndkaaProg.lean LOADS. Nothing in Lean hashes anything: it is a label: what it is worth is what the hold of that sum in a sandbox is worth. -/
noncomputable def Try.pinned : Pinned := { name := "ytbgcphbbchndkaa", sum := "14c30d1010cc7b2bf8f13fec44e458b9a77d89defda2bddcf407c465b71f48c3", checked := Try.checked }
namespace Rows
def none {H : Type} : Left H := { results := [], args := [] }

/-- 'neaptidelaw12.MsgNames': WHATEVER THE INPUT: true; the input reads as it did. -/
def msgNamesSpec : ChangeSpec := { name := "msgNames", fn := fun _ => fun
  | [] => { results := [.lit (.bool true)], args := [] }
  | _ => none }
def msgNamesRow : OpenClaim := { program := "ytbgcphbbchndkaa", sum := "14c30d1010cc7b2bf8f13fec44e458b9a77d89defda2bddcf407c465b71f48c3", func := "neaptide/neaptidelaw12.MsgNames", spec := "msgNames", apart := false }
def MsgNamesSaid : Prop := msgNamesRow.holds Try.pinned (OpenSpec.ofChange msgNamesSpec)

/-- ITS FALSE NEIGHBOUR: 'it returns false'. Refute it at one input. -/
def msgNamesWrong : ChangeSpec := { name := "msgNames", fn := fun _ => fun
  | [] => { results := [.lit (.bool false)], args := [] }
  | _ => none }
def MsgNamesWrongFalsely : Prop := msgNamesRow.holds Try.pinned (OpenSpec.ofChange msgNamesWrong)

/-- 'neaptidelaw12.MsgReads': WHATEVER THE INPUT: true; the input reads as it did. -/
def msgReadsSpec : ChangeSpec := { name := "msgReads", fn := fun _ => fun
  | [d] => { results := [.lit (.bool true)], args := [d] }
  | _ => none }
def msgReadsRow : OpenClaim := { program := "ytbgcphbbchndkaa", sum := "14c30d1010cc7b2bf8f13fec44e458b9a77d89defda2bddcf407c465b71f48c3", func := "neaptide/neaptidelaw12.MsgReads", spec := "msgReads", apart := false }
def MsgReadsSaid : Prop := msgReadsRow.holds Try.pinned (OpenSpec.ofChange msgReadsSpec)

/-- ITS FALSE NEIGHBOUR: 'it returns false'. Refute it at one input. -/
def msgReadsWrong : ChangeSpec := { name := "msgReads", fn := fun _ => fun
  | [d] => { results := [.lit (.bool false)], args := [d] }
  | _ => none }
def MsgReadsWrongFalsely : Prop := msgReadsRow.holds Try.pinned (OpenSpec.ofChange msgReadsWrong)

/-- 'neaptidelaw12.MsgBack': WHATEVER THE INPUT: true; the input reads as it did. -/
def msgBackSpec : ChangeSpec := { name := "msgBack", fn := fun _ => fun
  | [d1, d2] => { results := [.lit (.bool true)], args := [d1, d2] }
  | _ => none }
def msgBackRow : OpenClaim := { program := "ytbgcphbbchndkaa", sum := "14c30d1010cc7b2bf8f13fec44e458b9a77d89defda2bddcf407c465b71f48c3", func := "neaptide/neaptidelaw12.MsgBack", spec := "msgBack", apart := false }
def MsgBackSaid : Prop := msgBackRow.holds Try.pinned (OpenSpec.ofChange msgBackSpec)

/-- ITS FALSE NEIGHBOUR: 'it returns false'. Refute it at one input. -/
def msgBackWrong : ChangeSpec := { name := "msgBack", fn := fun _ => fun
  | [d1, d2] => { results := [.lit (.bool false)], args := [d1, d2] }
  | _ => none }
def MsgBackWrongFalsely : Prop := msgBackRow.holds Try.pinned (OpenSpec.ofChange msgBackWrong)

/-- 'neaptidelaw12.MsgMarks': WHATEVER THE INPUT: true; the input reads as it did. -/
def msgMarksSpec : ChangeSpec := { name := "msgMarks", fn := fun _ => fun
  | [d1, d2, d3] => { results := [.lit (.bool true)], args := [d1, d2, d3] }
  | _ => none }
def msgMarksRow : OpenClaim := { program := "ytbgcphbbchndkaa", sum := "14c30d1010cc7b2bf8f13fec44e458b9a77d89defda2bddcf407c465b71f48c3", func := "neaptide/neaptidelaw12.MsgMarks", spec := "msgMarks", apart := false }
def MsgMarksSaid : Prop := msgMarksRow.holds Try.pinned (OpenSpec.ofChange msgMarksSpec)

/-- ITS FALSE NEIGHBOUR: 'it returns false'. Refute it at one input. -/
def msgMarksWrong : ChangeSpec := { name := "msgMarks", fn := fun _ => fun
  | [d1, d2, d3] => { results := [.lit (.bool false)], args := [d1, d2, d3] }
  | _ => none }
def MsgMarksWrongFalsely : Prop := msgMarksRow.holds Try.pinned (OpenSpec.ofChange msgMarksWrong)

/-- 'neaptidelaw12.MsgTells': WHATEVER THE INPUT: true; the input reads as it did. -/
def msgTellsSpec : ChangeSpec := { name := "msgTells", fn := fun _ => fun
  | [d1, d2] => { results := [.lit (.bool true)], args := [d1, d2] }
  | _ => none }
def msgTellsRow : OpenClaim := { program := "ytbgcphbbchndkaa", sum := "14c30d1010cc7b2bf8f13fec44e458b9a77d89defda2bddcf407c465b71f48c3", func := "neaptide/neaptidelaw12.MsgTells", spec := "msgTells", apart := false }
def MsgTellsSaid : Prop := msgTellsRow.holds Try.pinned (OpenSpec.ofChange msgTellsSpec)

/-- ITS FALSE NEIGHBOUR: 'it returns false'. Refute it at one input. -/
def msgTellsWrong : ChangeSpec := { name := "msgTells", fn := fun _ => fun
  | [d1, d2] => { results := [.lit (.bool false)], args := [d1, d2] }
  | _ => none }
def MsgTellsWrongFalsely : Prop := msgTellsRow.holds Try.pinned (OpenSpec.ofChange msgTellsWrong)

/-- 'neaptidelaw12.MsgApart': WHATEVER THE INPUT: true; the input reads as it did. -/
def msgApartSpec : ChangeSpec := { name := "msgApart", fn := fun _ => fun
  | [d1, d2] => { results := [.lit (.bool true)], args := [d1, d2] }
  | _ => none }
def msgApartRow : OpenClaim := { program := "ytbgcphbbchndkaa", sum := "14c30d1010cc7b2bf8f13fec44e458b9a77d89defda2bddcf407c465b71f48c3", func := "neaptide/neaptidelaw12.MsgApart", spec := "msgApart", apart := false }
def MsgApartSaid : Prop := msgApartRow.holds Try.pinned (OpenSpec.ofChange msgApartSpec)

/-- ITS FALSE NEIGHBOUR: 'it returns false'. Refute it at one input. -/
def msgApartWrong : ChangeSpec := { name := "msgApart", fn := fun _ => fun
  | [d1, d2] => { results := [.lit (.bool false)], args := [d1, d2] }
  | _ => none }
def MsgApartWrongFalsely : Prop := msgApartRow.holds Try.pinned (OpenSpec.ofChange msgApartWrong)

/- THE SECOND FORM. 'bulk': how many values and letters a reading holds, each counted each time it is reached (what is shared counts as often as it is met; a slice's spare places count too). A statement '..UptoSaid' is the law's where the arguments, and the package variables that the reading takes, are together of bulk at most 1048576: NARROWER than '..Said'. Prove '..Said' where nothing that the law and all that it calls make is longer than what came in: it says more and counts as full. Else prove '..UptoSaid'. A law counts once. -/
mutual
def uptoBulk {H : Type} : DataW H → Nat
  | .lit (.string bytes) => bytes.length + 1
  | .lit _ => 1
  | .nil => 1
  | .ptr d => uptoBulk d + 1
  | .slice elems spare => uptoBulkAll elems + uptoBulkAll spare + 1
  | .agg parts => uptoBulkAll parts + 1
  | .iface _ d => uptoBulk d + 1
  | .map entries => uptoBulkEntries entries + 1
  | .held _ => 1
def uptoBulkAll {H : Type} : List (DataW H) → Nat
  | [] => 0
  | d :: r => uptoBulk d + uptoBulkAll r
def uptoBulkEntries {H : Type} : List (Lit × DataW H) → Nat
  | [] => 0
  | x :: r => uptoBulkEntry x + uptoBulkEntries r
def uptoBulkEntry {H : Type} : Lit × DataW H → Nat
  | (.string bytes, d) => bytes.length + uptoBulk d + 1
  | (_, d) => uptoBulk d + 1
 end
def uptoSmall : (H : Type) → List (DataW H) → Bool := fun _ ds => decide (uptoBulkAll ds ≤ 1048576)
def OpenSpec.upto (s : _root_.Go.ChangeSpec) : _root_.Go.OpenSpec := { _root_.Go.OpenSpec.ofChange s with cond := some uptoSmall }

/-- 'neaptidelaw12.MsgNames', WHERE WHAT IT READS IS OF BULK AT MOST 1048576: true; the input reads as it did. -/
def msgNamesUptoRow : OpenClaim := { program := "ytbgcphbbchndkaa", sum := "14c30d1010cc7b2bf8f13fec44e458b9a77d89defda2bddcf407c465b71f48c3", func := "neaptide/neaptidelaw12.MsgNames", spec := "msgNames", apart := false, narrowed := true }
def MsgNamesUptoSaid : Prop := msgNamesUptoRow.holds Try.pinned (OpenSpec.upto msgNamesSpec)

/-- 'neaptidelaw12.MsgReads', WHERE WHAT IT READS IS OF BULK AT MOST 1048576: true; the input reads as it did. -/
def msgReadsUptoRow : OpenClaim := { program := "ytbgcphbbchndkaa", sum := "14c30d1010cc7b2bf8f13fec44e458b9a77d89defda2bddcf407c465b71f48c3", func := "neaptide/neaptidelaw12.MsgReads", spec := "msgReads", apart := false, narrowed := true }
def MsgReadsUptoSaid : Prop := msgReadsUptoRow.holds Try.pinned (OpenSpec.upto msgReadsSpec)

/-- 'neaptidelaw12.MsgBack', WHERE WHAT IT READS IS OF BULK AT MOST 1048576: true; the input reads as it did. -/
def msgBackUptoRow : OpenClaim := { program := "ytbgcphbbchndkaa", sum := "14c30d1010cc7b2bf8f13fec44e458b9a77d89defda2bddcf407c465b71f48c3", func := "neaptide/neaptidelaw12.MsgBack", spec := "msgBack", apart := false, narrowed := true }
def MsgBackUptoSaid : Prop := msgBackUptoRow.holds Try.pinned (OpenSpec.upto msgBackSpec)

/-- 'neaptidelaw12.MsgMarks', WHERE WHAT IT READS IS OF BULK AT MOST 1048576: true; the input reads as it did. -/
def msgMarksUptoRow : OpenClaim := { program := "ytbgcphbbchndkaa", sum := "14c30d1010cc7b2bf8f13fec44e458b9a77d89defda2bddcf407c465b71f48c3", func := "neaptide/neaptidelaw12.MsgMarks", spec := "msgMarks", apart := false, narrowed := true }
def MsgMarksUptoSaid : Prop := msgMarksUptoRow.holds Try.pinned (OpenSpec.upto msgMarksSpec)

/-- 'neaptidelaw12.MsgTells', WHERE WHAT IT READS IS OF BULK AT MOST 1048576: true; the input reads as it did. -/
def msgTellsUptoRow : OpenClaim := { program := "ytbgcphbbchndkaa", sum := "14c30d1010cc7b2bf8f13fec44e458b9a77d89defda2bddcf407c465b71f48c3", func := "neaptide/neaptidelaw12.MsgTells", spec := "msgTells", apart := false, narrowed := true }
def MsgTellsUptoSaid : Prop := msgTellsUptoRow.holds Try.pinned (OpenSpec.upto msgTellsSpec)

/-- 'neaptidelaw12.MsgApart', WHERE WHAT IT READS IS OF BULK AT MOST 1048576: true; the input reads as it did. -/
def msgApartUptoRow : OpenClaim := { program := "ytbgcphbbchndkaa", sum := "14c30d1010cc7b2bf8f13fec44e458b9a77d89defda2bddcf407c465b71f48c3", func := "neaptide/neaptidelaw12.MsgApart", spec := "msgApart", apart := false, narrowed := true }
def MsgApartUptoSaid : Prop := msgApartUptoRow.holds Try.pinned (OpenSpec.upto msgApartSpec)

end Rows
end Go.Proofs.Ytbgcphbbchndkaa
