/-
  No cell of these rows narrows 'for every input' (looked for: loops, veiled, ifaces, maps, wideKeys, modest, calm, conditions, laid).
  DERIVED. THE GIVEN ROWS OF THIS SEAT. 7 by the template 'for every input the law returns true; each argument reads behind the call as it read before'; 0 by the template 'total and deterministic' (their statements: YtfnlcbgijkakiaaTotals.lean).
  GIVEN WITH THE SEED: the statements are not yours to turn. If you find one false, say at which input.
  Laid BY PROGRAM, IN A SANDBOX (cutbox-rows.mjs): the forced cells as the released guide's own fill.sh prints them over the translation 13f0fc77b8afa566… (all of the seat's roots in one cut). By AI agents, Wed Nov 11 2026. No macro, syntax, notation, axiom, sorry.
-/
import Derived.Test.YtfnlcbgijkakiaaChecked
import GoSem.Claim
import GoSem.ClaimJoined
import GoSem.ClaimMapViews
import Derived.JoinedTies
import Derived.KernelRfl
namespace Go.Proofs.Ytfnlcbgijkakiaa
/- THE CELL 'sum', in the pinned program and in every row, IS THE sha256 OF THE DUMP (.gsa) THAT YtfnlcbgijkakiaaProg.lean LOADS. Nothing in Lean hashes anything: it is a label: what it is worth is what the hold of that sum in a sandbox is worth. -/
noncomputable def Try.pinned : Pinned := { name := "ytfnlcbgijkakiaa", sum := "13f0fc77b8afa56698ffff4b1188619ccdc5e5b362b913c5a1be147e534d0f36", checked := Try.checked }
namespace Rows
def none {H : Type} : Left H := { results := [], args := [] }

/-- 'neaptidelaw06.TxTells': WHATEVER THE INPUT: true; the input reads as it did. -/
def txTellsSpec : ChangeSpec := { name := "txTells", fn := fun _ => fun
  | [d1, d2] => { results := [.lit (.bool true)], args := [d1, d2] }
  | _ => none }
def txTellsRow : OpenClaim := { program := "ytfnlcbgijkakiaa", sum := "13f0fc77b8afa56698ffff4b1188619ccdc5e5b362b913c5a1be147e534d0f36", func := "neaptide/neaptidelaw06.TxTells", spec := "txTells", apart := false }
def TxTellsSaid : Prop := txTellsRow.holds Try.pinned (OpenSpec.ofChange txTellsSpec)

/-- ITS FALSE NEIGHBOUR: 'it returns false'. Refute it at one input. -/
def txTellsWrong : ChangeSpec := { name := "txTells", fn := fun _ => fun
  | [d1, d2] => { results := [.lit (.bool false)], args := [d1, d2] }
  | _ => none }
def TxTellsWrongFalsely : Prop := txTellsRow.holds Try.pinned (OpenSpec.ofChange txTellsWrong)

/-- 'neaptidelaw06.TxOrder': WHATEVER THE INPUT: true; the input reads as it did. -/
def txOrderSpec : ChangeSpec := { name := "txOrder", fn := fun _ => fun
  | [d1, d2, d3] => { results := [.lit (.bool true)], args := [d1, d2, d3] }
  | _ => none }
def txOrderRow : OpenClaim := { program := "ytfnlcbgijkakiaa", sum := "13f0fc77b8afa56698ffff4b1188619ccdc5e5b362b913c5a1be147e534d0f36", func := "neaptide/neaptidelaw06.TxOrder", spec := "txOrder", apart := false }
def TxOrderSaid : Prop := txOrderRow.holds Try.pinned (OpenSpec.ofChange txOrderSpec)

/-- ITS FALSE NEIGHBOUR: 'it returns false'. Refute it at one input. -/
def txOrderWrong : ChangeSpec := { name := "txOrder", fn := fun _ => fun
  | [d1, d2, d3] => { results := [.lit (.bool false)], args := [d1, d2, d3] }
  | _ => none }
def TxOrderWrongFalsely : Prop := txOrderRow.holds Try.pinned (OpenSpec.ofChange txOrderWrong)

/-- 'neaptidelaw06.TxLists': WHATEVER THE INPUT: true; the input reads as it did. -/
def txListsSpec : ChangeSpec := { name := "txLists", fn := fun _ => fun
  | [d] => { results := [.lit (.bool true)], args := [d] }
  | _ => none }
def txListsRow : OpenClaim := { program := "ytfnlcbgijkakiaa", sum := "13f0fc77b8afa56698ffff4b1188619ccdc5e5b362b913c5a1be147e534d0f36", func := "neaptide/neaptidelaw06.TxLists", spec := "txLists", apart := false }
def TxListsSaid : Prop := txListsRow.holds Try.pinned (OpenSpec.ofChange txListsSpec)

/-- ITS FALSE NEIGHBOUR: 'it returns false'. Refute it at one input. -/
def txListsWrong : ChangeSpec := { name := "txLists", fn := fun _ => fun
  | [d] => { results := [.lit (.bool false)], args := [d] }
  | _ => none }
def TxListsWrongFalsely : Prop := txListsRow.holds Try.pinned (OpenSpec.ofChange txListsWrong)

/-- 'neaptidelaw06.TxNames': WHATEVER THE INPUT: true; the input reads as it did. -/
def txNamesSpec : ChangeSpec := { name := "txNames", fn := fun _ => fun
  | [] => { results := [.lit (.bool true)], args := [] }
  | _ => none }
def txNamesRow : OpenClaim := { program := "ytfnlcbgijkakiaa", sum := "13f0fc77b8afa56698ffff4b1188619ccdc5e5b362b913c5a1be147e534d0f36", func := "neaptide/neaptidelaw06.TxNames", spec := "txNames", apart := false }
def TxNamesSaid : Prop := txNamesRow.holds Try.pinned (OpenSpec.ofChange txNamesSpec)

/-- ITS FALSE NEIGHBOUR: 'it returns false'. Refute it at one input. -/
def txNamesWrong : ChangeSpec := { name := "txNames", fn := fun _ => fun
  | [] => { results := [.lit (.bool false)], args := [] }
  | _ => none }
def TxNamesWrongFalsely : Prop := txNamesRow.holds Try.pinned (OpenSpec.ofChange txNamesWrong)

/-- 'neaptidelaw06.TxApart': WHATEVER THE INPUT: true; the input reads as it did. -/
def txApartSpec : ChangeSpec := { name := "txApart", fn := fun _ => fun
  | [d1, d2] => { results := [.lit (.bool true)], args := [d1, d2] }
  | _ => none }
def txApartRow : OpenClaim := { program := "ytfnlcbgijkakiaa", sum := "13f0fc77b8afa56698ffff4b1188619ccdc5e5b362b913c5a1be147e534d0f36", func := "neaptide/neaptidelaw06.TxApart", spec := "txApart", apart := false }
def TxApartSaid : Prop := txApartRow.holds Try.pinned (OpenSpec.ofChange txApartSpec)

/-- ITS FALSE NEIGHBOUR: 'it returns false'. Refute it at one input. -/
def txApartWrong : ChangeSpec := { name := "txApart", fn := fun _ => fun
  | [d1, d2] => { results := [.lit (.bool false)], args := [d1, d2] }
  | _ => none }
def TxApartWrongFalsely : Prop := txApartRow.holds Try.pinned (OpenSpec.ofChange txApartWrong)

/-- 'neaptidelaw06.TxReads': WHATEVER THE INPUT: true; the input reads as it did. -/
def txReadsSpec : ChangeSpec := { name := "txReads", fn := fun _ => fun
  | [d] => { results := [.lit (.bool true)], args := [d] }
  | _ => none }
def txReadsRow : OpenClaim := { program := "ytfnlcbgijkakiaa", sum := "13f0fc77b8afa56698ffff4b1188619ccdc5e5b362b913c5a1be147e534d0f36", func := "neaptide/neaptidelaw06.TxReads", spec := "txReads", apart := false }
def TxReadsSaid : Prop := txReadsRow.holds Try.pinned (OpenSpec.ofChange txReadsSpec)

/-- ITS FALSE NEIGHBOUR: 'it returns false'. Refute it at one input. -/
def txReadsWrong : ChangeSpec := { name := "txReads", fn := fun _ => fun
  | [d] => { results := [.lit (.bool false)], args := [d] }
  | _ => none }
def TxReadsWrongFalsely : Prop := txReadsRow.holds Try.pinned (OpenSpec.ofChange txReadsWrong)

/-- 'neaptidelaw06.TxBack': WHATEVER THE INPUT: true; the input reads as it did. -/
def txBackSpec : ChangeSpec := { name := "txBack", fn := fun _ => fun
  | [d1, d2] => { results := [.lit (.bool true)], args := [d1, d2] }
  | _ => none }
def txBackRow : OpenClaim := { program := "ytfnlcbgijkakiaa", sum := "13f0fc77b8afa56698ffff4b1188619ccdc5e5b362b913c5a1be147e534d0f36", func := "neaptide/neaptidelaw06.TxBack", spec := "txBack", apart := false }
def TxBackSaid : Prop := txBackRow.holds Try.pinned (OpenSpec.ofChange txBackSpec)

/-- ITS FALSE NEIGHBOUR: 'it returns false'. Refute it at one input. -/
def txBackWrong : ChangeSpec := { name := "txBack", fn := fun _ => fun
  | [d1, d2] => { results := [.lit (.bool false)], args := [d1, d2] }
  | _ => none }
def TxBackWrongFalsely : Prop := txBackRow.holds Try.pinned (OpenSpec.ofChange txBackWrong)

/- THE SECOND FORM. 'bulk': how many values and letters a reading holds, each counted each time it is reached (what is shared counts as often as it is met; a slice's spare places count too). A statement '..UptoSaid' is the law's where the arguments, and the package variables that the reading takes, are together of bulk at most 1048576: NARROWER than '..Said'. Prove '..Said' where nothing that the law and all that it calls make is longer than what came in: it says more and counts as full. Else prove '..UptoSaid'. A law counts once. -/
mutual
def uptoBulk {H : Type} : DataW H → Nat
  | .lit (.string bytes) => bytes.length + 1
  | .lit _ => 1
  | .nil => 1
  | .ptr d => uptoBulk d + 1
  | .slice elems spare => uptoBulkAll elems + uptoBulkAll spare + 1
  | .agg parts => uptoBulkAll parts + 1
  | .iface _ d => uptoBulk d + 1
  | .map entries => uptoBulkEntries entries + 1
  | .held _ => 1
def uptoBulkAll {H : Type} : List (DataW H) → Nat
  | [] => 0
  | d :: r => uptoBulk d + uptoBulkAll r
def uptoBulkEntries {H : Type} : List (Lit × DataW H) → Nat
  | [] => 0
  | x :: r => uptoBulkEntry x + uptoBulkEntries r
def uptoBulkEntry {H : Type} : Lit × DataW H → Nat
  | (.string bytes, d) => bytes.length + uptoBulk d + 1
  | (_, d) => uptoBulk d + 1
 end
def uptoSmall : (H : Type) → List (DataW H) → Bool := fun _ ds => decide (uptoBulkAll ds ≤ 1048576)
def OpenSpec.upto (s : _root_.Go.ChangeSpec) : _root_.Go.OpenSpec := { _root_.Go.OpenSpec.ofChange s with cond := some uptoSmall }

/-- 'neaptidelaw06.TxTells', WHERE WHAT IT READS IS OF BULK AT MOST 1048576: true; the input reads as it did. -/
def txTellsUptoRow : OpenClaim := { program := "ytfnlcbgijkakiaa", sum := "13f0fc77b8afa56698ffff4b1188619ccdc5e5b362b913c5a1be147e534d0f36", func := "neaptide/neaptidelaw06.TxTells", spec := "txTells", apart := false, narrowed := true }
def TxTellsUptoSaid : Prop := txTellsUptoRow.holds Try.pinned (OpenSpec.upto txTellsSpec)

/-- 'neaptidelaw06.TxOrder', WHERE WHAT IT READS IS OF BULK AT MOST 1048576: true; the input reads as it did. -/
def txOrderUptoRow : OpenClaim := { program := "ytfnlcbgijkakiaa", sum := "13f0fc77b8afa56698ffff4b1188619ccdc5e5b362b913c5a1be147e534d0f36", func := "neaptide/neaptidelaw06.TxOrder", spec := "txOrder", apart := false, narrowed := true }
def TxOrderUptoSaid : Prop := txOrderUptoRow.holds Try.pinned (OpenSpec.upto txOrderSpec)

/-- 'neaptidelaw06.TxLists', WHERE WHAT IT READS IS OF BULK AT MOST 1048576: true; the input reads as it did. -/
def txListsUptoRow : OpenClaim := { program := "ytfnlcbgijkakiaa", sum := "13f0fc77b8afa56698ffff4b1188619ccdc5e5b362b913c5a1be147e534d0f36", func := "neaptide/neaptidelaw06.TxLists", spec := "txLists", apart := false, narrowed := true }
def TxListsUptoSaid : Prop := txListsUptoRow.holds Try.pinned (OpenSpec.upto txListsSpec)

/-- 'neaptidelaw06.TxNames', WHERE WHAT IT READS IS OF BULK AT MOST 1048576: true; the input reads as it did. -/
def txNamesUptoRow : OpenClaim := { program := "ytfnlcbgijkakiaa", sum := "13f0fc77b8afa56698ffff4b1188619ccdc5e5b362b913c5a1be147e534d0f36", func := "neaptide/neaptidelaw06.TxNames", spec := "txNames", apart := false, narrowed := true }
def TxNamesUptoSaid : Prop := txNamesUptoRow.holds Try.pinned (OpenSpec.upto txNamesSpec)

/-- 'neaptidelaw06.TxApart', WHERE WHAT IT READS IS OF BULK AT MOST 1048576: true; the input reads as it did. -/
def txApartUptoRow : OpenClaim := { program := "ytfnlcbgijkakiaa", sum := "13f0fc77b8afa56698ffff4b1188619ccdc5e5b362b913c5a1be147e534d0f36", func := "neaptide/neaptidelaw06.TxApart", spec := "txApart", apart := false, narrowed := true }
def TxApartUptoSaid : Prop := txApartUptoRow.holds Try.pinned (OpenSpec.upto txApartSpec)

/-- 'neaptidelaw06.TxReads', WHERE WHAT IT READS IS OF BULK AT MOST 1048576: true; the input reads as it did. -/
def txReadsUptoRow : OpenClaim := { program := "ytfnlcbgijkakiaa", sum := "13f0fc77b8afa56698ffff4b1188619ccdc5e5b362b913c5a1be147e534d0f36", func := "neaptide/neaptidelaw06.TxReads", spec := "txReads", apart := false, narrowed := true }
def TxReadsUptoSaid : Prop := txReadsUptoRow.holds Try.pinned (OpenSpec.upto txReadsSpec)

/-- 'neaptidelaw06.TxBack', WHERE WHAT IT READS IS OF BULK AT MOST 1048576: true; the input reads as it did. -/
def txBackUptoRow : OpenClaim := { program := "ytfnlcbgijkakiaa", sum := "13f0fc77b8afa56698ffff4b1188619ccdc5e5b362b913c5a1be147e534d0f36", func := "neaptide/neaptidelaw06.TxBack", spec := "txBack", apart := false, narrowed := true }
def TxBackUptoSaid : Prop := txBackUptoRow.holds Try.pinned (OpenSpec.upto txBackSpec)

end Rows
end Go.Proofs.Ytfnlcbgijkakiaa
