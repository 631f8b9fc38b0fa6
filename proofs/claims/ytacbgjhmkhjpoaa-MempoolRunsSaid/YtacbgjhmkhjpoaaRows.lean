/-
  No cell of these rows narrows 'for every input' (looked for: loops, veiled, ifaces, maps, wideKeys, modest, calm, conditions, laid).
  DERIVED. THE GIVEN ROWS OF THIS SEAT. 6 by the template 'for every input the law returns true; each argument reads behind the call as it read before'; 0 by the template 'total and deterministic' (their statements: YtacbgjhmkhjpoaaTotals.lean).
  GIVEN WITH THE SEED: the statements are not yours to turn. If you find one false, say at which input.
  Laid BY PROGRAM, IN A SANDBOX (cutbox-rows.mjs): the forced cells as the released guide's own fill.sh prints them over the translation c8bef86322cd9397… (all of the seat's roots in one cut). By AI agents, Wed Nov 11 2026. No macro, syntax, notation, axiom, sorry.
-/
import Derived.Test.YtacbgjhmkhjpoaaChecked
import GoSem.Claim
import GoSem.ClaimJoined
import GoSem.ClaimMapViews
import Derived.JoinedTies
import Derived.KernelRfl
namespace Go.Proofs.Ytacbgjhmkhjpoaa
/- THE CELL 'sum', in the pinned program and in every row, IS THE sha256 OF THE DUMP (.gsa) THAT YtacbgjhmkhjpoaaProg.lean LOADS. Nothing in Lean hashes anything: it is a label: what it is worth is what the hold of that sum in a sandbox is worth. -/
noncomputable def Try.pinned : Pinned := { name := "ytacbgjhmkhjpoaa", sum := "c8bef86322cd9397eb16eb92eb4c7778a6ea069db3e92666bafaf7d66afc6168", checked := Try.checked }
namespace Rows
def none {H : Type} : Left H := { results := [], args := [] }

/-- 'neaptidelaw09.MempoolNames': WHATEVER THE INPUT: true; the input reads as it did. -/
def mempoolNamesSpec : ChangeSpec := { name := "mempoolNames", fn := fun _ => fun
  | [] => { results := [.lit (.bool true)], args := [] }
  | _ => none }
def mempoolNamesRow : OpenClaim := { program := "ytacbgjhmkhjpoaa", sum := "c8bef86322cd9397eb16eb92eb4c7778a6ea069db3e92666bafaf7d66afc6168", func := "neaptide/neaptidelaw09.MempoolNames", spec := "mempoolNames", inPlace := ["slices.overlaps[neaptide/api.Tx]"], unfollowed := true, recurses := true, apart := false }
def MempoolNamesSaid : Prop := mempoolNamesRow.holds Try.pinned (OpenSpec.ofChange mempoolNamesSpec)

/-- ITS FALSE NEIGHBOUR: 'it returns false'. Refute it at one input. -/
def mempoolNamesWrong : ChangeSpec := { name := "mempoolNames", fn := fun _ => fun
  | [] => { results := [.lit (.bool false)], args := [] }
  | _ => none }
def MempoolNamesWrongFalsely : Prop := mempoolNamesRow.holds Try.pinned (OpenSpec.ofChange mempoolNamesWrong)

/-- 'neaptidelaw09.MempoolOrder': WHATEVER THE INPUT: true; the input reads as it did. -/
def mempoolOrderSpec : ChangeSpec := { name := "mempoolOrder", fn := fun _ => fun
  | [d] => { results := [.lit (.bool true)], args := [d] }
  | _ => none }
def mempoolOrderRow : OpenClaim := { program := "ytacbgjhmkhjpoaa", sum := "c8bef86322cd9397eb16eb92eb4c7778a6ea069db3e92666bafaf7d66afc6168", func := "neaptide/neaptidelaw09.MempoolOrder", spec := "mempoolOrder", inPlace := ["slices.overlaps[neaptide/api.Tx]"], unfollowed := true, recurses := true, apart := false }
def MempoolOrderSaid : Prop := mempoolOrderRow.holds Try.pinned (OpenSpec.ofChange mempoolOrderSpec)

/-- ITS FALSE NEIGHBOUR: 'it returns false'. Refute it at one input. -/
def mempoolOrderWrong : ChangeSpec := { name := "mempoolOrder", fn := fun _ => fun
  | [d] => { results := [.lit (.bool false)], args := [d] }
  | _ => none }
def MempoolOrderWrongFalsely : Prop := mempoolOrderRow.holds Try.pinned (OpenSpec.ofChange mempoolOrderWrong)

/-- 'neaptidelaw09.MempoolBest': WHATEVER THE INPUT: true; the input reads as it did. -/
def mempoolBestSpec : ChangeSpec := { name := "mempoolBest", fn := fun _ => fun
  | [d1, d2] => { results := [.lit (.bool true)], args := [d1, d2] }
  | _ => none }
def mempoolBestRow : OpenClaim := { program := "ytacbgjhmkhjpoaa", sum := "c8bef86322cd9397eb16eb92eb4c7778a6ea069db3e92666bafaf7d66afc6168", func := "neaptide/neaptidelaw09.MempoolBest", spec := "mempoolBest", inPlace := ["slices.overlaps[neaptide/api.Tx]"], unfollowed := true, recurses := true, apart := false }
def MempoolBestSaid : Prop := mempoolBestRow.holds Try.pinned (OpenSpec.ofChange mempoolBestSpec)

/-- ITS FALSE NEIGHBOUR: 'it returns false'. Refute it at one input. -/
def mempoolBestWrong : ChangeSpec := { name := "mempoolBest", fn := fun _ => fun
  | [d1, d2] => { results := [.lit (.bool false)], args := [d1, d2] }
  | _ => none }
def MempoolBestWrongFalsely : Prop := mempoolBestRow.holds Try.pinned (OpenSpec.ofChange mempoolBestWrong)

/-- 'neaptidelaw09.MempoolTurns': WHATEVER THE INPUT: true; the input reads as it did. -/
def mempoolTurnsSpec : ChangeSpec := { name := "mempoolTurns", fn := fun _ => fun
  | [d] => { results := [.lit (.bool true)], args := [d] }
  | _ => none }
def mempoolTurnsRow : OpenClaim := { program := "ytacbgjhmkhjpoaa", sum := "c8bef86322cd9397eb16eb92eb4c7778a6ea069db3e92666bafaf7d66afc6168", func := "neaptide/neaptidelaw09.MempoolTurns", spec := "mempoolTurns", inPlace := ["slices.overlaps[neaptide/api.Tx]"], unfollowed := true, recurses := true, apart := false }
def MempoolTurnsSaid : Prop := mempoolTurnsRow.holds Try.pinned (OpenSpec.ofChange mempoolTurnsSpec)

/-- ITS FALSE NEIGHBOUR: 'it returns false'. Refute it at one input. -/
def mempoolTurnsWrong : ChangeSpec := { name := "mempoolTurns", fn := fun _ => fun
  | [d] => { results := [.lit (.bool false)], args := [d] }
  | _ => none }
def MempoolTurnsWrongFalsely : Prop := mempoolTurnsRow.holds Try.pinned (OpenSpec.ofChange mempoolTurnsWrong)

/-- 'neaptidelaw09.MempoolRuns': WHATEVER THE INPUT: true; the input reads as it did. -/
def mempoolRunsSpec : ChangeSpec := { name := "mempoolRuns", fn := fun _ => fun
  | [d1, d2, d3] => { results := [.lit (.bool true)], args := [d1, d2, d3] }
  | _ => none }
def mempoolRunsRow : OpenClaim := { program := "ytacbgjhmkhjpoaa", sum := "c8bef86322cd9397eb16eb92eb4c7778a6ea069db3e92666bafaf7d66afc6168", func := "neaptide/neaptidelaw09.MempoolRuns", spec := "mempoolRuns", inPlace := ["slices.overlaps[neaptide/api.Tx]"], unfollowed := true, recurses := true, apart := false }
def MempoolRunsSaid : Prop := mempoolRunsRow.holds Try.pinned (OpenSpec.ofChange mempoolRunsSpec)

/-- ITS FALSE NEIGHBOUR: 'it returns false'. Refute it at one input. -/
def mempoolRunsWrong : ChangeSpec := { name := "mempoolRuns", fn := fun _ => fun
  | [d1, d2, d3] => { results := [.lit (.bool false)], args := [d1, d2, d3] }
  | _ => none }
def MempoolRunsWrongFalsely : Prop := mempoolRunsRow.holds Try.pinned (OpenSpec.ofChange mempoolRunsWrong)

/-- 'neaptidelaw09.MempoolPicks': WHATEVER THE INPUT: true; the input reads as it did. -/
def mempoolPicksSpec : ChangeSpec := { name := "mempoolPicks", fn := fun _ => fun
  | [d1, d2, d3] => { results := [.lit (.bool true)], args := [d1, d2, d3] }
  | _ => none }
def mempoolPicksRow : OpenClaim := { program := "ytacbgjhmkhjpoaa", sum := "c8bef86322cd9397eb16eb92eb4c7778a6ea069db3e92666bafaf7d66afc6168", func := "neaptide/neaptidelaw09.MempoolPicks", spec := "mempoolPicks", inPlace := ["slices.overlaps[neaptide/api.Tx]"], unfollowed := true, recurses := true, apart := false }
def MempoolPicksSaid : Prop := mempoolPicksRow.holds Try.pinned (OpenSpec.ofChange mempoolPicksSpec)

/-- ITS FALSE NEIGHBOUR: 'it returns false'. Refute it at one input. -/
def mempoolPicksWrong : ChangeSpec := { name := "mempoolPicks", fn := fun _ => fun
  | [d1, d2, d3] => { results := [.lit (.bool false)], args := [d1, d2, d3] }
  | _ => none }
def MempoolPicksWrongFalsely : Prop := mempoolPicksRow.holds Try.pinned (OpenSpec.ofChange mempoolPicksWrong)

/- THE SECOND FORM. 'bulk': how many values and letters a reading holds, each counted each time it is reached (what is shared counts as often as it is met; a slice's spare places count too). A statement '..UptoSaid' is the law's where the arguments, and the package variables that the reading takes, are together of bulk at most 1048576: NARROWER than '..Said'. Prove '..Said' where nothing that the law and all that it calls make is longer than what came in: it says more and counts as full. Else prove '..UptoSaid'. A law counts once. -/
mutual
def uptoBulk {H : Type} : DataW H → Nat
  | .lit (.string bytes) => bytes.length + 1
  | .lit _ => 1
  | .nil => 1
  | .ptr d => uptoBulk d + 1
  | .slice elems spare => uptoBulkAll elems + uptoBulkAll spare + 1
  | .agg parts => uptoBulkAll parts + 1
  | .iface _ d => uptoBulk d + 1
  | .map entries => uptoBulkEntries entries + 1
  | .held _ => 1
def uptoBulkAll {H : Type} : List (DataW H) → Nat
  | [] => 0
  | d :: r => uptoBulk d + uptoBulkAll r
def uptoBulkEntries {H : Type} : List (Lit × DataW H) → Nat
  | [] => 0
  | x :: r => uptoBulkEntry x + uptoBulkEntries r
def uptoBulkEntry {H : Type} : Lit × DataW H → Nat
  | (.string bytes, d) => bytes.length + uptoBulk d + 1
  | (_, d) => uptoBulk d + 1
 end
def uptoSmall : (H : Type) → List (DataW H) → Bool := fun _ ds => decide (uptoBulkAll ds ≤ 1048576)
def OpenSpec.upto (s : _root_.Go.ChangeSpec) : _root_.Go.OpenSpec := { _root_.Go.OpenSpec.ofChange s with cond := some uptoSmall }

/-- 'neaptidelaw09.MempoolNames', WHERE WHAT IT READS IS OF BULK AT MOST 1048576: true; the input reads as it did. -/
def mempoolNamesUptoRow : OpenClaim := { program := "ytacbgjhmkhjpoaa", sum := "c8bef86322cd9397eb16eb92eb4c7778a6ea069db3e92666bafaf7d66afc6168", func := "neaptide/neaptidelaw09.MempoolNames", spec := "mempoolNames", inPlace := ["slices.overlaps[neaptide/api.Tx]"], unfollowed := true, recurses := true, apart := false, narrowed := true }
def MempoolNamesUptoSaid : Prop := mempoolNamesUptoRow.holds Try.pinned (OpenSpec.upto mempoolNamesSpec)

/-- 'neaptidelaw09.MempoolOrder', WHERE WHAT IT READS IS OF BULK AT MOST 1048576: true; the input reads as it did. -/
def mempoolOrderUptoRow : OpenClaim := { program := "ytacbgjhmkhjpoaa", sum := "c8bef86322cd9397eb16eb92eb4c7778a6ea069db3e92666bafaf7d66afc6168", func := "neaptide/neaptidelaw09.MempoolOrder", spec := "mempoolOrder", inPlace := ["slices.overlaps[neaptide/api.Tx]"], unfollowed := true, recurses := true, apart := false, narrowed := true }
def MempoolOrderUptoSaid : Prop := mempoolOrderUptoRow.holds Try.pinned (OpenSpec.upto mempoolOrderSpec)

/-- 'neaptidelaw09.MempoolBest', WHERE WHAT IT READS IS OF BULK AT MOST 1048576: true; the input reads as it did. -/
def mempoolBestUptoRow : OpenClaim := { program := "ytacbgjhmkhjpoaa", sum := "c8bef86322cd9397eb16eb92eb4c7778a6ea069db3e92666bafaf7d66afc6168", func := "neaptide/neaptidelaw09.MempoolBest", spec := "mempoolBest", inPlace := ["slices.overlaps[neaptide/api.Tx]"], unfollowed := true, recurses := true, apart := false, narrowed := true }
def MempoolBestUptoSaid : Prop := mempoolBestUptoRow.holds Try.pinned (OpenSpec.upto mempoolBestSpec)

/-- 'neaptidelaw09.MempoolTurns', WHERE WHAT IT READS IS OF BULK AT MOST 1048576: true; the input reads as it did. -/
def mempoolTurnsUptoRow : OpenClaim := { program := "ytacbgjhmkhjpoaa", sum := "c8bef86322cd9397eb16eb92eb4c7778a6ea069db3e92666bafaf7d66afc6168", func := "neaptide/neaptidelaw09.MempoolTurns", spec := "mempoolTurns", inPlace := ["slices.overlaps[neaptide/api.Tx]"], unfollowed := true, recurses := true, apart := false, narrowed := true }
def MempoolTurnsUptoSaid : Prop := mempoolTurnsUptoRow.holds Try.pinned (OpenSpec.upto mempoolTurnsSpec)

/-- 'neaptidelaw09.MempoolRuns', WHERE WHAT IT READS IS OF BULK AT MOST 1048576: true; the input reads as it did. -/
def mempoolRunsUptoRow : OpenClaim := { program := "ytacbgjhmkhjpoaa", sum := "c8bef86322cd9397eb16eb92eb4c7778a6ea069db3e92666bafaf7d66afc6168", func := "neaptide/neaptidelaw09.MempoolRuns", spec := "mempoolRuns", inPlace := ["slices.overlaps[neaptide/api.Tx]"], unfollowed := true, recurses := true, apart := false, narrowed := true }
def MempoolRunsUptoSaid : Prop := mempoolRunsUptoRow.holds Try.pinned (OpenSpec.upto mempoolRunsSpec)

/-- 'neaptidelaw09.MempoolPicks', WHERE WHAT IT READS IS OF BULK AT MOST 1048576: true; the input reads as it did. -/
def mempoolPicksUptoRow : OpenClaim := { program := "ytacbgjhmkhjpoaa", sum := "c8bef86322cd9397eb16eb92eb4c7778a6ea069db3e92666bafaf7d66afc6168", func := "neaptide/neaptidelaw09.MempoolPicks", spec := "mempoolPicks", inPlace := ["slices.overlaps[neaptide/api.Tx]"], unfollowed := true, recurses := true, apart := false, narrowed := true }
def MempoolPicksUptoSaid : Prop := mempoolPicksUptoRow.holds Try.pinned (OpenSpec.upto mempoolPicksSpec)

end Rows
end Go.Proofs.Ytacbgjhmkhjpoaa
