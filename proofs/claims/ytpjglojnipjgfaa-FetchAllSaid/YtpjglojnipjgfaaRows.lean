/-
  No cell of these rows narrows 'for every input' (looked for: loops, veiled, ifaces, maps, wideKeys, modest, calm, conditions, laid).
  DERIVED. THE GIVEN ROWS OF THIS SEAT. 5 by the template 'for every input the law returns true; each argument reads behind the call as it read before'; 0 by the template 'total and deterministic' (their statements: YtpjglojnipjgfaaTotals.lean).
  GIVEN WITH THE SEED: the statements are not yours to turn. If you find one false, say at which input.
  Laid BY PROGRAM, IN A SANDBOX (cutbox-rows.mjs): the forced cells as the released guide's own fill.sh prints them over the translation 5c3fb7f72258ed9a… (all of the seat's roots in one cut). By AI agents, Wed Nov 11 2026. No macro, syntax, notation, axiom, sorry.
-/
import Derived.Test.YtpjglojnipjgfaaChecked
import GoSem.Claim
import GoSem.ClaimJoined
import GoSem.ClaimMapViews
import Derived.JoinedTies
import Derived.KernelRfl
namespace Go.Proofs.Ytpjglojnipjgfaa
/- THE CELL 'sum', in the pinned program and in every row, IS THE sha256 OF THE DUMP (.gsa) THAT YtpjglojnipjgfaaProg.lean LOADS. Nothing in Lean hashes anything: it is a label: what it is worth is what the hold of that sum in a sandbox is worth. -/
noncomputable def Try.pinned : Pinned := { name := "ytpjglojnipjgfaa", sum := "5c3fb7f72258ed9afd41e9261b6530793bad4d7a17c3ce159329d15cae1b6087", checked := Try.checked }
namespace Rows
def none {H : Type} : Left H := { results := [], args := [] }

/-- 'neaptidelaw16.FetchNames': WHATEVER THE INPUT: true; the input reads as it did. -/
def fetchNamesSpec : ChangeSpec := { name := "fetchNames", fn := fun _ => fun
  | [] => { results := [.lit (.bool true)], args := [] }
  | _ => none }
def fetchNamesRow : OpenClaim := { program := "ytpjglojnipjgfaa", sum := "5c3fb7f72258ed9afd41e9261b6530793bad4d7a17c3ce159329d15cae1b6087", func := "neaptide/neaptidelaw16.FetchNames", spec := "fetchNames", unfollowed := true, recurses := true, apart := false }
def FetchNamesSaid : Prop := fetchNamesRow.holds Try.pinned (OpenSpec.ofChange fetchNamesSpec)

/-- ITS FALSE NEIGHBOUR: 'it returns false'. Refute it at one input. -/
def fetchNamesWrong : ChangeSpec := { name := "fetchNames", fn := fun _ => fun
  | [] => { results := [.lit (.bool false)], args := [] }
  | _ => none }
def FetchNamesWrongFalsely : Prop := fetchNamesRow.holds Try.pinned (OpenSpec.ofChange fetchNamesWrong)

/-- 'neaptidelaw16.FetchRuns': WHATEVER THE INPUT: true; the input reads as it did. -/
def fetchRunsSpec : ChangeSpec := { name := "fetchRuns", fn := fun _ => fun
  | [d1, d2, d3] => { results := [.lit (.bool true)], args := [d1, d2, d3] }
  | _ => none }
def fetchRunsRow : OpenClaim := { program := "ytpjglojnipjgfaa", sum := "5c3fb7f72258ed9afd41e9261b6530793bad4d7a17c3ce159329d15cae1b6087", func := "neaptide/neaptidelaw16.FetchRuns", spec := "fetchRuns", unfollowed := true, recurses := true, apart := false }
def FetchRunsSaid : Prop := fetchRunsRow.holds Try.pinned (OpenSpec.ofChange fetchRunsSpec)

/-- ITS FALSE NEIGHBOUR: 'it returns false'. Refute it at one input. -/
def fetchRunsWrong : ChangeSpec := { name := "fetchRuns", fn := fun _ => fun
  | [d1, d2, d3] => { results := [.lit (.bool false)], args := [d1, d2, d3] }
  | _ => none }
def FetchRunsWrongFalsely : Prop := fetchRunsRow.holds Try.pinned (OpenSpec.ofChange fetchRunsWrong)

/-- 'neaptidelaw16.FetchAll': WHATEVER THE INPUT: true; the input reads as it did. -/
def fetchAllSpec : ChangeSpec := { name := "fetchAll", fn := fun _ => fun
  | [d1, d2, d3] => { results := [.lit (.bool true)], args := [d1, d2, d3] }
  | _ => none }
def fetchAllRow : OpenClaim := { program := "ytpjglojnipjgfaa", sum := "5c3fb7f72258ed9afd41e9261b6530793bad4d7a17c3ce159329d15cae1b6087", func := "neaptide/neaptidelaw16.FetchAll", spec := "fetchAll", unfollowed := true, recurses := true, apart := false }
def FetchAllSaid : Prop := fetchAllRow.holds Try.pinned (OpenSpec.ofChange fetchAllSpec)

/-- ITS FALSE NEIGHBOUR: 'it returns false'. Refute it at one input. -/
def fetchAllWrong : ChangeSpec := { name := "fetchAll", fn := fun _ => fun
  | [d1, d2, d3] => { results := [.lit (.bool false)], args := [d1, d2, d3] }
  | _ => none }
def FetchAllWrongFalsely : Prop := fetchAllRow.holds Try.pinned (OpenSpec.ofChange fetchAllWrong)

/-- 'neaptidelaw16.FetchBounds': WHATEVER THE INPUT: true; the input reads as it did. -/
def fetchBoundsSpec : ChangeSpec := { name := "fetchBounds", fn := fun _ => fun
  | [d1, d2, d3] => { results := [.lit (.bool true)], args := [d1, d2, d3] }
  | _ => none }
def fetchBoundsRow : OpenClaim := { program := "ytpjglojnipjgfaa", sum := "5c3fb7f72258ed9afd41e9261b6530793bad4d7a17c3ce159329d15cae1b6087", func := "neaptide/neaptidelaw16.FetchBounds", spec := "fetchBounds", unfollowed := true, recurses := true, apart := false }
def FetchBoundsSaid : Prop := fetchBoundsRow.holds Try.pinned (OpenSpec.ofChange fetchBoundsSpec)

/-- ITS FALSE NEIGHBOUR: 'it returns false'. Refute it at one input. -/
def fetchBoundsWrong : ChangeSpec := { name := "fetchBounds", fn := fun _ => fun
  | [d1, d2, d3] => { results := [.lit (.bool false)], args := [d1, d2, d3] }
  | _ => none }
def FetchBoundsWrongFalsely : Prop := fetchBoundsRow.holds Try.pinned (OpenSpec.ofChange fetchBoundsWrong)

/-- 'neaptidelaw16.FetchOrder': WHATEVER THE INPUT: true; the input reads as it did. -/
def fetchOrderSpec : ChangeSpec := { name := "fetchOrder", fn := fun _ => fun
  | [d1, d2, d3] => { results := [.lit (.bool true)], args := [d1, d2, d3] }
  | _ => none }
def fetchOrderRow : OpenClaim := { program := "ytpjglojnipjgfaa", sum := "5c3fb7f72258ed9afd41e9261b6530793bad4d7a17c3ce159329d15cae1b6087", func := "neaptide/neaptidelaw16.FetchOrder", spec := "fetchOrder", unfollowed := true, recurses := true, apart := false }
def FetchOrderSaid : Prop := fetchOrderRow.holds Try.pinned (OpenSpec.ofChange fetchOrderSpec)

/-- ITS FALSE NEIGHBOUR: 'it returns false'. Refute it at one input. -/
def fetchOrderWrong : ChangeSpec := { name := "fetchOrder", fn := fun _ => fun
  | [d1, d2, d3] => { results := [.lit (.bool false)], args := [d1, d2, d3] }
  | _ => none }
def FetchOrderWrongFalsely : Prop := fetchOrderRow.holds Try.pinned (OpenSpec.ofChange fetchOrderWrong)

/- THE SECOND FORM. 'bulk': how many values and letters a reading holds, each counted each time it is reached (what is shared counts as often as it is met; a slice's spare places count too). A statement '..UptoSaid' is the law's where the arguments, and the package variables that the reading takes, are together of bulk at most 1048576: NARROWER than '..Said'. Prove '..Said' where nothing that the law and all that it calls make is longer than what came in: it says more and counts as full. Else prove '..UptoSaid'. A law counts once. -/
mutual
def uptoBulk {H : Type} : DataW H → Nat
  | .lit (.string bytes) => bytes.length + 1
  | .lit _ => 1
  | .nil => 1
  | .ptr d => uptoBulk d + 1
  | .slice elems spare => uptoBulkAll elems + uptoBulkAll spare + 1
  | .agg parts => uptoBulkAll parts + 1
  | .iface _ d => uptoBulk d + 1
  | .map entries => uptoBulkEntries entries + 1
  | .held _ => 1
def uptoBulkAll {H : Type} : List (DataW H) → Nat
  | [] => 0
  | d :: r => uptoBulk d + uptoBulkAll r
def uptoBulkEntries {H : Type} : List (Lit × DataW H) → Nat
  | [] => 0
  | x :: r => uptoBulkEntry x + uptoBulkEntries r
def uptoBulkEntry {H : Type} : Lit × DataW H → Nat
  | (.string bytes, d) => bytes.length + uptoBulk d + 1
  | (_, d) => uptoBulk d + 1
 end
def uptoSmall : (H : Type) → List (DataW H) → Bool := fun _ ds => decide (uptoBulkAll ds ≤ 1048576)
def OpenSpec.upto (s : _root_.Go.ChangeSpec) : _root_.Go.OpenSpec := { _root_.Go.OpenSpec.ofChange s with cond := some uptoSmall }

/-- 'neaptidelaw16.FetchNames', WHERE WHAT IT READS IS OF BULK AT MOST 1048576: true; the input reads as it did. -/
def fetchNamesUptoRow : OpenClaim := { program := "ytpjglojnipjgfaa", sum := "5c3fb7f72258ed9afd41e9261b6530793bad4d7a17c3ce159329d15cae1b6087", func := "neaptide/neaptidelaw16.FetchNames", spec := "fetchNames", unfollowed := true, recurses := true, apart := false, narrowed := true }
def FetchNamesUptoSaid : Prop := fetchNamesUptoRow.holds Try.pinned (OpenSpec.upto fetchNamesSpec)

/-- 'neaptidelaw16.FetchRuns', WHERE WHAT IT READS IS OF BULK AT MOST 1048576: true; the input reads as it did. -/
def fetchRunsUptoRow : OpenClaim := { program := "ytpjglojnipjgfaa", sum := "5c3fb7f72258ed9afd41e9261b6530793bad4d7a17c3ce159329d15cae1b6087", func := "neaptide/neaptidelaw16.FetchRuns", spec := "fetchRuns", unfollowed := true, recurses := true, apart := false, narrowed := true }
def FetchRunsUptoSaid : Prop := fetchRunsUptoRow.holds Try.pinned (OpenSpec.upto fetchRunsSpec)

/-- 'neaptidelaw16.FetchAll', WHERE WHAT IT READS IS OF BULK AT MOST 1048576: true; the input reads as it did. -/
def fetchAllUptoRow : OpenClaim := { program := "ytpjglojnipjgfaa", sum := "5c3fb7f72258ed9afd41e9261b6530793bad4d7a17c3ce159329d15cae1b6087", func := "neaptide/neaptidelaw16.FetchAll", spec := "fetchAll", unfollowed := true, recurses := true, apart := false, narrowed := true }
def FetchAllUptoSaid : Prop := fetchAllUptoRow.holds Try.pinned (OpenSpec.upto fetchAllSpec)

/-- 'neaptidelaw16.FetchBounds', WHERE WHAT IT READS IS OF BULK AT MOST 1048576: true; the input reads as it did. -/
def fetchBoundsUptoRow : OpenClaim := { program := "ytpjglojnipjgfaa", sum := "5c3fb7f72258ed9afd41e9261b6530793bad4d7a17c3ce159329d15cae1b6087", func := "neaptide/neaptidelaw16.FetchBounds", spec := "fetchBounds", unfollowed := true, recurses := true, apart := false, narrowed := true }
def FetchBoundsUptoSaid : Prop := fetchBoundsUptoRow.holds Try.pinned (OpenSpec.upto fetchBoundsSpec)

/-- 'neaptidelaw16.FetchOrder', WHERE WHAT IT READS IS OF BULK AT MOST 1048576: true; the input reads as it did. -/
def fetchOrderUptoRow : OpenClaim := { program := "ytpjglojnipjgfaa", sum := "5c3fb7f72258ed9afd41e9261b6530793bad4d7a17c3ce159329d15cae1b6087", func := "neaptide/neaptidelaw16.FetchOrder", spec := "fetchOrder", unfollowed := true, recurses := true, apart := false, narrowed := true }
def FetchOrderUptoSaid : Prop := fetchOrderUptoRow.holds Try.pinned (OpenSpec.upto fetchOrderSpec)

end Rows
end Go.Proofs.Ytpjglojnipjgfaa
