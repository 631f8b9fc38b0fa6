/-
  No cell of these rows narrows 'for every input' (looked for: loops, veiled, ifaces, maps, wideKeys, modest, calm, conditions, laid).
  DERIVED. THE GIVEN ROWS OF THIS SEAT. 5 by the template 'for every input the law returns true; each argument reads behind the call as it read before'; 0 by the template 'total and deterministic' (their statements: YtooljmmlekmkeaaTotals.lean).
  GIVEN WITH THE SEED: the statements are not yours to turn. If you find one false, say at which input.
  Laid BY PROGRAM, IN A SANDBOX (cutbox-rows.mjs): the forced cells as the released guide's own fill.sh prints them over the translation 4ff642d69522177e… (all of the seat's roots in one cut). By AI agents, Wed Nov 11 2026. No macro, syntax, notation, axiom, sorry.
-/
import Derived.Test.YtooljmmlekmkeaaChecked
import GoSem.Claim
import GoSem.ClaimJoined
import GoSem.ClaimMapViews
import Derived.JoinedTies
import Derived.KernelRfl
namespace Go.Proofs.Ytooljmmlekmkeaa
/- THE CELL 'sum', in the pinned program and in every row, IS THE sha256 OF THE DUMP (.gsa) THAT YtooljmmlekmkeaaProg.lean LOADS. Nothing in Lean hashes anything: it is a label: what it is worth is what the hold of that sum in a sandbox is worth. -/
noncomputable def Try.pinned : Pinned := { name := "ytooljmmlekmkeaa", sum := "4ff642d69522177e5e1a5383e1840ac52d1740aea93bbba169b6756dfaf06a10", checked := Try.checked }
namespace Rows
def none {H : Type} : Left H := { results := [], args := [] }

/-- 'neaptidelaw10.LotSingles': WHATEVER THE INPUT: true; the input reads as it did. -/
def lotSinglesSpec : ChangeSpec := { name := "lotSingles", fn := fun _ => fun
  | [d1, d2] => { results := [.lit (.bool true)], args := [d1, d2] }
  | _ => none }
def lotSinglesRow : OpenClaim := { program := "ytooljmmlekmkeaa", sum := "4ff642d69522177e5e1a5383e1840ac52d1740aea93bbba169b6756dfaf06a10", func := "neaptide/neaptidelaw10.LotSingles", spec := "lotSingles", apart := false }
def LotSinglesSaid : Prop := lotSinglesRow.holds Try.pinned (OpenSpec.ofChange lotSinglesSpec)

/-- ITS FALSE NEIGHBOUR: 'it returns false'. Refute it at one input. -/
def lotSinglesWrong : ChangeSpec := { name := "lotSingles", fn := fun _ => fun
  | [d1, d2] => { results := [.lit (.bool false)], args := [d1, d2] }
  | _ => none }
def LotSinglesWrongFalsely : Prop := lotSinglesRow.holds Try.pinned (OpenSpec.ofChange lotSinglesWrong)

/-- 'neaptidelaw10.LotNames': WHATEVER THE INPUT: true; the input reads as it did. -/
def lotNamesSpec : ChangeSpec := { name := "lotNames", fn := fun _ => fun
  | [] => { results := [.lit (.bool true)], args := [] }
  | _ => none }
def lotNamesRow : OpenClaim := { program := "ytooljmmlekmkeaa", sum := "4ff642d69522177e5e1a5383e1840ac52d1740aea93bbba169b6756dfaf06a10", func := "neaptide/neaptidelaw10.LotNames", spec := "lotNames", unfollowed := true, recurses := true, apart := false }
def LotNamesSaid : Prop := lotNamesRow.holds Try.pinned (OpenSpec.ofChange lotNamesSpec)

/-- ITS FALSE NEIGHBOUR: 'it returns false'. Refute it at one input. -/
def lotNamesWrong : ChangeSpec := { name := "lotNames", fn := fun _ => fun
  | [] => { results := [.lit (.bool false)], args := [] }
  | _ => none }
def LotNamesWrongFalsely : Prop := lotNamesRow.holds Try.pinned (OpenSpec.ofChange lotNamesWrong)

/-- 'neaptidelaw10.LotTells': WHATEVER THE INPUT: true; the input reads as it did. -/
def lotTellsSpec : ChangeSpec := { name := "lotTells", fn := fun _ => fun
  | [d1, d2, d3] => { results := [.lit (.bool true)], args := [d1, d2, d3] }
  | _ => none }
def lotTellsRow : OpenClaim := { program := "ytooljmmlekmkeaa", sum := "4ff642d69522177e5e1a5383e1840ac52d1740aea93bbba169b6756dfaf06a10", func := "neaptide/neaptidelaw10.LotTells", spec := "lotTells", unfollowed := true, recurses := true, apart := false }
def LotTellsSaid : Prop := lotTellsRow.holds Try.pinned (OpenSpec.ofChange lotTellsSpec)

/-- ITS FALSE NEIGHBOUR: 'it returns false'. Refute it at one input. -/
def lotTellsWrong : ChangeSpec := { name := "lotTells", fn := fun _ => fun
  | [d1, d2, d3] => { results := [.lit (.bool false)], args := [d1, d2, d3] }
  | _ => none }
def LotTellsWrongFalsely : Prop := lotTellsRow.holds Try.pinned (OpenSpec.ofChange lotTellsWrong)

/-- 'neaptidelaw10.LotCounts': WHATEVER THE INPUT: true; the input reads as it did. -/
def lotCountsSpec : ChangeSpec := { name := "lotCounts", fn := fun _ => fun
  | [d] => { results := [.lit (.bool true)], args := [d] }
  | _ => none }
def lotCountsRow : OpenClaim := { program := "ytooljmmlekmkeaa", sum := "4ff642d69522177e5e1a5383e1840ac52d1740aea93bbba169b6756dfaf06a10", func := "neaptide/neaptidelaw10.LotCounts", spec := "lotCounts", unfollowed := true, recurses := true, apart := false }
def LotCountsSaid : Prop := lotCountsRow.holds Try.pinned (OpenSpec.ofChange lotCountsSpec)

/-- ITS FALSE NEIGHBOUR: 'it returns false'. Refute it at one input. -/
def lotCountsWrong : ChangeSpec := { name := "lotCounts", fn := fun _ => fun
  | [d] => { results := [.lit (.bool false)], args := [d] }
  | _ => none }
def LotCountsWrongFalsely : Prop := lotCountsRow.holds Try.pinned (OpenSpec.ofChange lotCountsWrong)

/-- 'neaptidelaw10.LotMore': WHATEVER THE INPUT: true; the input reads as it did. -/
def lotMoreSpec : ChangeSpec := { name := "lotMore", fn := fun _ => fun
  | [d1, d2, d3] => { results := [.lit (.bool true)], args := [d1, d2, d3] }
  | _ => none }
def lotMoreRow : OpenClaim := { program := "ytooljmmlekmkeaa", sum := "4ff642d69522177e5e1a5383e1840ac52d1740aea93bbba169b6756dfaf06a10", func := "neaptide/neaptidelaw10.LotMore", spec := "lotMore", unfollowed := true, recurses := true, apart := false }
def LotMoreSaid : Prop := lotMoreRow.holds Try.pinned (OpenSpec.ofChange lotMoreSpec)

/-- ITS FALSE NEIGHBOUR: 'it returns false'. Refute it at one input. -/
def lotMoreWrong : ChangeSpec := { name := "lotMore", fn := fun _ => fun
  | [d1, d2, d3] => { results := [.lit (.bool false)], args := [d1, d2, d3] }
  | _ => none }
def LotMoreWrongFalsely : Prop := lotMoreRow.holds Try.pinned (OpenSpec.ofChange lotMoreWrong)

/- THE SECOND FORM. 'bulk': how many values and letters a reading holds, each counted each time it is reached (what is shared counts as often as it is met; a slice's spare places count too). A statement '..UptoSaid' is the law's where the arguments, and the package variables that the reading takes, are together of bulk at most 1048576: NARROWER than '..Said'. Prove '..Said' where nothing that the law and all that it calls make is longer than what came in: it says more and counts as full. Else prove '..UptoSaid'. A law counts once. -/
mutual
def uptoBulk {H : Type} : DataW H → Nat
  | .lit (.string bytes) => bytes.length + 1
  | .lit _ => 1
  | .nil => 1
  | .ptr d => uptoBulk d + 1
  | .slice elems spare => uptoBulkAll elems + uptoBulkAll spare + 1
  | .agg parts => uptoBulkAll parts + 1
  | .iface _ d => uptoBulk d + 1
  | .map entries => uptoBulkEntries entries + 1
  | .held _ => 1
def uptoBulkAll {H : Type} : List (DataW H) → Nat
  | [] => 0
  | d :: r => uptoBulk d + uptoBulkAll r
def uptoBulkEntries {H : Type} : List (Lit × DataW H) → Nat
  | [] => 0
  | x :: r => uptoBulkEntry x + uptoBulkEntries r
def uptoBulkEntry {H : Type} : Lit × DataW H → Nat
  | (.string bytes, d) => bytes.length + uptoBulk d + 1
  | (_, d) => uptoBulk d + 1
 end
def uptoSmall : (H : Type) → List (DataW H) → Bool := fun _ ds => decide (uptoBulkAll ds ≤ 1048576)
def OpenSpec.upto (s : _root_.Go.ChangeSpec) : _root_.Go.OpenSpec := { _root_.Go.OpenSpec.ofChange s with cond := some uptoSmall }

/-- 'neaptidelaw10.LotSingles', WHERE WHAT IT READS IS OF BULK AT MOST 1048576: true; the input reads as it did. -/
def lotSinglesUptoRow : OpenClaim := { program := "ytooljmmlekmkeaa", sum := "4ff642d69522177e5e1a5383e1840ac52d1740aea93bbba169b6756dfaf06a10", func := "neaptide/neaptidelaw10.LotSingles", spec := "lotSingles", apart := false, narrowed := true }
def LotSinglesUptoSaid : Prop := lotSinglesUptoRow.holds Try.pinned (OpenSpec.upto lotSinglesSpec)

/-- 'neaptidelaw10.LotNames', WHERE WHAT IT READS IS OF BULK AT MOST 1048576: true; the input reads as it did. -/
def lotNamesUptoRow : OpenClaim := { program := "ytooljmmlekmkeaa", sum := "4ff642d69522177e5e1a5383e1840ac52d1740aea93bbba169b6756dfaf06a10", func := "neaptide/neaptidelaw10.LotNames", spec := "lotNames", unfollowed := true, recurses := true, apart := false, narrowed := true }
def LotNamesUptoSaid : Prop := lotNamesUptoRow.holds Try.pinned (OpenSpec.upto lotNamesSpec)

/-- 'neaptidelaw10.LotTells', WHERE WHAT IT READS IS OF BULK AT MOST 1048576: true; the input reads as it did. -/
def lotTellsUptoRow : OpenClaim := { program := "ytooljmmlekmkeaa", sum := "4ff642d69522177e5e1a5383e1840ac52d1740aea93bbba169b6756dfaf06a10", func := "neaptide/neaptidelaw10.LotTells", spec := "lotTells", unfollowed := true, recurses := true, apart := false, narrowed := true }
def LotTellsUptoSaid : Prop := lotTellsUptoRow.holds Try.pinned (OpenSpec.upto lotTellsSpec)

/-- 'neaptidelaw10.LotCounts', WHERE WHAT IT READS IS OF BULK AT MOST 1048576: true; the input reads as it did. -/
def lotCountsUptoRow : OpenClaim := { program := "ytooljmmlekmkeaa", sum := "4ff642d69522177e5e1a5383e1840ac52d1740aea93bbba169b6756dfaf06a10", func := "neaptide/neaptidelaw10.LotCounts", spec := "lotCounts", unfollowed := true, recurses := true, apart := false, narrowed := true }
def LotCountsUptoSaid : Prop := lotCountsUptoRow.holds Try.pinned (OpenSpec.upto lotCountsSpec)

/-- 'neaptidelaw10.LotMore', WHERE WHAT IT READS IS OF BULK AT MOST 1048576: true; the input reads as it did. -/
def lotMoreUptoRow : OpenClaim := { program := "ytooljmmlekmkeaa", sum := "4ff642d69522177e5e1a5383e1840ac52d1740aea93bbba169b6756dfaf06a10", func := "neaptide/neaptidelaw10.LotMore", spec := "lotMore", unfollowed := true, recurses := true, apart := false, narrowed := true }
def LotMoreUptoSaid : Prop := lotMoreUptoRow.holds Try.pinned (OpenSpec.upto lotMoreSpec)

end Rows
end Go.Proofs.Ytooljmmlekmkeaa
