/-
  No cell of these rows narrows 'for every input' (looked for: loops, veiled, ifaces, maps, wideKeys, modest, calm, conditions, laid).
  DERIVED. THE GIVEN ROWS OF THIS SEAT. 12 by the template 'for every input the law returns true; each argument reads behind the call as it read before'; 0 by the template 'total and deterministic' (their statements: YtmefgijobonklaaGreatTotals.lean).
  GIVEN WITH THE SEED: the statements are not yours to turn. If you find one false, say at which input.
  Laid BY PROGRAM, IN A SANDBOX (cutbox-rows.mjs): the forced cells as the released guide's own fill.sh prints them over the translation 1204e7350c7d4996… (all of the seat's roots in one cut). By AI agents, Wed Nov 11 2026. No macro, syntax, notation, axiom, sorry.
-/
import Derived.Test.YtmefgijobonklaaGreatChecked
import GoSem.Claim
import GoSem.ClaimJoined
import GoSem.ClaimMapViews
import Derived.JoinedTies
import Derived.KernelRfl
namespace Go.Proofs.YtmefgijobonklaaGreat
/- THE CELL 'sum', in the pinned program and in every row, IS THE sha256 OF THE DUMP (.gsa) THAT YtmefgijobonklaaGreatProg.lean LOADS. Nothing in Lean hashes anything: it is a label: what it is worth is what the hold of that sum in a sandbox is worth. -/
noncomputable def Tryz.pinned : Pinned := { name := "ytmefgijobonklaagreat", sum := "1204e7350c7d4996fa7d73dd71a1b33afb2a9895a4fb70a65e12d8cc14669602", checked := Tryz.checked }
namespace Rows
def none {H : Type} : Left H := { results := [], args := [] }

/-- 'mistlaw21.TableOf': WHATEVER THE INPUT: true; the input reads as it did. -/
def tableOfSpec : ChangeSpec := { name := "tableOf", fn := fun _ => fun
  | [d1, d2] => { results := [.lit (.bool true)], args := [d1, d2] }
  | _ => none }
def tableOfRow : OpenClaim := { program := "ytmefgijobonklaagreat", sum := "1204e7350c7d4996fa7d73dd71a1b33afb2a9895a4fb70a65e12d8cc14669602", func := "mist/mistlaw21.TableOf", spec := "tableOf", inPlace := ["slices.overlaps[int]"], unfollowed := true, recurses := true, plainKeys := false, apart := false }
def TableOfSaid : Prop := tableOfRow.holds Tryz.pinned (OpenSpec.ofChange tableOfSpec)

/-- ITS FALSE NEIGHBOUR: 'it returns false'. Refute it at one input. -/
def tableOfWrong : ChangeSpec := { name := "tableOf", fn := fun _ => fun
  | [d1, d2] => { results := [.lit (.bool false)], args := [d1, d2] }
  | _ => none }
def TableOfWrongFalsely : Prop := tableOfRow.holds Tryz.pinned (OpenSpec.ofChange tableOfWrong)

/-- 'mistlaw21.TableMerges': WHATEVER THE INPUT: true; the input reads as it did. -/
def tableMergesSpec : ChangeSpec := { name := "tableMerges", fn := fun _ => fun
  | [d] => { results := [.lit (.bool true)], args := [d] }
  | _ => none }
def tableMergesRow : OpenClaim := { program := "ytmefgijobonklaagreat", sum := "1204e7350c7d4996fa7d73dd71a1b33afb2a9895a4fb70a65e12d8cc14669602", func := "mist/mistlaw21.TableMerges", spec := "tableMerges", inPlace := ["slices.overlaps[int]"], unfollowed := true, recurses := true, plainKeys := false, apart := false }
def TableMergesSaid : Prop := tableMergesRow.holds Tryz.pinned (OpenSpec.ofChange tableMergesSpec)

/-- ITS FALSE NEIGHBOUR: 'it returns false'. Refute it at one input. -/
def tableMergesWrong : ChangeSpec := { name := "tableMerges", fn := fun _ => fun
  | [d] => { results := [.lit (.bool false)], args := [d] }
  | _ => none }
def TableMergesWrongFalsely : Prop := tableMergesRow.holds Tryz.pinned (OpenSpec.ofChange tableMergesWrong)

/-- 'mistlaw21.TableOps': WHATEVER THE INPUT: true; the input reads as it did. -/
def tableOpsSpec : ChangeSpec := { name := "tableOps", fn := fun _ => fun
  | [d1, d2, d3] => { results := [.lit (.bool true)], args := [d1, d2, d3] }
  | _ => none }
def tableOpsRow : OpenClaim := { program := "ytmefgijobonklaagreat", sum := "1204e7350c7d4996fa7d73dd71a1b33afb2a9895a4fb70a65e12d8cc14669602", func := "mist/mistlaw21.TableOps", spec := "tableOps", inPlace := ["slices.overlaps[int]"], unfollowed := true, recurses := true, plainKeys := false, apart := false }
def TableOpsSaid : Prop := tableOpsRow.holds Tryz.pinned (OpenSpec.ofChange tableOpsSpec)

/-- ITS FALSE NEIGHBOUR: 'it returns false'. Refute it at one input. -/
def tableOpsWrong : ChangeSpec := { name := "tableOps", fn := fun _ => fun
  | [d1, d2, d3] => { results := [.lit (.bool false)], args := [d1, d2, d3] }
  | _ => none }
def TableOpsWrongFalsely : Prop := tableOpsRow.holds Tryz.pinned (OpenSpec.ofChange tableOpsWrong)

/-- 'mistlaw21.TableSplits': WHATEVER THE INPUT: true; the input reads as it did. -/
def tableSplitsSpec : ChangeSpec := { name := "tableSplits", fn := fun _ => fun
  | [d1, d2, d3] => { results := [.lit (.bool true)], args := [d1, d2, d3] }
  | _ => none }
def tableSplitsRow : OpenClaim := { program := "ytmefgijobonklaagreat", sum := "1204e7350c7d4996fa7d73dd71a1b33afb2a9895a4fb70a65e12d8cc14669602", func := "mist/mistlaw21.TableSplits", spec := "tableSplits", inPlace := ["slices.overlaps[int]"], unfollowed := true, recurses := true, plainKeys := false, apart := false }
def TableSplitsSaid : Prop := tableSplitsRow.holds Tryz.pinned (OpenSpec.ofChange tableSplitsSpec)

/-- ITS FALSE NEIGHBOUR: 'it returns false'. Refute it at one input. -/
def tableSplitsWrong : ChangeSpec := { name := "tableSplits", fn := fun _ => fun
  | [d1, d2, d3] => { results := [.lit (.bool false)], args := [d1, d2, d3] }
  | _ => none }
def TableSplitsWrongFalsely : Prop := tableSplitsRow.holds Tryz.pinned (OpenSpec.ofChange tableSplitsWrong)

/-- 'mistlaw21.TableCounts': WHATEVER THE INPUT: true; the input reads as it did. -/
def tableCountsSpec : ChangeSpec := { name := "tableCounts", fn := fun _ => fun
  | [d1, d2] => { results := [.lit (.bool true)], args := [d1, d2] }
  | _ => none }
def tableCountsRow : OpenClaim := { program := "ytmefgijobonklaagreat", sum := "1204e7350c7d4996fa7d73dd71a1b33afb2a9895a4fb70a65e12d8cc14669602", func := "mist/mistlaw21.TableCounts", spec := "tableCounts", inPlace := ["slices.overlaps[int]"], unfollowed := true, recurses := true, plainKeys := false, apart := false }
def TableCountsSaid : Prop := tableCountsRow.holds Tryz.pinned (OpenSpec.ofChange tableCountsSpec)

/-- ITS FALSE NEIGHBOUR: 'it returns false'. Refute it at one input. -/
def tableCountsWrong : ChangeSpec := { name := "tableCounts", fn := fun _ => fun
  | [d1, d2] => { results := [.lit (.bool false)], args := [d1, d2] }
  | _ => none }
def TableCountsWrongFalsely : Prop := tableCountsRow.holds Tryz.pinned (OpenSpec.ofChange tableCountsWrong)

/-- 'mistlaw21.TableSames': WHATEVER THE INPUT: true; the input reads as it did. -/
def tableSamesSpec : ChangeSpec := { name := "tableSames", fn := fun _ => fun
  | [d1, d2] => { results := [.lit (.bool true)], args := [d1, d2] }
  | _ => none }
def tableSamesRow : OpenClaim := { program := "ytmefgijobonklaagreat", sum := "1204e7350c7d4996fa7d73dd71a1b33afb2a9895a4fb70a65e12d8cc14669602", func := "mist/mistlaw21.TableSames", spec := "tableSames", inPlace := ["slices.overlaps[int]"], unfollowed := true, recurses := true, plainKeys := false, apart := false }
def TableSamesSaid : Prop := tableSamesRow.holds Tryz.pinned (OpenSpec.ofChange tableSamesSpec)

/-- ITS FALSE NEIGHBOUR: 'it returns false'. Refute it at one input. -/
def tableSamesWrong : ChangeSpec := { name := "tableSames", fn := fun _ => fun
  | [d1, d2] => { results := [.lit (.bool false)], args := [d1, d2] }
  | _ => none }
def TableSamesWrongFalsely : Prop := tableSamesRow.holds Tryz.pinned (OpenSpec.ofChange tableSamesWrong)

/-- 'mistlaw21.TableCompiles': WHATEVER THE INPUT: true; the input reads as it did. -/
def tableCompilesSpec : ChangeSpec := { name := "tableCompiles", fn := fun _ => fun
  | [d] => { results := [.lit (.bool true)], args := [d] }
  | _ => none }
def tableCompilesRow : OpenClaim := { program := "ytmefgijobonklaagreat", sum := "1204e7350c7d4996fa7d73dd71a1b33afb2a9895a4fb70a65e12d8cc14669602", func := "mist/mistlaw21.TableCompiles", spec := "tableCompiles", inPlace := ["slices.overlaps[int]"], unfollowed := true, recurses := true, plainKeys := false, apart := false }
def TableCompilesSaid : Prop := tableCompilesRow.holds Tryz.pinned (OpenSpec.ofChange tableCompilesSpec)

/-- ITS FALSE NEIGHBOUR: 'it returns false'. Refute it at one input. -/
def tableCompilesWrong : ChangeSpec := { name := "tableCompiles", fn := fun _ => fun
  | [d] => { results := [.lit (.bool false)], args := [d] }
  | _ => none }
def TableCompilesWrongFalsely : Prop := tableCompilesRow.holds Tryz.pinned (OpenSpec.ofChange tableCompilesWrong)

/-- 'mistlaw21.TableRows': WHATEVER THE INPUT: true; the input reads as it did. -/
def tableRowsSpec : ChangeSpec := { name := "tableRows", fn := fun _ => fun
  | [d] => { results := [.lit (.bool true)], args := [d] }
  | _ => none }
def tableRowsRow : OpenClaim := { program := "ytmefgijobonklaagreat", sum := "1204e7350c7d4996fa7d73dd71a1b33afb2a9895a4fb70a65e12d8cc14669602", func := "mist/mistlaw21.TableRows", spec := "tableRows", inPlace := ["slices.overlaps[int]"], unfollowed := true, recurses := true, plainKeys := false, apart := false }
def TableRowsSaid : Prop := tableRowsRow.holds Tryz.pinned (OpenSpec.ofChange tableRowsSpec)

/-- ITS FALSE NEIGHBOUR: 'it returns false'. Refute it at one input. -/
def tableRowsWrong : ChangeSpec := { name := "tableRows", fn := fun _ => fun
  | [d] => { results := [.lit (.bool false)], args := [d] }
  | _ => none }
def TableRowsWrongFalsely : Prop := tableRowsRow.holds Tryz.pinned (OpenSpec.ofChange tableRowsWrong)

/-- 'mistlaw21.TableNames': WHATEVER THE INPUT: true; the input reads as it did. -/
def tableNamesSpec : ChangeSpec := { name := "tableNames", fn := fun _ => fun
  | [] => { results := [.lit (.bool true)], args := [] }
  | _ => none }
def tableNamesRow : OpenClaim := { program := "ytmefgijobonklaagreat", sum := "1204e7350c7d4996fa7d73dd71a1b33afb2a9895a4fb70a65e12d8cc14669602", func := "mist/mistlaw21.TableNames", spec := "tableNames", inPlace := ["slices.overlaps[int]"], unfollowed := true, recurses := true, plainKeys := false, apart := false }
def TableNamesSaid : Prop := tableNamesRow.holds Tryz.pinned (OpenSpec.ofChange tableNamesSpec)

/-- ITS FALSE NEIGHBOUR: 'it returns false'. Refute it at one input. -/
def tableNamesWrong : ChangeSpec := { name := "tableNames", fn := fun _ => fun
  | [] => { results := [.lit (.bool false)], args := [] }
  | _ => none }
def TableNamesWrongFalsely : Prop := tableNamesRow.holds Tryz.pinned (OpenSpec.ofChange tableNamesWrong)

/-- 'mistlaw21.TableChecks': WHATEVER THE INPUT: true; the input reads as it did. -/
def tableChecksSpec : ChangeSpec := { name := "tableChecks", fn := fun _ => fun
  | [d1, d2] => { results := [.lit (.bool true)], args := [d1, d2] }
  | _ => none }
def tableChecksRow : OpenClaim := { program := "ytmefgijobonklaagreat", sum := "1204e7350c7d4996fa7d73dd71a1b33afb2a9895a4fb70a65e12d8cc14669602", func := "mist/mistlaw21.TableChecks", spec := "tableChecks", inPlace := ["slices.overlaps[int]"], unfollowed := true, recurses := true, plainKeys := false, apart := false }
def TableChecksSaid : Prop := tableChecksRow.holds Tryz.pinned (OpenSpec.ofChange tableChecksSpec)

/-- ITS FALSE NEIGHBOUR: 'it returns false'. Refute it at one input. -/
def tableChecksWrong : ChangeSpec := { name := "tableChecks", fn := fun _ => fun
  | [d1, d2] => { results := [.lit (.bool false)], args := [d1, d2] }
  | _ => none }
def TableChecksWrongFalsely : Prop := tableChecksRow.holds Tryz.pinned (OpenSpec.ofChange tableChecksWrong)

/-- 'mistlaw21.TableOne': WHATEVER THE INPUT: true; the input reads as it did. -/
def tableOneSpec : ChangeSpec := { name := "tableOne", fn := fun _ => fun
  | [d1, d2] => { results := [.lit (.bool true)], args := [d1, d2] }
  | _ => none }
def tableOneRow : OpenClaim := { program := "ytmefgijobonklaagreat", sum := "1204e7350c7d4996fa7d73dd71a1b33afb2a9895a4fb70a65e12d8cc14669602", func := "mist/mistlaw21.TableOne", spec := "tableOne", inPlace := ["slices.overlaps[int]"], unfollowed := true, recurses := true, plainKeys := false, apart := false }
def TableOneSaid : Prop := tableOneRow.holds Tryz.pinned (OpenSpec.ofChange tableOneSpec)

/-- ITS FALSE NEIGHBOUR: 'it returns false'. Refute it at one input. -/
def tableOneWrong : ChangeSpec := { name := "tableOne", fn := fun _ => fun
  | [d1, d2] => { results := [.lit (.bool false)], args := [d1, d2] }
  | _ => none }
def TableOneWrongFalsely : Prop := tableOneRow.holds Tryz.pinned (OpenSpec.ofChange tableOneWrong)

/-- 'mistlaw21.TableDiagrams': WHATEVER THE INPUT: true; the input reads as it did. -/
def tableDiagramsSpec : ChangeSpec := { name := "tableDiagrams", fn := fun _ => fun
  | [d1, d2, d3] => { results := [.lit (.bool true)], args := [d1, d2, d3] }
  | _ => none }
def tableDiagramsRow : OpenClaim := { program := "ytmefgijobonklaagreat", sum := "1204e7350c7d4996fa7d73dd71a1b33afb2a9895a4fb70a65e12d8cc14669602", func := "mist/mistlaw21.TableDiagrams", spec := "tableDiagrams", inPlace := ["slices.overlaps[int]"], unfollowed := true, recurses := true, plainKeys := false, apart := false }
def TableDiagramsSaid : Prop := tableDiagramsRow.holds Tryz.pinned (OpenSpec.ofChange tableDiagramsSpec)

/-- ITS FALSE NEIGHBOUR: 'it returns false'. Refute it at one input. -/
def tableDiagramsWrong : ChangeSpec := { name := "tableDiagrams", fn := fun _ => fun
  | [d1, d2, d3] => { results := [.lit (.bool false)], args := [d1, d2, d3] }
  | _ => none }
def TableDiagramsWrongFalsely : Prop := tableDiagramsRow.holds Tryz.pinned (OpenSpec.ofChange tableDiagramsWrong)

/- THE SECOND FORM. 'bulk': how many values and letters a reading holds, each counted each time it is reached (what is shared counts as often as it is met; a slice's spare places count too). A statement '..UptoSaid' is the law's where the arguments, and the package variables that the reading takes, are together of bulk at most 1048576: NARROWER than '..Said'. Prove '..Said' where nothing that the law and all that it calls make is longer than what came in: it says more and counts as full. Else prove '..UptoSaid'. A law counts once. -/
mutual
def uptoBulk {H : Type} : DataW H → Nat
  | .lit (.string bytes) => bytes.length + 1
  | .lit _ => 1
  | .nil => 1
  | .ptr d => uptoBulk d + 1
  | .slice elems spare => uptoBulkAll elems + uptoBulkAll spare + 1
  | .agg parts => uptoBulkAll parts + 1
  | .iface _ d => uptoBulk d + 1
  | .map entries => uptoBulkEntries entries + 1
  | .held _ => 1
def uptoBulkAll {H : Type} : List (DataW H) → Nat
  | [] => 0
  | d :: r => uptoBulk d + uptoBulkAll r
def uptoBulkEntries {H : Type} : List (Lit × DataW H) → Nat
  | [] => 0
  | x :: r => uptoBulkEntry x + uptoBulkEntries r
def uptoBulkEntry {H : Type} : Lit × DataW H → Nat
  | (.string bytes, d) => bytes.length + uptoBulk d + 1
  | (_, d) => uptoBulk d + 1
 end
def uptoSmall : (H : Type) → List (DataW H) → Bool := fun _ ds => decide (uptoBulkAll ds ≤ 1048576)
def OpenSpec.upto (s : _root_.Go.ChangeSpec) : _root_.Go.OpenSpec := { _root_.Go.OpenSpec.ofChange s with cond := some uptoSmall }

/-- 'mistlaw21.TableOf', WHERE WHAT IT READS IS OF BULK AT MOST 1048576: true; the input reads as it did. -/
def tableOfUptoRow : OpenClaim := { program := "ytmefgijobonklaagreat", sum := "1204e7350c7d4996fa7d73dd71a1b33afb2a9895a4fb70a65e12d8cc14669602", func := "mist/mistlaw21.TableOf", spec := "tableOf", inPlace := ["slices.overlaps[int]"], unfollowed := true, recurses := true, plainKeys := false, apart := false, narrowed := true }
def TableOfUptoSaid : Prop := tableOfUptoRow.holds Tryz.pinned (OpenSpec.upto tableOfSpec)

/-- 'mistlaw21.TableMerges', WHERE WHAT IT READS IS OF BULK AT MOST 1048576: true; the input reads as it did. -/
def tableMergesUptoRow : OpenClaim := { program := "ytmefgijobonklaagreat", sum := "1204e7350c7d4996fa7d73dd71a1b33afb2a9895a4fb70a65e12d8cc14669602", func := "mist/mistlaw21.TableMerges", spec := "tableMerges", inPlace := ["slices.overlaps[int]"], unfollowed := true, recurses := true, plainKeys := false, apart := false, narrowed := true }
def TableMergesUptoSaid : Prop := tableMergesUptoRow.holds Tryz.pinned (OpenSpec.upto tableMergesSpec)

/-- 'mistlaw21.TableOps', WHERE WHAT IT READS IS OF BULK AT MOST 1048576: true; the input reads as it did. -/
def tableOpsUptoRow : OpenClaim := { program := "ytmefgijobonklaagreat", sum := "1204e7350c7d4996fa7d73dd71a1b33afb2a9895a4fb70a65e12d8cc14669602", func := "mist/mistlaw21.TableOps", spec := "tableOps", inPlace := ["slices.overlaps[int]"], unfollowed := true, recurses := true, plainKeys := false, apart := false, narrowed := true }
def TableOpsUptoSaid : Prop := tableOpsUptoRow.holds Tryz.pinned (OpenSpec.upto tableOpsSpec)

/-- 'mistlaw21.TableSplits', WHERE WHAT IT READS IS OF BULK AT MOST 1048576: true; the input reads as it did. -/
def tableSplitsUptoRow : OpenClaim := { program := "ytmefgijobonklaagreat", sum := "1204e7350c7d4996fa7d73dd71a1b33afb2a9895a4fb70a65e12d8cc14669602", func := "mist/mistlaw21.TableSplits", spec := "tableSplits", inPlace := ["slices.overlaps[int]"], unfollowed := true, recurses := true, plainKeys := false, apart := false, narrowed := true }
def TableSplitsUptoSaid : Prop := tableSplitsUptoRow.holds Tryz.pinned (OpenSpec.upto tableSplitsSpec)

/-- 'mistlaw21.TableCounts', WHERE WHAT IT READS IS OF BULK AT MOST 1048576: true; the input reads as it did. -/
def tableCountsUptoRow : OpenClaim := { program := "ytmefgijobonklaagreat", sum := "1204e7350c7d4996fa7d73dd71a1b33afb2a9895a4fb70a65e12d8cc14669602", func := "mist/mistlaw21.TableCounts", spec := "tableCounts", inPlace := ["slices.overlaps[int]"], unfollowed := true, recurses := true, plainKeys := false, apart := false, narrowed := true }
def TableCountsUptoSaid : Prop := tableCountsUptoRow.holds Tryz.pinned (OpenSpec.upto tableCountsSpec)

/-- 'mistlaw21.TableSames', WHERE WHAT IT READS IS OF BULK AT MOST 1048576: true; the input reads as it did. -/
def tableSamesUptoRow : OpenClaim := { program := "ytmefgijobonklaagreat", sum := "1204e7350c7d4996fa7d73dd71a1b33afb2a9895a4fb70a65e12d8cc14669602", func := "mist/mistlaw21.TableSames", spec := "tableSames", inPlace := ["slices.overlaps[int]"], unfollowed := true, recurses := true, plainKeys := false, apart := false, narrowed := true }
def TableSamesUptoSaid : Prop := tableSamesUptoRow.holds Tryz.pinned (OpenSpec.upto tableSamesSpec)

/-- 'mistlaw21.TableCompiles', WHERE WHAT IT READS IS OF BULK AT MOST 1048576: true; the input reads as it did. -/
def tableCompilesUptoRow : OpenClaim := { program := "ytmefgijobonklaagreat", sum := "1204e7350c7d4996fa7d73dd71a1b33afb2a9895a4fb70a65e12d8cc14669602", func := "mist/mistlaw21.TableCompiles", spec := "tableCompiles", inPlace := ["slices.overlaps[int]"], unfollowed := true, recurses := true, plainKeys := false, apart := false, narrowed := true }
def TableCompilesUptoSaid : Prop := tableCompilesUptoRow.holds Tryz.pinned (OpenSpec.upto tableCompilesSpec)

/-- 'mistlaw21.TableRows', WHERE WHAT IT READS IS OF BULK AT MOST 1048576: true; the input reads as it did. -/
def tableRowsUptoRow : OpenClaim := { program := "ytmefgijobonklaagreat", sum := "1204e7350c7d4996fa7d73dd71a1b33afb2a9895a4fb70a65e12d8cc14669602", func := "mist/mistlaw21.TableRows", spec := "tableRows", inPlace := ["slices.overlaps[int]"], unfollowed := true, recurses := true, plainKeys := false, apart := false, narrowed := true }
def TableRowsUptoSaid : Prop := tableRowsUptoRow.holds Tryz.pinned (OpenSpec.upto tableRowsSpec)

/-- 'mistlaw21.TableNames', WHERE WHAT IT READS IS OF BULK AT MOST 1048576: true; the input reads as it did. -/
def tableNamesUptoRow : OpenClaim := { program := "ytmefgijobonklaagreat", sum := "1204e7350c7d4996fa7d73dd71a1b33afb2a9895a4fb70a65e12d8cc14669602", func := "mist/mistlaw21.TableNames", spec := "tableNames", inPlace := ["slices.overlaps[int]"], unfollowed := true, recurses := true, plainKeys := false, apart := false, narrowed := true }
def TableNamesUptoSaid : Prop := tableNamesUptoRow.holds Tryz.pinned (OpenSpec.upto tableNamesSpec)

/-- 'mistlaw21.TableChecks', WHERE WHAT IT READS IS OF BULK AT MOST 1048576: true; the input reads as it did. -/
def tableChecksUptoRow : OpenClaim := { program := "ytmefgijobonklaagreat", sum := "1204e7350c7d4996fa7d73dd71a1b33afb2a9895a4fb70a65e12d8cc14669602", func := "mist/mistlaw21.TableChecks", spec := "tableChecks", inPlace := ["slices.overlaps[int]"], unfollowed := true, recurses := true, plainKeys := false, apart := false, narrowed := true }
def TableChecksUptoSaid : Prop := tableChecksUptoRow.holds Tryz.pinned (OpenSpec.upto tableChecksSpec)

/-- 'mistlaw21.TableOne', WHERE WHAT IT READS IS OF BULK AT MOST 1048576: true; the input reads as it did. -/
def tableOneUptoRow : OpenClaim := { program := "ytmefgijobonklaagreat", sum := "1204e7350c7d4996fa7d73dd71a1b33afb2a9895a4fb70a65e12d8cc14669602", func := "mist/mistlaw21.TableOne", spec := "tableOne", inPlace := ["slices.overlaps[int]"], unfollowed := true, recurses := true, plainKeys := false, apart := false, narrowed := true }
def TableOneUptoSaid : Prop := tableOneUptoRow.holds Tryz.pinned (OpenSpec.upto tableOneSpec)

/-- 'mistlaw21.TableDiagrams', WHERE WHAT IT READS IS OF BULK AT MOST 1048576: true; the input reads as it did. -/
def tableDiagramsUptoRow : OpenClaim := { program := "ytmefgijobonklaagreat", sum := "1204e7350c7d4996fa7d73dd71a1b33afb2a9895a4fb70a65e12d8cc14669602", func := "mist/mistlaw21.TableDiagrams", spec := "tableDiagrams", inPlace := ["slices.overlaps[int]"], unfollowed := true, recurses := true, plainKeys := false, apart := false, narrowed := true }
def TableDiagramsUptoSaid : Prop := tableDiagramsUptoRow.holds Tryz.pinned (OpenSpec.upto tableDiagramsSpec)

end Rows
end Go.Proofs.YtmefgijobonklaaGreat
