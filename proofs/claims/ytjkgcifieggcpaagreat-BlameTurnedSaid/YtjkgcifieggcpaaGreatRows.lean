/-
  No cell of these rows narrows 'for every input' (looked for: loops, veiled, ifaces, maps, wideKeys, modest, calm, conditions, laid).
  DERIVED. THE GIVEN ROWS OF THIS SEAT. 13 by the template 'for every input the law returns true; each argument reads behind the call as it read before'; 0 by the template 'total and deterministic' (their statements: YtjkgcifieggcpaaGreatTotals.lean).
  GIVEN WITH THE SEED: the statements are not yours to turn. If you find one false, say at which input.
  Laid BY PROGRAM, IN A SANDBOX (cutbox-rows.mjs): the forced cells as the released guide's own fill.sh prints them over the translation 79b0541d35194f8e… (all of the seat's roots in one cut). By AI agents, Wed Nov 11 2026. No macro, syntax, notation, axiom, sorry.
-/
import Derived.Test.YtjkgcifieggcpaaGreatChecked
import GoSem.Claim
import GoSem.ClaimJoined
import GoSem.ClaimMapViews
import Derived.JoinedTies
import Derived.KernelRfl
namespace Go.Proofs.YtjkgcifieggcpaaGreat
/- THE CELL 'sum', in the pinned program and in every row, IS THE sha256 OF THE DUMP (.gsa) THAT YtjkgcifieggcpaaGreatProg.lean LOADS. Nothing in Lean hashes anything: it is a label: what it is worth is what the hold of that sum in a sandbox is worth. -/
noncomputable def Tryz.pinned : Pinned := { name := "ytjkgcifieggcpaagreat", sum := "79b0541d35194f8e235de96000b6f2e2b5911c825c27c40f03d578a92f192167", checked := Tryz.checked }
namespace Rows
def none {H : Type} : Left H := { results := [], args := [] }

/-- 'mistlaw23.BlameConflicts': WHATEVER THE INPUT: true; the input reads as it did. -/
def blameConflictsSpec : ChangeSpec := { name := "blameConflicts", fn := fun _ => fun
  | [d] => { results := [.lit (.bool true)], args := [d] }
  | _ => none }
def blameConflictsRow : OpenClaim := { program := "ytjkgcifieggcpaagreat", sum := "79b0541d35194f8e235de96000b6f2e2b5911c825c27c40f03d578a92f192167", func := "mist/mistlaw23.BlameConflicts", spec := "blameConflicts", inPlace := ["slices.overlaps[mist/api.Diagram]"], unfollowed := true, recurses := true, plainKeys := false, apart := false }
def BlameConflictsSaid : Prop := blameConflictsRow.holds Tryz.pinned (OpenSpec.ofChange blameConflictsSpec)

/-- ITS FALSE NEIGHBOUR: 'it returns false'. Refute it at one input. -/
def blameConflictsWrong : ChangeSpec := { name := "blameConflicts", fn := fun _ => fun
  | [d] => { results := [.lit (.bool false)], args := [d] }
  | _ => none }
def BlameConflictsWrongFalsely : Prop := blameConflictsRow.holds Tryz.pinned (OpenSpec.ofChange blameConflictsWrong)

/-- 'mistlaw23.BlameNeeds': WHATEVER THE INPUT: true; the input reads as it did. -/
def blameNeedsSpec : ChangeSpec := { name := "blameNeeds", fn := fun _ => fun
  | [d] => { results := [.lit (.bool true)], args := [d] }
  | _ => none }
def blameNeedsRow : OpenClaim := { program := "ytjkgcifieggcpaagreat", sum := "79b0541d35194f8e235de96000b6f2e2b5911c825c27c40f03d578a92f192167", func := "mist/mistlaw23.BlameNeeds", spec := "blameNeeds", inPlace := ["slices.overlaps[mist/api.Diagram]"], unfollowed := true, recurses := true, plainKeys := false, apart := false }
def BlameNeedsSaid : Prop := blameNeedsRow.holds Tryz.pinned (OpenSpec.ofChange blameNeedsSpec)

/-- ITS FALSE NEIGHBOUR: 'it returns false'. Refute it at one input. -/
def blameNeedsWrong : ChangeSpec := { name := "blameNeeds", fn := fun _ => fun
  | [d] => { results := [.lit (.bool false)], args := [d] }
  | _ => none }
def BlameNeedsWrongFalsely : Prop := blameNeedsRow.holds Tryz.pinned (OpenSpec.ofChange blameNeedsWrong)

/-- 'mistlaw23.BlameProofs': WHATEVER THE INPUT: true; the input reads as it did. -/
def blameProofsSpec : ChangeSpec := { name := "blameProofs", fn := fun _ => fun
  | [d1, d2, d3] => { results := [.lit (.bool true)], args := [d1, d2, d3] }
  | _ => none }
def blameProofsRow : OpenClaim := { program := "ytjkgcifieggcpaagreat", sum := "79b0541d35194f8e235de96000b6f2e2b5911c825c27c40f03d578a92f192167", func := "mist/mistlaw23.BlameProofs", spec := "blameProofs", inPlace := ["slices.overlaps[mist/api.Diagram]"], unfollowed := true, recurses := true, plainKeys := false, apart := false }
def BlameProofsSaid : Prop := blameProofsRow.holds Tryz.pinned (OpenSpec.ofChange blameProofsSpec)

/-- ITS FALSE NEIGHBOUR: 'it returns false'. Refute it at one input. -/
def blameProofsWrong : ChangeSpec := { name := "blameProofs", fn := fun _ => fun
  | [d1, d2, d3] => { results := [.lit (.bool false)], args := [d1, d2, d3] }
  | _ => none }
def BlameProofsWrongFalsely : Prop := blameProofsRow.holds Tryz.pinned (OpenSpec.ofChange blameProofsWrong)

/-- 'mistlaw23.BlameTurned': WHATEVER THE INPUT: true; the input reads as it did. -/
def blameTurnedSpec : ChangeSpec := { name := "blameTurned", fn := fun _ => fun
  | [d1, d2] => { results := [.lit (.bool true)], args := [d1, d2] }
  | _ => none }
def blameTurnedRow : OpenClaim := { program := "ytjkgcifieggcpaagreat", sum := "79b0541d35194f8e235de96000b6f2e2b5911c825c27c40f03d578a92f192167", func := "mist/mistlaw23.BlameTurned", spec := "blameTurned", inPlace := ["slices.overlaps[mist/api.Diagram]"], unfollowed := true, recurses := true, plainKeys := false, apart := false }
def BlameTurnedSaid : Prop := blameTurnedRow.holds Tryz.pinned (OpenSpec.ofChange blameTurnedSpec)

/-- ITS FALSE NEIGHBOUR: 'it returns false'. Refute it at one input. -/
def blameTurnedWrong : ChangeSpec := { name := "blameTurned", fn := fun _ => fun
  | [d1, d2] => { results := [.lit (.bool false)], args := [d1, d2] }
  | _ => none }
def BlameTurnedWrongFalsely : Prop := blameTurnedRow.holds Tryz.pinned (OpenSpec.ofChange blameTurnedWrong)

/-- 'mistlaw23.BlameWhys': WHATEVER THE INPUT: true; the input reads as it did. -/
def blameWhysSpec : ChangeSpec := { name := "blameWhys", fn := fun _ => fun
  | [d] => { results := [.lit (.bool true)], args := [d] }
  | _ => none }
def blameWhysRow : OpenClaim := { program := "ytjkgcifieggcpaagreat", sum := "79b0541d35194f8e235de96000b6f2e2b5911c825c27c40f03d578a92f192167", func := "mist/mistlaw23.BlameWhys", spec := "blameWhys", inPlace := ["slices.overlaps[mist/api.Diagram]"], unfollowed := true, recurses := true, plainKeys := false, apart := false }
def BlameWhysSaid : Prop := blameWhysRow.holds Tryz.pinned (OpenSpec.ofChange blameWhysSpec)

/-- ITS FALSE NEIGHBOUR: 'it returns false'. Refute it at one input. -/
def blameWhysWrong : ChangeSpec := { name := "blameWhys", fn := fun _ => fun
  | [d] => { results := [.lit (.bool false)], args := [d] }
  | _ => none }
def BlameWhysWrongFalsely : Prop := blameWhysRow.holds Tryz.pinned (OpenSpec.ofChange blameWhysWrong)

/-- 'mistlaw23.BlameRelaxes': WHATEVER THE INPUT: true; the input reads as it did. -/
def blameRelaxesSpec : ChangeSpec := { name := "blameRelaxes", fn := fun _ => fun
  | [d] => { results := [.lit (.bool true)], args := [d] }
  | _ => none }
def blameRelaxesRow : OpenClaim := { program := "ytjkgcifieggcpaagreat", sum := "79b0541d35194f8e235de96000b6f2e2b5911c825c27c40f03d578a92f192167", func := "mist/mistlaw23.BlameRelaxes", spec := "blameRelaxes", inPlace := ["slices.overlaps[mist/api.Diagram]"], unfollowed := true, recurses := true, plainKeys := false, apart := false }
def BlameRelaxesSaid : Prop := blameRelaxesRow.holds Tryz.pinned (OpenSpec.ofChange blameRelaxesSpec)

/-- ITS FALSE NEIGHBOUR: 'it returns false'. Refute it at one input. -/
def blameRelaxesWrong : ChangeSpec := { name := "blameRelaxes", fn := fun _ => fun
  | [d] => { results := [.lit (.bool false)], args := [d] }
  | _ => none }
def BlameRelaxesWrongFalsely : Prop := blameRelaxesRow.holds Tryz.pinned (OpenSpec.ofChange blameRelaxesWrong)

/-- 'mistlaw23.BlameNames': WHATEVER THE INPUT: true; the input reads as it did. -/
def blameNamesSpec : ChangeSpec := { name := "blameNames", fn := fun _ => fun
  | [] => { results := [.lit (.bool true)], args := [] }
  | _ => none }
def blameNamesRow : OpenClaim := { program := "ytjkgcifieggcpaagreat", sum := "79b0541d35194f8e235de96000b6f2e2b5911c825c27c40f03d578a92f192167", func := "mist/mistlaw23.BlameNames", spec := "blameNames", inPlace := ["slices.overlaps[mist/api.Diagram]"], unfollowed := true, recurses := true, plainKeys := false, apart := false }
def BlameNamesSaid : Prop := blameNamesRow.holds Tryz.pinned (OpenSpec.ofChange blameNamesSpec)

/-- ITS FALSE NEIGHBOUR: 'it returns false'. Refute it at one input. -/
def blameNamesWrong : ChangeSpec := { name := "blameNames", fn := fun _ => fun
  | [] => { results := [.lit (.bool false)], args := [] }
  | _ => none }
def BlameNamesWrongFalsely : Prop := blameNamesRow.holds Tryz.pinned (OpenSpec.ofChange blameNamesWrong)

/-- 'mistlaw23.BlameNeeded': WHATEVER THE INPUT: true; the input reads as it did. -/
def blameNeededSpec : ChangeSpec := { name := "blameNeeded", fn := fun _ => fun
  | [d] => { results := [.lit (.bool true)], args := [d] }
  | _ => none }
def blameNeededRow : OpenClaim := { program := "ytjkgcifieggcpaagreat", sum := "79b0541d35194f8e235de96000b6f2e2b5911c825c27c40f03d578a92f192167", func := "mist/mistlaw23.BlameNeeded", spec := "blameNeeded", inPlace := ["slices.overlaps[mist/api.Diagram]"], unfollowed := true, recurses := true, plainKeys := false, apart := false }
def BlameNeededSaid : Prop := blameNeededRow.holds Tryz.pinned (OpenSpec.ofChange blameNeededSpec)

/-- ITS FALSE NEIGHBOUR: 'it returns false'. Refute it at one input. -/
def blameNeededWrong : ChangeSpec := { name := "blameNeeded", fn := fun _ => fun
  | [d] => { results := [.lit (.bool false)], args := [d] }
  | _ => none }
def BlameNeededWrongFalsely : Prop := blameNeededRow.holds Tryz.pinned (OpenSpec.ofChange blameNeededWrong)

/-- 'mistlaw23.BlameEnough': WHATEVER THE INPUT: true; the input reads as it did. -/
def blameEnoughSpec : ChangeSpec := { name := "blameEnough", fn := fun _ => fun
  | [d1, d2, d3] => { results := [.lit (.bool true)], args := [d1, d2, d3] }
  | _ => none }
def blameEnoughRow : OpenClaim := { program := "ytjkgcifieggcpaagreat", sum := "79b0541d35194f8e235de96000b6f2e2b5911c825c27c40f03d578a92f192167", func := "mist/mistlaw23.BlameEnough", spec := "blameEnough", inPlace := ["slices.overlaps[mist/api.Diagram]"], unfollowed := true, recurses := true, plainKeys := false, apart := false }
def BlameEnoughSaid : Prop := blameEnoughRow.holds Tryz.pinned (OpenSpec.ofChange blameEnoughSpec)

/-- ITS FALSE NEIGHBOUR: 'it returns false'. Refute it at one input. -/
def blameEnoughWrong : ChangeSpec := { name := "blameEnough", fn := fun _ => fun
  | [d1, d2, d3] => { results := [.lit (.bool false)], args := [d1, d2, d3] }
  | _ => none }
def BlameEnoughWrongFalsely : Prop := blameEnoughRow.holds Tryz.pinned (OpenSpec.ofChange blameEnoughWrong)

/-- 'mistlaw23.BlameMust': WHATEVER THE INPUT: true; the input reads as it did. -/
def blameMustSpec : ChangeSpec := { name := "blameMust", fn := fun _ => fun
  | [d] => { results := [.lit (.bool true)], args := [d] }
  | _ => none }
def blameMustRow : OpenClaim := { program := "ytjkgcifieggcpaagreat", sum := "79b0541d35194f8e235de96000b6f2e2b5911c825c27c40f03d578a92f192167", func := "mist/mistlaw23.BlameMust", spec := "blameMust", inPlace := ["slices.overlaps[mist/api.Diagram]"], unfollowed := true, recurses := true, plainKeys := false, apart := false }
def BlameMustSaid : Prop := blameMustRow.holds Tryz.pinned (OpenSpec.ofChange blameMustSpec)

/-- ITS FALSE NEIGHBOUR: 'it returns false'. Refute it at one input. -/
def blameMustWrong : ChangeSpec := { name := "blameMust", fn := fun _ => fun
  | [d] => { results := [.lit (.bool false)], args := [d] }
  | _ => none }
def BlameMustWrongFalsely : Prop := blameMustRow.holds Tryz.pinned (OpenSpec.ofChange blameMustWrong)

/-- 'mistlaw23.BlameSides': WHATEVER THE INPUT: true; the input reads as it did. -/
def blameSidesSpec : ChangeSpec := { name := "blameSides", fn := fun _ => fun
  | [d1, d2] => { results := [.lit (.bool true)], args := [d1, d2] }
  | _ => none }
def blameSidesRow : OpenClaim := { program := "ytjkgcifieggcpaagreat", sum := "79b0541d35194f8e235de96000b6f2e2b5911c825c27c40f03d578a92f192167", func := "mist/mistlaw23.BlameSides", spec := "blameSides", inPlace := ["slices.overlaps[mist/api.Diagram]"], unfollowed := true, recurses := true, plainKeys := false, apart := false }
def BlameSidesSaid : Prop := blameSidesRow.holds Tryz.pinned (OpenSpec.ofChange blameSidesSpec)

/-- ITS FALSE NEIGHBOUR: 'it returns false'. Refute it at one input. -/
def blameSidesWrong : ChangeSpec := { name := "blameSides", fn := fun _ => fun
  | [d1, d2] => { results := [.lit (.bool false)], args := [d1, d2] }
  | _ => none }
def BlameSidesWrongFalsely : Prop := blameSidesRow.holds Tryz.pinned (OpenSpec.ofChange blameSidesWrong)

/-- 'mistlaw23.BlameProved': WHATEVER THE INPUT: true; the input reads as it did. -/
def blameProvedSpec : ChangeSpec := { name := "blameProved", fn := fun _ => fun
  | [d1, d2, d3] => { results := [.lit (.bool true)], args := [d1, d2, d3] }
  | _ => none }
def blameProvedRow : OpenClaim := { program := "ytjkgcifieggcpaagreat", sum := "79b0541d35194f8e235de96000b6f2e2b5911c825c27c40f03d578a92f192167", func := "mist/mistlaw23.BlameProved", spec := "blameProved", inPlace := ["slices.overlaps[mist/api.Diagram]"], unfollowed := true, recurses := true, plainKeys := false, apart := false }
def BlameProvedSaid : Prop := blameProvedRow.holds Tryz.pinned (OpenSpec.ofChange blameProvedSpec)

/-- ITS FALSE NEIGHBOUR: 'it returns false'. Refute it at one input. -/
def blameProvedWrong : ChangeSpec := { name := "blameProved", fn := fun _ => fun
  | [d1, d2, d3] => { results := [.lit (.bool false)], args := [d1, d2, d3] }
  | _ => none }
def BlameProvedWrongFalsely : Prop := blameProvedRow.holds Tryz.pinned (OpenSpec.ofChange blameProvedWrong)

/-- 'mistlaw23.BlameMore': WHATEVER THE INPUT: true; the input reads as it did. -/
def blameMoreSpec : ChangeSpec := { name := "blameMore", fn := fun _ => fun
  | [d1, d2] => { results := [.lit (.bool true)], args := [d1, d2] }
  | _ => none }
def blameMoreRow : OpenClaim := { program := "ytjkgcifieggcpaagreat", sum := "79b0541d35194f8e235de96000b6f2e2b5911c825c27c40f03d578a92f192167", func := "mist/mistlaw23.BlameMore", spec := "blameMore", inPlace := ["slices.overlaps[mist/api.Diagram]"], unfollowed := true, recurses := true, plainKeys := false, apart := false }
def BlameMoreSaid : Prop := blameMoreRow.holds Tryz.pinned (OpenSpec.ofChange blameMoreSpec)

/-- ITS FALSE NEIGHBOUR: 'it returns false'. Refute it at one input. -/
def blameMoreWrong : ChangeSpec := { name := "blameMore", fn := fun _ => fun
  | [d1, d2] => { results := [.lit (.bool false)], args := [d1, d2] }
  | _ => none }
def BlameMoreWrongFalsely : Prop := blameMoreRow.holds Tryz.pinned (OpenSpec.ofChange blameMoreWrong)

/- THE SECOND FORM. 'bulk': how many values and letters a reading holds, each counted each time it is reached (what is shared counts as often as it is met; a slice's spare places count too). A statement '..UptoSaid' is the law's where the arguments, and the package variables that the reading takes, are together of bulk at most 1048576: NARROWER than '..Said'. Prove '..Said' where nothing that the law and all that it calls make is longer than what came in: it says more and counts as full. Else prove '..UptoSaid'. A law counts once. -/
mutual
def uptoBulk {H : Type} : DataW H → Nat
  | .lit (.string bytes) => bytes.length + 1
  | .lit _ => 1
  | .nil => 1
  | .ptr d => uptoBulk d + 1
  | .slice elems spare => uptoBulkAll elems + uptoBulkAll spare + 1
  | .agg parts => uptoBulkAll parts + 1
  | .iface _ d => uptoBulk d + 1
  | .map entries => uptoBulkEntries entries + 1
  | .held _ => 1
def uptoBulkAll {H : Type} : List (DataW H) → Nat
  | [] => 0
  | d :: r => uptoBulk d + uptoBulkAll r
def uptoBulkEntries {H : Type} : List (Lit × DataW H) → Nat
  | [] => 0
  | x :: r => uptoBulkEntry x + uptoBulkEntries r
def uptoBulkEntry {H : Type} : Lit × DataW H → Nat
  | (.string bytes, d) => bytes.length + uptoBulk d + 1
  | (_, d) => uptoBulk d + 1
 end
def uptoSmall : (H : Type) → List (DataW H) → Bool := fun _ ds => decide (uptoBulkAll ds ≤ 1048576)
def OpenSpec.upto (s : _root_.Go.ChangeSpec) : _root_.Go.OpenSpec := { _root_.Go.OpenSpec.ofChange s with cond := some uptoSmall }

/-- 'mistlaw23.BlameConflicts', WHERE WHAT IT READS IS OF BULK AT MOST 1048576: true; the input reads as it did. -/
def blameConflictsUptoRow : OpenClaim := { program := "ytjkgcifieggcpaagreat", sum := "79b0541d35194f8e235de96000b6f2e2b5911c825c27c40f03d578a92f192167", func := "mist/mistlaw23.BlameConflicts", spec := "blameConflicts", inPlace := ["slices.overlaps[mist/api.Diagram]"], unfollowed := true, recurses := true, plainKeys := false, apart := false, narrowed := true }
def BlameConflictsUptoSaid : Prop := blameConflictsUptoRow.holds Tryz.pinned (OpenSpec.upto blameConflictsSpec)

/-- 'mistlaw23.BlameNeeds', WHERE WHAT IT READS IS OF BULK AT MOST 1048576: true; the input reads as it did. -/
def blameNeedsUptoRow : OpenClaim := { program := "ytjkgcifieggcpaagreat", sum := "79b0541d35194f8e235de96000b6f2e2b5911c825c27c40f03d578a92f192167", func := "mist/mistlaw23.BlameNeeds", spec := "blameNeeds", inPlace := ["slices.overlaps[mist/api.Diagram]"], unfollowed := true, recurses := true, plainKeys := false, apart := false, narrowed := true }
def BlameNeedsUptoSaid : Prop := blameNeedsUptoRow.holds Tryz.pinned (OpenSpec.upto blameNeedsSpec)

/-- 'mistlaw23.BlameProofs', WHERE WHAT IT READS IS OF BULK AT MOST 1048576: true; the input reads as it did. -/
def blameProofsUptoRow : OpenClaim := { program := "ytjkgcifieggcpaagreat", sum := "79b0541d35194f8e235de96000b6f2e2b5911c825c27c40f03d578a92f192167", func := "mist/mistlaw23.BlameProofs", spec := "blameProofs", inPlace := ["slices.overlaps[mist/api.Diagram]"], unfollowed := true, recurses := true, plainKeys := false, apart := false, narrowed := true }
def BlameProofsUptoSaid : Prop := blameProofsUptoRow.holds Tryz.pinned (OpenSpec.upto blameProofsSpec)

/-- 'mistlaw23.BlameTurned', WHERE WHAT IT READS IS OF BULK AT MOST 1048576: true; the input reads as it did. -/
def blameTurnedUptoRow : OpenClaim := { program := "ytjkgcifieggcpaagreat", sum := "79b0541d35194f8e235de96000b6f2e2b5911c825c27c40f03d578a92f192167", func := "mist/mistlaw23.BlameTurned", spec := "blameTurned", inPlace := ["slices.overlaps[mist/api.Diagram]"], unfollowed := true, recurses := true, plainKeys := false, apart := false, narrowed := true }
def BlameTurnedUptoSaid : Prop := blameTurnedUptoRow.holds Tryz.pinned (OpenSpec.upto blameTurnedSpec)

/-- 'mistlaw23.BlameWhys', WHERE WHAT IT READS IS OF BULK AT MOST 1048576: true; the input reads as it did. -/
def blameWhysUptoRow : OpenClaim := { program := "ytjkgcifieggcpaagreat", sum := "79b0541d35194f8e235de96000b6f2e2b5911c825c27c40f03d578a92f192167", func := "mist/mistlaw23.BlameWhys", spec := "blameWhys", inPlace := ["slices.overlaps[mist/api.Diagram]"], unfollowed := true, recurses := true, plainKeys := false, apart := false, narrowed := true }
def BlameWhysUptoSaid : Prop := blameWhysUptoRow.holds Tryz.pinned (OpenSpec.upto blameWhysSpec)

/-- 'mistlaw23.BlameRelaxes', WHERE WHAT IT READS IS OF BULK AT MOST 1048576: true; the input reads as it did. -/
def blameRelaxesUptoRow : OpenClaim := { program := "ytjkgcifieggcpaagreat", sum := "79b0541d35194f8e235de96000b6f2e2b5911c825c27c40f03d578a92f192167", func := "mist/mistlaw23.BlameRelaxes", spec := "blameRelaxes", inPlace := ["slices.overlaps[mist/api.Diagram]"], unfollowed := true, recurses := true, plainKeys := false, apart := false, narrowed := true }
def BlameRelaxesUptoSaid : Prop := blameRelaxesUptoRow.holds Tryz.pinned (OpenSpec.upto blameRelaxesSpec)

/-- 'mistlaw23.BlameNames', WHERE WHAT IT READS IS OF BULK AT MOST 1048576: true; the input reads as it did. -/
def blameNamesUptoRow : OpenClaim := { program := "ytjkgcifieggcpaagreat", sum := "79b0541d35194f8e235de96000b6f2e2b5911c825c27c40f03d578a92f192167", func := "mist/mistlaw23.BlameNames", spec := "blameNames", inPlace := ["slices.overlaps[mist/api.Diagram]"], unfollowed := true, recurses := true, plainKeys := false, apart := false, narrowed := true }
def BlameNamesUptoSaid : Prop := blameNamesUptoRow.holds Tryz.pinned (OpenSpec.upto blameNamesSpec)

/-- 'mistlaw23.BlameNeeded', WHERE WHAT IT READS IS OF BULK AT MOST 1048576: true; the input reads as it did. -/
def blameNeededUptoRow : OpenClaim := { program := "ytjkgcifieggcpaagreat", sum := "79b0541d35194f8e235de96000b6f2e2b5911c825c27c40f03d578a92f192167", func := "mist/mistlaw23.BlameNeeded", spec := "blameNeeded", inPlace := ["slices.overlaps[mist/api.Diagram]"], unfollowed := true, recurses := true, plainKeys := false, apart := false, narrowed := true }
def BlameNeededUptoSaid : Prop := blameNeededUptoRow.holds Tryz.pinned (OpenSpec.upto blameNeededSpec)

/-- 'mistlaw23.BlameEnough', WHERE WHAT IT READS IS OF BULK AT MOST 1048576: true; the input reads as it did. -/
def blameEnoughUptoRow : OpenClaim := { program := "ytjkgcifieggcpaagreat", sum := "79b0541d35194f8e235de96000b6f2e2b5911c825c27c40f03d578a92f192167", func := "mist/mistlaw23.BlameEnough", spec := "blameEnough", inPlace := ["slices.overlaps[mist/api.Diagram]"], unfollowed := true, recurses := true, plainKeys := false, apart := false, narrowed := true }
def BlameEnoughUptoSaid : Prop := blameEnoughUptoRow.holds Tryz.pinned (OpenSpec.upto blameEnoughSpec)

/-- 'mistlaw23.BlameMust', WHERE WHAT IT READS IS OF BULK AT MOST 1048576: true; the input reads as it did. -/
def blameMustUptoRow : OpenClaim := { program := "ytjkgcifieggcpaagreat", sum := "79b0541d35194f8e235de96000b6f2e2b5911c825c27c40f03d578a92f192167", func := "mist/mistlaw23.BlameMust", spec := "blameMust", inPlace := ["slices.overlaps[mist/api.Diagram]"], unfollowed := true, recurses := true, plainKeys := false, apart := false, narrowed := true }
def BlameMustUptoSaid : Prop := blameMustUptoRow.holds Tryz.pinned (OpenSpec.upto blameMustSpec)

/-- 'mistlaw23.BlameSides', WHERE WHAT IT READS IS OF BULK AT MOST 1048576: true; the input reads as it did. -/
def blameSidesUptoRow : OpenClaim := { program := "ytjkgcifieggcpaagreat", sum := "79b0541d35194f8e235de96000b6f2e2b5911c825c27c40f03d578a92f192167", func := "mist/mistlaw23.BlameSides", spec := "blameSides", inPlace := ["slices.overlaps[mist/api.Diagram]"], unfollowed := true, recurses := true, plainKeys := false, apart := false, narrowed := true }
def BlameSidesUptoSaid : Prop := blameSidesUptoRow.holds Tryz.pinned (OpenSpec.upto blameSidesSpec)

/-- 'mistlaw23.BlameProved', WHERE WHAT IT READS IS OF BULK AT MOST 1048576: true; the input reads as it did. -/
def blameProvedUptoRow : OpenClaim := { program := "ytjkgcifieggcpaagreat", sum := "79b0541d35194f8e235de96000b6f2e2b5911c825c27c40f03d578a92f192167", func := "mist/mistlaw23.BlameProved", spec := "blameProved", inPlace := ["slices.overlaps[mist/api.Diagram]"], unfollowed := true, recurses := true, plainKeys := false, apart := false, narrowed := true }
def BlameProvedUptoSaid : Prop := blameProvedUptoRow.holds Tryz.pinned (OpenSpec.upto blameProvedSpec)

/-- 'mistlaw23.BlameMore', WHERE WHAT IT READS IS OF BULK AT MOST 1048576: true; the input reads as it did. -/
def blameMoreUptoRow : OpenClaim := { program := "ytjkgcifieggcpaagreat", sum := "79b0541d35194f8e235de96000b6f2e2b5911c825c27c40f03d578a92f192167", func := "mist/mistlaw23.BlameMore", spec := "blameMore", inPlace := ["slices.overlaps[mist/api.Diagram]"], unfollowed := true, recurses := true, plainKeys := false, apart := false, narrowed := true }
def BlameMoreUptoSaid : Prop := blameMoreUptoRow.holds Tryz.pinned (OpenSpec.upto blameMoreSpec)

end Rows
end Go.Proofs.YtjkgcifieggcpaaGreat
