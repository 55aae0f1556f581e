/-
  No cell of these rows narrows 'for every input' (looked for: loops, veiled, ifaces, maps, wideKeys, modest, calm, conditions, laid).
  DERIVED. THE GIVEN ROWS OF THIS SEAT. 14 by the template 'for every input the law returns true; each argument reads behind the call as it read before'; 0 by the template 'total and deterministic' (their statements: YtfhiejgoemcelaaGreatTotals.lean).
  GIVEN WITH THE SEED: the statements are not yours to turn. If you find one false, say at which input.
  Laid BY PROGRAM, IN A SANDBOX (cutbox-rows.mjs): the forced cells as the released guide's own fill.sh prints them over the translation 7d7aeea63b25cf56… (all of the seat's roots in one cut). By AI agents, Wed Nov 11 2026. No macro, syntax, notation, axiom, sorry.
-/
import Derived.Test.YtfhiejgoemcelaaGreatChecked
import GoSem.Claim
import GoSem.ClaimJoined
import GoSem.ClaimMapViews
import Derived.JoinedTies
import Derived.KernelRfl
namespace Go.Proofs.YtfhiejgoemcelaaGreat
/- THE CELL 'sum', in the pinned program and in every row, IS THE sha256 OF THE DUMP (.gsa) THAT YtfhiejgoemcelaaGreatProg.lean LOADS. Nothing in Lean hashes anything: it is a label: what it is worth is what the hold of that sum in a sandbox is worth. -/
noncomputable def Tryz.pinned : Pinned := { name := "ytfhiejgoemcelaagreat", sum := "7d7aeea63b25cf56269bad294c4550994ef3c7c71239ec765f48d50b20d3134c", checked := Tryz.checked }
namespace Rows
def none {H : Type} : Left H := { results := [], args := [] }

/-- 'mistlaw13.ReachOf': WHATEVER THE INPUT: true; the input reads as it did. -/
def reachOfSpec : ChangeSpec := { name := "reachOf", fn := fun _ => fun
  | [d] => { results := [.lit (.bool true)], args := [d] }
  | _ => none }
def reachOfRow : OpenClaim := { program := "ytfhiejgoemcelaagreat", sum := "7d7aeea63b25cf56269bad294c4550994ef3c7c71239ec765f48d50b20d3134c", func := "mist/mistlaw13.ReachOf", spec := "reachOf", unfollowed := true, recurses := true, apart := false }
def ReachOfSaid : Prop := reachOfRow.holds Tryz.pinned (OpenSpec.ofChange reachOfSpec)

/-- ITS FALSE NEIGHBOUR: 'it returns false'. Refute it at one input. -/
def reachOfWrong : ChangeSpec := { name := "reachOf", fn := fun _ => fun
  | [d] => { results := [.lit (.bool false)], args := [d] }
  | _ => none }
def ReachOfWrongFalsely : Prop := reachOfRow.holds Tryz.pinned (OpenSpec.ofChange reachOfWrong)

/-- 'mistlaw13.ReachProofs': WHATEVER THE INPUT: true; the input reads as it did. -/
def reachProofsSpec : ChangeSpec := { name := "reachProofs", fn := fun _ => fun
  | [d1, d2] => { results := [.lit (.bool true)], args := [d1, d2] }
  | _ => none }
def reachProofsRow : OpenClaim := { program := "ytfhiejgoemcelaagreat", sum := "7d7aeea63b25cf56269bad294c4550994ef3c7c71239ec765f48d50b20d3134c", func := "mist/mistlaw13.ReachProofs", spec := "reachProofs", unfollowed := true, recurses := true, apart := false }
def ReachProofsSaid : Prop := reachProofsRow.holds Tryz.pinned (OpenSpec.ofChange reachProofsSpec)

/-- ITS FALSE NEIGHBOUR: 'it returns false'. Refute it at one input. -/
def reachProofsWrong : ChangeSpec := { name := "reachProofs", fn := fun _ => fun
  | [d1, d2] => { results := [.lit (.bool false)], args := [d1, d2] }
  | _ => none }
def ReachProofsWrongFalsely : Prop := reachProofsRow.holds Tryz.pinned (OpenSpec.ofChange reachProofsWrong)

/-- 'mistlaw13.ReachTights': WHATEVER THE INPUT: true; the input reads as it did. -/
def reachTightsSpec : ChangeSpec := { name := "reachTights", fn := fun _ => fun
  | [d] => { results := [.lit (.bool true)], args := [d] }
  | _ => none }
def reachTightsRow : OpenClaim := { program := "ytfhiejgoemcelaagreat", sum := "7d7aeea63b25cf56269bad294c4550994ef3c7c71239ec765f48d50b20d3134c", func := "mist/mistlaw13.ReachTights", spec := "reachTights", unfollowed := true, recurses := true, apart := false }
def ReachTightsSaid : Prop := reachTightsRow.holds Tryz.pinned (OpenSpec.ofChange reachTightsSpec)

/-- ITS FALSE NEIGHBOUR: 'it returns false'. Refute it at one input. -/
def reachTightsWrong : ChangeSpec := { name := "reachTights", fn := fun _ => fun
  | [d] => { results := [.lit (.bool false)], args := [d] }
  | _ => none }
def ReachTightsWrongFalsely : Prop := reachTightsRow.holds Tryz.pinned (OpenSpec.ofChange reachTightsWrong)

/-- 'mistlaw13.ReachNevers': WHATEVER THE INPUT: true; the input reads as it did. -/
def reachNeversSpec : ChangeSpec := { name := "reachNevers", fn := fun _ => fun
  | [d1, d2] => { results := [.lit (.bool true)], args := [d1, d2] }
  | _ => none }
def reachNeversRow : OpenClaim := { program := "ytfhiejgoemcelaagreat", sum := "7d7aeea63b25cf56269bad294c4550994ef3c7c71239ec765f48d50b20d3134c", func := "mist/mistlaw13.ReachNevers", spec := "reachNevers", unfollowed := true, recurses := true, apart := false }
def ReachNeversSaid : Prop := reachNeversRow.holds Tryz.pinned (OpenSpec.ofChange reachNeversSpec)

/-- ITS FALSE NEIGHBOUR: 'it returns false'. Refute it at one input. -/
def reachNeversWrong : ChangeSpec := { name := "reachNevers", fn := fun _ => fun
  | [d1, d2] => { results := [.lit (.bool false)], args := [d1, d2] }
  | _ => none }
def ReachNeversWrongFalsely : Prop := reachNeversRow.holds Tryz.pinned (OpenSpec.ofChange reachNeversWrong)

/-- 'mistlaw13.ReachClips': WHATEVER THE INPUT: true; the input reads as it did. -/
def reachClipsSpec : ChangeSpec := { name := "reachClips", fn := fun _ => fun
  | [d] => { results := [.lit (.bool true)], args := [d] }
  | _ => none }
def reachClipsRow : OpenClaim := { program := "ytfhiejgoemcelaagreat", sum := "7d7aeea63b25cf56269bad294c4550994ef3c7c71239ec765f48d50b20d3134c", func := "mist/mistlaw13.ReachClips", spec := "reachClips", unfollowed := true, recurses := true, apart := false }
def ReachClipsSaid : Prop := reachClipsRow.holds Tryz.pinned (OpenSpec.ofChange reachClipsSpec)

/-- ITS FALSE NEIGHBOUR: 'it returns false'. Refute it at one input. -/
def reachClipsWrong : ChangeSpec := { name := "reachClips", fn := fun _ => fun
  | [d] => { results := [.lit (.bool false)], args := [d] }
  | _ => none }
def ReachClipsWrongFalsely : Prop := reachClipsRow.holds Tryz.pinned (OpenSpec.ofChange reachClipsWrong)

/-- 'mistlaw13.ReachWidths': WHATEVER THE INPUT: true; the input reads as it did. -/
def reachWidthsSpec : ChangeSpec := { name := "reachWidths", fn := fun _ => fun
  | [d] => { results := [.lit (.bool true)], args := [d] }
  | _ => none }
def reachWidthsRow : OpenClaim := { program := "ytfhiejgoemcelaagreat", sum := "7d7aeea63b25cf56269bad294c4550994ef3c7c71239ec765f48d50b20d3134c", func := "mist/mistlaw13.ReachWidths", spec := "reachWidths", unfollowed := true, recurses := true, apart := false }
def ReachWidthsSaid : Prop := reachWidthsRow.holds Tryz.pinned (OpenSpec.ofChange reachWidthsSpec)

/-- ITS FALSE NEIGHBOUR: 'it returns false'. Refute it at one input. -/
def reachWidthsWrong : ChangeSpec := { name := "reachWidths", fn := fun _ => fun
  | [d] => { results := [.lit (.bool false)], args := [d] }
  | _ => none }
def ReachWidthsWrongFalsely : Prop := reachWidthsRow.holds Tryz.pinned (OpenSpec.ofChange reachWidthsWrong)

/-- 'mistlaw13.ReachNames': WHATEVER THE INPUT: true; the input reads as it did. -/
def reachNamesSpec : ChangeSpec := { name := "reachNames", fn := fun _ => fun
  | [] => { results := [.lit (.bool true)], args := [] }
  | _ => none }
def reachNamesRow : OpenClaim := { program := "ytfhiejgoemcelaagreat", sum := "7d7aeea63b25cf56269bad294c4550994ef3c7c71239ec765f48d50b20d3134c", func := "mist/mistlaw13.ReachNames", spec := "reachNames", unfollowed := true, recurses := true, apart := false }
def ReachNamesSaid : Prop := reachNamesRow.holds Tryz.pinned (OpenSpec.ofChange reachNamesSpec)

/-- ITS FALSE NEIGHBOUR: 'it returns false'. Refute it at one input. -/
def reachNamesWrong : ChangeSpec := { name := "reachNames", fn := fun _ => fun
  | [] => { results := [.lit (.bool false)], args := [] }
  | _ => none }
def ReachNamesWrongFalsely : Prop := reachNamesRow.holds Tryz.pinned (OpenSpec.ofChange reachNamesWrong)

/-- 'mistlaw13.ReachSound': WHATEVER THE INPUT: true; the input reads as it did. -/
def reachSoundSpec : ChangeSpec := { name := "reachSound", fn := fun _ => fun
  | [d1, d2, d3] => { results := [.lit (.bool true)], args := [d1, d2, d3] }
  | _ => none }
def reachSoundRow : OpenClaim := { program := "ytfhiejgoemcelaagreat", sum := "7d7aeea63b25cf56269bad294c4550994ef3c7c71239ec765f48d50b20d3134c", func := "mist/mistlaw13.ReachSound", spec := "reachSound", unfollowed := true, recurses := true, apart := false }
def ReachSoundSaid : Prop := reachSoundRow.holds Tryz.pinned (OpenSpec.ofChange reachSoundSpec)

/-- ITS FALSE NEIGHBOUR: 'it returns false'. Refute it at one input. -/
def reachSoundWrong : ChangeSpec := { name := "reachSound", fn := fun _ => fun
  | [d1, d2, d3] => { results := [.lit (.bool false)], args := [d1, d2, d3] }
  | _ => none }
def ReachSoundWrongFalsely : Prop := reachSoundRow.holds Tryz.pinned (OpenSpec.ofChange reachSoundWrong)

/-- 'mistlaw13.ReachExact': WHATEVER THE INPUT: true; the input reads as it did. -/
def reachExactSpec : ChangeSpec := { name := "reachExact", fn := fun _ => fun
  | [d] => { results := [.lit (.bool true)], args := [d] }
  | _ => none }
def reachExactRow : OpenClaim := { program := "ytfhiejgoemcelaagreat", sum := "7d7aeea63b25cf56269bad294c4550994ef3c7c71239ec765f48d50b20d3134c", func := "mist/mistlaw13.ReachExact", spec := "reachExact", unfollowed := true, recurses := true, apart := false }
def ReachExactSaid : Prop := reachExactRow.holds Tryz.pinned (OpenSpec.ofChange reachExactSpec)

/-- ITS FALSE NEIGHBOUR: 'it returns false'. Refute it at one input. -/
def reachExactWrong : ChangeSpec := { name := "reachExact", fn := fun _ => fun
  | [d] => { results := [.lit (.bool false)], args := [d] }
  | _ => none }
def ReachExactWrongFalsely : Prop := reachExactRow.holds Tryz.pinned (OpenSpec.ofChange reachExactWrong)

/-- 'mistlaw13.ReachLeast': WHATEVER THE INPUT: true; the input reads as it did. -/
def reachLeastSpec : ChangeSpec := { name := "reachLeast", fn := fun _ => fun
  | [d1, d2, d3] => { results := [.lit (.bool true)], args := [d1, d2, d3] }
  | _ => none }
def reachLeastRow : OpenClaim := { program := "ytfhiejgoemcelaagreat", sum := "7d7aeea63b25cf56269bad294c4550994ef3c7c71239ec765f48d50b20d3134c", func := "mist/mistlaw13.ReachLeast", spec := "reachLeast", unfollowed := true, recurses := true, apart := false }
def ReachLeastSaid : Prop := reachLeastRow.holds Tryz.pinned (OpenSpec.ofChange reachLeastSpec)

/-- ITS FALSE NEIGHBOUR: 'it returns false'. Refute it at one input. -/
def reachLeastWrong : ChangeSpec := { name := "reachLeast", fn := fun _ => fun
  | [d1, d2, d3] => { results := [.lit (.bool false)], args := [d1, d2, d3] }
  | _ => none }
def ReachLeastWrongFalsely : Prop := reachLeastRow.holds Tryz.pinned (OpenSpec.ofChange reachLeastWrong)

/-- 'mistlaw13.ReachGrows': WHATEVER THE INPUT: true; the input reads as it did. -/
def reachGrowsSpec : ChangeSpec := { name := "reachGrows", fn := fun _ => fun
  | [d1, d2, d3] => { results := [.lit (.bool true)], args := [d1, d2, d3] }
  | _ => none }
def reachGrowsRow : OpenClaim := { program := "ytfhiejgoemcelaagreat", sum := "7d7aeea63b25cf56269bad294c4550994ef3c7c71239ec765f48d50b20d3134c", func := "mist/mistlaw13.ReachGrows", spec := "reachGrows", unfollowed := true, recurses := true, apart := false }
def ReachGrowsSaid : Prop := reachGrowsRow.holds Tryz.pinned (OpenSpec.ofChange reachGrowsSpec)

/-- ITS FALSE NEIGHBOUR: 'it returns false'. Refute it at one input. -/
def reachGrowsWrong : ChangeSpec := { name := "reachGrows", fn := fun _ => fun
  | [d1, d2, d3] => { results := [.lit (.bool false)], args := [d1, d2, d3] }
  | _ => none }
def ReachGrowsWrongFalsely : Prop := reachGrowsRow.holds Tryz.pinned (OpenSpec.ofChange reachGrowsWrong)

/-- 'mistlaw13.ReachKnown': WHATEVER THE INPUT: true; the input reads as it did. -/
def reachKnownSpec : ChangeSpec := { name := "reachKnown", fn := fun _ => fun
  | [d1, d2] => { results := [.lit (.bool true)], args := [d1, d2] }
  | _ => none }
def reachKnownRow : OpenClaim := { program := "ytfhiejgoemcelaagreat", sum := "7d7aeea63b25cf56269bad294c4550994ef3c7c71239ec765f48d50b20d3134c", func := "mist/mistlaw13.ReachKnown", spec := "reachKnown", unfollowed := true, recurses := true, apart := false }
def ReachKnownSaid : Prop := reachKnownRow.holds Tryz.pinned (OpenSpec.ofChange reachKnownSpec)

/-- ITS FALSE NEIGHBOUR: 'it returns false'. Refute it at one input. -/
def reachKnownWrong : ChangeSpec := { name := "reachKnown", fn := fun _ => fun
  | [d1, d2] => { results := [.lit (.bool false)], args := [d1, d2] }
  | _ => none }
def ReachKnownWrongFalsely : Prop := reachKnownRow.holds Tryz.pinned (OpenSpec.ofChange reachKnownWrong)

/-- 'mistlaw13.ReachSafe': WHATEVER THE INPUT: true; the input reads as it did. -/
def reachSafeSpec : ChangeSpec := { name := "reachSafe", fn := fun _ => fun
  | [d1, d2, d3] => { results := [.lit (.bool true)], args := [d1, d2, d3] }
  | _ => none }
def reachSafeRow : OpenClaim := { program := "ytfhiejgoemcelaagreat", sum := "7d7aeea63b25cf56269bad294c4550994ef3c7c71239ec765f48d50b20d3134c", func := "mist/mistlaw13.ReachSafe", spec := "reachSafe", unfollowed := true, recurses := true, apart := false }
def ReachSafeSaid : Prop := reachSafeRow.holds Tryz.pinned (OpenSpec.ofChange reachSafeSpec)

/-- ITS FALSE NEIGHBOUR: 'it returns false'. Refute it at one input. -/
def reachSafeWrong : ChangeSpec := { name := "reachSafe", fn := fun _ => fun
  | [d1, d2, d3] => { results := [.lit (.bool false)], args := [d1, d2, d3] }
  | _ => none }
def ReachSafeWrongFalsely : Prop := reachSafeRow.holds Tryz.pinned (OpenSpec.ofChange reachSafeWrong)

/-- 'mistlaw13.ReachFits': WHATEVER THE INPUT: true; the input reads as it did. -/
def reachFitsSpec : ChangeSpec := { name := "reachFits", fn := fun _ => fun
  | [d1, d2] => { results := [.lit (.bool true)], args := [d1, d2] }
  | _ => none }
def reachFitsRow : OpenClaim := { program := "ytfhiejgoemcelaagreat", sum := "7d7aeea63b25cf56269bad294c4550994ef3c7c71239ec765f48d50b20d3134c", func := "mist/mistlaw13.ReachFits", spec := "reachFits", unfollowed := true, recurses := true, apart := false }
def ReachFitsSaid : Prop := reachFitsRow.holds Tryz.pinned (OpenSpec.ofChange reachFitsSpec)

/-- ITS FALSE NEIGHBOUR: 'it returns false'. Refute it at one input. -/
def reachFitsWrong : ChangeSpec := { name := "reachFits", fn := fun _ => fun
  | [d1, d2] => { results := [.lit (.bool false)], args := [d1, d2] }
  | _ => none }
def ReachFitsWrongFalsely : Prop := reachFitsRow.holds Tryz.pinned (OpenSpec.ofChange reachFitsWrong)

/- THE SECOND FORM. 'bulk': how many values and letters a reading holds, each counted each time it is reached (what is shared counts as often as it is met; a slice's spare places count too). A statement '..UptoSaid' is the law's where the arguments, and the package variables that the reading takes, are together of bulk at most 1048576: NARROWER than '..Said'. Prove '..Said' where nothing that the law and all that it calls make is longer than what came in: it says more and counts as full. Else prove '..UptoSaid'. A law counts once. -/
mutual
def uptoBulk {H : Type} : DataW H → Nat
  | .lit (.string bytes) => bytes.length + 1
  | .lit _ => 1
  | .nil => 1
  | .ptr d => uptoBulk d + 1
  | .slice elems spare => uptoBulkAll elems + uptoBulkAll spare + 1
  | .agg parts => uptoBulkAll parts + 1
  | .iface _ d => uptoBulk d + 1
  | .map entries => uptoBulkEntries entries + 1
  | .held _ => 1
def uptoBulkAll {H : Type} : List (DataW H) → Nat
  | [] => 0
  | d :: r => uptoBulk d + uptoBulkAll r
def uptoBulkEntries {H : Type} : List (Lit × DataW H) → Nat
  | [] => 0
  | x :: r => uptoBulkEntry x + uptoBulkEntries r
def uptoBulkEntry {H : Type} : Lit × DataW H → Nat
  | (.string bytes, d) => bytes.length + uptoBulk d + 1
  | (_, d) => uptoBulk d + 1
 end
def uptoSmall : (H : Type) → List (DataW H) → Bool := fun _ ds => decide (uptoBulkAll ds ≤ 1048576)
def OpenSpec.upto (s : _root_.Go.ChangeSpec) : _root_.Go.OpenSpec := { _root_.Go.OpenSpec.ofChange s with cond := some uptoSmall }

/-- 'mistlaw13.ReachOf', WHERE WHAT IT READS IS OF BULK AT MOST 1048576: true; the input reads as it did. -/
def reachOfUptoRow : OpenClaim := { program := "ytfhiejgoemcelaagreat", sum := "7d7aeea63b25cf56269bad294c4550994ef3c7c71239ec765f48d50b20d3134c", func := "mist/mistlaw13.ReachOf", spec := "reachOf", unfollowed := true, recurses := true, apart := false, narrowed := true }
def ReachOfUptoSaid : Prop := reachOfUptoRow.holds Tryz.pinned (OpenSpec.upto reachOfSpec)

/-- 'mistlaw13.ReachProofs', WHERE WHAT IT READS IS OF BULK AT MOST 1048576: true; the input reads as it did. -/
def reachProofsUptoRow : OpenClaim := { program := "ytfhiejgoemcelaagreat", sum := "7d7aeea63b25cf56269bad294c4550994ef3c7c71239ec765f48d50b20d3134c", func := "mist/mistlaw13.ReachProofs", spec := "reachProofs", unfollowed := true, recurses := true, apart := false, narrowed := true }
def ReachProofsUptoSaid : Prop := reachProofsUptoRow.holds Tryz.pinned (OpenSpec.upto reachProofsSpec)

/-- 'mistlaw13.ReachTights', WHERE WHAT IT READS IS OF BULK AT MOST 1048576: true; the input reads as it did. -/
def reachTightsUptoRow : OpenClaim := { program := "ytfhiejgoemcelaagreat", sum := "7d7aeea63b25cf56269bad294c4550994ef3c7c71239ec765f48d50b20d3134c", func := "mist/mistlaw13.ReachTights", spec := "reachTights", unfollowed := true, recurses := true, apart := false, narrowed := true }
def ReachTightsUptoSaid : Prop := reachTightsUptoRow.holds Tryz.pinned (OpenSpec.upto reachTightsSpec)

/-- 'mistlaw13.ReachNevers', WHERE WHAT IT READS IS OF BULK AT MOST 1048576: true; the input reads as it did. -/
def reachNeversUptoRow : OpenClaim := { program := "ytfhiejgoemcelaagreat", sum := "7d7aeea63b25cf56269bad294c4550994ef3c7c71239ec765f48d50b20d3134c", func := "mist/mistlaw13.ReachNevers", spec := "reachNevers", unfollowed := true, recurses := true, apart := false, narrowed := true }
def ReachNeversUptoSaid : Prop := reachNeversUptoRow.holds Tryz.pinned (OpenSpec.upto reachNeversSpec)

/-- 'mistlaw13.ReachClips', WHERE WHAT IT READS IS OF BULK AT MOST 1048576: true; the input reads as it did. -/
def reachClipsUptoRow : OpenClaim := { program := "ytfhiejgoemcelaagreat", sum := "7d7aeea63b25cf56269bad294c4550994ef3c7c71239ec765f48d50b20d3134c", func := "mist/mistlaw13.ReachClips", spec := "reachClips", unfollowed := true, recurses := true, apart := false, narrowed := true }
def ReachClipsUptoSaid : Prop := reachClipsUptoRow.holds Tryz.pinned (OpenSpec.upto reachClipsSpec)

/-- 'mistlaw13.ReachWidths', WHERE WHAT IT READS IS OF BULK AT MOST 1048576: true; the input reads as it did. -/
def reachWidthsUptoRow : OpenClaim := { program := "ytfhiejgoemcelaagreat", sum := "7d7aeea63b25cf56269bad294c4550994ef3c7c71239ec765f48d50b20d3134c", func := "mist/mistlaw13.ReachWidths", spec := "reachWidths", unfollowed := true, recurses := true, apart := false, narrowed := true }
def ReachWidthsUptoSaid : Prop := reachWidthsUptoRow.holds Tryz.pinned (OpenSpec.upto reachWidthsSpec)

/-- 'mistlaw13.ReachNames', WHERE WHAT IT READS IS OF BULK AT MOST 1048576: true; the input reads as it did. -/
def reachNamesUptoRow : OpenClaim := { program := "ytfhiejgoemcelaagreat", sum := "7d7aeea63b25cf56269bad294c4550994ef3c7c71239ec765f48d50b20d3134c", func := "mist/mistlaw13.ReachNames", spec := "reachNames", unfollowed := true, recurses := true, apart := false, narrowed := true }
def ReachNamesUptoSaid : Prop := reachNamesUptoRow.holds Tryz.pinned (OpenSpec.upto reachNamesSpec)

/-- 'mistlaw13.ReachSound', WHERE WHAT IT READS IS OF BULK AT MOST 1048576: true; the input reads as it did. -/
def reachSoundUptoRow : OpenClaim := { program := "ytfhiejgoemcelaagreat", sum := "7d7aeea63b25cf56269bad294c4550994ef3c7c71239ec765f48d50b20d3134c", func := "mist/mistlaw13.ReachSound", spec := "reachSound", unfollowed := true, recurses := true, apart := false, narrowed := true }
def ReachSoundUptoSaid : Prop := reachSoundUptoRow.holds Tryz.pinned (OpenSpec.upto reachSoundSpec)

/-- 'mistlaw13.ReachExact', WHERE WHAT IT READS IS OF BULK AT MOST 1048576: true; the input reads as it did. -/
def reachExactUptoRow : OpenClaim := { program := "ytfhiejgoemcelaagreat", sum := "7d7aeea63b25cf56269bad294c4550994ef3c7c71239ec765f48d50b20d3134c", func := "mist/mistlaw13.ReachExact", spec := "reachExact", unfollowed := true, recurses := true, apart := false, narrowed := true }
def ReachExactUptoSaid : Prop := reachExactUptoRow.holds Tryz.pinned (OpenSpec.upto reachExactSpec)

/-- 'mistlaw13.ReachLeast', WHERE WHAT IT READS IS OF BULK AT MOST 1048576: true; the input reads as it did. -/
def reachLeastUptoRow : OpenClaim := { program := "ytfhiejgoemcelaagreat", sum := "7d7aeea63b25cf56269bad294c4550994ef3c7c71239ec765f48d50b20d3134c", func := "mist/mistlaw13.ReachLeast", spec := "reachLeast", unfollowed := true, recurses := true, apart := false, narrowed := true }
def ReachLeastUptoSaid : Prop := reachLeastUptoRow.holds Tryz.pinned (OpenSpec.upto reachLeastSpec)

/-- 'mistlaw13.ReachGrows', WHERE WHAT IT READS IS OF BULK AT MOST 1048576: true; the input reads as it did. -/
def reachGrowsUptoRow : OpenClaim := { program := "ytfhiejgoemcelaagreat", sum := "7d7aeea63b25cf56269bad294c4550994ef3c7c71239ec765f48d50b20d3134c", func := "mist/mistlaw13.ReachGrows", spec := "reachGrows", unfollowed := true, recurses := true, apart := false, narrowed := true }
def ReachGrowsUptoSaid : Prop := reachGrowsUptoRow.holds Tryz.pinned (OpenSpec.upto reachGrowsSpec)

/-- 'mistlaw13.ReachKnown', WHERE WHAT IT READS IS OF BULK AT MOST 1048576: true; the input reads as it did. -/
def reachKnownUptoRow : OpenClaim := { program := "ytfhiejgoemcelaagreat", sum := "7d7aeea63b25cf56269bad294c4550994ef3c7c71239ec765f48d50b20d3134c", func := "mist/mistlaw13.ReachKnown", spec := "reachKnown", unfollowed := true, recurses := true, apart := false, narrowed := true }
def ReachKnownUptoSaid : Prop := reachKnownUptoRow.holds Tryz.pinned (OpenSpec.upto reachKnownSpec)

/-- 'mistlaw13.ReachSafe', WHERE WHAT IT READS IS OF BULK AT MOST 1048576: true; the input reads as it did. -/
def reachSafeUptoRow : OpenClaim := { program := "ytfhiejgoemcelaagreat", sum := "7d7aeea63b25cf56269bad294c4550994ef3c7c71239ec765f48d50b20d3134c", func := "mist/mistlaw13.ReachSafe", spec := "reachSafe", unfollowed := true, recurses := true, apart := false, narrowed := true }
def ReachSafeUptoSaid : Prop := reachSafeUptoRow.holds Tryz.pinned (OpenSpec.upto reachSafeSpec)

/-- 'mistlaw13.ReachFits', WHERE WHAT IT READS IS OF BULK AT MOST 1048576: true; the input reads as it did. -/
def reachFitsUptoRow : OpenClaim := { program := "ytfhiejgoemcelaagreat", sum := "7d7aeea63b25cf56269bad294c4550994ef3c7c71239ec765f48d50b20d3134c", func := "mist/mistlaw13.ReachFits", spec := "reachFits", unfollowed := true, recurses := true, apart := false, narrowed := true }
def ReachFitsUptoSaid : Prop := reachFitsUptoRow.holds Tryz.pinned (OpenSpec.upto reachFitsSpec)

end Rows
end Go.Proofs.YtfhiejgoemcelaaGreat
