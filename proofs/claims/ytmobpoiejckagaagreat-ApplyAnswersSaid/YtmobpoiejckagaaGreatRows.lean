/-
  No cell of these rows narrows 'for every input' (looked for: loops, veiled, ifaces, maps, wideKeys, modest, calm, conditions, laid).
  DERIVED. THE GIVEN ROWS OF THIS SEAT. 15 by the template 'for every input the law returns true; each argument reads behind the call as it read before'; 0 by the template 'total and deterministic' (their statements: YtmobpoiejckagaaGreatTotals.lean).
  GIVEN WITH THE SEED: the statements are not yours to turn. If you find one false, say at which input.
  Laid BY PROGRAM, IN A SANDBOX (cutbox-rows.mjs): the forced cells as the released guide's own fill.sh prints them over the translation 10fab9107a3dd316… (all of the seat's roots in one cut). By AI agents, Wed Nov 11 2026. No macro, syntax, notation, axiom, sorry.
-/
import Derived.Test.YtmobpoiejckagaaGreatChecked
import GoSem.Claim
import GoSem.ClaimJoined
import GoSem.ClaimMapViews
import Derived.JoinedTies
import Derived.KernelRfl
namespace Go.Proofs.YtmobpoiejckagaaGreat
/- THE CELL 'sum', in the pinned program and in every row, IS THE sha256 OF THE DUMP (.gsa) THAT YtmobpoiejckagaaGreatProg.lean LOADS. Nothing in Lean hashes anything: it is a label: what it is worth is what the hold of that sum in a sandbox is worth. -/
noncomputable def Tryz.pinned : Pinned := { name := "ytmobpoiejckagaagreat", sum := "10fab9107a3dd316f2a1ca63a86d2d79fa61669fd033bfc79d61cdec65d690a4", checked := Tryz.checked }
namespace Rows
def none {H : Type} : Left H := { results := [], args := [] }

/-- 'mistlaw15.ApplyRestricts': WHATEVER THE INPUT: true; the input reads as it did. -/
def applyRestrictsSpec : ChangeSpec := { name := "applyRestricts", fn := fun _ => fun
  | [d1, d2, d3] => { results := [.lit (.bool true)], args := [d1, d2, d3] }
  | _ => none }
def applyRestrictsRow : OpenClaim := { program := "ytmobpoiejckagaagreat", sum := "10fab9107a3dd316f2a1ca63a86d2d79fa61669fd033bfc79d61cdec65d690a4", func := "mist/mistlaw15.ApplyRestricts", spec := "applyRestricts", unfollowed := true, recurses := true, plainKeys := false, apart := false }
def ApplyRestrictsSaid : Prop := applyRestrictsRow.holds Tryz.pinned (OpenSpec.ofChange applyRestrictsSpec)

/-- ITS FALSE NEIGHBOUR: 'it returns false'. Refute it at one input. -/
def applyRestrictsWrong : ChangeSpec := { name := "applyRestricts", fn := fun _ => fun
  | [d1, d2, d3] => { results := [.lit (.bool false)], args := [d1, d2, d3] }
  | _ => none }
def ApplyRestrictsWrongFalsely : Prop := applyRestrictsRow.holds Tryz.pinned (OpenSpec.ofChange applyRestrictsWrong)

/-- 'mistlaw15.ApplyCounts': WHATEVER THE INPUT: true; the input reads as it did. -/
def applyCountsSpec : ChangeSpec := { name := "applyCounts", fn := fun _ => fun
  | [d1, d2] => { results := [.lit (.bool true)], args := [d1, d2] }
  | _ => none }
def applyCountsRow : OpenClaim := { program := "ytmobpoiejckagaagreat", sum := "10fab9107a3dd316f2a1ca63a86d2d79fa61669fd033bfc79d61cdec65d690a4", func := "mist/mistlaw15.ApplyCounts", spec := "applyCounts", unfollowed := true, recurses := true, plainKeys := false, apart := false }
def ApplyCountsSaid : Prop := applyCountsRow.holds Tryz.pinned (OpenSpec.ofChange applyCountsSpec)

/-- ITS FALSE NEIGHBOUR: 'it returns false'. Refute it at one input. -/
def applyCountsWrong : ChangeSpec := { name := "applyCounts", fn := fun _ => fun
  | [d1, d2] => { results := [.lit (.bool false)], args := [d1, d2] }
  | _ => none }
def ApplyCountsWrongFalsely : Prop := applyCountsRow.holds Tryz.pinned (OpenSpec.ofChange applyCountsWrong)

/-- 'mistlaw15.ApplyAsks': WHATEVER THE INPUT: true; the input reads as it did. -/
def applyAsksSpec : ChangeSpec := { name := "applyAsks", fn := fun _ => fun
  | [d1, d2, d3] => { results := [.lit (.bool true)], args := [d1, d2, d3] }
  | _ => none }
def applyAsksRow : OpenClaim := { program := "ytmobpoiejckagaagreat", sum := "10fab9107a3dd316f2a1ca63a86d2d79fa61669fd033bfc79d61cdec65d690a4", func := "mist/mistlaw15.ApplyAsks", spec := "applyAsks", unfollowed := true, recurses := true, plainKeys := false, apart := false }
def ApplyAsksSaid : Prop := applyAsksRow.holds Tryz.pinned (OpenSpec.ofChange applyAsksSpec)

/-- ITS FALSE NEIGHBOUR: 'it returns false'. Refute it at one input. -/
def applyAsksWrong : ChangeSpec := { name := "applyAsks", fn := fun _ => fun
  | [d1, d2, d3] => { results := [.lit (.bool false)], args := [d1, d2, d3] }
  | _ => none }
def ApplyAsksWrongFalsely : Prop := applyAsksRow.holds Tryz.pinned (OpenSpec.ofChange applyAsksWrong)

/-- 'mistlaw15.ApplyLooks': WHATEVER THE INPUT: true; the input reads as it did. -/
def applyLooksSpec : ChangeSpec := { name := "applyLooks", fn := fun _ => fun
  | [d] => { results := [.lit (.bool true)], args := [d] }
  | _ => none }
def applyLooksRow : OpenClaim := { program := "ytmobpoiejckagaagreat", sum := "10fab9107a3dd316f2a1ca63a86d2d79fa61669fd033bfc79d61cdec65d690a4", func := "mist/mistlaw15.ApplyLooks", spec := "applyLooks", unfollowed := true, recurses := true, plainKeys := false, apart := false }
def ApplyLooksSaid : Prop := applyLooksRow.holds Tryz.pinned (OpenSpec.ofChange applyLooksSpec)

/-- ITS FALSE NEIGHBOUR: 'it returns false'. Refute it at one input. -/
def applyLooksWrong : ChangeSpec := { name := "applyLooks", fn := fun _ => fun
  | [d] => { results := [.lit (.bool false)], args := [d] }
  | _ => none }
def ApplyLooksWrongFalsely : Prop := applyLooksRow.holds Tryz.pinned (OpenSpec.ofChange applyLooksWrong)

/-- 'mistlaw15.ApplyEach': WHATEVER THE INPUT: true; the input reads as it did. -/
def applyEachSpec : ChangeSpec := { name := "applyEach", fn := fun _ => fun
  | [d1, d2, d3] => { results := [.lit (.bool true)], args := [d1, d2, d3] }
  | _ => none }
def applyEachRow : OpenClaim := { program := "ytmobpoiejckagaagreat", sum := "10fab9107a3dd316f2a1ca63a86d2d79fa61669fd033bfc79d61cdec65d690a4", func := "mist/mistlaw15.ApplyEach", spec := "applyEach", unfollowed := true, recurses := true, plainKeys := false, apart := false }
def ApplyEachSaid : Prop := applyEachRow.holds Tryz.pinned (OpenSpec.ofChange applyEachSpec)

/-- ITS FALSE NEIGHBOUR: 'it returns false'. Refute it at one input. -/
def applyEachWrong : ChangeSpec := { name := "applyEach", fn := fun _ => fun
  | [d1, d2, d3] => { results := [.lit (.bool false)], args := [d1, d2, d3] }
  | _ => none }
def ApplyEachWrongFalsely : Prop := applyEachRow.holds Tryz.pinned (OpenSpec.ofChange applyEachWrong)

/-- 'mistlaw15.ApplyParts': WHATEVER THE INPUT: true; the input reads as it did. -/
def applyPartsSpec : ChangeSpec := { name := "applyParts", fn := fun _ => fun
  | [d1, d2, d3] => { results := [.lit (.bool true)], args := [d1, d2, d3] }
  | _ => none }
def applyPartsRow : OpenClaim := { program := "ytmobpoiejckagaagreat", sum := "10fab9107a3dd316f2a1ca63a86d2d79fa61669fd033bfc79d61cdec65d690a4", func := "mist/mistlaw15.ApplyParts", spec := "applyParts", unfollowed := true, recurses := true, plainKeys := false, apart := false }
def ApplyPartsSaid : Prop := applyPartsRow.holds Tryz.pinned (OpenSpec.ofChange applyPartsSpec)

/-- ITS FALSE NEIGHBOUR: 'it returns false'. Refute it at one input. -/
def applyPartsWrong : ChangeSpec := { name := "applyParts", fn := fun _ => fun
  | [d1, d2, d3] => { results := [.lit (.bool false)], args := [d1, d2, d3] }
  | _ => none }
def ApplyPartsWrongFalsely : Prop := applyPartsRow.holds Tryz.pinned (OpenSpec.ofChange applyPartsWrong)

/-- 'mistlaw15.ApplySums': WHATEVER THE INPUT: true; the input reads as it did. -/
def applySumsSpec : ChangeSpec := { name := "applySums", fn := fun _ => fun
  | [d1, d2] => { results := [.lit (.bool true)], args := [d1, d2] }
  | _ => none }
def applySumsRow : OpenClaim := { program := "ytmobpoiejckagaagreat", sum := "10fab9107a3dd316f2a1ca63a86d2d79fa61669fd033bfc79d61cdec65d690a4", func := "mist/mistlaw15.ApplySums", spec := "applySums", unfollowed := true, recurses := true, plainKeys := false, apart := false }
def ApplySumsSaid : Prop := applySumsRow.holds Tryz.pinned (OpenSpec.ofChange applySumsSpec)

/-- ITS FALSE NEIGHBOUR: 'it returns false'. Refute it at one input. -/
def applySumsWrong : ChangeSpec := { name := "applySums", fn := fun _ => fun
  | [d1, d2] => { results := [.lit (.bool false)], args := [d1, d2] }
  | _ => none }
def ApplySumsWrongFalsely : Prop := applySumsRow.holds Tryz.pinned (OpenSpec.ofChange applySumsWrong)

/-- 'mistlaw15.ApplyFirst': WHATEVER THE INPUT: true; the input reads as it did. -/
def applyFirstSpec : ChangeSpec := { name := "applyFirst", fn := fun _ => fun
  | [d1, d2] => { results := [.lit (.bool true)], args := [d1, d2] }
  | _ => none }
def applyFirstRow : OpenClaim := { program := "ytmobpoiejckagaagreat", sum := "10fab9107a3dd316f2a1ca63a86d2d79fa61669fd033bfc79d61cdec65d690a4", func := "mist/mistlaw15.ApplyFirst", spec := "applyFirst", unfollowed := true, recurses := true, plainKeys := false, apart := false }
def ApplyFirstSaid : Prop := applyFirstRow.holds Tryz.pinned (OpenSpec.ofChange applyFirstSpec)

/-- ITS FALSE NEIGHBOUR: 'it returns false'. Refute it at one input. -/
def applyFirstWrong : ChangeSpec := { name := "applyFirst", fn := fun _ => fun
  | [d1, d2] => { results := [.lit (.bool false)], args := [d1, d2] }
  | _ => none }
def ApplyFirstWrongFalsely : Prop := applyFirstRow.holds Tryz.pinned (OpenSpec.ofChange applyFirstWrong)

/-- 'mistlaw15.ApplyLeaf': WHATEVER THE INPUT: true; the input reads as it did. -/
def applyLeafSpec : ChangeSpec := { name := "applyLeaf", fn := fun _ => fun
  | [d1, d2, d3] => { results := [.lit (.bool true)], args := [d1, d2, d3] }
  | _ => none }
def applyLeafRow : OpenClaim := { program := "ytmobpoiejckagaagreat", sum := "10fab9107a3dd316f2a1ca63a86d2d79fa61669fd033bfc79d61cdec65d690a4", func := "mist/mistlaw15.ApplyLeaf", spec := "applyLeaf", unfollowed := true, recurses := true, plainKeys := false, apart := false }
def ApplyLeafSaid : Prop := applyLeafRow.holds Tryz.pinned (OpenSpec.ofChange applyLeafSpec)

/-- ITS FALSE NEIGHBOUR: 'it returns false'. Refute it at one input. -/
def applyLeafWrong : ChangeSpec := { name := "applyLeaf", fn := fun _ => fun
  | [d1, d2, d3] => { results := [.lit (.bool false)], args := [d1, d2, d3] }
  | _ => none }
def ApplyLeafWrongFalsely : Prop := applyLeafRow.holds Tryz.pinned (OpenSpec.ofChange applyLeafWrong)

/-- 'mistlaw15.ApplyLeft': WHATEVER THE INPUT: true; the input reads as it did. -/
def applyLeftSpec : ChangeSpec := { name := "applyLeft", fn := fun _ => fun
  | [d1, d2, d3] => { results := [.lit (.bool true)], args := [d1, d2, d3] }
  | _ => none }
def applyLeftRow : OpenClaim := { program := "ytmobpoiejckagaagreat", sum := "10fab9107a3dd316f2a1ca63a86d2d79fa61669fd033bfc79d61cdec65d690a4", func := "mist/mistlaw15.ApplyLeft", spec := "applyLeft", unfollowed := true, recurses := true, plainKeys := false, apart := false }
def ApplyLeftSaid : Prop := applyLeftRow.holds Tryz.pinned (OpenSpec.ofChange applyLeftSpec)

/-- ITS FALSE NEIGHBOUR: 'it returns false'. Refute it at one input. -/
def applyLeftWrong : ChangeSpec := { name := "applyLeft", fn := fun _ => fun
  | [d1, d2, d3] => { results := [.lit (.bool false)], args := [d1, d2, d3] }
  | _ => none }
def ApplyLeftWrongFalsely : Prop := applyLeftRow.holds Tryz.pinned (OpenSpec.ofChange applyLeftWrong)

/-- 'mistlaw15.ApplyOps': WHATEVER THE INPUT: true; the input reads as it did. -/
def applyOpsSpec : ChangeSpec := { name := "applyOps", fn := fun _ => fun
  | [d1, d2] => { results := [.lit (.bool true)], args := [d1, d2] }
  | _ => none }
def applyOpsRow : OpenClaim := { program := "ytmobpoiejckagaagreat", sum := "10fab9107a3dd316f2a1ca63a86d2d79fa61669fd033bfc79d61cdec65d690a4", func := "mist/mistlaw15.ApplyOps", spec := "applyOps", unfollowed := true, recurses := true, plainKeys := false, apart := false }
def ApplyOpsSaid : Prop := applyOpsRow.holds Tryz.pinned (OpenSpec.ofChange applyOpsSpec)

/-- ITS FALSE NEIGHBOUR: 'it returns false'. Refute it at one input. -/
def applyOpsWrong : ChangeSpec := { name := "applyOps", fn := fun _ => fun
  | [d1, d2] => { results := [.lit (.bool false)], args := [d1, d2] }
  | _ => none }
def ApplyOpsWrongFalsely : Prop := applyOpsRow.holds Tryz.pinned (OpenSpec.ofChange applyOpsWrong)

/-- 'mistlaw15.ApplyMeets': WHATEVER THE INPUT: true; the input reads as it did. -/
def applyMeetsSpec : ChangeSpec := { name := "applyMeets", fn := fun _ => fun
  | [d] => { results := [.lit (.bool true)], args := [d] }
  | _ => none }
def applyMeetsRow : OpenClaim := { program := "ytmobpoiejckagaagreat", sum := "10fab9107a3dd316f2a1ca63a86d2d79fa61669fd033bfc79d61cdec65d690a4", func := "mist/mistlaw15.ApplyMeets", spec := "applyMeets", inPlace := ["slices.overlaps[mist/api.Diagram]"], unfollowed := true, recurses := true, plainKeys := false, apart := false }
def ApplyMeetsSaid : Prop := applyMeetsRow.holds Tryz.pinned (OpenSpec.ofChange applyMeetsSpec)

/-- ITS FALSE NEIGHBOUR: 'it returns false'. Refute it at one input. -/
def applyMeetsWrong : ChangeSpec := { name := "applyMeets", fn := fun _ => fun
  | [d] => { results := [.lit (.bool false)], args := [d] }
  | _ => none }
def ApplyMeetsWrongFalsely : Prop := applyMeetsRow.holds Tryz.pinned (OpenSpec.ofChange applyMeetsWrong)

/-- 'mistlaw15.ApplyAnswers': WHATEVER THE INPUT: true; the input reads as it did. -/
def applyAnswersSpec : ChangeSpec := { name := "applyAnswers", fn := fun _ => fun
  | [d1, d2, d3] => { results := [.lit (.bool true)], args := [d1, d2, d3] }
  | _ => none }
def applyAnswersRow : OpenClaim := { program := "ytmobpoiejckagaagreat", sum := "10fab9107a3dd316f2a1ca63a86d2d79fa61669fd033bfc79d61cdec65d690a4", func := "mist/mistlaw15.ApplyAnswers", spec := "applyAnswers", inPlace := ["slices.overlaps[mist/api.Diagram]"], unfollowed := true, recurses := true, plainKeys := false, apart := false }
def ApplyAnswersSaid : Prop := applyAnswersRow.holds Tryz.pinned (OpenSpec.ofChange applyAnswersSpec)

/-- ITS FALSE NEIGHBOUR: 'it returns false'. Refute it at one input. -/
def applyAnswersWrong : ChangeSpec := { name := "applyAnswers", fn := fun _ => fun
  | [d1, d2, d3] => { results := [.lit (.bool false)], args := [d1, d2, d3] }
  | _ => none }
def ApplyAnswersWrongFalsely : Prop := applyAnswersRow.holds Tryz.pinned (OpenSpec.ofChange applyAnswersWrong)

/-- 'mistlaw15.ApplyLaws': WHATEVER THE INPUT: true; the input reads as it did. -/
def applyLawsSpec : ChangeSpec := { name := "applyLaws", fn := fun _ => fun
  | [d1, d2] => { results := [.lit (.bool true)], args := [d1, d2] }
  | _ => none }
def applyLawsRow : OpenClaim := { program := "ytmobpoiejckagaagreat", sum := "10fab9107a3dd316f2a1ca63a86d2d79fa61669fd033bfc79d61cdec65d690a4", func := "mist/mistlaw15.ApplyLaws", spec := "applyLaws", inPlace := ["slices.overlaps[mist/api.Diagram]"], unfollowed := true, recurses := true, plainKeys := false, apart := false }
def ApplyLawsSaid : Prop := applyLawsRow.holds Tryz.pinned (OpenSpec.ofChange applyLawsSpec)

/-- ITS FALSE NEIGHBOUR: 'it returns false'. Refute it at one input. -/
def applyLawsWrong : ChangeSpec := { name := "applyLaws", fn := fun _ => fun
  | [d1, d2] => { results := [.lit (.bool false)], args := [d1, d2] }
  | _ => none }
def ApplyLawsWrongFalsely : Prop := applyLawsRow.holds Tryz.pinned (OpenSpec.ofChange applyLawsWrong)

/-- 'mistlaw15.ApplyNames': WHATEVER THE INPUT: true; the input reads as it did. -/
def applyNamesSpec : ChangeSpec := { name := "applyNames", fn := fun _ => fun
  | [] => { results := [.lit (.bool true)], args := [] }
  | _ => none }
def applyNamesRow : OpenClaim := { program := "ytmobpoiejckagaagreat", sum := "10fab9107a3dd316f2a1ca63a86d2d79fa61669fd033bfc79d61cdec65d690a4", func := "mist/mistlaw15.ApplyNames", spec := "applyNames", inPlace := ["slices.overlaps[mist/api.Diagram]"], unfollowed := true, recurses := true, plainKeys := false, apart := false }
def ApplyNamesSaid : Prop := applyNamesRow.holds Tryz.pinned (OpenSpec.ofChange applyNamesSpec)

/-- ITS FALSE NEIGHBOUR: 'it returns false'. Refute it at one input. -/
def applyNamesWrong : ChangeSpec := { name := "applyNames", fn := fun _ => fun
  | [] => { results := [.lit (.bool false)], args := [] }
  | _ => none }
def ApplyNamesWrongFalsely : Prop := applyNamesRow.holds Tryz.pinned (OpenSpec.ofChange applyNamesWrong)

/- THE SECOND FORM. 'bulk': how many values and letters a reading holds, each counted each time it is reached (what is shared counts as often as it is met; a slice's spare places count too). A statement '..UptoSaid' is the law's where the arguments, and the package variables that the reading takes, are together of bulk at most 1048576: NARROWER than '..Said'. Prove '..Said' where nothing that the law and all that it calls make is longer than what came in: it says more and counts as full. Else prove '..UptoSaid'. A law counts once. -/
mutual
def uptoBulk {H : Type} : DataW H → Nat
  | .lit (.string bytes) => bytes.length + 1
  | .lit _ => 1
  | .nil => 1
  | .ptr d => uptoBulk d + 1
  | .slice elems spare => uptoBulkAll elems + uptoBulkAll spare + 1
  | .agg parts => uptoBulkAll parts + 1
  | .iface _ d => uptoBulk d + 1
  | .map entries => uptoBulkEntries entries + 1
  | .held _ => 1
def uptoBulkAll {H : Type} : List (DataW H) → Nat
  | [] => 0
  | d :: r => uptoBulk d + uptoBulkAll r
def uptoBulkEntries {H : Type} : List (Lit × DataW H) → Nat
  | [] => 0
  | x :: r => uptoBulkEntry x + uptoBulkEntries r
def uptoBulkEntry {H : Type} : Lit × DataW H → Nat
  | (.string bytes, d) => bytes.length + uptoBulk d + 1
  | (_, d) => uptoBulk d + 1
 end
def uptoSmall : (H : Type) → List (DataW H) → Bool := fun _ ds => decide (uptoBulkAll ds ≤ 1048576)
def OpenSpec.upto (s : _root_.Go.ChangeSpec) : _root_.Go.OpenSpec := { _root_.Go.OpenSpec.ofChange s with cond := some uptoSmall }

/-- 'mistlaw15.ApplyRestricts', WHERE WHAT IT READS IS OF BULK AT MOST 1048576: true; the input reads as it did. -/
def applyRestrictsUptoRow : OpenClaim := { program := "ytmobpoiejckagaagreat", sum := "10fab9107a3dd316f2a1ca63a86d2d79fa61669fd033bfc79d61cdec65d690a4", func := "mist/mistlaw15.ApplyRestricts", spec := "applyRestricts", unfollowed := true, recurses := true, plainKeys := false, apart := false, narrowed := true }
def ApplyRestrictsUptoSaid : Prop := applyRestrictsUptoRow.holds Tryz.pinned (OpenSpec.upto applyRestrictsSpec)

/-- 'mistlaw15.ApplyCounts', WHERE WHAT IT READS IS OF BULK AT MOST 1048576: true; the input reads as it did. -/
def applyCountsUptoRow : OpenClaim := { program := "ytmobpoiejckagaagreat", sum := "10fab9107a3dd316f2a1ca63a86d2d79fa61669fd033bfc79d61cdec65d690a4", func := "mist/mistlaw15.ApplyCounts", spec := "applyCounts", unfollowed := true, recurses := true, plainKeys := false, apart := false, narrowed := true }
def ApplyCountsUptoSaid : Prop := applyCountsUptoRow.holds Tryz.pinned (OpenSpec.upto applyCountsSpec)

/-- 'mistlaw15.ApplyAsks', WHERE WHAT IT READS IS OF BULK AT MOST 1048576: true; the input reads as it did. -/
def applyAsksUptoRow : OpenClaim := { program := "ytmobpoiejckagaagreat", sum := "10fab9107a3dd316f2a1ca63a86d2d79fa61669fd033bfc79d61cdec65d690a4", func := "mist/mistlaw15.ApplyAsks", spec := "applyAsks", unfollowed := true, recurses := true, plainKeys := false, apart := false, narrowed := true }
def ApplyAsksUptoSaid : Prop := applyAsksUptoRow.holds Tryz.pinned (OpenSpec.upto applyAsksSpec)

/-- 'mistlaw15.ApplyLooks', WHERE WHAT IT READS IS OF BULK AT MOST 1048576: true; the input reads as it did. -/
def applyLooksUptoRow : OpenClaim := { program := "ytmobpoiejckagaagreat", sum := "10fab9107a3dd316f2a1ca63a86d2d79fa61669fd033bfc79d61cdec65d690a4", func := "mist/mistlaw15.ApplyLooks", spec := "applyLooks", unfollowed := true, recurses := true, plainKeys := false, apart := false, narrowed := true }
def ApplyLooksUptoSaid : Prop := applyLooksUptoRow.holds Tryz.pinned (OpenSpec.upto applyLooksSpec)

/-- 'mistlaw15.ApplyEach', WHERE WHAT IT READS IS OF BULK AT MOST 1048576: true; the input reads as it did. -/
def applyEachUptoRow : OpenClaim := { program := "ytmobpoiejckagaagreat", sum := "10fab9107a3dd316f2a1ca63a86d2d79fa61669fd033bfc79d61cdec65d690a4", func := "mist/mistlaw15.ApplyEach", spec := "applyEach", unfollowed := true, recurses := true, plainKeys := false, apart := false, narrowed := true }
def ApplyEachUptoSaid : Prop := applyEachUptoRow.holds Tryz.pinned (OpenSpec.upto applyEachSpec)

/-- 'mistlaw15.ApplyParts', WHERE WHAT IT READS IS OF BULK AT MOST 1048576: true; the input reads as it did. -/
def applyPartsUptoRow : OpenClaim := { program := "ytmobpoiejckagaagreat", sum := "10fab9107a3dd316f2a1ca63a86d2d79fa61669fd033bfc79d61cdec65d690a4", func := "mist/mistlaw15.ApplyParts", spec := "applyParts", unfollowed := true, recurses := true, plainKeys := false, apart := false, narrowed := true }
def ApplyPartsUptoSaid : Prop := applyPartsUptoRow.holds Tryz.pinned (OpenSpec.upto applyPartsSpec)

/-- 'mistlaw15.ApplySums', WHERE WHAT IT READS IS OF BULK AT MOST 1048576: true; the input reads as it did. -/
def applySumsUptoRow : OpenClaim := { program := "ytmobpoiejckagaagreat", sum := "10fab9107a3dd316f2a1ca63a86d2d79fa61669fd033bfc79d61cdec65d690a4", func := "mist/mistlaw15.ApplySums", spec := "applySums", unfollowed := true, recurses := true, plainKeys := false, apart := false, narrowed := true }
def ApplySumsUptoSaid : Prop := applySumsUptoRow.holds Tryz.pinned (OpenSpec.upto applySumsSpec)

/-- 'mistlaw15.ApplyFirst', WHERE WHAT IT READS IS OF BULK AT MOST 1048576: true; the input reads as it did. -/
def applyFirstUptoRow : OpenClaim := { program := "ytmobpoiejckagaagreat", sum := "10fab9107a3dd316f2a1ca63a86d2d79fa61669fd033bfc79d61cdec65d690a4", func := "mist/mistlaw15.ApplyFirst", spec := "applyFirst", unfollowed := true, recurses := true, plainKeys := false, apart := false, narrowed := true }
def ApplyFirstUptoSaid : Prop := applyFirstUptoRow.holds Tryz.pinned (OpenSpec.upto applyFirstSpec)

/-- 'mistlaw15.ApplyLeaf', WHERE WHAT IT READS IS OF BULK AT MOST 1048576: true; the input reads as it did. -/
def applyLeafUptoRow : OpenClaim := { program := "ytmobpoiejckagaagreat", sum := "10fab9107a3dd316f2a1ca63a86d2d79fa61669fd033bfc79d61cdec65d690a4", func := "mist/mistlaw15.ApplyLeaf", spec := "applyLeaf", unfollowed := true, recurses := true, plainKeys := false, apart := false, narrowed := true }
def ApplyLeafUptoSaid : Prop := applyLeafUptoRow.holds Tryz.pinned (OpenSpec.upto applyLeafSpec)

/-- 'mistlaw15.ApplyLeft', WHERE WHAT IT READS IS OF BULK AT MOST 1048576: true; the input reads as it did. -/
def applyLeftUptoRow : OpenClaim := { program := "ytmobpoiejckagaagreat", sum := "10fab9107a3dd316f2a1ca63a86d2d79fa61669fd033bfc79d61cdec65d690a4", func := "mist/mistlaw15.ApplyLeft", spec := "applyLeft", unfollowed := true, recurses := true, plainKeys := false, apart := false, narrowed := true }
def ApplyLeftUptoSaid : Prop := applyLeftUptoRow.holds Tryz.pinned (OpenSpec.upto applyLeftSpec)

/-- 'mistlaw15.ApplyOps', WHERE WHAT IT READS IS OF BULK AT MOST 1048576: true; the input reads as it did. -/
def applyOpsUptoRow : OpenClaim := { program := "ytmobpoiejckagaagreat", sum := "10fab9107a3dd316f2a1ca63a86d2d79fa61669fd033bfc79d61cdec65d690a4", func := "mist/mistlaw15.ApplyOps", spec := "applyOps", unfollowed := true, recurses := true, plainKeys := false, apart := false, narrowed := true }
def ApplyOpsUptoSaid : Prop := applyOpsUptoRow.holds Tryz.pinned (OpenSpec.upto applyOpsSpec)

/-- 'mistlaw15.ApplyMeets', WHERE WHAT IT READS IS OF BULK AT MOST 1048576: true; the input reads as it did. -/
def applyMeetsUptoRow : OpenClaim := { program := "ytmobpoiejckagaagreat", sum := "10fab9107a3dd316f2a1ca63a86d2d79fa61669fd033bfc79d61cdec65d690a4", func := "mist/mistlaw15.ApplyMeets", spec := "applyMeets", inPlace := ["slices.overlaps[mist/api.Diagram]"], unfollowed := true, recurses := true, plainKeys := false, apart := false, narrowed := true }
def ApplyMeetsUptoSaid : Prop := applyMeetsUptoRow.holds Tryz.pinned (OpenSpec.upto applyMeetsSpec)

/-- 'mistlaw15.ApplyAnswers', WHERE WHAT IT READS IS OF BULK AT MOST 1048576: true; the input reads as it did. -/
def applyAnswersUptoRow : OpenClaim := { program := "ytmobpoiejckagaagreat", sum := "10fab9107a3dd316f2a1ca63a86d2d79fa61669fd033bfc79d61cdec65d690a4", func := "mist/mistlaw15.ApplyAnswers", spec := "applyAnswers", inPlace := ["slices.overlaps[mist/api.Diagram]"], unfollowed := true, recurses := true, plainKeys := false, apart := false, narrowed := true }
def ApplyAnswersUptoSaid : Prop := applyAnswersUptoRow.holds Tryz.pinned (OpenSpec.upto applyAnswersSpec)

/-- 'mistlaw15.ApplyLaws', WHERE WHAT IT READS IS OF BULK AT MOST 1048576: true; the input reads as it did. -/
def applyLawsUptoRow : OpenClaim := { program := "ytmobpoiejckagaagreat", sum := "10fab9107a3dd316f2a1ca63a86d2d79fa61669fd033bfc79d61cdec65d690a4", func := "mist/mistlaw15.ApplyLaws", spec := "applyLaws", inPlace := ["slices.overlaps[mist/api.Diagram]"], unfollowed := true, recurses := true, plainKeys := false, apart := false, narrowed := true }
def ApplyLawsUptoSaid : Prop := applyLawsUptoRow.holds Tryz.pinned (OpenSpec.upto applyLawsSpec)

/-- 'mistlaw15.ApplyNames', WHERE WHAT IT READS IS OF BULK AT MOST 1048576: true; the input reads as it did. -/
def applyNamesUptoRow : OpenClaim := { program := "ytmobpoiejckagaagreat", sum := "10fab9107a3dd316f2a1ca63a86d2d79fa61669fd033bfc79d61cdec65d690a4", func := "mist/mistlaw15.ApplyNames", spec := "applyNames", inPlace := ["slices.overlaps[mist/api.Diagram]"], unfollowed := true, recurses := true, plainKeys := false, apart := false, narrowed := true }
def ApplyNamesUptoSaid : Prop := applyNamesUptoRow.holds Tryz.pinned (OpenSpec.upto applyNamesSpec)

end Rows
end Go.Proofs.YtmobpoiejckagaaGreat
