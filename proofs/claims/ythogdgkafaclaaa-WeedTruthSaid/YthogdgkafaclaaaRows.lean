/-
  No cell of these rows narrows 'for every input' (looked for: loops, veiled, ifaces, maps, wideKeys, modest, calm, conditions, laid).
  DERIVED. THE GIVEN ROWS OF THIS SEAT. 17 by the template 'for every input the law returns true; each argument reads behind the call as it read before'; 0 by the template 'total and deterministic' (their statements: YthogdgkafaclaaaTotals.lean).
  GIVEN WITH THE SEED: the statements are not yours to turn. If you find one false, say at which input.
  Laid BY PROGRAM, IN A SANDBOX (cutbox-rows.mjs): the forced cells as the released guide's own fill.sh prints them over the translation 9c3c85a2a467deb1… (all of the seat's roots in one cut). By AI agents, Wed Nov 11 2026. No macro, syntax, notation, axiom, sorry.
-/
import Derived.Test.YthogdgkafaclaaaChecked
import GoSem.Claim
import GoSem.ClaimJoined
import GoSem.ClaimMapViews
import Derived.JoinedTies
import Derived.KernelRfl
namespace Go.Proofs.Ythogdgkafaclaaa
/- THE CELL 'sum', in the pinned program and in every row, IS THE sha256 OF THE DUMP (.gsa) THAT YthogdgkafaclaaaProg.lean LOADS. Nothing in Lean hashes anything: it is a label: what it is worth is what the hold of that sum in a sandbox is worth. -/
noncomputable def Try.pinned : Pinned := { name := "ythogdgkafaclaaa", sum := "9c3c85a2a467deb1ecdc8bfaa0bb05b9737a881777f4ceee0690afe8baedfac3", checked := Try.checked }
namespace Rows
def none {H : Type} : Left H := { results := [], args := [] }

/-- 'isatislaw01.WeedDone': WHATEVER THE INPUT: true; the input reads as it did. -/
def weedDoneSpec : ChangeSpec := { name := "weedDone", fn := fun _ => fun
  | [d] => { results := [.lit (.bool true)], args := [d] }
  | _ => none }
def weedDoneRow : OpenClaim := { program := "ythogdgkafaclaaa", sum := "9c3c85a2a467deb1ecdc8bfaa0bb05b9737a881777f4ceee0690afe8baedfac3", func := "isatis/isatislaw01.WeedDone", spec := "weedDone", unfollowed := true, recurses := true, plainKeys := false, apart := false }
def WeedDoneSaid : Prop := weedDoneRow.holds Try.pinned (OpenSpec.ofChange weedDoneSpec)

/-- ITS FALSE NEIGHBOUR: 'it returns false'. Refute it at one input. -/
def weedDoneWrong : ChangeSpec := { name := "weedDone", fn := fun _ => fun
  | [d] => { results := [.lit (.bool false)], args := [d] }
  | _ => none }
def WeedDoneWrongFalsely : Prop := weedDoneRow.holds Try.pinned (OpenSpec.ofChange weedDoneWrong)

/-- 'isatislaw01.WeedWho': WHATEVER THE INPUT: true; the input reads as it did. -/
def weedWhoSpec : ChangeSpec := { name := "weedWho", fn := fun _ => fun
  | [d1, d2] => { results := [.lit (.bool true)], args := [d1, d2] }
  | _ => none }
def weedWhoRow : OpenClaim := { program := "ythogdgkafaclaaa", sum := "9c3c85a2a467deb1ecdc8bfaa0bb05b9737a881777f4ceee0690afe8baedfac3", func := "isatis/isatislaw01.WeedWho", spec := "weedWho", unfollowed := true, recurses := true, plainKeys := false, apart := false }
def WeedWhoSaid : Prop := weedWhoRow.holds Try.pinned (OpenSpec.ofChange weedWhoSpec)

/-- ITS FALSE NEIGHBOUR: 'it returns false'. Refute it at one input. -/
def weedWhoWrong : ChangeSpec := { name := "weedWho", fn := fun _ => fun
  | [d1, d2] => { results := [.lit (.bool false)], args := [d1, d2] }
  | _ => none }
def WeedWhoWrongFalsely : Prop := weedWhoRow.holds Try.pinned (OpenSpec.ofChange weedWhoWrong)

/-- 'isatislaw01.WeedNexts': WHATEVER THE INPUT: true; the input reads as it did. -/
def weedNextsSpec : ChangeSpec := { name := "weedNexts", fn := fun _ => fun
  | [d1, d2] => { results := [.lit (.bool true)], args := [d1, d2] }
  | _ => none }
def weedNextsRow : OpenClaim := { program := "ythogdgkafaclaaa", sum := "9c3c85a2a467deb1ecdc8bfaa0bb05b9737a881777f4ceee0690afe8baedfac3", func := "isatis/isatislaw01.WeedNexts", spec := "weedNexts", unfollowed := true, recurses := true, plainKeys := false, apart := false }
def WeedNextsSaid : Prop := weedNextsRow.holds Try.pinned (OpenSpec.ofChange weedNextsSpec)

/-- ITS FALSE NEIGHBOUR: 'it returns false'. Refute it at one input. -/
def weedNextsWrong : ChangeSpec := { name := "weedNexts", fn := fun _ => fun
  | [d1, d2] => { results := [.lit (.bool false)], args := [d1, d2] }
  | _ => none }
def WeedNextsWrongFalsely : Prop := weedNextsRow.holds Try.pinned (OpenSpec.ofChange weedNextsWrong)

/-- 'isatislaw01.WeedLeaves': WHATEVER THE INPUT: true; the input reads as it did. -/
def weedLeavesSpec : ChangeSpec := { name := "weedLeaves", fn := fun _ => fun
  | [d] => { results := [.lit (.bool true)], args := [d] }
  | _ => none }
def weedLeavesRow : OpenClaim := { program := "ythogdgkafaclaaa", sum := "9c3c85a2a467deb1ecdc8bfaa0bb05b9737a881777f4ceee0690afe8baedfac3", func := "isatis/isatislaw01.WeedLeaves", spec := "weedLeaves", unfollowed := true, recurses := true, plainKeys := false, apart := false }
def WeedLeavesSaid : Prop := weedLeavesRow.holds Try.pinned (OpenSpec.ofChange weedLeavesSpec)

/-- ITS FALSE NEIGHBOUR: 'it returns false'. Refute it at one input. -/
def weedLeavesWrong : ChangeSpec := { name := "weedLeaves", fn := fun _ => fun
  | [d] => { results := [.lit (.bool false)], args := [d] }
  | _ => none }
def WeedLeavesWrongFalsely : Prop := weedLeavesRow.holds Try.pinned (OpenSpec.ofChange weedLeavesWrong)

/-- 'isatislaw01.WeedEnds': WHATEVER THE INPUT: true; the input reads as it did. -/
def weedEndsSpec : ChangeSpec := { name := "weedEnds", fn := fun _ => fun
  | [d1, d2, d3] => { results := [.lit (.bool true)], args := [d1, d2, d3] }
  | _ => none }
def weedEndsRow : OpenClaim := { program := "ythogdgkafaclaaa", sum := "9c3c85a2a467deb1ecdc8bfaa0bb05b9737a881777f4ceee0690afe8baedfac3", func := "isatis/isatislaw01.WeedEnds", spec := "weedEnds", unfollowed := true, recurses := true, plainKeys := false, apart := false }
def WeedEndsSaid : Prop := weedEndsRow.holds Try.pinned (OpenSpec.ofChange weedEndsSpec)

/-- ITS FALSE NEIGHBOUR: 'it returns false'. Refute it at one input. -/
def weedEndsWrong : ChangeSpec := { name := "weedEnds", fn := fun _ => fun
  | [d1, d2, d3] => { results := [.lit (.bool false)], args := [d1, d2, d3] }
  | _ => none }
def WeedEndsWrongFalsely : Prop := weedEndsRow.holds Try.pinned (OpenSpec.ofChange weedEndsWrong)

/-- 'isatislaw01.WeedAnswer': WHATEVER THE INPUT: true; the input reads as it did. -/
def weedAnswerSpec : ChangeSpec := { name := "weedAnswer", fn := fun _ => fun
  | [d1, d2] => { results := [.lit (.bool true)], args := [d1, d2] }
  | _ => none }
def weedAnswerRow : OpenClaim := { program := "ythogdgkafaclaaa", sum := "9c3c85a2a467deb1ecdc8bfaa0bb05b9737a881777f4ceee0690afe8baedfac3", func := "isatis/isatislaw01.WeedAnswer", spec := "weedAnswer", unfollowed := true, recurses := true, plainKeys := false, apart := false }
def WeedAnswerSaid : Prop := weedAnswerRow.holds Try.pinned (OpenSpec.ofChange weedAnswerSpec)

/-- ITS FALSE NEIGHBOUR: 'it returns false'. Refute it at one input. -/
def weedAnswerWrong : ChangeSpec := { name := "weedAnswer", fn := fun _ => fun
  | [d1, d2] => { results := [.lit (.bool false)], args := [d1, d2] }
  | _ => none }
def WeedAnswerWrongFalsely : Prop := weedAnswerRow.holds Try.pinned (OpenSpec.ofChange weedAnswerWrong)

/-- 'isatislaw01.WeedMore': WHATEVER THE INPUT: true; the input reads as it did. -/
def weedMoreSpec : ChangeSpec := { name := "weedMore", fn := fun _ => fun
  | [d1, d2, d3, d4] => { results := [.lit (.bool true)], args := [d1, d2, d3, d4] }
  | _ => none }
def weedMoreRow : OpenClaim := { program := "ythogdgkafaclaaa", sum := "9c3c85a2a467deb1ecdc8bfaa0bb05b9737a881777f4ceee0690afe8baedfac3", func := "isatis/isatislaw01.WeedMore", spec := "weedMore", unfollowed := true, recurses := true, plainKeys := false, apart := false }
def WeedMoreSaid : Prop := weedMoreRow.holds Try.pinned (OpenSpec.ofChange weedMoreSpec)

/-- ITS FALSE NEIGHBOUR: 'it returns false'. Refute it at one input. -/
def weedMoreWrong : ChangeSpec := { name := "weedMore", fn := fun _ => fun
  | [d1, d2, d3, d4] => { results := [.lit (.bool false)], args := [d1, d2, d3, d4] }
  | _ => none }
def WeedMoreWrongFalsely : Prop := weedMoreRow.holds Try.pinned (OpenSpec.ofChange weedMoreWrong)

/-- 'isatislaw01.WeedWider': WHATEVER THE INPUT: true; the input reads as it did. -/
def weedWiderSpec : ChangeSpec := { name := "weedWider", fn := fun _ => fun
  | [d1, d2, d3] => { results := [.lit (.bool true)], args := [d1, d2, d3] }
  | _ => none }
def weedWiderRow : OpenClaim := { program := "ythogdgkafaclaaa", sum := "9c3c85a2a467deb1ecdc8bfaa0bb05b9737a881777f4ceee0690afe8baedfac3", func := "isatis/isatislaw01.WeedWider", spec := "weedWider", unfollowed := true, recurses := true, plainKeys := false, apart := false }
def WeedWiderSaid : Prop := weedWiderRow.holds Try.pinned (OpenSpec.ofChange weedWiderSpec)

/-- ITS FALSE NEIGHBOUR: 'it returns false'. Refute it at one input. -/
def weedWiderWrong : ChangeSpec := { name := "weedWider", fn := fun _ => fun
  | [d1, d2, d3] => { results := [.lit (.bool false)], args := [d1, d2, d3] }
  | _ => none }
def WeedWiderWrongFalsely : Prop := weedWiderRow.holds Try.pinned (OpenSpec.ofChange weedWiderWrong)

/-- 'isatislaw01.WeedFirst': WHATEVER THE INPUT: true; the input reads as it did. -/
def weedFirstSpec : ChangeSpec := { name := "weedFirst", fn := fun _ => fun
  | [d] => { results := [.lit (.bool true)], args := [d] }
  | _ => none }
def weedFirstRow : OpenClaim := { program := "ythogdgkafaclaaa", sum := "9c3c85a2a467deb1ecdc8bfaa0bb05b9737a881777f4ceee0690afe8baedfac3", func := "isatis/isatislaw01.WeedFirst", spec := "weedFirst", unfollowed := true, recurses := true, plainKeys := false, apart := false }
def WeedFirstSaid : Prop := weedFirstRow.holds Try.pinned (OpenSpec.ofChange weedFirstSpec)

/-- ITS FALSE NEIGHBOUR: 'it returns false'. Refute it at one input. -/
def weedFirstWrong : ChangeSpec := { name := "weedFirst", fn := fun _ => fun
  | [d] => { results := [.lit (.bool false)], args := [d] }
  | _ => none }
def WeedFirstWrongFalsely : Prop := weedFirstRow.holds Try.pinned (OpenSpec.ofChange weedFirstWrong)

/-- 'isatislaw01.WeedLeft': WHATEVER THE INPUT: true; the input reads as it did. -/
def weedLeftSpec : ChangeSpec := { name := "weedLeft", fn := fun _ => fun
  | [d1, d2] => { results := [.lit (.bool true)], args := [d1, d2] }
  | _ => none }
def weedLeftRow : OpenClaim := { program := "ythogdgkafaclaaa", sum := "9c3c85a2a467deb1ecdc8bfaa0bb05b9737a881777f4ceee0690afe8baedfac3", func := "isatis/isatislaw01.WeedLeft", spec := "weedLeft", unfollowed := true, recurses := true, plainKeys := false, apart := false }
def WeedLeftSaid : Prop := weedLeftRow.holds Try.pinned (OpenSpec.ofChange weedLeftSpec)

/-- ITS FALSE NEIGHBOUR: 'it returns false'. Refute it at one input. -/
def weedLeftWrong : ChangeSpec := { name := "weedLeft", fn := fun _ => fun
  | [d1, d2] => { results := [.lit (.bool false)], args := [d1, d2] }
  | _ => none }
def WeedLeftWrongFalsely : Prop := weedLeftRow.holds Try.pinned (OpenSpec.ofChange weedLeftWrong)

/-- 'isatislaw01.WeedTurned': WHATEVER THE INPUT: true; the input reads as it did. -/
def weedTurnedSpec : ChangeSpec := { name := "weedTurned", fn := fun _ => fun
  | [d1, d2, d3] => { results := [.lit (.bool true)], args := [d1, d2, d3] }
  | _ => none }
def weedTurnedRow : OpenClaim := { program := "ythogdgkafaclaaa", sum := "9c3c85a2a467deb1ecdc8bfaa0bb05b9737a881777f4ceee0690afe8baedfac3", func := "isatis/isatislaw01.WeedTurned", spec := "weedTurned", unfollowed := true, recurses := true, plainKeys := false, apart := false }
def WeedTurnedSaid : Prop := weedTurnedRow.holds Try.pinned (OpenSpec.ofChange weedTurnedSpec)

/-- ITS FALSE NEIGHBOUR: 'it returns false'. Refute it at one input. -/
def weedTurnedWrong : ChangeSpec := { name := "weedTurned", fn := fun _ => fun
  | [d1, d2, d3] => { results := [.lit (.bool false)], args := [d1, d2, d3] }
  | _ => none }
def WeedTurnedWrongFalsely : Prop := weedTurnedRow.holds Try.pinned (OpenSpec.ofChange weedTurnedWrong)

/-- 'isatislaw01.WeedAlone': WHATEVER THE INPUT: true; the input reads as it did. -/
def weedAloneSpec : ChangeSpec := { name := "weedAlone", fn := fun _ => fun
  | [d1, d2, d3] => { results := [.lit (.bool true)], args := [d1, d2, d3] }
  | _ => none }
def weedAloneRow : OpenClaim := { program := "ythogdgkafaclaaa", sum := "9c3c85a2a467deb1ecdc8bfaa0bb05b9737a881777f4ceee0690afe8baedfac3", func := "isatis/isatislaw01.WeedAlone", spec := "weedAlone", unfollowed := true, recurses := true, plainKeys := false, apart := false }
def WeedAloneSaid : Prop := weedAloneRow.holds Try.pinned (OpenSpec.ofChange weedAloneSpec)

/-- ITS FALSE NEIGHBOUR: 'it returns false'. Refute it at one input. -/
def weedAloneWrong : ChangeSpec := { name := "weedAlone", fn := fun _ => fun
  | [d1, d2, d3] => { results := [.lit (.bool false)], args := [d1, d2, d3] }
  | _ => none }
def WeedAloneWrongFalsely : Prop := weedAloneRow.holds Try.pinned (OpenSpec.ofChange weedAloneWrong)

/-- 'isatislaw01.WeedChecks': WHATEVER THE INPUT: true; the input reads as it did. -/
def weedChecksSpec : ChangeSpec := { name := "weedChecks", fn := fun _ => fun
  | [d1, d2] => { results := [.lit (.bool true)], args := [d1, d2] }
  | _ => none }
def weedChecksRow : OpenClaim := { program := "ythogdgkafaclaaa", sum := "9c3c85a2a467deb1ecdc8bfaa0bb05b9737a881777f4ceee0690afe8baedfac3", func := "isatis/isatislaw01.WeedChecks", spec := "weedChecks", unfollowed := true, recurses := true, plainKeys := false, apart := false }
def WeedChecksSaid : Prop := weedChecksRow.holds Try.pinned (OpenSpec.ofChange weedChecksSpec)

/-- ITS FALSE NEIGHBOUR: 'it returns false'. Refute it at one input. -/
def weedChecksWrong : ChangeSpec := { name := "weedChecks", fn := fun _ => fun
  | [d1, d2] => { results := [.lit (.bool false)], args := [d1, d2] }
  | _ => none }
def WeedChecksWrongFalsely : Prop := weedChecksRow.holds Try.pinned (OpenSpec.ofChange weedChecksWrong)

/-- 'isatislaw01.WeedTruth': WHATEVER THE INPUT: true; the input reads as it did. -/
def weedTruthSpec : ChangeSpec := { name := "weedTruth", fn := fun _ => fun
  | [d1, d2, d3] => { results := [.lit (.bool true)], args := [d1, d2, d3] }
  | _ => none }
def weedTruthRow : OpenClaim := { program := "ythogdgkafaclaaa", sum := "9c3c85a2a467deb1ecdc8bfaa0bb05b9737a881777f4ceee0690afe8baedfac3", func := "isatis/isatislaw01.WeedTruth", spec := "weedTruth", unfollowed := true, recurses := true, plainKeys := false, apart := false }
def WeedTruthSaid : Prop := weedTruthRow.holds Try.pinned (OpenSpec.ofChange weedTruthSpec)

/-- ITS FALSE NEIGHBOUR: 'it returns false'. Refute it at one input. -/
def weedTruthWrong : ChangeSpec := { name := "weedTruth", fn := fun _ => fun
  | [d1, d2, d3] => { results := [.lit (.bool false)], args := [d1, d2, d3] }
  | _ => none }
def WeedTruthWrongFalsely : Prop := weedTruthRow.holds Try.pinned (OpenSpec.ofChange weedTruthWrong)

/-- 'isatislaw01.WeedAsks': WHATEVER THE INPUT: true; the input reads as it did. -/
def weedAsksSpec : ChangeSpec := { name := "weedAsks", fn := fun _ => fun
  | [d1, d2, d3] => { results := [.lit (.bool true)], args := [d1, d2, d3] }
  | _ => none }
def weedAsksRow : OpenClaim := { program := "ythogdgkafaclaaa", sum := "9c3c85a2a467deb1ecdc8bfaa0bb05b9737a881777f4ceee0690afe8baedfac3", func := "isatis/isatislaw01.WeedAsks", spec := "weedAsks", unfollowed := true, recurses := true, plainKeys := false, apart := false }
def WeedAsksSaid : Prop := weedAsksRow.holds Try.pinned (OpenSpec.ofChange weedAsksSpec)

/-- ITS FALSE NEIGHBOUR: 'it returns false'. Refute it at one input. -/
def weedAsksWrong : ChangeSpec := { name := "weedAsks", fn := fun _ => fun
  | [d1, d2, d3] => { results := [.lit (.bool false)], args := [d1, d2, d3] }
  | _ => none }
def WeedAsksWrongFalsely : Prop := weedAsksRow.holds Try.pinned (OpenSpec.ofChange weedAsksWrong)

/-- 'isatislaw01.WeedSettled': WHATEVER THE INPUT: true; the input reads as it did. -/
def weedSettledSpec : ChangeSpec := { name := "weedSettled", fn := fun _ => fun
  | [d1, d2, d3] => { results := [.lit (.bool true)], args := [d1, d2, d3] }
  | _ => none }
def weedSettledRow : OpenClaim := { program := "ythogdgkafaclaaa", sum := "9c3c85a2a467deb1ecdc8bfaa0bb05b9737a881777f4ceee0690afe8baedfac3", func := "isatis/isatislaw01.WeedSettled", spec := "weedSettled", unfollowed := true, recurses := true, plainKeys := false, apart := false }
def WeedSettledSaid : Prop := weedSettledRow.holds Try.pinned (OpenSpec.ofChange weedSettledSpec)

/-- ITS FALSE NEIGHBOUR: 'it returns false'. Refute it at one input. -/
def weedSettledWrong : ChangeSpec := { name := "weedSettled", fn := fun _ => fun
  | [d1, d2, d3] => { results := [.lit (.bool false)], args := [d1, d2, d3] }
  | _ => none }
def WeedSettledWrongFalsely : Prop := weedSettledRow.holds Try.pinned (OpenSpec.ofChange weedSettledWrong)

/-- 'isatislaw01.WeedNames': WHATEVER THE INPUT: true; the input reads as it did. -/
def weedNamesSpec : ChangeSpec := { name := "weedNames", fn := fun _ => fun
  | [] => { results := [.lit (.bool true)], args := [] }
  | _ => none }
def weedNamesRow : OpenClaim := { program := "ythogdgkafaclaaa", sum := "9c3c85a2a467deb1ecdc8bfaa0bb05b9737a881777f4ceee0690afe8baedfac3", func := "isatis/isatislaw01.WeedNames", spec := "weedNames", unfollowed := true, recurses := true, plainKeys := false, apart := false }
def WeedNamesSaid : Prop := weedNamesRow.holds Try.pinned (OpenSpec.ofChange weedNamesSpec)

/-- ITS FALSE NEIGHBOUR: 'it returns false'. Refute it at one input. -/
def weedNamesWrong : ChangeSpec := { name := "weedNames", fn := fun _ => fun
  | [] => { results := [.lit (.bool false)], args := [] }
  | _ => none }
def WeedNamesWrongFalsely : Prop := weedNamesRow.holds Try.pinned (OpenSpec.ofChange weedNamesWrong)

/- THE SECOND FORM. 'bulk': how many values and letters a reading holds, each counted each time it is reached (what is shared counts as often as it is met; a slice's spare places count too). A statement '..UptoSaid' is the law's where the arguments, and the package variables that the reading takes, are together of bulk at most 1048576: NARROWER than '..Said'. Prove '..Said' where nothing that the law and all that it calls make is longer than what came in: it says more and counts as full. Else prove '..UptoSaid'. A law counts once. -/
mutual
def uptoBulk {H : Type} : DataW H → Nat
  | .lit (.string bytes) => bytes.length + 1
  | .lit _ => 1
  | .nil => 1
  | .ptr d => uptoBulk d + 1
  | .slice elems spare => uptoBulkAll elems + uptoBulkAll spare + 1
  | .agg parts => uptoBulkAll parts + 1
  | .iface _ d => uptoBulk d + 1
  | .map entries => uptoBulkEntries entries + 1
  | .held _ => 1
def uptoBulkAll {H : Type} : List (DataW H) → Nat
  | [] => 0
  | d :: r => uptoBulk d + uptoBulkAll r
def uptoBulkEntries {H : Type} : List (Lit × DataW H) → Nat
  | [] => 0
  | x :: r => uptoBulkEntry x + uptoBulkEntries r
def uptoBulkEntry {H : Type} : Lit × DataW H → Nat
  | (.string bytes, d) => bytes.length + uptoBulk d + 1
  | (_, d) => uptoBulk d + 1
 end
def uptoSmall : (H : Type) → List (DataW H) → Bool := fun _ ds => decide (uptoBulkAll ds ≤ 1048576)
def OpenSpec.upto (s : _root_.Go.ChangeSpec) : _root_.Go.OpenSpec := { _root_.Go.OpenSpec.ofChange s with cond := some uptoSmall }

/-- 'isatislaw01.WeedDone', WHERE WHAT IT READS IS OF BULK AT MOST 1048576: true; the input reads as it did. -/
def weedDoneUptoRow : OpenClaim := { program := "ythogdgkafaclaaa", sum := "9c3c85a2a467deb1ecdc8bfaa0bb05b9737a881777f4ceee0690afe8baedfac3", func := "isatis/isatislaw01.WeedDone", spec := "weedDone", unfollowed := true, recurses := true, plainKeys := false, apart := false, narrowed := true }
def WeedDoneUptoSaid : Prop := weedDoneUptoRow.holds Try.pinned (OpenSpec.upto weedDoneSpec)

/-- 'isatislaw01.WeedWho', WHERE WHAT IT READS IS OF BULK AT MOST 1048576: true; the input reads as it did. -/
def weedWhoUptoRow : OpenClaim := { program := "ythogdgkafaclaaa", sum := "9c3c85a2a467deb1ecdc8bfaa0bb05b9737a881777f4ceee0690afe8baedfac3", func := "isatis/isatislaw01.WeedWho", spec := "weedWho", unfollowed := true, recurses := true, plainKeys := false, apart := false, narrowed := true }
def WeedWhoUptoSaid : Prop := weedWhoUptoRow.holds Try.pinned (OpenSpec.upto weedWhoSpec)

/-- 'isatislaw01.WeedNexts', WHERE WHAT IT READS IS OF BULK AT MOST 1048576: true; the input reads as it did. -/
def weedNextsUptoRow : OpenClaim := { program := "ythogdgkafaclaaa", sum := "9c3c85a2a467deb1ecdc8bfaa0bb05b9737a881777f4ceee0690afe8baedfac3", func := "isatis/isatislaw01.WeedNexts", spec := "weedNexts", unfollowed := true, recurses := true, plainKeys := false, apart := false, narrowed := true }
def WeedNextsUptoSaid : Prop := weedNextsUptoRow.holds Try.pinned (OpenSpec.upto weedNextsSpec)

/-- 'isatislaw01.WeedLeaves', WHERE WHAT IT READS IS OF BULK AT MOST 1048576: true; the input reads as it did. -/
def weedLeavesUptoRow : OpenClaim := { program := "ythogdgkafaclaaa", sum := "9c3c85a2a467deb1ecdc8bfaa0bb05b9737a881777f4ceee0690afe8baedfac3", func := "isatis/isatislaw01.WeedLeaves", spec := "weedLeaves", unfollowed := true, recurses := true, plainKeys := false, apart := false, narrowed := true }
def WeedLeavesUptoSaid : Prop := weedLeavesUptoRow.holds Try.pinned (OpenSpec.upto weedLeavesSpec)

/-- 'isatislaw01.WeedEnds', WHERE WHAT IT READS IS OF BULK AT MOST 1048576: true; the input reads as it did. -/
def weedEndsUptoRow : OpenClaim := { program := "ythogdgkafaclaaa", sum := "9c3c85a2a467deb1ecdc8bfaa0bb05b9737a881777f4ceee0690afe8baedfac3", func := "isatis/isatislaw01.WeedEnds", spec := "weedEnds", unfollowed := true, recurses := true, plainKeys := false, apart := false, narrowed := true }
def WeedEndsUptoSaid : Prop := weedEndsUptoRow.holds Try.pinned (OpenSpec.upto weedEndsSpec)

/-- 'isatislaw01.WeedAnswer', WHERE WHAT IT READS IS OF BULK AT MOST 1048576: true; the input reads as it did. -/
def weedAnswerUptoRow : OpenClaim := { program := "ythogdgkafaclaaa", sum := "9c3c85a2a467deb1ecdc8bfaa0bb05b9737a881777f4ceee0690afe8baedfac3", func := "isatis/isatislaw01.WeedAnswer", spec := "weedAnswer", unfollowed := true, recurses := true, plainKeys := false, apart := false, narrowed := true }
def WeedAnswerUptoSaid : Prop := weedAnswerUptoRow.holds Try.pinned (OpenSpec.upto weedAnswerSpec)

/-- 'isatislaw01.WeedMore', WHERE WHAT IT READS IS OF BULK AT MOST 1048576: true; the input reads as it did. -/
def weedMoreUptoRow : OpenClaim := { program := "ythogdgkafaclaaa", sum := "9c3c85a2a467deb1ecdc8bfaa0bb05b9737a881777f4ceee0690afe8baedfac3", func := "isatis/isatislaw01.WeedMore", spec := "weedMore", unfollowed := true, recurses := true, plainKeys := false, apart := false, narrowed := true }
def WeedMoreUptoSaid : Prop := weedMoreUptoRow.holds Try.pinned (OpenSpec.upto weedMoreSpec)

/-- 'isatislaw01.WeedWider', WHERE WHAT IT READS IS OF BULK AT MOST 1048576: true; the input reads as it did. -/
def weedWiderUptoRow : OpenClaim := { program := "ythogdgkafaclaaa", sum := "9c3c85a2a467deb1ecdc8bfaa0bb05b9737a881777f4ceee0690afe8baedfac3", func := "isatis/isatislaw01.WeedWider", spec := "weedWider", unfollowed := true, recurses := true, plainKeys := false, apart := false, narrowed := true }
def WeedWiderUptoSaid : Prop := weedWiderUptoRow.holds Try.pinned (OpenSpec.upto weedWiderSpec)

/-- 'isatislaw01.WeedFirst', WHERE WHAT IT READS IS OF BULK AT MOST 1048576: true; the input reads as it did. -/
def weedFirstUptoRow : OpenClaim := { program := "ythogdgkafaclaaa", sum := "9c3c85a2a467deb1ecdc8bfaa0bb05b9737a881777f4ceee0690afe8baedfac3", func := "isatis/isatislaw01.WeedFirst", spec := "weedFirst", unfollowed := true, recurses := true, plainKeys := false, apart := false, narrowed := true }
def WeedFirstUptoSaid : Prop := weedFirstUptoRow.holds Try.pinned (OpenSpec.upto weedFirstSpec)

/-- 'isatislaw01.WeedLeft', WHERE WHAT IT READS IS OF BULK AT MOST 1048576: true; the input reads as it did. -/
def weedLeftUptoRow : OpenClaim := { program := "ythogdgkafaclaaa", sum := "9c3c85a2a467deb1ecdc8bfaa0bb05b9737a881777f4ceee0690afe8baedfac3", func := "isatis/isatislaw01.WeedLeft", spec := "weedLeft", unfollowed := true, recurses := true, plainKeys := false, apart := false, narrowed := true }
def WeedLeftUptoSaid : Prop := weedLeftUptoRow.holds Try.pinned (OpenSpec.upto weedLeftSpec)

/-- 'isatislaw01.WeedTurned', WHERE WHAT IT READS IS OF BULK AT MOST 1048576: true; the input reads as it did. -/
def weedTurnedUptoRow : OpenClaim := { program := "ythogdgkafaclaaa", sum := "9c3c85a2a467deb1ecdc8bfaa0bb05b9737a881777f4ceee0690afe8baedfac3", func := "isatis/isatislaw01.WeedTurned", spec := "weedTurned", unfollowed := true, recurses := true, plainKeys := false, apart := false, narrowed := true }
def WeedTurnedUptoSaid : Prop := weedTurnedUptoRow.holds Try.pinned (OpenSpec.upto weedTurnedSpec)

/-- 'isatislaw01.WeedAlone', WHERE WHAT IT READS IS OF BULK AT MOST 1048576: true; the input reads as it did. -/
def weedAloneUptoRow : OpenClaim := { program := "ythogdgkafaclaaa", sum := "9c3c85a2a467deb1ecdc8bfaa0bb05b9737a881777f4ceee0690afe8baedfac3", func := "isatis/isatislaw01.WeedAlone", spec := "weedAlone", unfollowed := true, recurses := true, plainKeys := false, apart := false, narrowed := true }
def WeedAloneUptoSaid : Prop := weedAloneUptoRow.holds Try.pinned (OpenSpec.upto weedAloneSpec)

/-- 'isatislaw01.WeedChecks', WHERE WHAT IT READS IS OF BULK AT MOST 1048576: true; the input reads as it did. -/
def weedChecksUptoRow : OpenClaim := { program := "ythogdgkafaclaaa", sum := "9c3c85a2a467deb1ecdc8bfaa0bb05b9737a881777f4ceee0690afe8baedfac3", func := "isatis/isatislaw01.WeedChecks", spec := "weedChecks", unfollowed := true, recurses := true, plainKeys := false, apart := false, narrowed := true }
def WeedChecksUptoSaid : Prop := weedChecksUptoRow.holds Try.pinned (OpenSpec.upto weedChecksSpec)

/-- 'isatislaw01.WeedTruth', WHERE WHAT IT READS IS OF BULK AT MOST 1048576: true; the input reads as it did. -/
def weedTruthUptoRow : OpenClaim := { program := "ythogdgkafaclaaa", sum := "9c3c85a2a467deb1ecdc8bfaa0bb05b9737a881777f4ceee0690afe8baedfac3", func := "isatis/isatislaw01.WeedTruth", spec := "weedTruth", unfollowed := true, recurses := true, plainKeys := false, apart := false, narrowed := true }
def WeedTruthUptoSaid : Prop := weedTruthUptoRow.holds Try.pinned (OpenSpec.upto weedTruthSpec)

/-- 'isatislaw01.WeedAsks', WHERE WHAT IT READS IS OF BULK AT MOST 1048576: true; the input reads as it did. -/
def weedAsksUptoRow : OpenClaim := { program := "ythogdgkafaclaaa", sum := "9c3c85a2a467deb1ecdc8bfaa0bb05b9737a881777f4ceee0690afe8baedfac3", func := "isatis/isatislaw01.WeedAsks", spec := "weedAsks", unfollowed := true, recurses := true, plainKeys := false, apart := false, narrowed := true }
def WeedAsksUptoSaid : Prop := weedAsksUptoRow.holds Try.pinned (OpenSpec.upto weedAsksSpec)

/-- 'isatislaw01.WeedSettled', WHERE WHAT IT READS IS OF BULK AT MOST 1048576: true; the input reads as it did. -/
def weedSettledUptoRow : OpenClaim := { program := "ythogdgkafaclaaa", sum := "9c3c85a2a467deb1ecdc8bfaa0bb05b9737a881777f4ceee0690afe8baedfac3", func := "isatis/isatislaw01.WeedSettled", spec := "weedSettled", unfollowed := true, recurses := true, plainKeys := false, apart := false, narrowed := true }
def WeedSettledUptoSaid : Prop := weedSettledUptoRow.holds Try.pinned (OpenSpec.upto weedSettledSpec)

/-- 'isatislaw01.WeedNames', WHERE WHAT IT READS IS OF BULK AT MOST 1048576: true; the input reads as it did. -/
def weedNamesUptoRow : OpenClaim := { program := "ythogdgkafaclaaa", sum := "9c3c85a2a467deb1ecdc8bfaa0bb05b9737a881777f4ceee0690afe8baedfac3", func := "isatis/isatislaw01.WeedNames", spec := "weedNames", unfollowed := true, recurses := true, plainKeys := false, apart := false, narrowed := true }
def WeedNamesUptoSaid : Prop := weedNamesUptoRow.holds Try.pinned (OpenSpec.upto weedNamesSpec)

end Rows
end Go.Proofs.Ythogdgkafaclaaa
