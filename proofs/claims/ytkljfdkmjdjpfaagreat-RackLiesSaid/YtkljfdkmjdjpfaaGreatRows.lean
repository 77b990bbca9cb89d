/-
  No cell of these rows narrows 'for every input' (looked for: loops, veiled, ifaces, maps, wideKeys, modest, calm, conditions, laid).
  DERIVED. THE GIVEN ROWS OF THIS SEAT. 12 by the template 'for every input the law returns true; each argument reads behind the call as it read before'; 0 by the template 'total and deterministic' (their statements: YtkljfdkmjdjpfaaGreatTotals.lean).
  GIVEN WITH THE SEED: the statements are not yours to turn. If you find one false, say at which input.
  Laid BY PROGRAM, IN A SANDBOX (cutbox-rows.mjs): the forced cells as the released guide's own fill.sh prints them over the translation 3090e3410d4d7e6a… (all of the seat's roots in one cut). By AI agents, Wed Nov 11 2026. No macro, syntax, notation, axiom, sorry.
-/
import Derived.Test.YtkljfdkmjdjpfaaGreatChecked
import GoSem.Claim
import GoSem.ClaimJoined
import GoSem.ClaimMapViews
import Derived.JoinedTies
import Derived.KernelRfl
namespace Go.Proofs.YtkljfdkmjdjpfaaGreat
/- THE CELL 'sum', in the pinned program and in every row, IS THE sha256 OF THE DUMP (.gsa) THAT YtkljfdkmjdjpfaaGreatProg.lean LOADS. Nothing in Lean hashes anything: it is a label: what it is worth is what the hold of that sum in a sandbox is worth. -/
noncomputable def Tryz.pinned : Pinned := { name := "ytkljfdkmjdjpfaagreat", sum := "3090e3410d4d7e6a427a9dc9de471231295ae125ab82ad2546306e00c56ff28d", checked := Tryz.checked }
namespace Rows
def none {H : Type} : Left H := { results := [], args := [] }

/-- 'isatistop.TopDried': WHATEVER THE INPUT: true; the input reads as it did. -/
def topDriedSpec : ChangeSpec := { name := "topDried", fn := fun _ => fun
  | [d1, d2, d3, d4, d5, d6, d7] => { results := [.lit (.bool true)], args := [d1, d2, d3, d4, d5, d6, d7] }
  | _ => none }
def topDriedRow : OpenClaim := { program := "ytkljfdkmjdjpfaagreat", sum := "3090e3410d4d7e6a427a9dc9de471231295ae125ab82ad2546306e00c56ff28d", func := "isatis/isatistop.TopDried", spec := "topDried", unfollowed := true, recurses := true, plainKeys := false, apart := false }
def TopDriedSaid : Prop := topDriedRow.holds Tryz.pinned (OpenSpec.ofChange topDriedSpec)

/-- ITS FALSE NEIGHBOUR: 'it returns false'. Refute it at one input. -/
def topDriedWrong : ChangeSpec := { name := "topDried", fn := fun _ => fun
  | [d1, d2, d3, d4, d5, d6, d7] => { results := [.lit (.bool false)], args := [d1, d2, d3, d4, d5, d6, d7] }
  | _ => none }
def TopDriedWrongFalsely : Prop := topDriedRow.holds Tryz.pinned (OpenSpec.ofChange topDriedWrong)

/-- 'isatislaw03.RackPlays': WHATEVER THE INPUT: true; the input reads as it did. -/
def rackPlaysSpec : ChangeSpec := { name := "rackPlays", fn := fun _ => fun
  | [d1, d2, d3] => { results := [.lit (.bool true)], args := [d1, d2, d3] }
  | _ => none }
def rackPlaysRow : OpenClaim := { program := "ytkljfdkmjdjpfaagreat", sum := "3090e3410d4d7e6a427a9dc9de471231295ae125ab82ad2546306e00c56ff28d", func := "isatis/isatislaw03.RackPlays", spec := "rackPlays", inPlace := ["slices.overlaps[int]"], unfollowed := true, recurses := true, plainKeys := false, apart := false }
def RackPlaysSaid : Prop := rackPlaysRow.holds Tryz.pinned (OpenSpec.ofChange rackPlaysSpec)

/-- ITS FALSE NEIGHBOUR: 'it returns false'. Refute it at one input. -/
def rackPlaysWrong : ChangeSpec := { name := "rackPlays", fn := fun _ => fun
  | [d1, d2, d3] => { results := [.lit (.bool false)], args := [d1, d2, d3] }
  | _ => none }
def RackPlaysWrongFalsely : Prop := rackPlaysRow.holds Tryz.pinned (OpenSpec.ofChange rackPlaysWrong)

/-- 'isatislaw03.RackSaves': WHATEVER THE INPUT: true; the input reads as it did. -/
def rackSavesSpec : ChangeSpec := { name := "rackSaves", fn := fun _ => fun
  | [d1, d2, d3] => { results := [.lit (.bool true)], args := [d1, d2, d3] }
  | _ => none }
def rackSavesRow : OpenClaim := { program := "ytkljfdkmjdjpfaagreat", sum := "3090e3410d4d7e6a427a9dc9de471231295ae125ab82ad2546306e00c56ff28d", func := "isatis/isatislaw03.RackSaves", spec := "rackSaves", inPlace := ["slices.overlaps[int]"], unfollowed := true, recurses := true, plainKeys := false, apart := false }
def RackSavesSaid : Prop := rackSavesRow.holds Tryz.pinned (OpenSpec.ofChange rackSavesSpec)

/-- ITS FALSE NEIGHBOUR: 'it returns false'. Refute it at one input. -/
def rackSavesWrong : ChangeSpec := { name := "rackSaves", fn := fun _ => fun
  | [d1, d2, d3] => { results := [.lit (.bool false)], args := [d1, d2, d3] }
  | _ => none }
def RackSavesWrongFalsely : Prop := rackSavesRow.holds Tryz.pinned (OpenSpec.ofChange rackSavesWrong)

/-- 'isatislaw03.RackProves': WHATEVER THE INPUT: true; the input reads as it did. -/
def rackProvesSpec : ChangeSpec := { name := "rackProves", fn := fun _ => fun
  | [d1, d2, d3, d4] => { results := [.lit (.bool true)], args := [d1, d2, d3, d4] }
  | _ => none }
def rackProvesRow : OpenClaim := { program := "ytkljfdkmjdjpfaagreat", sum := "3090e3410d4d7e6a427a9dc9de471231295ae125ab82ad2546306e00c56ff28d", func := "isatis/isatislaw03.RackProves", spec := "rackProves", inPlace := ["slices.overlaps[int]"], unfollowed := true, recurses := true, plainKeys := false, apart := false }
def RackProvesSaid : Prop := rackProvesRow.holds Tryz.pinned (OpenSpec.ofChange rackProvesSpec)

/-- ITS FALSE NEIGHBOUR: 'it returns false'. Refute it at one input. -/
def rackProvesWrong : ChangeSpec := { name := "rackProves", fn := fun _ => fun
  | [d1, d2, d3, d4] => { results := [.lit (.bool false)], args := [d1, d2, d3, d4] }
  | _ => none }
def RackProvesWrongFalsely : Prop := rackProvesRow.holds Tryz.pinned (OpenSpec.ofChange rackProvesWrong)

/-- 'isatislaw03.RackBest': WHATEVER THE INPUT: true; the input reads as it did. -/
def rackBestSpec : ChangeSpec := { name := "rackBest", fn := fun _ => fun
  | [d] => { results := [.lit (.bool true)], args := [d] }
  | _ => none }
def rackBestRow : OpenClaim := { program := "ytkljfdkmjdjpfaagreat", sum := "3090e3410d4d7e6a427a9dc9de471231295ae125ab82ad2546306e00c56ff28d", func := "isatis/isatislaw03.RackBest", spec := "rackBest", inPlace := ["slices.overlaps[int]"], unfollowed := true, recurses := true, plainKeys := false, apart := false }
def RackBestSaid : Prop := rackBestRow.holds Tryz.pinned (OpenSpec.ofChange rackBestSpec)

/-- ITS FALSE NEIGHBOUR: 'it returns false'. Refute it at one input. -/
def rackBestWrong : ChangeSpec := { name := "rackBest", fn := fun _ => fun
  | [d] => { results := [.lit (.bool false)], args := [d] }
  | _ => none }
def RackBestWrongFalsely : Prop := rackBestRow.holds Tryz.pinned (OpenSpec.ofChange rackBestWrong)

/-- 'isatislaw03.RackTruth': WHATEVER THE INPUT: true; the input reads as it did. -/
def rackTruthSpec : ChangeSpec := { name := "rackTruth", fn := fun _ => fun
  | [d1, d2, d3] => { results := [.lit (.bool true)], args := [d1, d2, d3] }
  | _ => none }
def rackTruthRow : OpenClaim := { program := "ytkljfdkmjdjpfaagreat", sum := "3090e3410d4d7e6a427a9dc9de471231295ae125ab82ad2546306e00c56ff28d", func := "isatis/isatislaw03.RackTruth", spec := "rackTruth", inPlace := ["slices.overlaps[int]"], unfollowed := true, recurses := true, plainKeys := false, apart := false }
def RackTruthSaid : Prop := rackTruthRow.holds Tryz.pinned (OpenSpec.ofChange rackTruthSpec)

/-- ITS FALSE NEIGHBOUR: 'it returns false'. Refute it at one input. -/
def rackTruthWrong : ChangeSpec := { name := "rackTruth", fn := fun _ => fun
  | [d1, d2, d3] => { results := [.lit (.bool false)], args := [d1, d2, d3] }
  | _ => none }
def RackTruthWrongFalsely : Prop := rackTruthRow.holds Tryz.pinned (OpenSpec.ofChange rackTruthWrong)

/-- 'isatislaw03.RackNoBetter': WHATEVER THE INPUT: true; the input reads as it did. -/
def rackNoBetterSpec : ChangeSpec := { name := "rackNoBetter", fn := fun _ => fun
  | [d1, d2] => { results := [.lit (.bool true)], args := [d1, d2] }
  | _ => none }
def rackNoBetterRow : OpenClaim := { program := "ytkljfdkmjdjpfaagreat", sum := "3090e3410d4d7e6a427a9dc9de471231295ae125ab82ad2546306e00c56ff28d", func := "isatis/isatislaw03.RackNoBetter", spec := "rackNoBetter", inPlace := ["slices.overlaps[int]"], unfollowed := true, recurses := true, plainKeys := false, apart := false }
def RackNoBetterSaid : Prop := rackNoBetterRow.holds Tryz.pinned (OpenSpec.ofChange rackNoBetterSpec)

/-- ITS FALSE NEIGHBOUR: 'it returns false'. Refute it at one input. -/
def rackNoBetterWrong : ChangeSpec := { name := "rackNoBetter", fn := fun _ => fun
  | [d1, d2] => { results := [.lit (.bool false)], args := [d1, d2] }
  | _ => none }
def RackNoBetterWrongFalsely : Prop := rackNoBetterRow.holds Tryz.pinned (OpenSpec.ofChange rackNoBetterWrong)

/-- 'isatislaw03.RackLies': WHATEVER THE INPUT: true; the input reads as it did. -/
def rackLiesSpec : ChangeSpec := { name := "rackLies", fn := fun _ => fun
  | [d1, d2, d3] => { results := [.lit (.bool true)], args := [d1, d2, d3] }
  | _ => none }
def rackLiesRow : OpenClaim := { program := "ytkljfdkmjdjpfaagreat", sum := "3090e3410d4d7e6a427a9dc9de471231295ae125ab82ad2546306e00c56ff28d", func := "isatis/isatislaw03.RackLies", spec := "rackLies", inPlace := ["slices.overlaps[int]"], unfollowed := true, recurses := true, plainKeys := false, apart := false }
def RackLiesSaid : Prop := rackLiesRow.holds Tryz.pinned (OpenSpec.ofChange rackLiesSpec)

/-- ITS FALSE NEIGHBOUR: 'it returns false'. Refute it at one input. -/
def rackLiesWrong : ChangeSpec := { name := "rackLies", fn := fun _ => fun
  | [d1, d2, d3] => { results := [.lit (.bool false)], args := [d1, d2, d3] }
  | _ => none }
def RackLiesWrongFalsely : Prop := rackLiesRow.holds Tryz.pinned (OpenSpec.ofChange rackLiesWrong)

/-- 'isatislaw03.RackOrderOfOne': WHATEVER THE INPUT: true; the input reads as it did. -/
def rackOrderOfOneSpec : ChangeSpec := { name := "rackOrderOfOne", fn := fun _ => fun
  | [d1, d2, d3, d4] => { results := [.lit (.bool true)], args := [d1, d2, d3, d4] }
  | _ => none }
def rackOrderOfOneRow : OpenClaim := { program := "ytkljfdkmjdjpfaagreat", sum := "3090e3410d4d7e6a427a9dc9de471231295ae125ab82ad2546306e00c56ff28d", func := "isatis/isatislaw03.RackOrderOfOne", spec := "rackOrderOfOne", inPlace := ["slices.overlaps[int]"], unfollowed := true, recurses := true, plainKeys := false, apart := false }
def RackOrderOfOneSaid : Prop := rackOrderOfOneRow.holds Tryz.pinned (OpenSpec.ofChange rackOrderOfOneSpec)

/-- ITS FALSE NEIGHBOUR: 'it returns false'. Refute it at one input. -/
def rackOrderOfOneWrong : ChangeSpec := { name := "rackOrderOfOne", fn := fun _ => fun
  | [d1, d2, d3, d4] => { results := [.lit (.bool false)], args := [d1, d2, d3, d4] }
  | _ => none }
def RackOrderOfOneWrongFalsely : Prop := rackOrderOfOneRow.holds Tryz.pinned (OpenSpec.ofChange rackOrderOfOneWrong)

/-- 'isatislaw03.RackAnother': WHATEVER THE INPUT: true; the input reads as it did. -/
def rackAnotherSpec : ChangeSpec := { name := "rackAnother", fn := fun _ => fun
  | [d1, d2, d3, d4] => { results := [.lit (.bool true)], args := [d1, d2, d3, d4] }
  | _ => none }
def rackAnotherRow : OpenClaim := { program := "ytkljfdkmjdjpfaagreat", sum := "3090e3410d4d7e6a427a9dc9de471231295ae125ab82ad2546306e00c56ff28d", func := "isatis/isatislaw03.RackAnother", spec := "rackAnother", inPlace := ["slices.overlaps[int]"], unfollowed := true, recurses := true, plainKeys := false, apart := false }
def RackAnotherSaid : Prop := rackAnotherRow.holds Tryz.pinned (OpenSpec.ofChange rackAnotherSpec)

/-- ITS FALSE NEIGHBOUR: 'it returns false'. Refute it at one input. -/
def rackAnotherWrong : ChangeSpec := { name := "rackAnother", fn := fun _ => fun
  | [d1, d2, d3, d4] => { results := [.lit (.bool false)], args := [d1, d2, d3, d4] }
  | _ => none }
def RackAnotherWrongFalsely : Prop := rackAnotherRow.holds Tryz.pinned (OpenSpec.ofChange rackAnotherWrong)

/-- 'isatislaw03.RackSunny': WHATEVER THE INPUT: true; the input reads as it did. -/
def rackSunnySpec : ChangeSpec := { name := "rackSunny", fn := fun _ => fun
  | [d1, d2] => { results := [.lit (.bool true)], args := [d1, d2] }
  | _ => none }
def rackSunnyRow : OpenClaim := { program := "ytkljfdkmjdjpfaagreat", sum := "3090e3410d4d7e6a427a9dc9de471231295ae125ab82ad2546306e00c56ff28d", func := "isatis/isatislaw03.RackSunny", spec := "rackSunny", inPlace := ["slices.overlaps[int]"], unfollowed := true, recurses := true, plainKeys := false, apart := false }
def RackSunnySaid : Prop := rackSunnyRow.holds Tryz.pinned (OpenSpec.ofChange rackSunnySpec)

/-- ITS FALSE NEIGHBOUR: 'it returns false'. Refute it at one input. -/
def rackSunnyWrong : ChangeSpec := { name := "rackSunny", fn := fun _ => fun
  | [d1, d2] => { results := [.lit (.bool false)], args := [d1, d2] }
  | _ => none }
def RackSunnyWrongFalsely : Prop := rackSunnyRow.holds Tryz.pinned (OpenSpec.ofChange rackSunnyWrong)

/-- 'isatislaw03.RackFewer': WHATEVER THE INPUT: true; the input reads as it did. -/
def rackFewerSpec : ChangeSpec := { name := "rackFewer", fn := fun _ => fun
  | [d1, d2, d3] => { results := [.lit (.bool true)], args := [d1, d2, d3] }
  | _ => none }
def rackFewerRow : OpenClaim := { program := "ytkljfdkmjdjpfaagreat", sum := "3090e3410d4d7e6a427a9dc9de471231295ae125ab82ad2546306e00c56ff28d", func := "isatis/isatislaw03.RackFewer", spec := "rackFewer", inPlace := ["slices.overlaps[int]"], unfollowed := true, recurses := true, plainKeys := false, apart := false }
def RackFewerSaid : Prop := rackFewerRow.holds Tryz.pinned (OpenSpec.ofChange rackFewerSpec)

/-- ITS FALSE NEIGHBOUR: 'it returns false'. Refute it at one input. -/
def rackFewerWrong : ChangeSpec := { name := "rackFewer", fn := fun _ => fun
  | [d1, d2, d3] => { results := [.lit (.bool false)], args := [d1, d2, d3] }
  | _ => none }
def RackFewerWrongFalsely : Prop := rackFewerRow.holds Tryz.pinned (OpenSpec.ofChange rackFewerWrong)

/- THE SECOND FORM. 'bulk': how many values and letters a reading holds, each counted each time it is reached (what is shared counts as often as it is met; a slice's spare places count too). A statement '..UptoSaid' is the law's where the arguments, and the package variables that the reading takes, are together of bulk at most 1048576: NARROWER than '..Said'. Prove '..Said' where nothing that the law and all that it calls make is longer than what came in: it says more and counts as full. Else prove '..UptoSaid'. A law counts once. -/
mutual
def uptoBulk {H : Type} : DataW H → Nat
  | .lit (.string bytes) => bytes.length + 1
  | .lit _ => 1
  | .nil => 1
  | .ptr d => uptoBulk d + 1
  | .slice elems spare => uptoBulkAll elems + uptoBulkAll spare + 1
  | .agg parts => uptoBulkAll parts + 1
  | .iface _ d => uptoBulk d + 1
  | .map entries => uptoBulkEntries entries + 1
  | .held _ => 1
def uptoBulkAll {H : Type} : List (DataW H) → Nat
  | [] => 0
  | d :: r => uptoBulk d + uptoBulkAll r
def uptoBulkEntries {H : Type} : List (Lit × DataW H) → Nat
  | [] => 0
  | x :: r => uptoBulkEntry x + uptoBulkEntries r
def uptoBulkEntry {H : Type} : Lit × DataW H → Nat
  | (.string bytes, d) => bytes.length + uptoBulk d + 1
  | (_, d) => uptoBulk d + 1
 end
def uptoSmall : (H : Type) → List (DataW H) → Bool := fun _ ds => decide (uptoBulkAll ds ≤ 1048576)
def OpenSpec.upto (s : _root_.Go.ChangeSpec) : _root_.Go.OpenSpec := { _root_.Go.OpenSpec.ofChange s with cond := some uptoSmall }

/-- 'isatistop.TopDried', WHERE WHAT IT READS IS OF BULK AT MOST 1048576: true; the input reads as it did. -/
def topDriedUptoRow : OpenClaim := { program := "ytkljfdkmjdjpfaagreat", sum := "3090e3410d4d7e6a427a9dc9de471231295ae125ab82ad2546306e00c56ff28d", func := "isatis/isatistop.TopDried", spec := "topDried", unfollowed := true, recurses := true, plainKeys := false, apart := false, narrowed := true }
def TopDriedUptoSaid : Prop := topDriedUptoRow.holds Tryz.pinned (OpenSpec.upto topDriedSpec)

/-- 'isatislaw03.RackPlays', WHERE WHAT IT READS IS OF BULK AT MOST 1048576: true; the input reads as it did. -/
def rackPlaysUptoRow : OpenClaim := { program := "ytkljfdkmjdjpfaagreat", sum := "3090e3410d4d7e6a427a9dc9de471231295ae125ab82ad2546306e00c56ff28d", func := "isatis/isatislaw03.RackPlays", spec := "rackPlays", inPlace := ["slices.overlaps[int]"], unfollowed := true, recurses := true, plainKeys := false, apart := false, narrowed := true }
def RackPlaysUptoSaid : Prop := rackPlaysUptoRow.holds Tryz.pinned (OpenSpec.upto rackPlaysSpec)

/-- 'isatislaw03.RackSaves', WHERE WHAT IT READS IS OF BULK AT MOST 1048576: true; the input reads as it did. -/
def rackSavesUptoRow : OpenClaim := { program := "ytkljfdkmjdjpfaagreat", sum := "3090e3410d4d7e6a427a9dc9de471231295ae125ab82ad2546306e00c56ff28d", func := "isatis/isatislaw03.RackSaves", spec := "rackSaves", inPlace := ["slices.overlaps[int]"], unfollowed := true, recurses := true, plainKeys := false, apart := false, narrowed := true }
def RackSavesUptoSaid : Prop := rackSavesUptoRow.holds Tryz.pinned (OpenSpec.upto rackSavesSpec)

/-- 'isatislaw03.RackProves', WHERE WHAT IT READS IS OF BULK AT MOST 1048576: true; the input reads as it did. -/
def rackProvesUptoRow : OpenClaim := { program := "ytkljfdkmjdjpfaagreat", sum := "3090e3410d4d7e6a427a9dc9de471231295ae125ab82ad2546306e00c56ff28d", func := "isatis/isatislaw03.RackProves", spec := "rackProves", inPlace := ["slices.overlaps[int]"], unfollowed := true, recurses := true, plainKeys := false, apart := false, narrowed := true }
def RackProvesUptoSaid : Prop := rackProvesUptoRow.holds Tryz.pinned (OpenSpec.upto rackProvesSpec)

/-- 'isatislaw03.RackBest', WHERE WHAT IT READS IS OF BULK AT MOST 1048576: true; the input reads as it did. -/
def rackBestUptoRow : OpenClaim := { program := "ytkljfdkmjdjpfaagreat", sum := "3090e3410d4d7e6a427a9dc9de471231295ae125ab82ad2546306e00c56ff28d", func := "isatis/isatislaw03.RackBest", spec := "rackBest", inPlace := ["slices.overlaps[int]"], unfollowed := true, recurses := true, plainKeys := false, apart := false, narrowed := true }
def RackBestUptoSaid : Prop := rackBestUptoRow.holds Tryz.pinned (OpenSpec.upto rackBestSpec)

/-- 'isatislaw03.RackTruth', WHERE WHAT IT READS IS OF BULK AT MOST 1048576: true; the input reads as it did. -/
def rackTruthUptoRow : OpenClaim := { program := "ytkljfdkmjdjpfaagreat", sum := "3090e3410d4d7e6a427a9dc9de471231295ae125ab82ad2546306e00c56ff28d", func := "isatis/isatislaw03.RackTruth", spec := "rackTruth", inPlace := ["slices.overlaps[int]"], unfollowed := true, recurses := true, plainKeys := false, apart := false, narrowed := true }
def RackTruthUptoSaid : Prop := rackTruthUptoRow.holds Tryz.pinned (OpenSpec.upto rackTruthSpec)

/-- 'isatislaw03.RackNoBetter', WHERE WHAT IT READS IS OF BULK AT MOST 1048576: true; the input reads as it did. -/
def rackNoBetterUptoRow : OpenClaim := { program := "ytkljfdkmjdjpfaagreat", sum := "3090e3410d4d7e6a427a9dc9de471231295ae125ab82ad2546306e00c56ff28d", func := "isatis/isatislaw03.RackNoBetter", spec := "rackNoBetter", inPlace := ["slices.overlaps[int]"], unfollowed := true, recurses := true, plainKeys := false, apart := false, narrowed := true }
def RackNoBetterUptoSaid : Prop := rackNoBetterUptoRow.holds Tryz.pinned (OpenSpec.upto rackNoBetterSpec)

/-- 'isatislaw03.RackLies', WHERE WHAT IT READS IS OF BULK AT MOST 1048576: true; the input reads as it did. -/
def rackLiesUptoRow : OpenClaim := { program := "ytkljfdkmjdjpfaagreat", sum := "3090e3410d4d7e6a427a9dc9de471231295ae125ab82ad2546306e00c56ff28d", func := "isatis/isatislaw03.RackLies", spec := "rackLies", inPlace := ["slices.overlaps[int]"], unfollowed := true, recurses := true, plainKeys := false, apart := false, narrowed := true }
def RackLiesUptoSaid : Prop := rackLiesUptoRow.holds Tryz.pinned (OpenSpec.upto rackLiesSpec)

/-- 'isatislaw03.RackOrderOfOne', WHERE WHAT IT READS IS OF BULK AT MOST 1048576: true; the input reads as it did. -/
def rackOrderOfOneUptoRow : OpenClaim := { program := "ytkljfdkmjdjpfaagreat", sum := "3090e3410d4d7e6a427a9dc9de471231295ae125ab82ad2546306e00c56ff28d", func := "isatis/isatislaw03.RackOrderOfOne", spec := "rackOrderOfOne", inPlace := ["slices.overlaps[int]"], unfollowed := true, recurses := true, plainKeys := false, apart := false, narrowed := true }
def RackOrderOfOneUptoSaid : Prop := rackOrderOfOneUptoRow.holds Tryz.pinned (OpenSpec.upto rackOrderOfOneSpec)

/-- 'isatislaw03.RackAnother', WHERE WHAT IT READS IS OF BULK AT MOST 1048576: true; the input reads as it did. -/
def rackAnotherUptoRow : OpenClaim := { program := "ytkljfdkmjdjpfaagreat", sum := "3090e3410d4d7e6a427a9dc9de471231295ae125ab82ad2546306e00c56ff28d", func := "isatis/isatislaw03.RackAnother", spec := "rackAnother", inPlace := ["slices.overlaps[int]"], unfollowed := true, recurses := true, plainKeys := false, apart := false, narrowed := true }
def RackAnotherUptoSaid : Prop := rackAnotherUptoRow.holds Tryz.pinned (OpenSpec.upto rackAnotherSpec)

/-- 'isatislaw03.RackSunny', WHERE WHAT IT READS IS OF BULK AT MOST 1048576: true; the input reads as it did. -/
def rackSunnyUptoRow : OpenClaim := { program := "ytkljfdkmjdjpfaagreat", sum := "3090e3410d4d7e6a427a9dc9de471231295ae125ab82ad2546306e00c56ff28d", func := "isatis/isatislaw03.RackSunny", spec := "rackSunny", inPlace := ["slices.overlaps[int]"], unfollowed := true, recurses := true, plainKeys := false, apart := false, narrowed := true }
def RackSunnyUptoSaid : Prop := rackSunnyUptoRow.holds Tryz.pinned (OpenSpec.upto rackSunnySpec)

/-- 'isatislaw03.RackFewer', WHERE WHAT IT READS IS OF BULK AT MOST 1048576: true; the input reads as it did. -/
def rackFewerUptoRow : OpenClaim := { program := "ytkljfdkmjdjpfaagreat", sum := "3090e3410d4d7e6a427a9dc9de471231295ae125ab82ad2546306e00c56ff28d", func := "isatis/isatislaw03.RackFewer", spec := "rackFewer", inPlace := ["slices.overlaps[int]"], unfollowed := true, recurses := true, plainKeys := false, apart := false, narrowed := true }
def RackFewerUptoSaid : Prop := rackFewerUptoRow.holds Tryz.pinned (OpenSpec.upto rackFewerSpec)

end Rows
end Go.Proofs.YtkljfdkmjdjpfaaGreat
