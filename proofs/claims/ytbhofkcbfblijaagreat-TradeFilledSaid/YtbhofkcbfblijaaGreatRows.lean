/-
  No cell of these rows narrows 'for every input' (looked for: loops, veiled, ifaces, maps, wideKeys, modest, calm, conditions, laid).
  DERIVED. THE GIVEN ROWS OF THIS SEAT. 20 by the template 'for every input the law returns true; each argument reads behind the call as it read before'; 0 by the template 'total and deterministic' (their statements: YtbhofkcbfblijaaGreatTotals.lean).
  GIVEN WITH THE SEED: the statements are not yours to turn. If you find one false, say at which input.
  Laid BY PROGRAM, IN A SANDBOX (cutbox-rows.mjs): the forced cells as the released guide's own fill.sh prints them over the translation be6e6f778d30b8c8… (all of the seat's roots in one cut). By AI agents, Wed Nov 11 2026. No macro, syntax, notation, axiom, sorry.
-/
import Derived.Test.YtbhofkcbfblijaaGreatChecked
import GoSem.Claim
import GoSem.ClaimJoined
import GoSem.ClaimMapViews
import Derived.JoinedTies
import Derived.KernelRfl
namespace Go.Proofs.YtbhofkcbfblijaaGreat
/- THE CELL 'sum', in the pinned program and in every row, IS THE sha256 OF THE DUMP (.gsa) THAT YtbhofkcbfblijaaGreatProg.lean LOADS. Nothing in Lean hashes anything: it is a label: what it is worth is what the hold of that sum in a sandbox is worth. -/
noncomputable def Tryz.pinned : Pinned := { name := "ytbhofkcbfblijaagreat", sum := "be6e6f778d30b8c897db2113f03bb3c366725f87e77590d475c77af6c3d87c1d", checked := Tryz.checked }
namespace Rows
def none {H : Type} : Left H := { results := [], args := [] }

/-- 'isatistop.TopDecided': WHATEVER THE INPUT: true; the input reads as it did. -/
def topDecidedSpec : ChangeSpec := { name := "topDecided", fn := fun _ => fun
  | [d1, d2, d3, d4, d5] => { results := [.lit (.bool true)], args := [d1, d2, d3, d4, d5] }
  | _ => none }
def topDecidedRow : OpenClaim := { program := "ytbhofkcbfblijaagreat", sum := "be6e6f778d30b8c897db2113f03bb3c366725f87e77590d475c77af6c3d87c1d", func := "isatis/isatistop.TopDecided", spec := "topDecided", unfollowed := true, recurses := true, plainKeys := false, apart := false }
def TopDecidedSaid : Prop := topDecidedRow.holds Tryz.pinned (OpenSpec.ofChange topDecidedSpec)

/-- ITS FALSE NEIGHBOUR: 'it returns false'. Refute it at one input. -/
def topDecidedWrong : ChangeSpec := { name := "topDecided", fn := fun _ => fun
  | [d1, d2, d3, d4, d5] => { results := [.lit (.bool false)], args := [d1, d2, d3, d4, d5] }
  | _ => none }
def TopDecidedWrongFalsely : Prop := topDecidedRow.holds Tryz.pinned (OpenSpec.ofChange topDecidedWrong)

/-- 'isatislaw10.TradeBest': WHATEVER THE INPUT: true; the input reads as it did. -/
def tradeBestSpec : ChangeSpec := { name := "tradeBest", fn := fun _ => fun
  | [d] => { results := [.lit (.bool true)], args := [d] }
  | _ => none }
def tradeBestRow : OpenClaim := { program := "ytbhofkcbfblijaagreat", sum := "be6e6f778d30b8c897db2113f03bb3c366725f87e77590d475c77af6c3d87c1d", func := "isatis/isatislaw10.TradeBest", spec := "tradeBest", unfollowed := true, recurses := true, plainKeys := false, apart := false }
def TradeBestSaid : Prop := tradeBestRow.holds Tryz.pinned (OpenSpec.ofChange tradeBestSpec)

/-- ITS FALSE NEIGHBOUR: 'it returns false'. Refute it at one input. -/
def tradeBestWrong : ChangeSpec := { name := "tradeBest", fn := fun _ => fun
  | [d] => { results := [.lit (.bool false)], args := [d] }
  | _ => none }
def TradeBestWrongFalsely : Prop := tradeBestRow.holds Tryz.pinned (OpenSpec.ofChange tradeBestWrong)

/-- 'isatislaw10.TradeLeaves': WHATEVER THE INPUT: true; the input reads as it did. -/
def tradeLeavesSpec : ChangeSpec := { name := "tradeLeaves", fn := fun _ => fun
  | [d] => { results := [.lit (.bool true)], args := [d] }
  | _ => none }
def tradeLeavesRow : OpenClaim := { program := "ytbhofkcbfblijaagreat", sum := "be6e6f778d30b8c897db2113f03bb3c366725f87e77590d475c77af6c3d87c1d", func := "isatis/isatislaw10.TradeLeaves", spec := "tradeLeaves", unfollowed := true, recurses := true, plainKeys := false, apart := false }
def TradeLeavesSaid : Prop := tradeLeavesRow.holds Tryz.pinned (OpenSpec.ofChange tradeLeavesSpec)

/-- ITS FALSE NEIGHBOUR: 'it returns false'. Refute it at one input. -/
def tradeLeavesWrong : ChangeSpec := { name := "tradeLeaves", fn := fun _ => fun
  | [d] => { results := [.lit (.bool false)], args := [d] }
  | _ => none }
def TradeLeavesWrongFalsely : Prop := tradeLeavesRow.holds Tryz.pinned (OpenSpec.ofChange tradeLeavesWrong)

/-- 'isatislaw10.TradeEnds': WHATEVER THE INPUT: true; the input reads as it did. -/
def tradeEndsSpec : ChangeSpec := { name := "tradeEnds", fn := fun _ => fun
  | [d1, d2, d3] => { results := [.lit (.bool true)], args := [d1, d2, d3] }
  | _ => none }
def tradeEndsRow : OpenClaim := { program := "ytbhofkcbfblijaagreat", sum := "be6e6f778d30b8c897db2113f03bb3c366725f87e77590d475c77af6c3d87c1d", func := "isatis/isatislaw10.TradeEnds", spec := "tradeEnds", unfollowed := true, recurses := true, plainKeys := false, apart := false }
def TradeEndsSaid : Prop := tradeEndsRow.holds Tryz.pinned (OpenSpec.ofChange tradeEndsSpec)

/-- ITS FALSE NEIGHBOUR: 'it returns false'. Refute it at one input. -/
def tradeEndsWrong : ChangeSpec := { name := "tradeEnds", fn := fun _ => fun
  | [d1, d2, d3] => { results := [.lit (.bool false)], args := [d1, d2, d3] }
  | _ => none }
def TradeEndsWrongFalsely : Prop := tradeEndsRow.holds Tryz.pinned (OpenSpec.ofChange tradeEndsWrong)

/-- 'isatislaw10.TradeSums': WHATEVER THE INPUT: true; the input reads as it did. -/
def tradeSumsSpec : ChangeSpec := { name := "tradeSums", fn := fun _ => fun
  | [d1, d2] => { results := [.lit (.bool true)], args := [d1, d2] }
  | _ => none }
def tradeSumsRow : OpenClaim := { program := "ytbhofkcbfblijaagreat", sum := "be6e6f778d30b8c897db2113f03bb3c366725f87e77590d475c77af6c3d87c1d", func := "isatis/isatislaw10.TradeSums", spec := "tradeSums", unfollowed := true, recurses := true, plainKeys := false, apart := false }
def TradeSumsSaid : Prop := tradeSumsRow.holds Tryz.pinned (OpenSpec.ofChange tradeSumsSpec)

/-- ITS FALSE NEIGHBOUR: 'it returns false'. Refute it at one input. -/
def tradeSumsWrong : ChangeSpec := { name := "tradeSums", fn := fun _ => fun
  | [d1, d2] => { results := [.lit (.bool false)], args := [d1, d2] }
  | _ => none }
def TradeSumsWrongFalsely : Prop := tradeSumsRow.holds Tryz.pinned (OpenSpec.ofChange tradeSumsWrong)

/-- 'isatislaw10.TradeStronger': WHATEVER THE INPUT: true; the input reads as it did. -/
def tradeStrongerSpec : ChangeSpec := { name := "tradeStronger", fn := fun _ => fun
  | [d1, d2, d3, d4] => { results := [.lit (.bool true)], args := [d1, d2, d3, d4] }
  | _ => none }
def tradeStrongerRow : OpenClaim := { program := "ytbhofkcbfblijaagreat", sum := "be6e6f778d30b8c897db2113f03bb3c366725f87e77590d475c77af6c3d87c1d", func := "isatis/isatislaw10.TradeStronger", spec := "tradeStronger", unfollowed := true, recurses := true, plainKeys := false, apart := false }
def TradeStrongerSaid : Prop := tradeStrongerRow.holds Tryz.pinned (OpenSpec.ofChange tradeStrongerSpec)

/-- ITS FALSE NEIGHBOUR: 'it returns false'. Refute it at one input. -/
def tradeStrongerWrong : ChangeSpec := { name := "tradeStronger", fn := fun _ => fun
  | [d1, d2, d3, d4] => { results := [.lit (.bool false)], args := [d1, d2, d3, d4] }
  | _ => none }
def TradeStrongerWrongFalsely : Prop := tradeStrongerRow.holds Tryz.pinned (OpenSpec.ofChange tradeStrongerWrong)

/-- 'isatislaw10.TradeFirst': WHATEVER THE INPUT: true; the input reads as it did. -/
def tradeFirstSpec : ChangeSpec := { name := "tradeFirst", fn := fun _ => fun
  | [d] => { results := [.lit (.bool true)], args := [d] }
  | _ => none }
def tradeFirstRow : OpenClaim := { program := "ytbhofkcbfblijaagreat", sum := "be6e6f778d30b8c897db2113f03bb3c366725f87e77590d475c77af6c3d87c1d", func := "isatis/isatislaw10.TradeFirst", spec := "tradeFirst", unfollowed := true, recurses := true, plainKeys := false, apart := false }
def TradeFirstSaid : Prop := tradeFirstRow.holds Tryz.pinned (OpenSpec.ofChange tradeFirstSpec)

/-- ITS FALSE NEIGHBOUR: 'it returns false'. Refute it at one input. -/
def tradeFirstWrong : ChangeSpec := { name := "tradeFirst", fn := fun _ => fun
  | [d] => { results := [.lit (.bool false)], args := [d] }
  | _ => none }
def TradeFirstWrongFalsely : Prop := tradeFirstRow.holds Tryz.pinned (OpenSpec.ofChange tradeFirstWrong)

/-- 'isatislaw10.TradeLeft': WHATEVER THE INPUT: true; the input reads as it did. -/
def tradeLeftSpec : ChangeSpec := { name := "tradeLeft", fn := fun _ => fun
  | [d1, d2] => { results := [.lit (.bool true)], args := [d1, d2] }
  | _ => none }
def tradeLeftRow : OpenClaim := { program := "ytbhofkcbfblijaagreat", sum := "be6e6f778d30b8c897db2113f03bb3c366725f87e77590d475c77af6c3d87c1d", func := "isatis/isatislaw10.TradeLeft", spec := "tradeLeft", unfollowed := true, recurses := true, plainKeys := false, apart := false }
def TradeLeftSaid : Prop := tradeLeftRow.holds Tryz.pinned (OpenSpec.ofChange tradeLeftSpec)

/-- ITS FALSE NEIGHBOUR: 'it returns false'. Refute it at one input. -/
def tradeLeftWrong : ChangeSpec := { name := "tradeLeft", fn := fun _ => fun
  | [d1, d2] => { results := [.lit (.bool false)], args := [d1, d2] }
  | _ => none }
def TradeLeftWrongFalsely : Prop := tradeLeftRow.holds Tryz.pinned (OpenSpec.ofChange tradeLeftWrong)

/-- 'isatislaw10.TradeBounds': WHATEVER THE INPUT: true; the input reads as it did. -/
def tradeBoundsSpec : ChangeSpec := { name := "tradeBounds", fn := fun _ => fun
  | [d1, d2, d3] => { results := [.lit (.bool true)], args := [d1, d2, d3] }
  | _ => none }
def tradeBoundsRow : OpenClaim := { program := "ytbhofkcbfblijaagreat", sum := "be6e6f778d30b8c897db2113f03bb3c366725f87e77590d475c77af6c3d87c1d", func := "isatis/isatislaw10.TradeBounds", spec := "tradeBounds", unfollowed := true, recurses := true, plainKeys := false, apart := false }
def TradeBoundsSaid : Prop := tradeBoundsRow.holds Tryz.pinned (OpenSpec.ofChange tradeBoundsSpec)

/-- ITS FALSE NEIGHBOUR: 'it returns false'. Refute it at one input. -/
def tradeBoundsWrong : ChangeSpec := { name := "tradeBounds", fn := fun _ => fun
  | [d1, d2, d3] => { results := [.lit (.bool false)], args := [d1, d2, d3] }
  | _ => none }
def TradeBoundsWrongFalsely : Prop := tradeBoundsRow.holds Tryz.pinned (OpenSpec.ofChange tradeBoundsWrong)

/-- 'isatislaw10.TradeShorts': WHATEVER THE INPUT: true; the input reads as it did. -/
def tradeShortsSpec : ChangeSpec := { name := "tradeShorts", fn := fun _ => fun
  | [d1, d2] => { results := [.lit (.bool true)], args := [d1, d2] }
  | _ => none }
def tradeShortsRow : OpenClaim := { program := "ytbhofkcbfblijaagreat", sum := "be6e6f778d30b8c897db2113f03bb3c366725f87e77590d475c77af6c3d87c1d", func := "isatis/isatislaw10.TradeShorts", spec := "tradeShorts", unfollowed := true, recurses := true, plainKeys := false, apart := false }
def TradeShortsSaid : Prop := tradeShortsRow.holds Tryz.pinned (OpenSpec.ofChange tradeShortsSpec)

/-- ITS FALSE NEIGHBOUR: 'it returns false'. Refute it at one input. -/
def tradeShortsWrong : ChangeSpec := { name := "tradeShorts", fn := fun _ => fun
  | [d1, d2] => { results := [.lit (.bool false)], args := [d1, d2] }
  | _ => none }
def TradeShortsWrongFalsely : Prop := tradeShortsRow.holds Tryz.pinned (OpenSpec.ofChange tradeShortsWrong)

/-- 'isatislaw10.TradeGreatest': WHATEVER THE INPUT: true; the input reads as it did. -/
def tradeGreatestSpec : ChangeSpec := { name := "tradeGreatest", fn := fun _ => fun
  | [d1, d2, d3] => { results := [.lit (.bool true)], args := [d1, d2, d3] }
  | _ => none }
def tradeGreatestRow : OpenClaim := { program := "ytbhofkcbfblijaagreat", sum := "be6e6f778d30b8c897db2113f03bb3c366725f87e77590d475c77af6c3d87c1d", func := "isatis/isatislaw10.TradeGreatest", spec := "tradeGreatest", unfollowed := true, recurses := true, plainKeys := false, apart := false }
def TradeGreatestSaid : Prop := tradeGreatestRow.holds Tryz.pinned (OpenSpec.ofChange tradeGreatestSpec)

/-- ITS FALSE NEIGHBOUR: 'it returns false'. Refute it at one input. -/
def tradeGreatestWrong : ChangeSpec := { name := "tradeGreatest", fn := fun _ => fun
  | [d1, d2, d3] => { results := [.lit (.bool false)], args := [d1, d2, d3] }
  | _ => none }
def TradeGreatestWrongFalsely : Prop := tradeGreatestRow.holds Tryz.pinned (OpenSpec.ofChange tradeGreatestWrong)

/-- 'isatislaw10.TradeProof': WHATEVER THE INPUT: true; the input reads as it did. -/
def tradeProofSpec : ChangeSpec := { name := "tradeProof", fn := fun _ => fun
  | [d1, d2] => { results := [.lit (.bool true)], args := [d1, d2] }
  | _ => none }
def tradeProofRow : OpenClaim := { program := "ytbhofkcbfblijaagreat", sum := "be6e6f778d30b8c897db2113f03bb3c366725f87e77590d475c77af6c3d87c1d", func := "isatis/isatislaw10.TradeProof", spec := "tradeProof", unfollowed := true, recurses := true, plainKeys := false, apart := false }
def TradeProofSaid : Prop := tradeProofRow.holds Tryz.pinned (OpenSpec.ofChange tradeProofSpec)

/-- ITS FALSE NEIGHBOUR: 'it returns false'. Refute it at one input. -/
def tradeProofWrong : ChangeSpec := { name := "tradeProof", fn := fun _ => fun
  | [d1, d2] => { results := [.lit (.bool false)], args := [d1, d2] }
  | _ => none }
def TradeProofWrongFalsely : Prop := tradeProofRow.holds Tryz.pinned (OpenSpec.ofChange tradeProofWrong)

/-- 'isatislaw10.TradePlays': WHATEVER THE INPUT: true; the input reads as it did. -/
def tradePlaysSpec : ChangeSpec := { name := "tradePlays", fn := fun _ => fun
  | [d1, d2] => { results := [.lit (.bool true)], args := [d1, d2] }
  | _ => none }
def tradePlaysRow : OpenClaim := { program := "ytbhofkcbfblijaagreat", sum := "be6e6f778d30b8c897db2113f03bb3c366725f87e77590d475c77af6c3d87c1d", func := "isatis/isatislaw10.TradePlays", spec := "tradePlays", unfollowed := true, recurses := true, plainKeys := false, apart := false }
def TradePlaysSaid : Prop := tradePlaysRow.holds Tryz.pinned (OpenSpec.ofChange tradePlaysSpec)

/-- ITS FALSE NEIGHBOUR: 'it returns false'. Refute it at one input. -/
def tradePlaysWrong : ChangeSpec := { name := "tradePlays", fn := fun _ => fun
  | [d1, d2] => { results := [.lit (.bool false)], args := [d1, d2] }
  | _ => none }
def TradePlaysWrongFalsely : Prop := tradePlaysRow.holds Tryz.pinned (OpenSpec.ofChange tradePlaysWrong)

/-- 'isatislaw10.TradeTruth': WHATEVER THE INPUT: true; the input reads as it did. -/
def tradeTruthSpec : ChangeSpec := { name := "tradeTruth", fn := fun _ => fun
  | [d1, d2, d3, d4] => { results := [.lit (.bool true)], args := [d1, d2, d3, d4] }
  | _ => none }
def tradeTruthRow : OpenClaim := { program := "ytbhofkcbfblijaagreat", sum := "be6e6f778d30b8c897db2113f03bb3c366725f87e77590d475c77af6c3d87c1d", func := "isatis/isatislaw10.TradeTruth", spec := "tradeTruth", unfollowed := true, recurses := true, plainKeys := false, apart := false }
def TradeTruthSaid : Prop := tradeTruthRow.holds Tryz.pinned (OpenSpec.ofChange tradeTruthSpec)

/-- ITS FALSE NEIGHBOUR: 'it returns false'. Refute it at one input. -/
def tradeTruthWrong : ChangeSpec := { name := "tradeTruth", fn := fun _ => fun
  | [d1, d2, d3, d4] => { results := [.lit (.bool false)], args := [d1, d2, d3, d4] }
  | _ => none }
def TradeTruthWrongFalsely : Prop := tradeTruthRow.holds Tryz.pinned (OpenSpec.ofChange tradeTruthWrong)

/-- 'isatislaw10.TradeFills': WHATEVER THE INPUT: true; the input reads as it did. -/
def tradeFillsSpec : ChangeSpec := { name := "tradeFills", fn := fun _ => fun
  | [d1, d2] => { results := [.lit (.bool true)], args := [d1, d2] }
  | _ => none }
def tradeFillsRow : OpenClaim := { program := "ytbhofkcbfblijaagreat", sum := "be6e6f778d30b8c897db2113f03bb3c366725f87e77590d475c77af6c3d87c1d", func := "isatis/isatislaw10.TradeFills", spec := "tradeFills", unfollowed := true, recurses := true, plainKeys := false, apart := false }
def TradeFillsSaid : Prop := tradeFillsRow.holds Tryz.pinned (OpenSpec.ofChange tradeFillsSpec)

/-- ITS FALSE NEIGHBOUR: 'it returns false'. Refute it at one input. -/
def tradeFillsWrong : ChangeSpec := { name := "tradeFills", fn := fun _ => fun
  | [d1, d2] => { results := [.lit (.bool false)], args := [d1, d2] }
  | _ => none }
def TradeFillsWrongFalsely : Prop := tradeFillsRow.holds Tryz.pinned (OpenSpec.ofChange tradeFillsWrong)

/-- 'isatislaw10.TradeMore': WHATEVER THE INPUT: true; the input reads as it did. -/
def tradeMoreSpec : ChangeSpec := { name := "tradeMore", fn := fun _ => fun
  | [d1, d2, d3] => { results := [.lit (.bool true)], args := [d1, d2, d3] }
  | _ => none }
def tradeMoreRow : OpenClaim := { program := "ytbhofkcbfblijaagreat", sum := "be6e6f778d30b8c897db2113f03bb3c366725f87e77590d475c77af6c3d87c1d", func := "isatis/isatislaw10.TradeMore", spec := "tradeMore", unfollowed := true, recurses := true, plainKeys := false, apart := false }
def TradeMoreSaid : Prop := tradeMoreRow.holds Tryz.pinned (OpenSpec.ofChange tradeMoreSpec)

/-- ITS FALSE NEIGHBOUR: 'it returns false'. Refute it at one input. -/
def tradeMoreWrong : ChangeSpec := { name := "tradeMore", fn := fun _ => fun
  | [d1, d2, d3] => { results := [.lit (.bool false)], args := [d1, d2, d3] }
  | _ => none }
def TradeMoreWrongFalsely : Prop := tradeMoreRow.holds Tryz.pinned (OpenSpec.ofChange tradeMoreWrong)

/-- 'isatislaw10.TradeFewer': WHATEVER THE INPUT: true; the input reads as it did. -/
def tradeFewerSpec : ChangeSpec := { name := "tradeFewer", fn := fun _ => fun
  | [d1, d2] => { results := [.lit (.bool true)], args := [d1, d2] }
  | _ => none }
def tradeFewerRow : OpenClaim := { program := "ytbhofkcbfblijaagreat", sum := "be6e6f778d30b8c897db2113f03bb3c366725f87e77590d475c77af6c3d87c1d", func := "isatis/isatislaw10.TradeFewer", spec := "tradeFewer", unfollowed := true, recurses := true, plainKeys := false, apart := false }
def TradeFewerSaid : Prop := tradeFewerRow.holds Tryz.pinned (OpenSpec.ofChange tradeFewerSpec)

/-- ITS FALSE NEIGHBOUR: 'it returns false'. Refute it at one input. -/
def tradeFewerWrong : ChangeSpec := { name := "tradeFewer", fn := fun _ => fun
  | [d1, d2] => { results := [.lit (.bool false)], args := [d1, d2] }
  | _ => none }
def TradeFewerWrongFalsely : Prop := tradeFewerRow.holds Tryz.pinned (OpenSpec.ofChange tradeFewerWrong)

/-- 'isatislaw10.TradeFilled': WHATEVER THE INPUT: true; the input reads as it did. -/
def tradeFilledSpec : ChangeSpec := { name := "tradeFilled", fn := fun _ => fun
  | [d1, d2, d3] => { results := [.lit (.bool true)], args := [d1, d2, d3] }
  | _ => none }
def tradeFilledRow : OpenClaim := { program := "ytbhofkcbfblijaagreat", sum := "be6e6f778d30b8c897db2113f03bb3c366725f87e77590d475c77af6c3d87c1d", func := "isatis/isatislaw10.TradeFilled", spec := "tradeFilled", unfollowed := true, recurses := true, plainKeys := false, apart := false }
def TradeFilledSaid : Prop := tradeFilledRow.holds Tryz.pinned (OpenSpec.ofChange tradeFilledSpec)

/-- ITS FALSE NEIGHBOUR: 'it returns false'. Refute it at one input. -/
def tradeFilledWrong : ChangeSpec := { name := "tradeFilled", fn := fun _ => fun
  | [d1, d2, d3] => { results := [.lit (.bool false)], args := [d1, d2, d3] }
  | _ => none }
def TradeFilledWrongFalsely : Prop := tradeFilledRow.holds Tryz.pinned (OpenSpec.ofChange tradeFilledWrong)

/-- 'isatislaw10.TradeNames': WHATEVER THE INPUT: true; the input reads as it did. -/
def tradeNamesSpec : ChangeSpec := { name := "tradeNames", fn := fun _ => fun
  | [] => { results := [.lit (.bool true)], args := [] }
  | _ => none }
def tradeNamesRow : OpenClaim := { program := "ytbhofkcbfblijaagreat", sum := "be6e6f778d30b8c897db2113f03bb3c366725f87e77590d475c77af6c3d87c1d", func := "isatis/isatislaw10.TradeNames", spec := "tradeNames", unfollowed := true, recurses := true, plainKeys := false, apart := false }
def TradeNamesSaid : Prop := tradeNamesRow.holds Tryz.pinned (OpenSpec.ofChange tradeNamesSpec)

/-- ITS FALSE NEIGHBOUR: 'it returns false'. Refute it at one input. -/
def tradeNamesWrong : ChangeSpec := { name := "tradeNames", fn := fun _ => fun
  | [] => { results := [.lit (.bool false)], args := [] }
  | _ => none }
def TradeNamesWrongFalsely : Prop := tradeNamesRow.holds Tryz.pinned (OpenSpec.ofChange tradeNamesWrong)

/-- 'isatislaw10.TradeLayer': WHATEVER THE INPUT: true; the input reads as it did. -/
def tradeLayerSpec : ChangeSpec := { name := "tradeLayer", fn := fun _ => fun
  | [d1, d2, d3] => { results := [.lit (.bool true)], args := [d1, d2, d3] }
  | _ => none }
def tradeLayerRow : OpenClaim := { program := "ytbhofkcbfblijaagreat", sum := "be6e6f778d30b8c897db2113f03bb3c366725f87e77590d475c77af6c3d87c1d", func := "isatis/isatislaw10.TradeLayer", spec := "tradeLayer", unfollowed := true, recurses := true, plainKeys := false, apart := false }
def TradeLayerSaid : Prop := tradeLayerRow.holds Tryz.pinned (OpenSpec.ofChange tradeLayerSpec)

/-- ITS FALSE NEIGHBOUR: 'it returns false'. Refute it at one input. -/
def tradeLayerWrong : ChangeSpec := { name := "tradeLayer", fn := fun _ => fun
  | [d1, d2, d3] => { results := [.lit (.bool false)], args := [d1, d2, d3] }
  | _ => none }
def TradeLayerWrongFalsely : Prop := tradeLayerRow.holds Tryz.pinned (OpenSpec.ofChange tradeLayerWrong)

/- THE SECOND FORM. 'bulk': how many values and letters a reading holds, each counted each time it is reached (what is shared counts as often as it is met; a slice's spare places count too). A statement '..UptoSaid' is the law's where the arguments, and the package variables that the reading takes, are together of bulk at most 1048576: NARROWER than '..Said'. Prove '..Said' where nothing that the law and all that it calls make is longer than what came in: it says more and counts as full. Else prove '..UptoSaid'. A law counts once. -/
mutual
def uptoBulk {H : Type} : DataW H → Nat
  | .lit (.string bytes) => bytes.length + 1
  | .lit _ => 1
  | .nil => 1
  | .ptr d => uptoBulk d + 1
  | .slice elems spare => uptoBulkAll elems + uptoBulkAll spare + 1
  | .agg parts => uptoBulkAll parts + 1
  | .iface _ d => uptoBulk d + 1
  | .map entries => uptoBulkEntries entries + 1
  | .held _ => 1
def uptoBulkAll {H : Type} : List (DataW H) → Nat
  | [] => 0
  | d :: r => uptoBulk d + uptoBulkAll r
def uptoBulkEntries {H : Type} : List (Lit × DataW H) → Nat
  | [] => 0
  | x :: r => uptoBulkEntry x + uptoBulkEntries r
def uptoBulkEntry {H : Type} : Lit × DataW H → Nat
  | (.string bytes, d) => bytes.length + uptoBulk d + 1
  | (_, d) => uptoBulk d + 1
 end
def uptoSmall : (H : Type) → List (DataW H) → Bool := fun _ ds => decide (uptoBulkAll ds ≤ 1048576)
def OpenSpec.upto (s : _root_.Go.ChangeSpec) : _root_.Go.OpenSpec := { _root_.Go.OpenSpec.ofChange s with cond := some uptoSmall }

/-- 'isatistop.TopDecided', WHERE WHAT IT READS IS OF BULK AT MOST 1048576: true; the input reads as it did. -/
def topDecidedUptoRow : OpenClaim := { program := "ytbhofkcbfblijaagreat", sum := "be6e6f778d30b8c897db2113f03bb3c366725f87e77590d475c77af6c3d87c1d", func := "isatis/isatistop.TopDecided", spec := "topDecided", unfollowed := true, recurses := true, plainKeys := false, apart := false, narrowed := true }
def TopDecidedUptoSaid : Prop := topDecidedUptoRow.holds Tryz.pinned (OpenSpec.upto topDecidedSpec)

/-- 'isatislaw10.TradeBest', WHERE WHAT IT READS IS OF BULK AT MOST 1048576: true; the input reads as it did. -/
def tradeBestUptoRow : OpenClaim := { program := "ytbhofkcbfblijaagreat", sum := "be6e6f778d30b8c897db2113f03bb3c366725f87e77590d475c77af6c3d87c1d", func := "isatis/isatislaw10.TradeBest", spec := "tradeBest", unfollowed := true, recurses := true, plainKeys := false, apart := false, narrowed := true }
def TradeBestUptoSaid : Prop := tradeBestUptoRow.holds Tryz.pinned (OpenSpec.upto tradeBestSpec)

/-- 'isatislaw10.TradeLeaves', WHERE WHAT IT READS IS OF BULK AT MOST 1048576: true; the input reads as it did. -/
def tradeLeavesUptoRow : OpenClaim := { program := "ytbhofkcbfblijaagreat", sum := "be6e6f778d30b8c897db2113f03bb3c366725f87e77590d475c77af6c3d87c1d", func := "isatis/isatislaw10.TradeLeaves", spec := "tradeLeaves", unfollowed := true, recurses := true, plainKeys := false, apart := false, narrowed := true }
def TradeLeavesUptoSaid : Prop := tradeLeavesUptoRow.holds Tryz.pinned (OpenSpec.upto tradeLeavesSpec)

/-- 'isatislaw10.TradeEnds', WHERE WHAT IT READS IS OF BULK AT MOST 1048576: true; the input reads as it did. -/
def tradeEndsUptoRow : OpenClaim := { program := "ytbhofkcbfblijaagreat", sum := "be6e6f778d30b8c897db2113f03bb3c366725f87e77590d475c77af6c3d87c1d", func := "isatis/isatislaw10.TradeEnds", spec := "tradeEnds", unfollowed := true, recurses := true, plainKeys := false, apart := false, narrowed := true }
def TradeEndsUptoSaid : Prop := tradeEndsUptoRow.holds Tryz.pinned (OpenSpec.upto tradeEndsSpec)

/-- 'isatislaw10.TradeSums', WHERE WHAT IT READS IS OF BULK AT MOST 1048576: true; the input reads as it did. -/
def tradeSumsUptoRow : OpenClaim := { program := "ytbhofkcbfblijaagreat", sum := "be6e6f778d30b8c897db2113f03bb3c366725f87e77590d475c77af6c3d87c1d", func := "isatis/isatislaw10.TradeSums", spec := "tradeSums", unfollowed := true, recurses := true, plainKeys := false, apart := false, narrowed := true }
def TradeSumsUptoSaid : Prop := tradeSumsUptoRow.holds Tryz.pinned (OpenSpec.upto tradeSumsSpec)

/-- 'isatislaw10.TradeStronger', WHERE WHAT IT READS IS OF BULK AT MOST 1048576: true; the input reads as it did. -/
def tradeStrongerUptoRow : OpenClaim := { program := "ytbhofkcbfblijaagreat", sum := "be6e6f778d30b8c897db2113f03bb3c366725f87e77590d475c77af6c3d87c1d", func := "isatis/isatislaw10.TradeStronger", spec := "tradeStronger", unfollowed := true, recurses := true, plainKeys := false, apart := false, narrowed := true }
def TradeStrongerUptoSaid : Prop := tradeStrongerUptoRow.holds Tryz.pinned (OpenSpec.upto tradeStrongerSpec)

/-- 'isatislaw10.TradeFirst', WHERE WHAT IT READS IS OF BULK AT MOST 1048576: true; the input reads as it did. -/
def tradeFirstUptoRow : OpenClaim := { program := "ytbhofkcbfblijaagreat", sum := "be6e6f778d30b8c897db2113f03bb3c366725f87e77590d475c77af6c3d87c1d", func := "isatis/isatislaw10.TradeFirst", spec := "tradeFirst", unfollowed := true, recurses := true, plainKeys := false, apart := false, narrowed := true }
def TradeFirstUptoSaid : Prop := tradeFirstUptoRow.holds Tryz.pinned (OpenSpec.upto tradeFirstSpec)

/-- 'isatislaw10.TradeLeft', WHERE WHAT IT READS IS OF BULK AT MOST 1048576: true; the input reads as it did. -/
def tradeLeftUptoRow : OpenClaim := { program := "ytbhofkcbfblijaagreat", sum := "be6e6f778d30b8c897db2113f03bb3c366725f87e77590d475c77af6c3d87c1d", func := "isatis/isatislaw10.TradeLeft", spec := "tradeLeft", unfollowed := true, recurses := true, plainKeys := false, apart := false, narrowed := true }
def TradeLeftUptoSaid : Prop := tradeLeftUptoRow.holds Tryz.pinned (OpenSpec.upto tradeLeftSpec)

/-- 'isatislaw10.TradeBounds', WHERE WHAT IT READS IS OF BULK AT MOST 1048576: true; the input reads as it did. -/
def tradeBoundsUptoRow : OpenClaim := { program := "ytbhofkcbfblijaagreat", sum := "be6e6f778d30b8c897db2113f03bb3c366725f87e77590d475c77af6c3d87c1d", func := "isatis/isatislaw10.TradeBounds", spec := "tradeBounds", unfollowed := true, recurses := true, plainKeys := false, apart := false, narrowed := true }
def TradeBoundsUptoSaid : Prop := tradeBoundsUptoRow.holds Tryz.pinned (OpenSpec.upto tradeBoundsSpec)

/-- 'isatislaw10.TradeShorts', WHERE WHAT IT READS IS OF BULK AT MOST 1048576: true; the input reads as it did. -/
def tradeShortsUptoRow : OpenClaim := { program := "ytbhofkcbfblijaagreat", sum := "be6e6f778d30b8c897db2113f03bb3c366725f87e77590d475c77af6c3d87c1d", func := "isatis/isatislaw10.TradeShorts", spec := "tradeShorts", unfollowed := true, recurses := true, plainKeys := false, apart := false, narrowed := true }
def TradeShortsUptoSaid : Prop := tradeShortsUptoRow.holds Tryz.pinned (OpenSpec.upto tradeShortsSpec)

/-- 'isatislaw10.TradeGreatest', WHERE WHAT IT READS IS OF BULK AT MOST 1048576: true; the input reads as it did. -/
def tradeGreatestUptoRow : OpenClaim := { program := "ytbhofkcbfblijaagreat", sum := "be6e6f778d30b8c897db2113f03bb3c366725f87e77590d475c77af6c3d87c1d", func := "isatis/isatislaw10.TradeGreatest", spec := "tradeGreatest", unfollowed := true, recurses := true, plainKeys := false, apart := false, narrowed := true }
def TradeGreatestUptoSaid : Prop := tradeGreatestUptoRow.holds Tryz.pinned (OpenSpec.upto tradeGreatestSpec)

/-- 'isatislaw10.TradeProof', WHERE WHAT IT READS IS OF BULK AT MOST 1048576: true; the input reads as it did. -/
def tradeProofUptoRow : OpenClaim := { program := "ytbhofkcbfblijaagreat", sum := "be6e6f778d30b8c897db2113f03bb3c366725f87e77590d475c77af6c3d87c1d", func := "isatis/isatislaw10.TradeProof", spec := "tradeProof", unfollowed := true, recurses := true, plainKeys := false, apart := false, narrowed := true }
def TradeProofUptoSaid : Prop := tradeProofUptoRow.holds Tryz.pinned (OpenSpec.upto tradeProofSpec)

/-- 'isatislaw10.TradePlays', WHERE WHAT IT READS IS OF BULK AT MOST 1048576: true; the input reads as it did. -/
def tradePlaysUptoRow : OpenClaim := { program := "ytbhofkcbfblijaagreat", sum := "be6e6f778d30b8c897db2113f03bb3c366725f87e77590d475c77af6c3d87c1d", func := "isatis/isatislaw10.TradePlays", spec := "tradePlays", unfollowed := true, recurses := true, plainKeys := false, apart := false, narrowed := true }
def TradePlaysUptoSaid : Prop := tradePlaysUptoRow.holds Tryz.pinned (OpenSpec.upto tradePlaysSpec)

/-- 'isatislaw10.TradeTruth', WHERE WHAT IT READS IS OF BULK AT MOST 1048576: true; the input reads as it did. -/
def tradeTruthUptoRow : OpenClaim := { program := "ytbhofkcbfblijaagreat", sum := "be6e6f778d30b8c897db2113f03bb3c366725f87e77590d475c77af6c3d87c1d", func := "isatis/isatislaw10.TradeTruth", spec := "tradeTruth", unfollowed := true, recurses := true, plainKeys := false, apart := false, narrowed := true }
def TradeTruthUptoSaid : Prop := tradeTruthUptoRow.holds Tryz.pinned (OpenSpec.upto tradeTruthSpec)

/-- 'isatislaw10.TradeFills', WHERE WHAT IT READS IS OF BULK AT MOST 1048576: true; the input reads as it did. -/
def tradeFillsUptoRow : OpenClaim := { program := "ytbhofkcbfblijaagreat", sum := "be6e6f778d30b8c897db2113f03bb3c366725f87e77590d475c77af6c3d87c1d", func := "isatis/isatislaw10.TradeFills", spec := "tradeFills", unfollowed := true, recurses := true, plainKeys := false, apart := false, narrowed := true }
def TradeFillsUptoSaid : Prop := tradeFillsUptoRow.holds Tryz.pinned (OpenSpec.upto tradeFillsSpec)

/-- 'isatislaw10.TradeMore', WHERE WHAT IT READS IS OF BULK AT MOST 1048576: true; the input reads as it did. -/
def tradeMoreUptoRow : OpenClaim := { program := "ytbhofkcbfblijaagreat", sum := "be6e6f778d30b8c897db2113f03bb3c366725f87e77590d475c77af6c3d87c1d", func := "isatis/isatislaw10.TradeMore", spec := "tradeMore", unfollowed := true, recurses := true, plainKeys := false, apart := false, narrowed := true }
def TradeMoreUptoSaid : Prop := tradeMoreUptoRow.holds Tryz.pinned (OpenSpec.upto tradeMoreSpec)

/-- 'isatislaw10.TradeFewer', WHERE WHAT IT READS IS OF BULK AT MOST 1048576: true; the input reads as it did. -/
def tradeFewerUptoRow : OpenClaim := { program := "ytbhofkcbfblijaagreat", sum := "be6e6f778d30b8c897db2113f03bb3c366725f87e77590d475c77af6c3d87c1d", func := "isatis/isatislaw10.TradeFewer", spec := "tradeFewer", unfollowed := true, recurses := true, plainKeys := false, apart := false, narrowed := true }
def TradeFewerUptoSaid : Prop := tradeFewerUptoRow.holds Tryz.pinned (OpenSpec.upto tradeFewerSpec)

/-- 'isatislaw10.TradeFilled', WHERE WHAT IT READS IS OF BULK AT MOST 1048576: true; the input reads as it did. -/
def tradeFilledUptoRow : OpenClaim := { program := "ytbhofkcbfblijaagreat", sum := "be6e6f778d30b8c897db2113f03bb3c366725f87e77590d475c77af6c3d87c1d", func := "isatis/isatislaw10.TradeFilled", spec := "tradeFilled", unfollowed := true, recurses := true, plainKeys := false, apart := false, narrowed := true }
def TradeFilledUptoSaid : Prop := tradeFilledUptoRow.holds Tryz.pinned (OpenSpec.upto tradeFilledSpec)

/-- 'isatislaw10.TradeNames', WHERE WHAT IT READS IS OF BULK AT MOST 1048576: true; the input reads as it did. -/
def tradeNamesUptoRow : OpenClaim := { program := "ytbhofkcbfblijaagreat", sum := "be6e6f778d30b8c897db2113f03bb3c366725f87e77590d475c77af6c3d87c1d", func := "isatis/isatislaw10.TradeNames", spec := "tradeNames", unfollowed := true, recurses := true, plainKeys := false, apart := false, narrowed := true }
def TradeNamesUptoSaid : Prop := tradeNamesUptoRow.holds Tryz.pinned (OpenSpec.upto tradeNamesSpec)

/-- 'isatislaw10.TradeLayer', WHERE WHAT IT READS IS OF BULK AT MOST 1048576: true; the input reads as it did. -/
def tradeLayerUptoRow : OpenClaim := { program := "ytbhofkcbfblijaagreat", sum := "be6e6f778d30b8c897db2113f03bb3c366725f87e77590d475c77af6c3d87c1d", func := "isatis/isatislaw10.TradeLayer", spec := "tradeLayer", unfollowed := true, recurses := true, plainKeys := false, apart := false, narrowed := true }
def TradeLayerUptoSaid : Prop := tradeLayerUptoRow.holds Tryz.pinned (OpenSpec.upto tradeLayerSpec)

end Rows
end Go.Proofs.YtbhofkcbfblijaaGreat
