/-
  No cell of these rows narrows 'for every input' (looked for: loops, veiled, ifaces, maps, wideKeys, modest, calm, conditions, laid).
  DERIVED. THE GIVEN ROWS OF THIS SEAT. 22 by the template 'for every input the law returns true; each argument reads behind the call as it read before'; 0 by the template 'total and deterministic' (their statements: YtdlnnjgjfngccaaTotals.lean).
  GIVEN WITH THE SEED: the statements are not yours to turn. If you find one false, say at which input.
  Laid BY PROGRAM, IN A SANDBOX (cutbox-rows.mjs): the forced cells as the released guide's own fill.sh prints them over the translation 30842983feed94ba… (all of the seat's roots in one cut). By AI agents, Wed Nov 11 2026. No macro, syntax, notation, axiom, sorry.
-/
import Derived.Test.YtdlnnjgjfngccaaChecked
import GoSem.Claim
import GoSem.ClaimJoined
import GoSem.ClaimMapViews
import Derived.JoinedTies
import Derived.KernelRfl
namespace Go.Proofs.Ytdlnnjgjfngccaa
/- THE CELL 'sum', in the pinned program and in every row, IS THE sha256 OF THE DUMP (.gsa) THAT YtdlnnjgjfngccaaProg.lean LOADS. Nothing in Lean hashes anything: it is a label: what it is worth is what the hold of that sum in a sandbox is worth. -/
noncomputable def Try.pinned : Pinned := { name := "ytdlnnjgjfngccaa", sum := "30842983feed94ba551a7d68370f61ee6e270f4418baab194cfdf51fbc28ffa8", checked := Try.checked }
namespace Rows
def none {H : Type} : Left H := { results := [], args := [] }

/-- 'laws.FnExactEarOpen': WHATEVER THE INPUT: true; the input reads as it did. -/
def fnExactEarOpenSpec : ChangeSpec := { name := "fnExactEarOpen", fn := fun _ => fun
  | [d] => { results := [.lit (.bool true)], args := [d] }
  | _ => none }
def fnExactEarOpenRow : OpenClaim := { program := "ytdlnnjgjfngccaa", sum := "30842983feed94ba551a7d68370f61ee6e270f4418baab194cfdf51fbc28ffa8", func := "loop.example/osier/laws.FnExactEarOpen", spec := "fnExactEarOpen", plainKeys := false, apart := false }
def FnExactEarOpenSaid : Prop := fnExactEarOpenRow.holds Try.pinned (OpenSpec.ofChange fnExactEarOpenSpec)

/-- ITS FALSE NEIGHBOUR: 'it returns false'. Refute it at one input. -/
def fnExactEarOpenWrong : ChangeSpec := { name := "fnExactEarOpen", fn := fun _ => fun
  | [d] => { results := [.lit (.bool false)], args := [d] }
  | _ => none }
def FnExactEarOpenWrongFalsely : Prop := fnExactEarOpenRow.holds Try.pinned (OpenSpec.ofChange fnExactEarOpenWrong)

/-- 'laws.FnExactFlowCount': WHATEVER THE INPUT: true; the input reads as it did. -/
def fnExactFlowCountSpec : ChangeSpec := { name := "fnExactFlowCount", fn := fun _ => fun
  | [d1, d2, d3] => { results := [.lit (.bool true)], args := [d1, d2, d3] }
  | _ => none }
def fnExactFlowCountRow : OpenClaim := { program := "ytdlnnjgjfngccaa", sum := "30842983feed94ba551a7d68370f61ee6e270f4418baab194cfdf51fbc28ffa8", func := "loop.example/osier/laws.FnExactFlowCount", spec := "fnExactFlowCount", plainKeys := false, apart := false }
def FnExactFlowCountSaid : Prop := fnExactFlowCountRow.holds Try.pinned (OpenSpec.ofChange fnExactFlowCountSpec)

/-- ITS FALSE NEIGHBOUR: 'it returns false'. Refute it at one input. -/
def fnExactFlowCountWrong : ChangeSpec := { name := "fnExactFlowCount", fn := fun _ => fun
  | [d1, d2, d3] => { results := [.lit (.bool false)], args := [d1, d2, d3] }
  | _ => none }
def FnExactFlowCountWrongFalsely : Prop := fnExactFlowCountRow.holds Try.pinned (OpenSpec.ofChange fnExactFlowCountWrong)

/-- 'laws.FnExactFlowWeak': WHATEVER THE INPUT: true; the input reads as it did. -/
def fnExactFlowWeakSpec : ChangeSpec := { name := "fnExactFlowWeak", fn := fun _ => fun
  | [d] => { results := [.lit (.bool true)], args := [d] }
  | _ => none }
def fnExactFlowWeakRow : OpenClaim := { program := "ytdlnnjgjfngccaa", sum := "30842983feed94ba551a7d68370f61ee6e270f4418baab194cfdf51fbc28ffa8", func := "loop.example/osier/laws.FnExactFlowWeak", spec := "fnExactFlowWeak", plainKeys := false, apart := false }
def FnExactFlowWeakSaid : Prop := fnExactFlowWeakRow.holds Try.pinned (OpenSpec.ofChange fnExactFlowWeakSpec)

/-- ITS FALSE NEIGHBOUR: 'it returns false'. Refute it at one input. -/
def fnExactFlowWeakWrong : ChangeSpec := { name := "fnExactFlowWeak", fn := fun _ => fun
  | [d] => { results := [.lit (.bool false)], args := [d] }
  | _ => none }
def FnExactFlowWeakWrongFalsely : Prop := fnExactFlowWeakRow.holds Try.pinned (OpenSpec.ofChange fnExactFlowWeakWrong)

/-- 'laws.FnExactTwoOk': WHATEVER THE INPUT: true; the input reads as it did. -/
def fnExactTwoOkSpec : ChangeSpec := { name := "fnExactTwoOk", fn := fun _ => fun
  | [d1, d2, d3, d4, d5] => { results := [.lit (.bool true)], args := [d1, d2, d3, d4, d5] }
  | _ => none }
def fnExactTwoOkRow : OpenClaim := { program := "ytdlnnjgjfngccaa", sum := "30842983feed94ba551a7d68370f61ee6e270f4418baab194cfdf51fbc28ffa8", func := "loop.example/osier/laws.FnExactTwoOk", spec := "fnExactTwoOk", plainKeys := false, apart := false }
def FnExactTwoOkSaid : Prop := fnExactTwoOkRow.holds Try.pinned (OpenSpec.ofChange fnExactTwoOkSpec)

/-- ITS FALSE NEIGHBOUR: 'it returns false'. Refute it at one input. -/
def fnExactTwoOkWrong : ChangeSpec := { name := "fnExactTwoOk", fn := fun _ => fun
  | [d1, d2, d3, d4, d5] => { results := [.lit (.bool false)], args := [d1, d2, d3, d4, d5] }
  | _ => none }
def FnExactTwoOkWrongFalsely : Prop := fnExactTwoOkRow.holds Try.pinned (OpenSpec.ofChange fnExactTwoOkWrong)

/-- 'laws.FnExactTwoCut': WHATEVER THE INPUT: true; the input reads as it did. -/
def fnExactTwoCutSpec : ChangeSpec := { name := "fnExactTwoCut", fn := fun _ => fun
  | [d1, d2, d3] => { results := [.lit (.bool true)], args := [d1, d2, d3] }
  | _ => none }
def fnExactTwoCutRow : OpenClaim := { program := "ytdlnnjgjfngccaa", sum := "30842983feed94ba551a7d68370f61ee6e270f4418baab194cfdf51fbc28ffa8", func := "loop.example/osier/laws.FnExactTwoCut", spec := "fnExactTwoCut", plainKeys := false, apart := false }
def FnExactTwoCutSaid : Prop := fnExactTwoCutRow.holds Try.pinned (OpenSpec.ofChange fnExactTwoCutSpec)

/-- ITS FALSE NEIGHBOUR: 'it returns false'. Refute it at one input. -/
def fnExactTwoCutWrong : ChangeSpec := { name := "fnExactTwoCut", fn := fun _ => fun
  | [d1, d2, d3] => { results := [.lit (.bool false)], args := [d1, d2, d3] }
  | _ => none }
def FnExactTwoCutWrongFalsely : Prop := fnExactTwoCutRow.holds Try.pinned (OpenSpec.ofChange fnExactTwoCutWrong)

/-- 'laws.FnExactFlowParts': WHATEVER THE INPUT: true; the input reads as it did. -/
def fnExactFlowPartsSpec : ChangeSpec := { name := "fnExactFlowParts", fn := fun _ => fun
  | [d1, d2, d3, d4] => { results := [.lit (.bool true)], args := [d1, d2, d3, d4] }
  | _ => none }
def fnExactFlowPartsRow : OpenClaim := { program := "ytdlnnjgjfngccaa", sum := "30842983feed94ba551a7d68370f61ee6e270f4418baab194cfdf51fbc28ffa8", func := "loop.example/osier/laws.FnExactFlowParts", spec := "fnExactFlowParts", plainKeys := false, apart := false }
def FnExactFlowPartsSaid : Prop := fnExactFlowPartsRow.holds Try.pinned (OpenSpec.ofChange fnExactFlowPartsSpec)

/-- ITS FALSE NEIGHBOUR: 'it returns false'. Refute it at one input. -/
def fnExactFlowPartsWrong : ChangeSpec := { name := "fnExactFlowParts", fn := fun _ => fun
  | [d1, d2, d3, d4] => { results := [.lit (.bool false)], args := [d1, d2, d3, d4] }
  | _ => none }
def FnExactFlowPartsWrongFalsely : Prop := fnExactFlowPartsRow.holds Try.pinned (OpenSpec.ofChange fnExactFlowPartsWrong)

/-- 'laws.FnFlowThree': WHATEVER THE INPUT: true; the input reads as it did. -/
def fnFlowThreeSpec : ChangeSpec := { name := "fnFlowThree", fn := fun _ => fun
  | [d1, d2] => { results := [.lit (.bool true)], args := [d1, d2] }
  | _ => none }
def fnFlowThreeRow : OpenClaim := { program := "ytdlnnjgjfngccaa", sum := "30842983feed94ba551a7d68370f61ee6e270f4418baab194cfdf51fbc28ffa8", func := "loop.example/osier/laws.FnFlowThree", spec := "fnFlowThree", plainKeys := false, apart := false }
def FnFlowThreeSaid : Prop := fnFlowThreeRow.holds Try.pinned (OpenSpec.ofChange fnFlowThreeSpec)

/-- ITS FALSE NEIGHBOUR: 'it returns false'. Refute it at one input. -/
def fnFlowThreeWrong : ChangeSpec := { name := "fnFlowThree", fn := fun _ => fun
  | [d1, d2] => { results := [.lit (.bool false)], args := [d1, d2] }
  | _ => none }
def FnFlowThreeWrongFalsely : Prop := fnFlowThreeRow.holds Try.pinned (OpenSpec.ofChange fnFlowThreeWrong)

/-- 'laws.FnFlowWeak': WHATEVER THE INPUT: true; the input reads as it did. -/
def fnFlowWeakSpec : ChangeSpec := { name := "fnFlowWeak", fn := fun _ => fun
  | [d] => { results := [.lit (.bool true)], args := [d] }
  | _ => none }
def fnFlowWeakRow : OpenClaim := { program := "ytdlnnjgjfngccaa", sum := "30842983feed94ba551a7d68370f61ee6e270f4418baab194cfdf51fbc28ffa8", func := "loop.example/osier/laws.FnFlowWeak", spec := "fnFlowWeak", plainKeys := false, apart := false }
def FnFlowWeakSaid : Prop := fnFlowWeakRow.holds Try.pinned (OpenSpec.ofChange fnFlowWeakSpec)

/-- ITS FALSE NEIGHBOUR: 'it returns false'. Refute it at one input. -/
def fnFlowWeakWrong : ChangeSpec := { name := "fnFlowWeak", fn := fun _ => fun
  | [d] => { results := [.lit (.bool false)], args := [d] }
  | _ => none }
def FnFlowWeakWrongFalsely : Prop := fnFlowWeakRow.holds Try.pinned (OpenSpec.ofChange fnFlowWeakWrong)

/-- 'laws.FnExactFlowCut': WHATEVER THE INPUT: true; the input reads as it did. -/
def fnExactFlowCutSpec : ChangeSpec := { name := "fnExactFlowCut", fn := fun _ => fun
  | [d1, d2, d3] => { results := [.lit (.bool true)], args := [d1, d2, d3] }
  | _ => none }
def fnExactFlowCutRow : OpenClaim := { program := "ytdlnnjgjfngccaa", sum := "30842983feed94ba551a7d68370f61ee6e270f4418baab194cfdf51fbc28ffa8", func := "loop.example/osier/laws.FnExactFlowCut", spec := "fnExactFlowCut", plainKeys := false, apart := false }
def FnExactFlowCutSaid : Prop := fnExactFlowCutRow.holds Try.pinned (OpenSpec.ofChange fnExactFlowCutSpec)

/-- ITS FALSE NEIGHBOUR: 'it returns false'. Refute it at one input. -/
def fnExactFlowCutWrong : ChangeSpec := { name := "fnExactFlowCut", fn := fun _ => fun
  | [d1, d2, d3] => { results := [.lit (.bool false)], args := [d1, d2, d3] }
  | _ => none }
def FnExactFlowCutWrongFalsely : Prop := fnExactFlowCutRow.holds Try.pinned (OpenSpec.ofChange fnExactFlowCutWrong)

/-- 'laws.FnExactFlowOk': WHATEVER THE INPUT: true; the input reads as it did. -/
def fnExactFlowOkSpec : ChangeSpec := { name := "fnExactFlowOk", fn := fun _ => fun
  | [d1, d2, d3, d4] => { results := [.lit (.bool true)], args := [d1, d2, d3, d4] }
  | _ => none }
def fnExactFlowOkRow : OpenClaim := { program := "ytdlnnjgjfngccaa", sum := "30842983feed94ba551a7d68370f61ee6e270f4418baab194cfdf51fbc28ffa8", func := "loop.example/osier/laws.FnExactFlowOk", spec := "fnExactFlowOk", plainKeys := false, apart := false }
def FnExactFlowOkSaid : Prop := fnExactFlowOkRow.holds Try.pinned (OpenSpec.ofChange fnExactFlowOkSpec)

/-- ITS FALSE NEIGHBOUR: 'it returns false'. Refute it at one input. -/
def fnExactFlowOkWrong : ChangeSpec := { name := "fnExactFlowOk", fn := fun _ => fun
  | [d1, d2, d3, d4] => { results := [.lit (.bool false)], args := [d1, d2, d3, d4] }
  | _ => none }
def FnExactFlowOkWrongFalsely : Prop := fnExactFlowOkRow.holds Try.pinned (OpenSpec.ofChange fnExactFlowOkWrong)

/-- 'laws.FnFlowTurn': WHATEVER THE INPUT: true; the input reads as it did. -/
def fnFlowTurnSpec : ChangeSpec := { name := "fnFlowTurn", fn := fun _ => fun
  | [d] => { results := [.lit (.bool true)], args := [d] }
  | _ => none }
def fnFlowTurnRow : OpenClaim := { program := "ytdlnnjgjfngccaa", sum := "30842983feed94ba551a7d68370f61ee6e270f4418baab194cfdf51fbc28ffa8", func := "loop.example/osier/laws.FnFlowTurn", spec := "fnFlowTurn", plainKeys := false, apart := false }
def FnFlowTurnSaid : Prop := fnFlowTurnRow.holds Try.pinned (OpenSpec.ofChange fnFlowTurnSpec)

/-- ITS FALSE NEIGHBOUR: 'it returns false'. Refute it at one input. -/
def fnFlowTurnWrong : ChangeSpec := { name := "fnFlowTurn", fn := fun _ => fun
  | [d] => { results := [.lit (.bool false)], args := [d] }
  | _ => none }
def FnFlowTurnWrongFalsely : Prop := fnFlowTurnRow.holds Try.pinned (OpenSpec.ofChange fnFlowTurnWrong)

/-- 'laws.FnExactBlockCuts': WHATEVER THE INPUT: true; the input reads as it did. -/
def fnExactBlockCutsSpec : ChangeSpec := { name := "fnExactBlockCuts", fn := fun _ => fun
  | [d] => { results := [.lit (.bool true)], args := [d] }
  | _ => none }
def fnExactBlockCutsRow : OpenClaim := { program := "ytdlnnjgjfngccaa", sum := "30842983feed94ba551a7d68370f61ee6e270f4418baab194cfdf51fbc28ffa8", func := "loop.example/osier/laws.FnExactBlockCuts", spec := "fnExactBlockCuts", plainKeys := false, apart := false }
def FnExactBlockCutsSaid : Prop := fnExactBlockCutsRow.holds Try.pinned (OpenSpec.ofChange fnExactBlockCutsSpec)

/-- ITS FALSE NEIGHBOUR: 'it returns false'. Refute it at one input. -/
def fnExactBlockCutsWrong : ChangeSpec := { name := "fnExactBlockCuts", fn := fun _ => fun
  | [d] => { results := [.lit (.bool false)], args := [d] }
  | _ => none }
def FnExactBlockCutsWrongFalsely : Prop := fnExactBlockCutsRow.holds Try.pinned (OpenSpec.ofChange fnExactBlockCutsWrong)

/-- 'laws.FnFlowNone': WHATEVER THE INPUT: true; the input reads as it did. -/
def fnFlowNoneSpec : ChangeSpec := { name := "fnFlowNone", fn := fun _ => fun
  | [d] => { results := [.lit (.bool true)], args := [d] }
  | _ => none }
def fnFlowNoneRow : OpenClaim := { program := "ytdlnnjgjfngccaa", sum := "30842983feed94ba551a7d68370f61ee6e270f4418baab194cfdf51fbc28ffa8", func := "loop.example/osier/laws.FnFlowNone", spec := "fnFlowNone", plainKeys := false, apart := false }
def FnFlowNoneSaid : Prop := fnFlowNoneRow.holds Try.pinned (OpenSpec.ofChange fnFlowNoneSpec)

/-- ITS FALSE NEIGHBOUR: 'it returns false'. Refute it at one input. -/
def fnFlowNoneWrong : ChangeSpec := { name := "fnFlowNone", fn := fun _ => fun
  | [d] => { results := [.lit (.bool false)], args := [d] }
  | _ => none }
def FnFlowNoneWrongFalsely : Prop := fnFlowNoneRow.holds Try.pinned (OpenSpec.ofChange fnFlowNoneWrong)

/-- 'laws.FnBlockCuts': WHATEVER THE INPUT: true; the input reads as it did. -/
def fnBlockCutsSpec : ChangeSpec := { name := "fnBlockCuts", fn := fun _ => fun
  | [d] => { results := [.lit (.bool true)], args := [d] }
  | _ => none }
def fnBlockCutsRow : OpenClaim := { program := "ytdlnnjgjfngccaa", sum := "30842983feed94ba551a7d68370f61ee6e270f4418baab194cfdf51fbc28ffa8", func := "loop.example/osier/laws.FnBlockCuts", spec := "fnBlockCuts", plainKeys := false, apart := false }
def FnBlockCutsSaid : Prop := fnBlockCutsRow.holds Try.pinned (OpenSpec.ofChange fnBlockCutsSpec)

/-- ITS FALSE NEIGHBOUR: 'it returns false'. Refute it at one input. -/
def fnBlockCutsWrong : ChangeSpec := { name := "fnBlockCuts", fn := fun _ => fun
  | [d] => { results := [.lit (.bool false)], args := [d] }
  | _ => none }
def FnBlockCutsWrongFalsely : Prop := fnBlockCutsRow.holds Try.pinned (OpenSpec.ofChange fnBlockCutsWrong)

/-- 'laws.FnFlowCutTie': WHATEVER THE INPUT: true; the input reads as it did. -/
def fnFlowCutTieSpec : ChangeSpec := { name := "fnFlowCutTie", fn := fun _ => fun
  | [d1, d2] => { results := [.lit (.bool true)], args := [d1, d2] }
  | _ => none }
def fnFlowCutTieRow : OpenClaim := { program := "ytdlnnjgjfngccaa", sum := "30842983feed94ba551a7d68370f61ee6e270f4418baab194cfdf51fbc28ffa8", func := "loop.example/osier/laws.FnFlowCutTie", spec := "fnFlowCutTie", plainKeys := false, apart := false }
def FnFlowCutTieSaid : Prop := fnFlowCutTieRow.holds Try.pinned (OpenSpec.ofChange fnFlowCutTieSpec)

/-- ITS FALSE NEIGHBOUR: 'it returns false'. Refute it at one input. -/
def fnFlowCutTieWrong : ChangeSpec := { name := "fnFlowCutTie", fn := fun _ => fun
  | [d1, d2] => { results := [.lit (.bool false)], args := [d1, d2] }
  | _ => none }
def FnFlowCutTieWrongFalsely : Prop := fnFlowCutTieRow.holds Try.pinned (OpenSpec.ofChange fnFlowCutTieWrong)

/-- 'laws.FnFlowBridge': WHATEVER THE INPUT: true; the input reads as it did. -/
def fnFlowBridgeSpec : ChangeSpec := { name := "fnFlowBridge", fn := fun _ => fun
  | [d] => { results := [.lit (.bool true)], args := [d] }
  | _ => none }
def fnFlowBridgeRow : OpenClaim := { program := "ytdlnnjgjfngccaa", sum := "30842983feed94ba551a7d68370f61ee6e270f4418baab194cfdf51fbc28ffa8", func := "loop.example/osier/laws.FnFlowBridge", spec := "fnFlowBridge", plainKeys := false, apart := false }
def FnFlowBridgeSaid : Prop := fnFlowBridgeRow.holds Try.pinned (OpenSpec.ofChange fnFlowBridgeSpec)

/-- ITS FALSE NEIGHBOUR: 'it returns false'. Refute it at one input. -/
def fnFlowBridgeWrong : ChangeSpec := { name := "fnFlowBridge", fn := fun _ => fun
  | [d] => { results := [.lit (.bool false)], args := [d] }
  | _ => none }
def FnFlowBridgeWrongFalsely : Prop := fnFlowBridgeRow.holds Try.pinned (OpenSpec.ofChange fnFlowBridgeWrong)

/-- 'laws.FnBridgeCount': WHATEVER THE INPUT: true; the input reads as it did. -/
def fnBridgeCountSpec : ChangeSpec := { name := "fnBridgeCount", fn := fun _ => fun
  | [d] => { results := [.lit (.bool true)], args := [d] }
  | _ => none }
def fnBridgeCountRow : OpenClaim := { program := "ytdlnnjgjfngccaa", sum := "30842983feed94ba551a7d68370f61ee6e270f4418baab194cfdf51fbc28ffa8", func := "loop.example/osier/laws.FnBridgeCount", spec := "fnBridgeCount", plainKeys := false, apart := false }
def FnBridgeCountSaid : Prop := fnBridgeCountRow.holds Try.pinned (OpenSpec.ofChange fnBridgeCountSpec)

/-- ITS FALSE NEIGHBOUR: 'it returns false'. Refute it at one input. -/
def fnBridgeCountWrong : ChangeSpec := { name := "fnBridgeCount", fn := fun _ => fun
  | [d] => { results := [.lit (.bool false)], args := [d] }
  | _ => none }
def FnBridgeCountWrongFalsely : Prop := fnBridgeCountRow.holds Try.pinned (OpenSpec.ofChange fnBridgeCountWrong)

/-- 'laws.FnFlowCut': WHATEVER THE INPUT: true; the input reads as it did. -/
def fnFlowCutSpec : ChangeSpec := { name := "fnFlowCut", fn := fun _ => fun
  | [d1, d2] => { results := [.lit (.bool true)], args := [d1, d2] }
  | _ => none }
def fnFlowCutRow : OpenClaim := { program := "ytdlnnjgjfngccaa", sum := "30842983feed94ba551a7d68370f61ee6e270f4418baab194cfdf51fbc28ffa8", func := "loop.example/osier/laws.FnFlowCut", spec := "fnFlowCut", plainKeys := false, apart := false }
def FnFlowCutSaid : Prop := fnFlowCutRow.holds Try.pinned (OpenSpec.ofChange fnFlowCutSpec)

/-- ITS FALSE NEIGHBOUR: 'it returns false'. Refute it at one input. -/
def fnFlowCutWrong : ChangeSpec := { name := "fnFlowCut", fn := fun _ => fun
  | [d1, d2] => { results := [.lit (.bool false)], args := [d1, d2] }
  | _ => none }
def FnFlowCutWrongFalsely : Prop := fnFlowCutRow.holds Try.pinned (OpenSpec.ofChange fnFlowCutWrong)

/-- 'laws.FnBridgeParts': WHATEVER THE INPUT: true; the input reads as it did. -/
def fnBridgePartsSpec : ChangeSpec := { name := "fnBridgeParts", fn := fun _ => fun
  | [d] => { results := [.lit (.bool true)], args := [d] }
  | _ => none }
def fnBridgePartsRow : OpenClaim := { program := "ytdlnnjgjfngccaa", sum := "30842983feed94ba551a7d68370f61ee6e270f4418baab194cfdf51fbc28ffa8", func := "loop.example/osier/laws.FnBridgeParts", spec := "fnBridgeParts", plainKeys := false, apart := false }
def FnBridgePartsSaid : Prop := fnBridgePartsRow.holds Try.pinned (OpenSpec.ofChange fnBridgePartsSpec)

/-- ITS FALSE NEIGHBOUR: 'it returns false'. Refute it at one input. -/
def fnBridgePartsWrong : ChangeSpec := { name := "fnBridgeParts", fn := fun _ => fun
  | [d] => { results := [.lit (.bool false)], args := [d] }
  | _ => none }
def FnBridgePartsWrongFalsely : Prop := fnBridgePartsRow.holds Try.pinned (OpenSpec.ofChange fnBridgePartsWrong)

/-- 'laws.FnTreeOk': WHATEVER THE INPUT: true; the input reads as it did. -/
def fnTreeOkSpec : ChangeSpec := { name := "fnTreeOk", fn := fun _ => fun
  | [d1, d2] => { results := [.lit (.bool true)], args := [d1, d2] }
  | _ => none }
def fnTreeOkRow : OpenClaim := { program := "ytdlnnjgjfngccaa", sum := "30842983feed94ba551a7d68370f61ee6e270f4418baab194cfdf51fbc28ffa8", func := "loop.example/osier/laws.FnTreeOk", spec := "fnTreeOk", plainKeys := false, apart := false }
def FnTreeOkSaid : Prop := fnTreeOkRow.holds Try.pinned (OpenSpec.ofChange fnTreeOkSpec)

/-- ITS FALSE NEIGHBOUR: 'it returns false'. Refute it at one input. -/
def fnTreeOkWrong : ChangeSpec := { name := "fnTreeOk", fn := fun _ => fun
  | [d1, d2] => { results := [.lit (.bool false)], args := [d1, d2] }
  | _ => none }
def FnTreeOkWrongFalsely : Prop := fnTreeOkRow.holds Try.pinned (OpenSpec.ofChange fnTreeOkWrong)

/-- 'laws.FnBridgeApart': WHATEVER THE INPUT: true; the input reads as it did. -/
def fnBridgeApartSpec : ChangeSpec := { name := "fnBridgeApart", fn := fun _ => fun
  | [d] => { results := [.lit (.bool true)], args := [d] }
  | _ => none }
def fnBridgeApartRow : OpenClaim := { program := "ytdlnnjgjfngccaa", sum := "30842983feed94ba551a7d68370f61ee6e270f4418baab194cfdf51fbc28ffa8", func := "loop.example/osier/laws.FnBridgeApart", spec := "fnBridgeApart", plainKeys := false, apart := false }
def FnBridgeApartSaid : Prop := fnBridgeApartRow.holds Try.pinned (OpenSpec.ofChange fnBridgeApartSpec)

/-- ITS FALSE NEIGHBOUR: 'it returns false'. Refute it at one input. -/
def fnBridgeApartWrong : ChangeSpec := { name := "fnBridgeApart", fn := fun _ => fun
  | [d] => { results := [.lit (.bool false)], args := [d] }
  | _ => none }
def FnBridgeApartWrongFalsely : Prop := fnBridgeApartRow.holds Try.pinned (OpenSpec.ofChange fnBridgeApartWrong)

/-- 'laws.FnFlowParts': WHATEVER THE INPUT: true; the input reads as it did. -/
def fnFlowPartsSpec : ChangeSpec := { name := "fnFlowParts", fn := fun _ => fun
  | [d] => { results := [.lit (.bool true)], args := [d] }
  | _ => none }
def fnFlowPartsRow : OpenClaim := { program := "ytdlnnjgjfngccaa", sum := "30842983feed94ba551a7d68370f61ee6e270f4418baab194cfdf51fbc28ffa8", func := "loop.example/osier/laws.FnFlowParts", spec := "fnFlowParts", plainKeys := false, apart := false }
def FnFlowPartsSaid : Prop := fnFlowPartsRow.holds Try.pinned (OpenSpec.ofChange fnFlowPartsSpec)

/-- ITS FALSE NEIGHBOUR: 'it returns false'. Refute it at one input. -/
def fnFlowPartsWrong : ChangeSpec := { name := "fnFlowParts", fn := fun _ => fun
  | [d] => { results := [.lit (.bool false)], args := [d] }
  | _ => none }
def FnFlowPartsWrongFalsely : Prop := fnFlowPartsRow.holds Try.pinned (OpenSpec.ofChange fnFlowPartsWrong)

/- THE SECOND FORM. 'bulk': how many values and letters a reading holds, each counted each time it is reached (what is shared counts as often as it is met; a slice's spare places count too). A statement '..UptoSaid' is the law's where the arguments, and the package variables that the reading takes, are together of bulk at most 1048576: NARROWER than '..Said'. Prove '..Said' where nothing that the law and all that it calls make is longer than what came in: it says more and counts as full. Else prove '..UptoSaid'. A law counts once. -/
mutual
def uptoBulk {H : Type} : DataW H → Nat
  | .lit (.string bytes) => bytes.length + 1
  | .lit _ => 1
  | .nil => 1
  | .ptr d => uptoBulk d + 1
  | .slice elems spare => uptoBulkAll elems + uptoBulkAll spare + 1
  | .agg parts => uptoBulkAll parts + 1
  | .iface _ d => uptoBulk d + 1
  | .map entries => uptoBulkEntries entries + 1
  | .held _ => 1
def uptoBulkAll {H : Type} : List (DataW H) → Nat
  | [] => 0
  | d :: r => uptoBulk d + uptoBulkAll r
def uptoBulkEntries {H : Type} : List (Lit × DataW H) → Nat
  | [] => 0
  | x :: r => uptoBulkEntry x + uptoBulkEntries r
def uptoBulkEntry {H : Type} : Lit × DataW H → Nat
  | (.string bytes, d) => bytes.length + uptoBulk d + 1
  | (_, d) => uptoBulk d + 1
 end
def uptoSmall : (H : Type) → List (DataW H) → Bool := fun _ ds => decide (uptoBulkAll ds ≤ 1048576)
def OpenSpec.upto (s : _root_.Go.ChangeSpec) : _root_.Go.OpenSpec := { _root_.Go.OpenSpec.ofChange s with cond := some uptoSmall }

/-- 'laws.FnExactEarOpen', WHERE WHAT IT READS IS OF BULK AT MOST 1048576: true; the input reads as it did. -/
def fnExactEarOpenUptoRow : OpenClaim := { program := "ytdlnnjgjfngccaa", sum := "30842983feed94ba551a7d68370f61ee6e270f4418baab194cfdf51fbc28ffa8", func := "loop.example/osier/laws.FnExactEarOpen", spec := "fnExactEarOpen", plainKeys := false, apart := false, narrowed := true }
def FnExactEarOpenUptoSaid : Prop := fnExactEarOpenUptoRow.holds Try.pinned (OpenSpec.upto fnExactEarOpenSpec)

/-- 'laws.FnExactFlowCount', WHERE WHAT IT READS IS OF BULK AT MOST 1048576: true; the input reads as it did. -/
def fnExactFlowCountUptoRow : OpenClaim := { program := "ytdlnnjgjfngccaa", sum := "30842983feed94ba551a7d68370f61ee6e270f4418baab194cfdf51fbc28ffa8", func := "loop.example/osier/laws.FnExactFlowCount", spec := "fnExactFlowCount", plainKeys := false, apart := false, narrowed := true }
def FnExactFlowCountUptoSaid : Prop := fnExactFlowCountUptoRow.holds Try.pinned (OpenSpec.upto fnExactFlowCountSpec)

/-- 'laws.FnExactFlowWeak', WHERE WHAT IT READS IS OF BULK AT MOST 1048576: true; the input reads as it did. -/
def fnExactFlowWeakUptoRow : OpenClaim := { program := "ytdlnnjgjfngccaa", sum := "30842983feed94ba551a7d68370f61ee6e270f4418baab194cfdf51fbc28ffa8", func := "loop.example/osier/laws.FnExactFlowWeak", spec := "fnExactFlowWeak", plainKeys := false, apart := false, narrowed := true }
def FnExactFlowWeakUptoSaid : Prop := fnExactFlowWeakUptoRow.holds Try.pinned (OpenSpec.upto fnExactFlowWeakSpec)

/-- 'laws.FnExactTwoOk', WHERE WHAT IT READS IS OF BULK AT MOST 1048576: true; the input reads as it did. -/
def fnExactTwoOkUptoRow : OpenClaim := { program := "ytdlnnjgjfngccaa", sum := "30842983feed94ba551a7d68370f61ee6e270f4418baab194cfdf51fbc28ffa8", func := "loop.example/osier/laws.FnExactTwoOk", spec := "fnExactTwoOk", plainKeys := false, apart := false, narrowed := true }
def FnExactTwoOkUptoSaid : Prop := fnExactTwoOkUptoRow.holds Try.pinned (OpenSpec.upto fnExactTwoOkSpec)

/-- 'laws.FnExactTwoCut', WHERE WHAT IT READS IS OF BULK AT MOST 1048576: true; the input reads as it did. -/
def fnExactTwoCutUptoRow : OpenClaim := { program := "ytdlnnjgjfngccaa", sum := "30842983feed94ba551a7d68370f61ee6e270f4418baab194cfdf51fbc28ffa8", func := "loop.example/osier/laws.FnExactTwoCut", spec := "fnExactTwoCut", plainKeys := false, apart := false, narrowed := true }
def FnExactTwoCutUptoSaid : Prop := fnExactTwoCutUptoRow.holds Try.pinned (OpenSpec.upto fnExactTwoCutSpec)

/-- 'laws.FnExactFlowParts', WHERE WHAT IT READS IS OF BULK AT MOST 1048576: true; the input reads as it did. -/
def fnExactFlowPartsUptoRow : OpenClaim := { program := "ytdlnnjgjfngccaa", sum := "30842983feed94ba551a7d68370f61ee6e270f4418baab194cfdf51fbc28ffa8", func := "loop.example/osier/laws.FnExactFlowParts", spec := "fnExactFlowParts", plainKeys := false, apart := false, narrowed := true }
def FnExactFlowPartsUptoSaid : Prop := fnExactFlowPartsUptoRow.holds Try.pinned (OpenSpec.upto fnExactFlowPartsSpec)

/-- 'laws.FnFlowThree', WHERE WHAT IT READS IS OF BULK AT MOST 1048576: true; the input reads as it did. -/
def fnFlowThreeUptoRow : OpenClaim := { program := "ytdlnnjgjfngccaa", sum := "30842983feed94ba551a7d68370f61ee6e270f4418baab194cfdf51fbc28ffa8", func := "loop.example/osier/laws.FnFlowThree", spec := "fnFlowThree", plainKeys := false, apart := false, narrowed := true }
def FnFlowThreeUptoSaid : Prop := fnFlowThreeUptoRow.holds Try.pinned (OpenSpec.upto fnFlowThreeSpec)

/-- 'laws.FnFlowWeak', WHERE WHAT IT READS IS OF BULK AT MOST 1048576: true; the input reads as it did. -/
def fnFlowWeakUptoRow : OpenClaim := { program := "ytdlnnjgjfngccaa", sum := "30842983feed94ba551a7d68370f61ee6e270f4418baab194cfdf51fbc28ffa8", func := "loop.example/osier/laws.FnFlowWeak", spec := "fnFlowWeak", plainKeys := false, apart := false, narrowed := true }
def FnFlowWeakUptoSaid : Prop := fnFlowWeakUptoRow.holds Try.pinned (OpenSpec.upto fnFlowWeakSpec)

/-- 'laws.FnExactFlowCut', WHERE WHAT IT READS IS OF BULK AT MOST 1048576: true; the input reads as it did. -/
def fnExactFlowCutUptoRow : OpenClaim := { program := "ytdlnnjgjfngccaa", sum := "30842983feed94ba551a7d68370f61ee6e270f4418baab194cfdf51fbc28ffa8", func := "loop.example/osier/laws.FnExactFlowCut", spec := "fnExactFlowCut", plainKeys := false, apart := false, narrowed := true }
def FnExactFlowCutUptoSaid : Prop := fnExactFlowCutUptoRow.holds Try.pinned (OpenSpec.upto fnExactFlowCutSpec)

/-- 'laws.FnExactFlowOk', WHERE WHAT IT READS IS OF BULK AT MOST 1048576: true; the input reads as it did. -/
def fnExactFlowOkUptoRow : OpenClaim := { program := "ytdlnnjgjfngccaa", sum := "30842983feed94ba551a7d68370f61ee6e270f4418baab194cfdf51fbc28ffa8", func := "loop.example/osier/laws.FnExactFlowOk", spec := "fnExactFlowOk", plainKeys := false, apart := false, narrowed := true }
def FnExactFlowOkUptoSaid : Prop := fnExactFlowOkUptoRow.holds Try.pinned (OpenSpec.upto fnExactFlowOkSpec)

/-- 'laws.FnFlowTurn', WHERE WHAT IT READS IS OF BULK AT MOST 1048576: true; the input reads as it did. -/
def fnFlowTurnUptoRow : OpenClaim := { program := "ytdlnnjgjfngccaa", sum := "30842983feed94ba551a7d68370f61ee6e270f4418baab194cfdf51fbc28ffa8", func := "loop.example/osier/laws.FnFlowTurn", spec := "fnFlowTurn", plainKeys := false, apart := false, narrowed := true }
def FnFlowTurnUptoSaid : Prop := fnFlowTurnUptoRow.holds Try.pinned (OpenSpec.upto fnFlowTurnSpec)

/-- 'laws.FnExactBlockCuts', WHERE WHAT IT READS IS OF BULK AT MOST 1048576: true; the input reads as it did. -/
def fnExactBlockCutsUptoRow : OpenClaim := { program := "ytdlnnjgjfngccaa", sum := "30842983feed94ba551a7d68370f61ee6e270f4418baab194cfdf51fbc28ffa8", func := "loop.example/osier/laws.FnExactBlockCuts", spec := "fnExactBlockCuts", plainKeys := false, apart := false, narrowed := true }
def FnExactBlockCutsUptoSaid : Prop := fnExactBlockCutsUptoRow.holds Try.pinned (OpenSpec.upto fnExactBlockCutsSpec)

/-- 'laws.FnFlowNone', WHERE WHAT IT READS IS OF BULK AT MOST 1048576: true; the input reads as it did. -/
def fnFlowNoneUptoRow : OpenClaim := { program := "ytdlnnjgjfngccaa", sum := "30842983feed94ba551a7d68370f61ee6e270f4418baab194cfdf51fbc28ffa8", func := "loop.example/osier/laws.FnFlowNone", spec := "fnFlowNone", plainKeys := false, apart := false, narrowed := true }
def FnFlowNoneUptoSaid : Prop := fnFlowNoneUptoRow.holds Try.pinned (OpenSpec.upto fnFlowNoneSpec)

/-- 'laws.FnBlockCuts', WHERE WHAT IT READS IS OF BULK AT MOST 1048576: true; the input reads as it did. -/
def fnBlockCutsUptoRow : OpenClaim := { program := "ytdlnnjgjfngccaa", sum := "30842983feed94ba551a7d68370f61ee6e270f4418baab194cfdf51fbc28ffa8", func := "loop.example/osier/laws.FnBlockCuts", spec := "fnBlockCuts", plainKeys := false, apart := false, narrowed := true }
def FnBlockCutsUptoSaid : Prop := fnBlockCutsUptoRow.holds Try.pinned (OpenSpec.upto fnBlockCutsSpec)

/-- 'laws.FnFlowCutTie', WHERE WHAT IT READS IS OF BULK AT MOST 1048576: true; the input reads as it did. -/
def fnFlowCutTieUptoRow : OpenClaim := { program := "ytdlnnjgjfngccaa", sum := "30842983feed94ba551a7d68370f61ee6e270f4418baab194cfdf51fbc28ffa8", func := "loop.example/osier/laws.FnFlowCutTie", spec := "fnFlowCutTie", plainKeys := false, apart := false, narrowed := true }
def FnFlowCutTieUptoSaid : Prop := fnFlowCutTieUptoRow.holds Try.pinned (OpenSpec.upto fnFlowCutTieSpec)

/-- 'laws.FnFlowBridge', WHERE WHAT IT READS IS OF BULK AT MOST 1048576: true; the input reads as it did. -/
def fnFlowBridgeUptoRow : OpenClaim := { program := "ytdlnnjgjfngccaa", sum := "30842983feed94ba551a7d68370f61ee6e270f4418baab194cfdf51fbc28ffa8", func := "loop.example/osier/laws.FnFlowBridge", spec := "fnFlowBridge", plainKeys := false, apart := false, narrowed := true }
def FnFlowBridgeUptoSaid : Prop := fnFlowBridgeUptoRow.holds Try.pinned (OpenSpec.upto fnFlowBridgeSpec)

/-- 'laws.FnBridgeCount', WHERE WHAT IT READS IS OF BULK AT MOST 1048576: true; the input reads as it did. -/
def fnBridgeCountUptoRow : OpenClaim := { program := "ytdlnnjgjfngccaa", sum := "30842983feed94ba551a7d68370f61ee6e270f4418baab194cfdf51fbc28ffa8", func := "loop.example/osier/laws.FnBridgeCount", spec := "fnBridgeCount", plainKeys := false, apart := false, narrowed := true }
def FnBridgeCountUptoSaid : Prop := fnBridgeCountUptoRow.holds Try.pinned (OpenSpec.upto fnBridgeCountSpec)

/-- 'laws.FnFlowCut', WHERE WHAT IT READS IS OF BULK AT MOST 1048576: true; the input reads as it did. -/
def fnFlowCutUptoRow : OpenClaim := { program := "ytdlnnjgjfngccaa", sum := "30842983feed94ba551a7d68370f61ee6e270f4418baab194cfdf51fbc28ffa8", func := "loop.example/osier/laws.FnFlowCut", spec := "fnFlowCut", plainKeys := false, apart := false, narrowed := true }
def FnFlowCutUptoSaid : Prop := fnFlowCutUptoRow.holds Try.pinned (OpenSpec.upto fnFlowCutSpec)

/-- 'laws.FnBridgeParts', WHERE WHAT IT READS IS OF BULK AT MOST 1048576: true; the input reads as it did. -/
def fnBridgePartsUptoRow : OpenClaim := { program := "ytdlnnjgjfngccaa", sum := "30842983feed94ba551a7d68370f61ee6e270f4418baab194cfdf51fbc28ffa8", func := "loop.example/osier/laws.FnBridgeParts", spec := "fnBridgeParts", plainKeys := false, apart := false, narrowed := true }
def FnBridgePartsUptoSaid : Prop := fnBridgePartsUptoRow.holds Try.pinned (OpenSpec.upto fnBridgePartsSpec)

/-- 'laws.FnTreeOk', WHERE WHAT IT READS IS OF BULK AT MOST 1048576: true; the input reads as it did. -/
def fnTreeOkUptoRow : OpenClaim := { program := "ytdlnnjgjfngccaa", sum := "30842983feed94ba551a7d68370f61ee6e270f4418baab194cfdf51fbc28ffa8", func := "loop.example/osier/laws.FnTreeOk", spec := "fnTreeOk", plainKeys := false, apart := false, narrowed := true }
def FnTreeOkUptoSaid : Prop := fnTreeOkUptoRow.holds Try.pinned (OpenSpec.upto fnTreeOkSpec)

/-- 'laws.FnBridgeApart', WHERE WHAT IT READS IS OF BULK AT MOST 1048576: true; the input reads as it did. -/
def fnBridgeApartUptoRow : OpenClaim := { program := "ytdlnnjgjfngccaa", sum := "30842983feed94ba551a7d68370f61ee6e270f4418baab194cfdf51fbc28ffa8", func := "loop.example/osier/laws.FnBridgeApart", spec := "fnBridgeApart", plainKeys := false, apart := false, narrowed := true }
def FnBridgeApartUptoSaid : Prop := fnBridgeApartUptoRow.holds Try.pinned (OpenSpec.upto fnBridgeApartSpec)

/-- 'laws.FnFlowParts', WHERE WHAT IT READS IS OF BULK AT MOST 1048576: true; the input reads as it did. -/
def fnFlowPartsUptoRow : OpenClaim := { program := "ytdlnnjgjfngccaa", sum := "30842983feed94ba551a7d68370f61ee6e270f4418baab194cfdf51fbc28ffa8", func := "loop.example/osier/laws.FnFlowParts", spec := "fnFlowParts", plainKeys := false, apart := false, narrowed := true }
def FnFlowPartsUptoSaid : Prop := fnFlowPartsUptoRow.holds Try.pinned (OpenSpec.upto fnFlowPartsSpec)

end Rows
end Go.Proofs.Ytdlnnjgjfngccaa
