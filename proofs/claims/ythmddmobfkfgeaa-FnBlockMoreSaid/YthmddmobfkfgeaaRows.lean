/-
  No cell of these rows narrows 'for every input' (looked for: loops, veiled, ifaces, maps, wideKeys, modest, calm, conditions, laid).
  DERIVED. THE GIVEN ROWS OF THIS SEAT. 21 by the template 'for every input the law returns true; each argument reads behind the call as it read before'; 0 by the template 'total and deterministic' (their statements: YthmddmobfkfgeaaTotals.lean).
  GIVEN WITH THE SEED: the statements are not yours to turn. If you find one false, say at which input.
  Laid BY PROGRAM, IN A SANDBOX (cutbox-rows.mjs): the forced cells as the released guide's own fill.sh prints them over the translation ec882a4dd0f27fd8… (all of the seat's roots in one cut). By AI agents, Wed Nov 11 2026. No macro, syntax, notation, axiom, sorry.
-/
import Derived.Test.YthmddmobfkfgeaaChecked
import GoSem.Claim
import GoSem.ClaimJoined
import GoSem.ClaimMapViews
import Derived.JoinedTies
import Derived.KernelRfl
namespace Go.Proofs.Ythmddmobfkfgeaa
/- THE CELL 'sum', in the pinned program and in every row, IS THE sha256 OF THE DUMP (.gsa) THAT YthmddmobfkfgeaaProg.lean LOADS. Nothing in Lean hashes anything: it is a label: what it is worth is what the hold of that sum in a sandbox is worth. -/
noncomputable def Try.pinned : Pinned := { name := "ythmddmobfkfgeaa", sum := "ec882a4dd0f27fd878deb0c888c8144729d84d35d56c8259ce33686bc0193712", checked := Try.checked }
namespace Rows
def none {H : Type} : Left H := { results := [], args := [] }

/-- 'laws.FnExactBlockSame': WHATEVER THE INPUT: true; the input reads as it did. -/
def fnExactBlockSameSpec : ChangeSpec := { name := "fnExactBlockSame", fn := fun _ => fun
  | [d1, d2, d3] => { results := [.lit (.bool true)], args := [d1, d2, d3] }
  | _ => none }
def fnExactBlockSameRow : OpenClaim := { program := "ythmddmobfkfgeaa", sum := "ec882a4dd0f27fd878deb0c888c8144729d84d35d56c8259ce33686bc0193712", func := "loop.example/osier/laws.FnExactBlockSame", spec := "fnExactBlockSame", unfollowed := true, recurses := true, plainKeys := false, apart := false }
def FnExactBlockSameSaid : Prop := fnExactBlockSameRow.holds Try.pinned (OpenSpec.ofChange fnExactBlockSameSpec)

/-- ITS FALSE NEIGHBOUR: 'it returns false'. Refute it at one input. -/
def fnExactBlockSameWrong : ChangeSpec := { name := "fnExactBlockSame", fn := fun _ => fun
  | [d1, d2, d3] => { results := [.lit (.bool false)], args := [d1, d2, d3] }
  | _ => none }
def FnExactBlockSameWrongFalsely : Prop := fnExactBlockSameRow.holds Try.pinned (OpenSpec.ofChange fnExactBlockSameWrong)

/-- 'laws.FnExactBlockList': WHATEVER THE INPUT: true; the input reads as it did. -/
def fnExactBlockListSpec : ChangeSpec := { name := "fnExactBlockList", fn := fun _ => fun
  | [d] => { results := [.lit (.bool true)], args := [d] }
  | _ => none }
def fnExactBlockListRow : OpenClaim := { program := "ythmddmobfkfgeaa", sum := "ec882a4dd0f27fd878deb0c888c8144729d84d35d56c8259ce33686bc0193712", func := "loop.example/osier/laws.FnExactBlockList", spec := "fnExactBlockList", unfollowed := true, recurses := true, plainKeys := false, apart := false }
def FnExactBlockListSaid : Prop := fnExactBlockListRow.holds Try.pinned (OpenSpec.ofChange fnExactBlockListSpec)

/-- ITS FALSE NEIGHBOUR: 'it returns false'. Refute it at one input. -/
def fnExactBlockListWrong : ChangeSpec := { name := "fnExactBlockList", fn := fun _ => fun
  | [d] => { results := [.lit (.bool false)], args := [d] }
  | _ => none }
def FnExactBlockListWrongFalsely : Prop := fnExactBlockListRow.holds Try.pinned (OpenSpec.ofChange fnExactBlockListWrong)

/-- 'laws.FnBlockMore': WHATEVER THE INPUT: true; the input reads as it did. -/
def fnBlockMoreSpec : ChangeSpec := { name := "fnBlockMore", fn := fun _ => fun
  | [d1, d2] => { results := [.lit (.bool true)], args := [d1, d2] }
  | _ => none }
def fnBlockMoreRow : OpenClaim := { program := "ythmddmobfkfgeaa", sum := "ec882a4dd0f27fd878deb0c888c8144729d84d35d56c8259ce33686bc0193712", func := "loop.example/osier/laws.FnBlockMore", spec := "fnBlockMore", unfollowed := true, recurses := true, plainKeys := false, apart := false }
def FnBlockMoreSaid : Prop := fnBlockMoreRow.holds Try.pinned (OpenSpec.ofChange fnBlockMoreSpec)

/-- ITS FALSE NEIGHBOUR: 'it returns false'. Refute it at one input. -/
def fnBlockMoreWrong : ChangeSpec := { name := "fnBlockMore", fn := fun _ => fun
  | [d1, d2] => { results := [.lit (.bool false)], args := [d1, d2] }
  | _ => none }
def FnBlockMoreWrongFalsely : Prop := fnBlockMoreRow.holds Try.pinned (OpenSpec.ofChange fnBlockMoreWrong)

/-- 'laws.FnBlockAll': WHATEVER THE INPUT: true; the input reads as it did. -/
def fnBlockAllSpec : ChangeSpec := { name := "fnBlockAll", fn := fun _ => fun
  | [d] => { results := [.lit (.bool true)], args := [d] }
  | _ => none }
def fnBlockAllRow : OpenClaim := { program := "ythmddmobfkfgeaa", sum := "ec882a4dd0f27fd878deb0c888c8144729d84d35d56c8259ce33686bc0193712", func := "loop.example/osier/laws.FnBlockAll", spec := "fnBlockAll", unfollowed := true, recurses := true, plainKeys := false, apart := false }
def FnBlockAllSaid : Prop := fnBlockAllRow.holds Try.pinned (OpenSpec.ofChange fnBlockAllSpec)

/-- ITS FALSE NEIGHBOUR: 'it returns false'. Refute it at one input. -/
def fnBlockAllWrong : ChangeSpec := { name := "fnBlockAll", fn := fun _ => fun
  | [d] => { results := [.lit (.bool false)], args := [d] }
  | _ => none }
def FnBlockAllWrongFalsely : Prop := fnBlockAllRow.holds Try.pinned (OpenSpec.ofChange fnBlockAllWrong)

/-- 'laws.FnBlockSame': WHATEVER THE INPUT: true; the input reads as it did. -/
def fnBlockSameSpec : ChangeSpec := { name := "fnBlockSame", fn := fun _ => fun
  | [d] => { results := [.lit (.bool true)], args := [d] }
  | _ => none }
def fnBlockSameRow : OpenClaim := { program := "ythmddmobfkfgeaa", sum := "ec882a4dd0f27fd878deb0c888c8144729d84d35d56c8259ce33686bc0193712", func := "loop.example/osier/laws.FnBlockSame", spec := "fnBlockSame", unfollowed := true, recurses := true, plainKeys := false, apart := false }
def FnBlockSameSaid : Prop := fnBlockSameRow.holds Try.pinned (OpenSpec.ofChange fnBlockSameSpec)

/-- ITS FALSE NEIGHBOUR: 'it returns false'. Refute it at one input. -/
def fnBlockSameWrong : ChangeSpec := { name := "fnBlockSame", fn := fun _ => fun
  | [d] => { results := [.lit (.bool false)], args := [d] }
  | _ => none }
def FnBlockSameWrongFalsely : Prop := fnBlockSameRow.holds Try.pinned (OpenSpec.ofChange fnBlockSameWrong)

/-- 'laws.FnBlockBridge': WHATEVER THE INPUT: true; the input reads as it did. -/
def fnBlockBridgeSpec : ChangeSpec := { name := "fnBlockBridge", fn := fun _ => fun
  | [d] => { results := [.lit (.bool true)], args := [d] }
  | _ => none }
def fnBlockBridgeRow : OpenClaim := { program := "ythmddmobfkfgeaa", sum := "ec882a4dd0f27fd878deb0c888c8144729d84d35d56c8259ce33686bc0193712", func := "loop.example/osier/laws.FnBlockBridge", spec := "fnBlockBridge", unfollowed := true, recurses := true, plainKeys := false, apart := false }
def FnBlockBridgeSaid : Prop := fnBlockBridgeRow.holds Try.pinned (OpenSpec.ofChange fnBlockBridgeSpec)

/-- ITS FALSE NEIGHBOUR: 'it returns false'. Refute it at one input. -/
def fnBlockBridgeWrong : ChangeSpec := { name := "fnBlockBridge", fn := fun _ => fun
  | [d] => { results := [.lit (.bool false)], args := [d] }
  | _ => none }
def FnBlockBridgeWrongFalsely : Prop := fnBlockBridgeRow.holds Try.pinned (OpenSpec.ofChange fnBlockBridgeWrong)

/-- 'laws.FnBlockCut': WHATEVER THE INPUT: true; the input reads as it did. -/
def fnBlockCutSpec : ChangeSpec := { name := "fnBlockCut", fn := fun _ => fun
  | [d] => { results := [.lit (.bool true)], args := [d] }
  | _ => none }
def fnBlockCutRow : OpenClaim := { program := "ythmddmobfkfgeaa", sum := "ec882a4dd0f27fd878deb0c888c8144729d84d35d56c8259ce33686bc0193712", func := "loop.example/osier/laws.FnBlockCut", spec := "fnBlockCut", unfollowed := true, recurses := true, plainKeys := false, apart := false }
def FnBlockCutSaid : Prop := fnBlockCutRow.holds Try.pinned (OpenSpec.ofChange fnBlockCutSpec)

/-- ITS FALSE NEIGHBOUR: 'it returns false'. Refute it at one input. -/
def fnBlockCutWrong : ChangeSpec := { name := "fnBlockCut", fn := fun _ => fun
  | [d] => { results := [.lit (.bool false)], args := [d] }
  | _ => none }
def FnBlockCutWrongFalsely : Prop := fnBlockCutRow.holds Try.pinned (OpenSpec.ofChange fnBlockCutWrong)

/-- 'laws.FnExactBlockKnots': WHATEVER THE INPUT: true; the input reads as it did. -/
def fnExactBlockKnotsSpec : ChangeSpec := { name := "fnExactBlockKnots", fn := fun _ => fun
  | [d] => { results := [.lit (.bool true)], args := [d] }
  | _ => none }
def fnExactBlockKnotsRow : OpenClaim := { program := "ythmddmobfkfgeaa", sum := "ec882a4dd0f27fd878deb0c888c8144729d84d35d56c8259ce33686bc0193712", func := "loop.example/osier/laws.FnExactBlockKnots", spec := "fnExactBlockKnots", unfollowed := true, recurses := true, plainKeys := false, apart := false }
def FnExactBlockKnotsSaid : Prop := fnExactBlockKnotsRow.holds Try.pinned (OpenSpec.ofChange fnExactBlockKnotsSpec)

/-- ITS FALSE NEIGHBOUR: 'it returns false'. Refute it at one input. -/
def fnExactBlockKnotsWrong : ChangeSpec := { name := "fnExactBlockKnots", fn := fun _ => fun
  | [d] => { results := [.lit (.bool false)], args := [d] }
  | _ => none }
def FnExactBlockKnotsWrongFalsely : Prop := fnExactBlockKnotsRow.holds Try.pinned (OpenSpec.ofChange fnExactBlockKnotsWrong)

/-- 'laws.FnBlockSum': WHATEVER THE INPUT: true; the input reads as it did. -/
def fnBlockSumSpec : ChangeSpec := { name := "fnBlockSum", fn := fun _ => fun
  | [d] => { results := [.lit (.bool true)], args := [d] }
  | _ => none }
def fnBlockSumRow : OpenClaim := { program := "ythmddmobfkfgeaa", sum := "ec882a4dd0f27fd878deb0c888c8144729d84d35d56c8259ce33686bc0193712", func := "loop.example/osier/laws.FnBlockSum", spec := "fnBlockSum", unfollowed := true, recurses := true, plainKeys := false, apart := false }
def FnBlockSumSaid : Prop := fnBlockSumRow.holds Try.pinned (OpenSpec.ofChange fnBlockSumSpec)

/-- ITS FALSE NEIGHBOUR: 'it returns false'. Refute it at one input. -/
def fnBlockSumWrong : ChangeSpec := { name := "fnBlockSum", fn := fun _ => fun
  | [d] => { results := [.lit (.bool false)], args := [d] }
  | _ => none }
def FnBlockSumWrongFalsely : Prop := fnBlockSumRow.holds Try.pinned (OpenSpec.ofChange fnBlockSumWrong)

/-- 'laws.FnBlockTwo': WHATEVER THE INPUT: true; the input reads as it did. -/
def fnBlockTwoSpec : ChangeSpec := { name := "fnBlockTwo", fn := fun _ => fun
  | [d1, d2] => { results := [.lit (.bool true)], args := [d1, d2] }
  | _ => none }
def fnBlockTwoRow : OpenClaim := { program := "ythmddmobfkfgeaa", sum := "ec882a4dd0f27fd878deb0c888c8144729d84d35d56c8259ce33686bc0193712", func := "loop.example/osier/laws.FnBlockTwo", spec := "fnBlockTwo", unfollowed := true, recurses := true, plainKeys := false, apart := false }
def FnBlockTwoSaid : Prop := fnBlockTwoRow.holds Try.pinned (OpenSpec.ofChange fnBlockTwoSpec)

/-- ITS FALSE NEIGHBOUR: 'it returns false'. Refute it at one input. -/
def fnBlockTwoWrong : ChangeSpec := { name := "fnBlockTwo", fn := fun _ => fun
  | [d1, d2] => { results := [.lit (.bool false)], args := [d1, d2] }
  | _ => none }
def FnBlockTwoWrongFalsely : Prop := fnBlockTwoRow.holds Try.pinned (OpenSpec.ofChange fnBlockTwoWrong)

/-- 'laws.FnBlockKnots': WHATEVER THE INPUT: true; the input reads as it did. -/
def fnBlockKnotsSpec : ChangeSpec := { name := "fnBlockKnots", fn := fun _ => fun
  | [d] => { results := [.lit (.bool true)], args := [d] }
  | _ => none }
def fnBlockKnotsRow : OpenClaim := { program := "ythmddmobfkfgeaa", sum := "ec882a4dd0f27fd878deb0c888c8144729d84d35d56c8259ce33686bc0193712", func := "loop.example/osier/laws.FnBlockKnots", spec := "fnBlockKnots", unfollowed := true, recurses := true, plainKeys := false, apart := false }
def FnBlockKnotsSaid : Prop := fnBlockKnotsRow.holds Try.pinned (OpenSpec.ofChange fnBlockKnotsSpec)

/-- ITS FALSE NEIGHBOUR: 'it returns false'. Refute it at one input. -/
def fnBlockKnotsWrong : ChangeSpec := { name := "fnBlockKnots", fn := fun _ => fun
  | [d] => { results := [.lit (.bool false)], args := [d] }
  | _ => none }
def FnBlockKnotsWrongFalsely : Prop := fnBlockKnotsRow.holds Try.pinned (OpenSpec.ofChange fnBlockKnotsWrong)

/-- 'laws.FnExactBlockTree': WHATEVER THE INPUT: true; the input reads as it did. -/
def fnExactBlockTreeSpec : ChangeSpec := { name := "fnExactBlockTree", fn := fun _ => fun
  | [d] => { results := [.lit (.bool true)], args := [d] }
  | _ => none }
def fnExactBlockTreeRow : OpenClaim := { program := "ythmddmobfkfgeaa", sum := "ec882a4dd0f27fd878deb0c888c8144729d84d35d56c8259ce33686bc0193712", func := "loop.example/osier/laws.FnExactBlockTree", spec := "fnExactBlockTree", unfollowed := true, recurses := true, plainKeys := false, apart := false }
def FnExactBlockTreeSaid : Prop := fnExactBlockTreeRow.holds Try.pinned (OpenSpec.ofChange fnExactBlockTreeSpec)

/-- ITS FALSE NEIGHBOUR: 'it returns false'. Refute it at one input. -/
def fnExactBlockTreeWrong : ChangeSpec := { name := "fnExactBlockTree", fn := fun _ => fun
  | [d] => { results := [.lit (.bool false)], args := [d] }
  | _ => none }
def FnExactBlockTreeWrongFalsely : Prop := fnExactBlockTreeRow.holds Try.pinned (OpenSpec.ofChange fnExactBlockTreeWrong)

/-- 'laws.FnBlockTree': WHATEVER THE INPUT: true; the input reads as it did. -/
def fnBlockTreeSpec : ChangeSpec := { name := "fnBlockTree", fn := fun _ => fun
  | [d] => { results := [.lit (.bool true)], args := [d] }
  | _ => none }
def fnBlockTreeRow : OpenClaim := { program := "ythmddmobfkfgeaa", sum := "ec882a4dd0f27fd878deb0c888c8144729d84d35d56c8259ce33686bc0193712", func := "loop.example/osier/laws.FnBlockTree", spec := "fnBlockTree", unfollowed := true, recurses := true, plainKeys := false, apart := false }
def FnBlockTreeSaid : Prop := fnBlockTreeRow.holds Try.pinned (OpenSpec.ofChange fnBlockTreeSpec)

/-- ITS FALSE NEIGHBOUR: 'it returns false'. Refute it at one input. -/
def fnBlockTreeWrong : ChangeSpec := { name := "fnBlockTree", fn := fun _ => fun
  | [d] => { results := [.lit (.bool false)], args := [d] }
  | _ => none }
def FnBlockTreeWrongFalsely : Prop := fnBlockTreeRow.holds Try.pinned (OpenSpec.ofChange fnBlockTreeWrong)

/-- 'laws.FnExactTwoFind': WHATEVER THE INPUT: true; the input reads as it did. -/
def fnExactTwoFindSpec : ChangeSpec := { name := "fnExactTwoFind", fn := fun _ => fun
  | [d1, d2, d3] => { results := [.lit (.bool true)], args := [d1, d2, d3] }
  | _ => none }
def fnExactTwoFindRow : OpenClaim := { program := "ythmddmobfkfgeaa", sum := "ec882a4dd0f27fd878deb0c888c8144729d84d35d56c8259ce33686bc0193712", func := "loop.example/osier/laws.FnExactTwoFind", spec := "fnExactTwoFind", unfollowed := true, recurses := true, plainKeys := false, apart := false }
def FnExactTwoFindSaid : Prop := fnExactTwoFindRow.holds Try.pinned (OpenSpec.ofChange fnExactTwoFindSpec)

/-- ITS FALSE NEIGHBOUR: 'it returns false'. Refute it at one input. -/
def fnExactTwoFindWrong : ChangeSpec := { name := "fnExactTwoFind", fn := fun _ => fun
  | [d1, d2, d3] => { results := [.lit (.bool false)], args := [d1, d2, d3] }
  | _ => none }
def FnExactTwoFindWrongFalsely : Prop := fnExactTwoFindRow.holds Try.pinned (OpenSpec.ofChange fnExactTwoFindWrong)

/-- 'laws.FnTwoFind': WHATEVER THE INPUT: true; the input reads as it did. -/
def fnTwoFindSpec : ChangeSpec := { name := "fnTwoFind", fn := fun _ => fun
  | [d] => { results := [.lit (.bool true)], args := [d] }
  | _ => none }
def fnTwoFindRow : OpenClaim := { program := "ythmddmobfkfgeaa", sum := "ec882a4dd0f27fd878deb0c888c8144729d84d35d56c8259ce33686bc0193712", func := "loop.example/osier/laws.FnTwoFind", spec := "fnTwoFind", unfollowed := true, recurses := true, plainKeys := false, apart := false }
def FnTwoFindSaid : Prop := fnTwoFindRow.holds Try.pinned (OpenSpec.ofChange fnTwoFindSpec)

/-- ITS FALSE NEIGHBOUR: 'it returns false'. Refute it at one input. -/
def fnTwoFindWrong : ChangeSpec := { name := "fnTwoFind", fn := fun _ => fun
  | [d] => { results := [.lit (.bool false)], args := [d] }
  | _ => none }
def FnTwoFindWrongFalsely : Prop := fnTwoFindRow.holds Try.pinned (OpenSpec.ofChange fnTwoFindWrong)

/-- 'laws.FnTwoTurn': WHATEVER THE INPUT: true; the input reads as it did. -/
def fnTwoTurnSpec : ChangeSpec := { name := "fnTwoTurn", fn := fun _ => fun
  | [d] => { results := [.lit (.bool true)], args := [d] }
  | _ => none }
def fnTwoTurnRow : OpenClaim := { program := "ythmddmobfkfgeaa", sum := "ec882a4dd0f27fd878deb0c888c8144729d84d35d56c8259ce33686bc0193712", func := "loop.example/osier/laws.FnTwoTurn", spec := "fnTwoTurn", unfollowed := true, recurses := true, plainKeys := false, apart := false }
def FnTwoTurnSaid : Prop := fnTwoTurnRow.holds Try.pinned (OpenSpec.ofChange fnTwoTurnSpec)

/-- ITS FALSE NEIGHBOUR: 'it returns false'. Refute it at one input. -/
def fnTwoTurnWrong : ChangeSpec := { name := "fnTwoTurn", fn := fun _ => fun
  | [d] => { results := [.lit (.bool false)], args := [d] }
  | _ => none }
def FnTwoTurnWrongFalsely : Prop := fnTwoTurnRow.holds Try.pinned (OpenSpec.ofChange fnTwoTurnWrong)

/-- 'laws.FnTwoFirst': WHATEVER THE INPUT: true; the input reads as it did. -/
def fnTwoFirstSpec : ChangeSpec := { name := "fnTwoFirst", fn := fun _ => fun
  | [d] => { results := [.lit (.bool true)], args := [d] }
  | _ => none }
def fnTwoFirstRow : OpenClaim := { program := "ythmddmobfkfgeaa", sum := "ec882a4dd0f27fd878deb0c888c8144729d84d35d56c8259ce33686bc0193712", func := "loop.example/osier/laws.FnTwoFirst", spec := "fnTwoFirst", unfollowed := true, recurses := true, plainKeys := false, apart := false }
def FnTwoFirstSaid : Prop := fnTwoFirstRow.holds Try.pinned (OpenSpec.ofChange fnTwoFirstSpec)

/-- ITS FALSE NEIGHBOUR: 'it returns false'. Refute it at one input. -/
def fnTwoFirstWrong : ChangeSpec := { name := "fnTwoFirst", fn := fun _ => fun
  | [d] => { results := [.lit (.bool false)], args := [d] }
  | _ => none }
def FnTwoFirstWrongFalsely : Prop := fnTwoFirstRow.holds Try.pinned (OpenSpec.ofChange fnTwoFirstWrong)

/-- 'laws.FnTwoTop': WHATEVER THE INPUT: true; the input reads as it did. -/
def fnTwoTopSpec : ChangeSpec := { name := "fnTwoTop", fn := fun _ => fun
  | [d] => { results := [.lit (.bool true)], args := [d] }
  | _ => none }
def fnTwoTopRow : OpenClaim := { program := "ythmddmobfkfgeaa", sum := "ec882a4dd0f27fd878deb0c888c8144729d84d35d56c8259ce33686bc0193712", func := "loop.example/osier/laws.FnTwoTop", spec := "fnTwoTop", unfollowed := true, recurses := true, plainKeys := false, apart := false }
def FnTwoTopSaid : Prop := fnTwoTopRow.holds Try.pinned (OpenSpec.ofChange fnTwoTopSpec)

/-- ITS FALSE NEIGHBOUR: 'it returns false'. Refute it at one input. -/
def fnTwoTopWrong : ChangeSpec := { name := "fnTwoTop", fn := fun _ => fun
  | [d] => { results := [.lit (.bool false)], args := [d] }
  | _ => none }
def FnTwoTopWrongFalsely : Prop := fnTwoTopRow.holds Try.pinned (OpenSpec.ofChange fnTwoTopWrong)

/-- 'laws.FnTwoMore': WHATEVER THE INPUT: true; the input reads as it did. -/
def fnTwoMoreSpec : ChangeSpec := { name := "fnTwoMore", fn := fun _ => fun
  | [d1, d2] => { results := [.lit (.bool true)], args := [d1, d2] }
  | _ => none }
def fnTwoMoreRow : OpenClaim := { program := "ythmddmobfkfgeaa", sum := "ec882a4dd0f27fd878deb0c888c8144729d84d35d56c8259ce33686bc0193712", func := "loop.example/osier/laws.FnTwoMore", spec := "fnTwoMore", unfollowed := true, recurses := true, plainKeys := false, apart := false }
def FnTwoMoreSaid : Prop := fnTwoMoreRow.holds Try.pinned (OpenSpec.ofChange fnTwoMoreSpec)

/-- ITS FALSE NEIGHBOUR: 'it returns false'. Refute it at one input. -/
def fnTwoMoreWrong : ChangeSpec := { name := "fnTwoMore", fn := fun _ => fun
  | [d1, d2] => { results := [.lit (.bool false)], args := [d1, d2] }
  | _ => none }
def FnTwoMoreWrongFalsely : Prop := fnTwoMoreRow.holds Try.pinned (OpenSpec.ofChange fnTwoMoreWrong)

/-- 'laws.FnTwoLong': WHATEVER THE INPUT: true; the input reads as it did. -/
def fnTwoLongSpec : ChangeSpec := { name := "fnTwoLong", fn := fun _ => fun
  | [d] => { results := [.lit (.bool true)], args := [d] }
  | _ => none }
def fnTwoLongRow : OpenClaim := { program := "ythmddmobfkfgeaa", sum := "ec882a4dd0f27fd878deb0c888c8144729d84d35d56c8259ce33686bc0193712", func := "loop.example/osier/laws.FnTwoLong", spec := "fnTwoLong", unfollowed := true, recurses := true, plainKeys := false, apart := false }
def FnTwoLongSaid : Prop := fnTwoLongRow.holds Try.pinned (OpenSpec.ofChange fnTwoLongSpec)

/-- ITS FALSE NEIGHBOUR: 'it returns false'. Refute it at one input. -/
def fnTwoLongWrong : ChangeSpec := { name := "fnTwoLong", fn := fun _ => fun
  | [d] => { results := [.lit (.bool false)], args := [d] }
  | _ => none }
def FnTwoLongWrongFalsely : Prop := fnTwoLongRow.holds Try.pinned (OpenSpec.ofChange fnTwoLongWrong)

/-- 'laws.FnTwoBlock': WHATEVER THE INPUT: true; the input reads as it did. -/
def fnTwoBlockSpec : ChangeSpec := { name := "fnTwoBlock", fn := fun _ => fun
  | [d] => { results := [.lit (.bool true)], args := [d] }
  | _ => none }
def fnTwoBlockRow : OpenClaim := { program := "ythmddmobfkfgeaa", sum := "ec882a4dd0f27fd878deb0c888c8144729d84d35d56c8259ce33686bc0193712", func := "loop.example/osier/laws.FnTwoBlock", spec := "fnTwoBlock", unfollowed := true, recurses := true, plainKeys := false, apart := false }
def FnTwoBlockSaid : Prop := fnTwoBlockRow.holds Try.pinned (OpenSpec.ofChange fnTwoBlockSpec)

/-- ITS FALSE NEIGHBOUR: 'it returns false'. Refute it at one input. -/
def fnTwoBlockWrong : ChangeSpec := { name := "fnTwoBlock", fn := fun _ => fun
  | [d] => { results := [.lit (.bool false)], args := [d] }
  | _ => none }
def FnTwoBlockWrongFalsely : Prop := fnTwoBlockRow.holds Try.pinned (OpenSpec.ofChange fnTwoBlockWrong)

/- THE SECOND FORM. 'bulk': how many values and letters a reading holds, each counted each time it is reached (what is shared counts as often as it is met; a slice's spare places count too). A statement '..UptoSaid' is the law's where the arguments, and the package variables that the reading takes, are together of bulk at most 1048576: NARROWER than '..Said'. Prove '..Said' where nothing that the law and all that it calls make is longer than what came in: it says more and counts as full. Else prove '..UptoSaid'. A law counts once. -/
mutual
def uptoBulk {H : Type} : DataW H → Nat
  | .lit (.string bytes) => bytes.length + 1
  | .lit _ => 1
  | .nil => 1
  | .ptr d => uptoBulk d + 1
  | .slice elems spare => uptoBulkAll elems + uptoBulkAll spare + 1
  | .agg parts => uptoBulkAll parts + 1
  | .iface _ d => uptoBulk d + 1
  | .map entries => uptoBulkEntries entries + 1
  | .held _ => 1
def uptoBulkAll {H : Type} : List (DataW H) → Nat
  | [] => 0
  | d :: r => uptoBulk d + uptoBulkAll r
def uptoBulkEntries {H : Type} : List (Lit × DataW H) → Nat
  | [] => 0
  | x :: r => uptoBulkEntry x + uptoBulkEntries r
def uptoBulkEntry {H : Type} : Lit × DataW H → Nat
  | (.string bytes, d) => bytes.length + uptoBulk d + 1
  | (_, d) => uptoBulk d + 1
 end
def uptoSmall : (H : Type) → List (DataW H) → Bool := fun _ ds => decide (uptoBulkAll ds ≤ 1048576)
def OpenSpec.upto (s : _root_.Go.ChangeSpec) : _root_.Go.OpenSpec := { _root_.Go.OpenSpec.ofChange s with cond := some uptoSmall }

/-- 'laws.FnExactBlockSame', WHERE WHAT IT READS IS OF BULK AT MOST 1048576: true; the input reads as it did. -/
def fnExactBlockSameUptoRow : OpenClaim := { program := "ythmddmobfkfgeaa", sum := "ec882a4dd0f27fd878deb0c888c8144729d84d35d56c8259ce33686bc0193712", func := "loop.example/osier/laws.FnExactBlockSame", spec := "fnExactBlockSame", unfollowed := true, recurses := true, plainKeys := false, apart := false, narrowed := true }
def FnExactBlockSameUptoSaid : Prop := fnExactBlockSameUptoRow.holds Try.pinned (OpenSpec.upto fnExactBlockSameSpec)

/-- 'laws.FnExactBlockList', WHERE WHAT IT READS IS OF BULK AT MOST 1048576: true; the input reads as it did. -/
def fnExactBlockListUptoRow : OpenClaim := { program := "ythmddmobfkfgeaa", sum := "ec882a4dd0f27fd878deb0c888c8144729d84d35d56c8259ce33686bc0193712", func := "loop.example/osier/laws.FnExactBlockList", spec := "fnExactBlockList", unfollowed := true, recurses := true, plainKeys := false, apart := false, narrowed := true }
def FnExactBlockListUptoSaid : Prop := fnExactBlockListUptoRow.holds Try.pinned (OpenSpec.upto fnExactBlockListSpec)

/-- 'laws.FnBlockMore', WHERE WHAT IT READS IS OF BULK AT MOST 1048576: true; the input reads as it did. -/
def fnBlockMoreUptoRow : OpenClaim := { program := "ythmddmobfkfgeaa", sum := "ec882a4dd0f27fd878deb0c888c8144729d84d35d56c8259ce33686bc0193712", func := "loop.example/osier/laws.FnBlockMore", spec := "fnBlockMore", unfollowed := true, recurses := true, plainKeys := false, apart := false, narrowed := true }
def FnBlockMoreUptoSaid : Prop := fnBlockMoreUptoRow.holds Try.pinned (OpenSpec.upto fnBlockMoreSpec)

/-- 'laws.FnBlockAll', WHERE WHAT IT READS IS OF BULK AT MOST 1048576: true; the input reads as it did. -/
def fnBlockAllUptoRow : OpenClaim := { program := "ythmddmobfkfgeaa", sum := "ec882a4dd0f27fd878deb0c888c8144729d84d35d56c8259ce33686bc0193712", func := "loop.example/osier/laws.FnBlockAll", spec := "fnBlockAll", unfollowed := true, recurses := true, plainKeys := false, apart := false, narrowed := true }
def FnBlockAllUptoSaid : Prop := fnBlockAllUptoRow.holds Try.pinned (OpenSpec.upto fnBlockAllSpec)

/-- 'laws.FnBlockSame', WHERE WHAT IT READS IS OF BULK AT MOST 1048576: true; the input reads as it did. -/
def fnBlockSameUptoRow : OpenClaim := { program := "ythmddmobfkfgeaa", sum := "ec882a4dd0f27fd878deb0c888c8144729d84d35d56c8259ce33686bc0193712", func := "loop.example/osier/laws.FnBlockSame", spec := "fnBlockSame", unfollowed := true, recurses := true, plainKeys := false, apart := false, narrowed := true }
def FnBlockSameUptoSaid : Prop := fnBlockSameUptoRow.holds Try.pinned (OpenSpec.upto fnBlockSameSpec)

/-- 'laws.FnBlockBridge', WHERE WHAT IT READS IS OF BULK AT MOST 1048576: true; the input reads as it did. -/
def fnBlockBridgeUptoRow : OpenClaim := { program := "ythmddmobfkfgeaa", sum := "ec882a4dd0f27fd878deb0c888c8144729d84d35d56c8259ce33686bc0193712", func := "loop.example/osier/laws.FnBlockBridge", spec := "fnBlockBridge", unfollowed := true, recurses := true, plainKeys := false, apart := false, narrowed := true }
def FnBlockBridgeUptoSaid : Prop := fnBlockBridgeUptoRow.holds Try.pinned (OpenSpec.upto fnBlockBridgeSpec)

/-- 'laws.FnBlockCut', WHERE WHAT IT READS IS OF BULK AT MOST 1048576: true; the input reads as it did. -/
def fnBlockCutUptoRow : OpenClaim := { program := "ythmddmobfkfgeaa", sum := "ec882a4dd0f27fd878deb0c888c8144729d84d35d56c8259ce33686bc0193712", func := "loop.example/osier/laws.FnBlockCut", spec := "fnBlockCut", unfollowed := true, recurses := true, plainKeys := false, apart := false, narrowed := true }
def FnBlockCutUptoSaid : Prop := fnBlockCutUptoRow.holds Try.pinned (OpenSpec.upto fnBlockCutSpec)

/-- 'laws.FnExactBlockKnots', WHERE WHAT IT READS IS OF BULK AT MOST 1048576: true; the input reads as it did. -/
def fnExactBlockKnotsUptoRow : OpenClaim := { program := "ythmddmobfkfgeaa", sum := "ec882a4dd0f27fd878deb0c888c8144729d84d35d56c8259ce33686bc0193712", func := "loop.example/osier/laws.FnExactBlockKnots", spec := "fnExactBlockKnots", unfollowed := true, recurses := true, plainKeys := false, apart := false, narrowed := true }
def FnExactBlockKnotsUptoSaid : Prop := fnExactBlockKnotsUptoRow.holds Try.pinned (OpenSpec.upto fnExactBlockKnotsSpec)

/-- 'laws.FnBlockSum', WHERE WHAT IT READS IS OF BULK AT MOST 1048576: true; the input reads as it did. -/
def fnBlockSumUptoRow : OpenClaim := { program := "ythmddmobfkfgeaa", sum := "ec882a4dd0f27fd878deb0c888c8144729d84d35d56c8259ce33686bc0193712", func := "loop.example/osier/laws.FnBlockSum", spec := "fnBlockSum", unfollowed := true, recurses := true, plainKeys := false, apart := false, narrowed := true }
def FnBlockSumUptoSaid : Prop := fnBlockSumUptoRow.holds Try.pinned (OpenSpec.upto fnBlockSumSpec)

/-- 'laws.FnBlockTwo', WHERE WHAT IT READS IS OF BULK AT MOST 1048576: true; the input reads as it did. -/
def fnBlockTwoUptoRow : OpenClaim := { program := "ythmddmobfkfgeaa", sum := "ec882a4dd0f27fd878deb0c888c8144729d84d35d56c8259ce33686bc0193712", func := "loop.example/osier/laws.FnBlockTwo", spec := "fnBlockTwo", unfollowed := true, recurses := true, plainKeys := false, apart := false, narrowed := true }
def FnBlockTwoUptoSaid : Prop := fnBlockTwoUptoRow.holds Try.pinned (OpenSpec.upto fnBlockTwoSpec)

/-- 'laws.FnBlockKnots', WHERE WHAT IT READS IS OF BULK AT MOST 1048576: true; the input reads as it did. -/
def fnBlockKnotsUptoRow : OpenClaim := { program := "ythmddmobfkfgeaa", sum := "ec882a4dd0f27fd878deb0c888c8144729d84d35d56c8259ce33686bc0193712", func := "loop.example/osier/laws.FnBlockKnots", spec := "fnBlockKnots", unfollowed := true, recurses := true, plainKeys := false, apart := false, narrowed := true }
def FnBlockKnotsUptoSaid : Prop := fnBlockKnotsUptoRow.holds Try.pinned (OpenSpec.upto fnBlockKnotsSpec)

/-- 'laws.FnExactBlockTree', WHERE WHAT IT READS IS OF BULK AT MOST 1048576: true; the input reads as it did. -/
def fnExactBlockTreeUptoRow : OpenClaim := { program := "ythmddmobfkfgeaa", sum := "ec882a4dd0f27fd878deb0c888c8144729d84d35d56c8259ce33686bc0193712", func := "loop.example/osier/laws.FnExactBlockTree", spec := "fnExactBlockTree", unfollowed := true, recurses := true, plainKeys := false, apart := false, narrowed := true }
def FnExactBlockTreeUptoSaid : Prop := fnExactBlockTreeUptoRow.holds Try.pinned (OpenSpec.upto fnExactBlockTreeSpec)

/-- 'laws.FnBlockTree', WHERE WHAT IT READS IS OF BULK AT MOST 1048576: true; the input reads as it did. -/
def fnBlockTreeUptoRow : OpenClaim := { program := "ythmddmobfkfgeaa", sum := "ec882a4dd0f27fd878deb0c888c8144729d84d35d56c8259ce33686bc0193712", func := "loop.example/osier/laws.FnBlockTree", spec := "fnBlockTree", unfollowed := true, recurses := true, plainKeys := false, apart := false, narrowed := true }
def FnBlockTreeUptoSaid : Prop := fnBlockTreeUptoRow.holds Try.pinned (OpenSpec.upto fnBlockTreeSpec)

/-- 'laws.FnExactTwoFind', WHERE WHAT IT READS IS OF BULK AT MOST 1048576: true; the input reads as it did. -/
def fnExactTwoFindUptoRow : OpenClaim := { program := "ythmddmobfkfgeaa", sum := "ec882a4dd0f27fd878deb0c888c8144729d84d35d56c8259ce33686bc0193712", func := "loop.example/osier/laws.FnExactTwoFind", spec := "fnExactTwoFind", unfollowed := true, recurses := true, plainKeys := false, apart := false, narrowed := true }
def FnExactTwoFindUptoSaid : Prop := fnExactTwoFindUptoRow.holds Try.pinned (OpenSpec.upto fnExactTwoFindSpec)

/-- 'laws.FnTwoFind', WHERE WHAT IT READS IS OF BULK AT MOST 1048576: true; the input reads as it did. -/
def fnTwoFindUptoRow : OpenClaim := { program := "ythmddmobfkfgeaa", sum := "ec882a4dd0f27fd878deb0c888c8144729d84d35d56c8259ce33686bc0193712", func := "loop.example/osier/laws.FnTwoFind", spec := "fnTwoFind", unfollowed := true, recurses := true, plainKeys := false, apart := false, narrowed := true }
def FnTwoFindUptoSaid : Prop := fnTwoFindUptoRow.holds Try.pinned (OpenSpec.upto fnTwoFindSpec)

/-- 'laws.FnTwoTurn', WHERE WHAT IT READS IS OF BULK AT MOST 1048576: true; the input reads as it did. -/
def fnTwoTurnUptoRow : OpenClaim := { program := "ythmddmobfkfgeaa", sum := "ec882a4dd0f27fd878deb0c888c8144729d84d35d56c8259ce33686bc0193712", func := "loop.example/osier/laws.FnTwoTurn", spec := "fnTwoTurn", unfollowed := true, recurses := true, plainKeys := false, apart := false, narrowed := true }
def FnTwoTurnUptoSaid : Prop := fnTwoTurnUptoRow.holds Try.pinned (OpenSpec.upto fnTwoTurnSpec)

/-- 'laws.FnTwoFirst', WHERE WHAT IT READS IS OF BULK AT MOST 1048576: true; the input reads as it did. -/
def fnTwoFirstUptoRow : OpenClaim := { program := "ythmddmobfkfgeaa", sum := "ec882a4dd0f27fd878deb0c888c8144729d84d35d56c8259ce33686bc0193712", func := "loop.example/osier/laws.FnTwoFirst", spec := "fnTwoFirst", unfollowed := true, recurses := true, plainKeys := false, apart := false, narrowed := true }
def FnTwoFirstUptoSaid : Prop := fnTwoFirstUptoRow.holds Try.pinned (OpenSpec.upto fnTwoFirstSpec)

/-- 'laws.FnTwoTop', WHERE WHAT IT READS IS OF BULK AT MOST 1048576: true; the input reads as it did. -/
def fnTwoTopUptoRow : OpenClaim := { program := "ythmddmobfkfgeaa", sum := "ec882a4dd0f27fd878deb0c888c8144729d84d35d56c8259ce33686bc0193712", func := "loop.example/osier/laws.FnTwoTop", spec := "fnTwoTop", unfollowed := true, recurses := true, plainKeys := false, apart := false, narrowed := true }
def FnTwoTopUptoSaid : Prop := fnTwoTopUptoRow.holds Try.pinned (OpenSpec.upto fnTwoTopSpec)

/-- 'laws.FnTwoMore', WHERE WHAT IT READS IS OF BULK AT MOST 1048576: true; the input reads as it did. -/
def fnTwoMoreUptoRow : OpenClaim := { program := "ythmddmobfkfgeaa", sum := "ec882a4dd0f27fd878deb0c888c8144729d84d35d56c8259ce33686bc0193712", func := "loop.example/osier/laws.FnTwoMore", spec := "fnTwoMore", unfollowed := true, recurses := true, plainKeys := false, apart := false, narrowed := true }
def FnTwoMoreUptoSaid : Prop := fnTwoMoreUptoRow.holds Try.pinned (OpenSpec.upto fnTwoMoreSpec)

/-- 'laws.FnTwoLong', WHERE WHAT IT READS IS OF BULK AT MOST 1048576: true; the input reads as it did. -/
def fnTwoLongUptoRow : OpenClaim := { program := "ythmddmobfkfgeaa", sum := "ec882a4dd0f27fd878deb0c888c8144729d84d35d56c8259ce33686bc0193712", func := "loop.example/osier/laws.FnTwoLong", spec := "fnTwoLong", unfollowed := true, recurses := true, plainKeys := false, apart := false, narrowed := true }
def FnTwoLongUptoSaid : Prop := fnTwoLongUptoRow.holds Try.pinned (OpenSpec.upto fnTwoLongSpec)

/-- 'laws.FnTwoBlock', WHERE WHAT IT READS IS OF BULK AT MOST 1048576: true; the input reads as it did. -/
def fnTwoBlockUptoRow : OpenClaim := { program := "ythmddmobfkfgeaa", sum := "ec882a4dd0f27fd878deb0c888c8144729d84d35d56c8259ce33686bc0193712", func := "loop.example/osier/laws.FnTwoBlock", spec := "fnTwoBlock", unfollowed := true, recurses := true, plainKeys := false, apart := false, narrowed := true }
def FnTwoBlockUptoSaid : Prop := fnTwoBlockUptoRow.holds Try.pinned (OpenSpec.upto fnTwoBlockSpec)

end Rows
end Go.Proofs.Ythmddmobfkfgeaa
