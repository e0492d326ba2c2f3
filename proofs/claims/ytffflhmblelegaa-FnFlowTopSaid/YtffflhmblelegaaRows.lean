/-
  No cell of these rows narrows 'for every input' (looked for: loops, veiled, ifaces, maps, wideKeys, modest, calm, conditions, laid).
  DERIVED. THE GIVEN ROWS OF THIS SEAT. 7 by the template 'for every input the law returns true; each argument reads behind the call as it read before'; 0 by the template 'total and deterministic' (their statements: YtffflhmblelegaaTotals.lean).
  GIVEN WITH THE SEED: the statements are not yours to turn. If you find one false, say at which input.
  Laid BY PROGRAM, IN A SANDBOX (cutbox-rows.mjs): the forced cells as the released guide's own fill.sh prints them over the translation 564cea6c8f326d27… (all of the seat's roots in one cut). By AI agents, Wed Nov 11 2026. No macro, syntax, notation, axiom, sorry.
-/
import Derived.Test.YtffflhmblelegaaChecked
import GoSem.Claim
import GoSem.ClaimJoined
import GoSem.ClaimMapViews
import Derived.JoinedTies
import Derived.KernelRfl
namespace Go.Proofs.Ytffflhmblelegaa
/- THE CELL 'sum', in the pinned program and in every row, IS THE sha256 OF THE DUMP (.gsa) THAT YtffflhmblelegaaProg.lean LOADS. Nothing in Lean hashes anything: it is a label: what it is worth is what the hold of that sum in a sandbox is worth. -/
noncomputable def Try.pinned : Pinned := { name := "ytffflhmblelegaa", sum := "564cea6c8f326d2702aac20feaeb3a9d7c3304d7ea4b4aa010b3741631bca5fe", checked := Try.checked }
namespace Rows
def none {H : Type} : Left H := { results := [], args := [] }

/-- 'laws.FnFlowOk': WHATEVER THE INPUT: true; the input reads as it did. -/
def fnFlowOkSpec : ChangeSpec := { name := "fnFlowOk", fn := fun _ => fun
  | [d1, d2] => { results := [.lit (.bool true)], args := [d1, d2] }
  | _ => none }
def fnFlowOkRow : OpenClaim := { program := "ytffflhmblelegaa", sum := "564cea6c8f326d2702aac20feaeb3a9d7c3304d7ea4b4aa010b3741631bca5fe", func := "loop.example/osier/laws.FnFlowOk", spec := "fnFlowOk", recurses := true, plainKeys := false, apart := false }
def FnFlowOkSaid : Prop := fnFlowOkRow.holds Try.pinned (OpenSpec.ofChange fnFlowOkSpec)

/-- ITS FALSE NEIGHBOUR: 'it returns false'. Refute it at one input. -/
def fnFlowOkWrong : ChangeSpec := { name := "fnFlowOk", fn := fun _ => fun
  | [d1, d2] => { results := [.lit (.bool false)], args := [d1, d2] }
  | _ => none }
def FnFlowOkWrongFalsely : Prop := fnFlowOkRow.holds Try.pinned (OpenSpec.ofChange fnFlowOkWrong)

/-- 'laws.FnFlowTop': WHATEVER THE INPUT: true; the input reads as it did. -/
def fnFlowTopSpec : ChangeSpec := { name := "fnFlowTop", fn := fun _ => fun
  | [d] => { results := [.lit (.bool true)], args := [d] }
  | _ => none }
def fnFlowTopRow : OpenClaim := { program := "ytffflhmblelegaa", sum := "564cea6c8f326d2702aac20feaeb3a9d7c3304d7ea4b4aa010b3741631bca5fe", func := "loop.example/osier/laws.FnFlowTop", spec := "fnFlowTop", recurses := true, plainKeys := false, apart := false }
def FnFlowTopSaid : Prop := fnFlowTopRow.holds Try.pinned (OpenSpec.ofChange fnFlowTopSpec)

/-- ITS FALSE NEIGHBOUR: 'it returns false'. Refute it at one input. -/
def fnFlowTopWrong : ChangeSpec := { name := "fnFlowTop", fn := fun _ => fun
  | [d] => { results := [.lit (.bool false)], args := [d] }
  | _ => none }
def FnFlowTopWrongFalsely : Prop := fnFlowTopRow.holds Try.pinned (OpenSpec.ofChange fnFlowTopWrong)

/-- 'laws.FnExactBlockList': WHATEVER THE INPUT: true; the input reads as it did. -/
def fnExactBlockListSpec : ChangeSpec := { name := "fnExactBlockList", fn := fun _ => fun
  | [d] => { results := [.lit (.bool true)], args := [d] }
  | _ => none }
def fnExactBlockListRow : OpenClaim := { program := "ytffflhmblelegaa", sum := "564cea6c8f326d2702aac20feaeb3a9d7c3304d7ea4b4aa010b3741631bca5fe", func := "loop.example/osier/laws.FnExactBlockList", spec := "fnExactBlockList", unfollowed := true, recurses := true, plainKeys := false, apart := false }
def FnExactBlockListSaid : Prop := fnExactBlockListRow.holds Try.pinned (OpenSpec.ofChange fnExactBlockListSpec)

/-- ITS FALSE NEIGHBOUR: 'it returns false'. Refute it at one input. -/
def fnExactBlockListWrong : ChangeSpec := { name := "fnExactBlockList", fn := fun _ => fun
  | [d] => { results := [.lit (.bool false)], args := [d] }
  | _ => none }
def FnExactBlockListWrongFalsely : Prop := fnExactBlockListRow.holds Try.pinned (OpenSpec.ofChange fnExactBlockListWrong)

/-- 'laws.FnBlockSame': WHATEVER THE INPUT: true; the input reads as it did. -/
def fnBlockSameSpec : ChangeSpec := { name := "fnBlockSame", fn := fun _ => fun
  | [d] => { results := [.lit (.bool true)], args := [d] }
  | _ => none }
def fnBlockSameRow : OpenClaim := { program := "ytffflhmblelegaa", sum := "564cea6c8f326d2702aac20feaeb3a9d7c3304d7ea4b4aa010b3741631bca5fe", func := "loop.example/osier/laws.FnBlockSame", spec := "fnBlockSame", unfollowed := true, recurses := true, plainKeys := false, apart := false }
def FnBlockSameSaid : Prop := fnBlockSameRow.holds Try.pinned (OpenSpec.ofChange fnBlockSameSpec)

/-- ITS FALSE NEIGHBOUR: 'it returns false'. Refute it at one input. -/
def fnBlockSameWrong : ChangeSpec := { name := "fnBlockSame", fn := fun _ => fun
  | [d] => { results := [.lit (.bool false)], args := [d] }
  | _ => none }
def FnBlockSameWrongFalsely : Prop := fnBlockSameRow.holds Try.pinned (OpenSpec.ofChange fnBlockSameWrong)

/-- 'laws.FnTwoMore': WHATEVER THE INPUT: true; the input reads as it did. -/
def fnTwoMoreSpec : ChangeSpec := { name := "fnTwoMore", fn := fun _ => fun
  | [d1, d2] => { results := [.lit (.bool true)], args := [d1, d2] }
  | _ => none }
def fnTwoMoreRow : OpenClaim := { program := "ytffflhmblelegaa", sum := "564cea6c8f326d2702aac20feaeb3a9d7c3304d7ea4b4aa010b3741631bca5fe", func := "loop.example/osier/laws.FnTwoMore", spec := "fnTwoMore", unfollowed := true, recurses := true, plainKeys := false, apart := false }
def FnTwoMoreSaid : Prop := fnTwoMoreRow.holds Try.pinned (OpenSpec.ofChange fnTwoMoreSpec)

/-- ITS FALSE NEIGHBOUR: 'it returns false'. Refute it at one input. -/
def fnTwoMoreWrong : ChangeSpec := { name := "fnTwoMore", fn := fun _ => fun
  | [d1, d2] => { results := [.lit (.bool false)], args := [d1, d2] }
  | _ => none }
def FnTwoMoreWrongFalsely : Prop := fnTwoMoreRow.holds Try.pinned (OpenSpec.ofChange fnTwoMoreWrong)

/-- 'laws.FnTwoLong': WHATEVER THE INPUT: true; the input reads as it did. -/
def fnTwoLongSpec : ChangeSpec := { name := "fnTwoLong", fn := fun _ => fun
  | [d] => { results := [.lit (.bool true)], args := [d] }
  | _ => none }
def fnTwoLongRow : OpenClaim := { program := "ytffflhmblelegaa", sum := "564cea6c8f326d2702aac20feaeb3a9d7c3304d7ea4b4aa010b3741631bca5fe", func := "loop.example/osier/laws.FnTwoLong", spec := "fnTwoLong", unfollowed := true, recurses := true, plainKeys := false, apart := false }
def FnTwoLongSaid : Prop := fnTwoLongRow.holds Try.pinned (OpenSpec.ofChange fnTwoLongSpec)

/-- ITS FALSE NEIGHBOUR: 'it returns false'. Refute it at one input. -/
def fnTwoLongWrong : ChangeSpec := { name := "fnTwoLong", fn := fun _ => fun
  | [d] => { results := [.lit (.bool false)], args := [d] }
  | _ => none }
def FnTwoLongWrongFalsely : Prop := fnTwoLongRow.holds Try.pinned (OpenSpec.ofChange fnTwoLongWrong)

/-- 'laws.FnExactBlockKnots': WHATEVER THE INPUT: true; the input reads as it did. -/
def fnExactBlockKnotsSpec : ChangeSpec := { name := "fnExactBlockKnots", fn := fun _ => fun
  | [d] => { results := [.lit (.bool true)], args := [d] }
  | _ => none }
def fnExactBlockKnotsRow : OpenClaim := { program := "ytffflhmblelegaa", sum := "564cea6c8f326d2702aac20feaeb3a9d7c3304d7ea4b4aa010b3741631bca5fe", func := "loop.example/osier/laws.FnExactBlockKnots", spec := "fnExactBlockKnots", unfollowed := true, recurses := true, plainKeys := false, apart := false }
def FnExactBlockKnotsSaid : Prop := fnExactBlockKnotsRow.holds Try.pinned (OpenSpec.ofChange fnExactBlockKnotsSpec)

/-- ITS FALSE NEIGHBOUR: 'it returns false'. Refute it at one input. -/
def fnExactBlockKnotsWrong : ChangeSpec := { name := "fnExactBlockKnots", fn := fun _ => fun
  | [d] => { results := [.lit (.bool false)], args := [d] }
  | _ => none }
def FnExactBlockKnotsWrongFalsely : Prop := fnExactBlockKnotsRow.holds Try.pinned (OpenSpec.ofChange fnExactBlockKnotsWrong)

/- THE SECOND FORM. 'bulk': how many values and letters a reading holds, each counted each time it is reached (what is shared counts as often as it is met; a slice's spare places count too). A statement '..UptoSaid' is the law's where the arguments, and the package variables that the reading takes, are together of bulk at most 1048576: NARROWER than '..Said'. Prove '..Said' where nothing that the law and all that it calls make is longer than what came in: it says more and counts as full. Else prove '..UptoSaid'. A law counts once. -/
mutual
def uptoBulk {H : Type} : DataW H → Nat
  | .lit (.string bytes) => bytes.length + 1
  | .lit _ => 1
  | .nil => 1
  | .ptr d => uptoBulk d + 1
  | .slice elems spare => uptoBulkAll elems + uptoBulkAll spare + 1
  | .agg parts => uptoBulkAll parts + 1
  | .iface _ d => uptoBulk d + 1
  | .map entries => uptoBulkEntries entries + 1
  | .held _ => 1
def uptoBulkAll {H : Type} : List (DataW H) → Nat
  | [] => 0
  | d :: r => uptoBulk d + uptoBulkAll r
def uptoBulkEntries {H : Type} : List (Lit × DataW H) → Nat
  | [] => 0
  | x :: r => uptoBulkEntry x + uptoBulkEntries r
def uptoBulkEntry {H : Type} : Lit × DataW H → Nat
  | (.string bytes, d) => bytes.length + uptoBulk d + 1
  | (_, d) => uptoBulk d + 1
 end
def uptoSmall : (H : Type) → List (DataW H) → Bool := fun _ ds => decide (uptoBulkAll ds ≤ 1048576)
def OpenSpec.upto (s : _root_.Go.ChangeSpec) : _root_.Go.OpenSpec := { _root_.Go.OpenSpec.ofChange s with cond := some uptoSmall }

/-- 'laws.FnFlowOk', WHERE WHAT IT READS IS OF BULK AT MOST 1048576: true; the input reads as it did. -/
def fnFlowOkUptoRow : OpenClaim := { program := "ytffflhmblelegaa", sum := "564cea6c8f326d2702aac20feaeb3a9d7c3304d7ea4b4aa010b3741631bca5fe", func := "loop.example/osier/laws.FnFlowOk", spec := "fnFlowOk", recurses := true, plainKeys := false, apart := false, narrowed := true }
def FnFlowOkUptoSaid : Prop := fnFlowOkUptoRow.holds Try.pinned (OpenSpec.upto fnFlowOkSpec)

/-- 'laws.FnFlowTop', WHERE WHAT IT READS IS OF BULK AT MOST 1048576: true; the input reads as it did. -/
def fnFlowTopUptoRow : OpenClaim := { program := "ytffflhmblelegaa", sum := "564cea6c8f326d2702aac20feaeb3a9d7c3304d7ea4b4aa010b3741631bca5fe", func := "loop.example/osier/laws.FnFlowTop", spec := "fnFlowTop", recurses := true, plainKeys := false, apart := false, narrowed := true }
def FnFlowTopUptoSaid : Prop := fnFlowTopUptoRow.holds Try.pinned (OpenSpec.upto fnFlowTopSpec)

/-- 'laws.FnExactBlockList', WHERE WHAT IT READS IS OF BULK AT MOST 1048576: true; the input reads as it did. -/
def fnExactBlockListUptoRow : OpenClaim := { program := "ytffflhmblelegaa", sum := "564cea6c8f326d2702aac20feaeb3a9d7c3304d7ea4b4aa010b3741631bca5fe", func := "loop.example/osier/laws.FnExactBlockList", spec := "fnExactBlockList", unfollowed := true, recurses := true, plainKeys := false, apart := false, narrowed := true }
def FnExactBlockListUptoSaid : Prop := fnExactBlockListUptoRow.holds Try.pinned (OpenSpec.upto fnExactBlockListSpec)

/-- 'laws.FnBlockSame', WHERE WHAT IT READS IS OF BULK AT MOST 1048576: true; the input reads as it did. -/
def fnBlockSameUptoRow : OpenClaim := { program := "ytffflhmblelegaa", sum := "564cea6c8f326d2702aac20feaeb3a9d7c3304d7ea4b4aa010b3741631bca5fe", func := "loop.example/osier/laws.FnBlockSame", spec := "fnBlockSame", unfollowed := true, recurses := true, plainKeys := false, apart := false, narrowed := true }
def FnBlockSameUptoSaid : Prop := fnBlockSameUptoRow.holds Try.pinned (OpenSpec.upto fnBlockSameSpec)

/-- 'laws.FnTwoMore', WHERE WHAT IT READS IS OF BULK AT MOST 1048576: true; the input reads as it did. -/
def fnTwoMoreUptoRow : OpenClaim := { program := "ytffflhmblelegaa", sum := "564cea6c8f326d2702aac20feaeb3a9d7c3304d7ea4b4aa010b3741631bca5fe", func := "loop.example/osier/laws.FnTwoMore", spec := "fnTwoMore", unfollowed := true, recurses := true, plainKeys := false, apart := false, narrowed := true }
def FnTwoMoreUptoSaid : Prop := fnTwoMoreUptoRow.holds Try.pinned (OpenSpec.upto fnTwoMoreSpec)

/-- 'laws.FnTwoLong', WHERE WHAT IT READS IS OF BULK AT MOST 1048576: true; the input reads as it did. -/
def fnTwoLongUptoRow : OpenClaim := { program := "ytffflhmblelegaa", sum := "564cea6c8f326d2702aac20feaeb3a9d7c3304d7ea4b4aa010b3741631bca5fe", func := "loop.example/osier/laws.FnTwoLong", spec := "fnTwoLong", unfollowed := true, recurses := true, plainKeys := false, apart := false, narrowed := true }
def FnTwoLongUptoSaid : Prop := fnTwoLongUptoRow.holds Try.pinned (OpenSpec.upto fnTwoLongSpec)

/-- 'laws.FnExactBlockKnots', WHERE WHAT IT READS IS OF BULK AT MOST 1048576: true; the input reads as it did. -/
def fnExactBlockKnotsUptoRow : OpenClaim := { program := "ytffflhmblelegaa", sum := "564cea6c8f326d2702aac20feaeb3a9d7c3304d7ea4b4aa010b3741631bca5fe", func := "loop.example/osier/laws.FnExactBlockKnots", spec := "fnExactBlockKnots", unfollowed := true, recurses := true, plainKeys := false, apart := false, narrowed := true }
def FnExactBlockKnotsUptoSaid : Prop := fnExactBlockKnotsUptoRow.holds Try.pinned (OpenSpec.upto fnExactBlockKnotsSpec)

end Rows
end Go.Proofs.Ytffflhmblelegaa
