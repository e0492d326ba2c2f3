/-
  No cell of these rows narrows 'for every input' (looked for: loops, veiled, ifaces, maps, wideKeys, modest, calm, conditions, laid).
  DERIVED. THE GIVEN ROWS OF THIS SEAT. 6 by the template 'for every input the law returns true; each argument reads behind the call as it read before'; 0 by the template 'total and deterministic' (their statements: YtiamiahkjdipkaaTotals.lean).
  GIVEN WITH THE SEED: the statements are not yours to turn. If you find one false, say at which input.
  Laid BY PROGRAM, IN A SANDBOX (cutbox-rows.mjs): the forced cells as the released guide's own fill.sh prints them over the translation b4db2ba1641add39… (all of the seat's roots in one cut). By AI agents, Wed Nov 11 2026. No macro, syntax, notation, axiom, sorry.
-/
import Derived.Test.YtiamiahkjdipkaaChecked
import GoSem.Claim
import GoSem.ClaimJoined
import GoSem.ClaimMapViews
import Derived.JoinedTies
import Derived.KernelRfl
namespace Go.Proofs.Ytiamiahkjdipkaa
/- THE CELL 'sum', in the pinned program and in every row, IS THE sha256 OF THE DUMP (.gsa) THAT YtiamiahkjdipkaaProg.lean LOADS. Nothing in Lean hashes anything: it is a label: what it is worth is what the hold of that sum in a sandbox is worth. -/
noncomputable def Try.pinned : Pinned := { name := "ytiamiahkjdipkaa", sum := "b4db2ba1641add39a0f0e5f35352efb82fdd7ae32772dc488286f433007ebb67", checked := Try.checked }
namespace Rows
def none {H : Type} : Left H := { results := [], args := [] }

/-- 'laws.FnTreeTwice': WHATEVER THE INPUT: true; the input reads as it did. -/
def fnTreeTwiceSpec : ChangeSpec := { name := "fnTreeTwice", fn := fun _ => fun
  | [d] => { results := [.lit (.bool true)], args := [d] }
  | _ => none }
def fnTreeTwiceRow : OpenClaim := { program := "ytiamiahkjdipkaa", sum := "b4db2ba1641add39a0f0e5f35352efb82fdd7ae32772dc488286f433007ebb67", func := "loop.example/osier/laws.FnTreeTwice", spec := "fnTreeTwice", unfollowed := true, recurses := true, plainKeys := false, apart := false }
def FnTreeTwiceSaid : Prop := fnTreeTwiceRow.holds Try.pinned (OpenSpec.ofChange fnTreeTwiceSpec)

/-- ITS FALSE NEIGHBOUR: 'it returns false'. Refute it at one input. -/
def fnTreeTwiceWrong : ChangeSpec := { name := "fnTreeTwice", fn := fun _ => fun
  | [d] => { results := [.lit (.bool false)], args := [d] }
  | _ => none }
def FnTreeTwiceWrongFalsely : Prop := fnTreeTwiceRow.holds Try.pinned (OpenSpec.ofChange fnTreeTwiceWrong)

/-- 'laws.FnBridgeTree': WHATEVER THE INPUT: true; the input reads as it did. -/
def fnBridgeTreeSpec : ChangeSpec := { name := "fnBridgeTree", fn := fun _ => fun
  | [d] => { results := [.lit (.bool true)], args := [d] }
  | _ => none }
def fnBridgeTreeRow : OpenClaim := { program := "ytiamiahkjdipkaa", sum := "b4db2ba1641add39a0f0e5f35352efb82fdd7ae32772dc488286f433007ebb67", func := "loop.example/osier/laws.FnBridgeTree", spec := "fnBridgeTree", unfollowed := true, recurses := true, plainKeys := false, apart := false }
def FnBridgeTreeSaid : Prop := fnBridgeTreeRow.holds Try.pinned (OpenSpec.ofChange fnBridgeTreeSpec)

/-- ITS FALSE NEIGHBOUR: 'it returns false'. Refute it at one input. -/
def fnBridgeTreeWrong : ChangeSpec := { name := "fnBridgeTree", fn := fun _ => fun
  | [d] => { results := [.lit (.bool false)], args := [d] }
  | _ => none }
def FnBridgeTreeWrongFalsely : Prop := fnBridgeTreeRow.holds Try.pinned (OpenSpec.ofChange fnBridgeTreeWrong)

/-- 'laws.FnFlowOk': WHATEVER THE INPUT: true; the input reads as it did. -/
def fnFlowOkSpec : ChangeSpec := { name := "fnFlowOk", fn := fun _ => fun
  | [d1, d2] => { results := [.lit (.bool true)], args := [d1, d2] }
  | _ => none }
def fnFlowOkRow : OpenClaim := { program := "ytiamiahkjdipkaa", sum := "b4db2ba1641add39a0f0e5f35352efb82fdd7ae32772dc488286f433007ebb67", func := "loop.example/osier/laws.FnFlowOk", spec := "fnFlowOk", recurses := true, plainKeys := false, apart := false }
def FnFlowOkSaid : Prop := fnFlowOkRow.holds Try.pinned (OpenSpec.ofChange fnFlowOkSpec)

/-- ITS FALSE NEIGHBOUR: 'it returns false'. Refute it at one input. -/
def fnFlowOkWrong : ChangeSpec := { name := "fnFlowOk", fn := fun _ => fun
  | [d1, d2] => { results := [.lit (.bool false)], args := [d1, d2] }
  | _ => none }
def FnFlowOkWrongFalsely : Prop := fnFlowOkRow.holds Try.pinned (OpenSpec.ofChange fnFlowOkWrong)

/-- 'laws.FnFlowTop': WHATEVER THE INPUT: true; the input reads as it did. -/
def fnFlowTopSpec : ChangeSpec := { name := "fnFlowTop", fn := fun _ => fun
  | [d] => { results := [.lit (.bool true)], args := [d] }
  | _ => none }
def fnFlowTopRow : OpenClaim := { program := "ytiamiahkjdipkaa", sum := "b4db2ba1641add39a0f0e5f35352efb82fdd7ae32772dc488286f433007ebb67", func := "loop.example/osier/laws.FnFlowTop", spec := "fnFlowTop", recurses := true, plainKeys := false, apart := false }
def FnFlowTopSaid : Prop := fnFlowTopRow.holds Try.pinned (OpenSpec.ofChange fnFlowTopSpec)

/-- ITS FALSE NEIGHBOUR: 'it returns false'. Refute it at one input. -/
def fnFlowTopWrong : ChangeSpec := { name := "fnFlowTop", fn := fun _ => fun
  | [d] => { results := [.lit (.bool false)], args := [d] }
  | _ => none }
def FnFlowTopWrongFalsely : Prop := fnFlowTopRow.holds Try.pinned (OpenSpec.ofChange fnFlowTopWrong)

/-- 'laws.FnFlowFew': WHATEVER THE INPUT: true; the input reads as it did. -/
def fnFlowFewSpec : ChangeSpec := { name := "fnFlowFew", fn := fun _ => fun
  | [d] => { results := [.lit (.bool true)], args := [d] }
  | _ => none }
def fnFlowFewRow : OpenClaim := { program := "ytiamiahkjdipkaa", sum := "b4db2ba1641add39a0f0e5f35352efb82fdd7ae32772dc488286f433007ebb67", func := "loop.example/osier/laws.FnFlowFew", spec := "fnFlowFew", unfollowed := true, recurses := true, plainKeys := false, apart := false }
def FnFlowFewSaid : Prop := fnFlowFewRow.holds Try.pinned (OpenSpec.ofChange fnFlowFewSpec)

/-- ITS FALSE NEIGHBOUR: 'it returns false'. Refute it at one input. -/
def fnFlowFewWrong : ChangeSpec := { name := "fnFlowFew", fn := fun _ => fun
  | [d] => { results := [.lit (.bool false)], args := [d] }
  | _ => none }
def FnFlowFewWrongFalsely : Prop := fnFlowFewRow.holds Try.pinned (OpenSpec.ofChange fnFlowFewWrong)

/-- 'laws.FnTwoOk': WHATEVER THE INPUT: true; the input reads as it did. -/
def fnTwoOkSpec : ChangeSpec := { name := "fnTwoOk", fn := fun _ => fun
  | [d] => { results := [.lit (.bool true)], args := [d] }
  | _ => none }
def fnTwoOkRow : OpenClaim := { program := "ytiamiahkjdipkaa", sum := "b4db2ba1641add39a0f0e5f35352efb82fdd7ae32772dc488286f433007ebb67", func := "loop.example/osier/laws.FnTwoOk", spec := "fnTwoOk", recurses := true, plainKeys := false, apart := false }
def FnTwoOkSaid : Prop := fnTwoOkRow.holds Try.pinned (OpenSpec.ofChange fnTwoOkSpec)

/-- ITS FALSE NEIGHBOUR: 'it returns false'. Refute it at one input. -/
def fnTwoOkWrong : ChangeSpec := { name := "fnTwoOk", fn := fun _ => fun
  | [d] => { results := [.lit (.bool false)], args := [d] }
  | _ => none }
def FnTwoOkWrongFalsely : Prop := fnTwoOkRow.holds Try.pinned (OpenSpec.ofChange fnTwoOkWrong)

/- THE SECOND FORM. 'bulk': how many values and letters a reading holds, each counted each time it is reached (what is shared counts as often as it is met; a slice's spare places count too). A statement '..UptoSaid' is the law's where the arguments, and the package variables that the reading takes, are together of bulk at most 1048576: NARROWER than '..Said'. Prove '..Said' where nothing that the law and all that it calls make is longer than what came in: it says more and counts as full. Else prove '..UptoSaid'. A law counts once. -/
mutual
def uptoBulk {H : Type} : DataW H → Nat
  | .lit (.string bytes) => bytes.length + 1
  | .lit _ => 1
  | .nil => 1
  | .ptr d => uptoBulk d + 1
  | .slice elems spare => uptoBulkAll elems + uptoBulkAll spare + 1
  | .agg parts => uptoBulkAll parts + 1
  | .iface _ d => uptoBulk d + 1
  | .map entries => uptoBulkEntries entries + 1
  | .held _ => 1
def uptoBulkAll {H : Type} : List (DataW H) → Nat
  | [] => 0
  | d :: r => uptoBulk d + uptoBulkAll r
def uptoBulkEntries {H : Type} : List (Lit × DataW H) → Nat
  | [] => 0
  | x :: r => uptoBulkEntry x + uptoBulkEntries r
def uptoBulkEntry {H : Type} : Lit × DataW H → Nat
  | (.string bytes, d) => bytes.length + uptoBulk d + 1
  | (_, d) => uptoBulk d + 1
 end
def uptoSmall : (H : Type) → List (DataW H) → Bool := fun _ ds => decide (uptoBulkAll ds ≤ 1048576)
def OpenSpec.upto (s : _root_.Go.ChangeSpec) : _root_.Go.OpenSpec := { _root_.Go.OpenSpec.ofChange s with cond := some uptoSmall }

/-- 'laws.FnTreeTwice', WHERE WHAT IT READS IS OF BULK AT MOST 1048576: true; the input reads as it did. -/
def fnTreeTwiceUptoRow : OpenClaim := { program := "ytiamiahkjdipkaa", sum := "b4db2ba1641add39a0f0e5f35352efb82fdd7ae32772dc488286f433007ebb67", func := "loop.example/osier/laws.FnTreeTwice", spec := "fnTreeTwice", unfollowed := true, recurses := true, plainKeys := false, apart := false, narrowed := true }
def FnTreeTwiceUptoSaid : Prop := fnTreeTwiceUptoRow.holds Try.pinned (OpenSpec.upto fnTreeTwiceSpec)

/-- 'laws.FnBridgeTree', WHERE WHAT IT READS IS OF BULK AT MOST 1048576: true; the input reads as it did. -/
def fnBridgeTreeUptoRow : OpenClaim := { program := "ytiamiahkjdipkaa", sum := "b4db2ba1641add39a0f0e5f35352efb82fdd7ae32772dc488286f433007ebb67", func := "loop.example/osier/laws.FnBridgeTree", spec := "fnBridgeTree", unfollowed := true, recurses := true, plainKeys := false, apart := false, narrowed := true }
def FnBridgeTreeUptoSaid : Prop := fnBridgeTreeUptoRow.holds Try.pinned (OpenSpec.upto fnBridgeTreeSpec)

/-- 'laws.FnFlowOk', WHERE WHAT IT READS IS OF BULK AT MOST 1048576: true; the input reads as it did. -/
def fnFlowOkUptoRow : OpenClaim := { program := "ytiamiahkjdipkaa", sum := "b4db2ba1641add39a0f0e5f35352efb82fdd7ae32772dc488286f433007ebb67", func := "loop.example/osier/laws.FnFlowOk", spec := "fnFlowOk", recurses := true, plainKeys := false, apart := false, narrowed := true }
def FnFlowOkUptoSaid : Prop := fnFlowOkUptoRow.holds Try.pinned (OpenSpec.upto fnFlowOkSpec)

/-- 'laws.FnFlowTop', WHERE WHAT IT READS IS OF BULK AT MOST 1048576: true; the input reads as it did. -/
def fnFlowTopUptoRow : OpenClaim := { program := "ytiamiahkjdipkaa", sum := "b4db2ba1641add39a0f0e5f35352efb82fdd7ae32772dc488286f433007ebb67", func := "loop.example/osier/laws.FnFlowTop", spec := "fnFlowTop", recurses := true, plainKeys := false, apart := false, narrowed := true }
def FnFlowTopUptoSaid : Prop := fnFlowTopUptoRow.holds Try.pinned (OpenSpec.upto fnFlowTopSpec)

/-- 'laws.FnFlowFew', WHERE WHAT IT READS IS OF BULK AT MOST 1048576: true; the input reads as it did. -/
def fnFlowFewUptoRow : OpenClaim := { program := "ytiamiahkjdipkaa", sum := "b4db2ba1641add39a0f0e5f35352efb82fdd7ae32772dc488286f433007ebb67", func := "loop.example/osier/laws.FnFlowFew", spec := "fnFlowFew", unfollowed := true, recurses := true, plainKeys := false, apart := false, narrowed := true }
def FnFlowFewUptoSaid : Prop := fnFlowFewUptoRow.holds Try.pinned (OpenSpec.upto fnFlowFewSpec)

/-- 'laws.FnTwoOk', WHERE WHAT IT READS IS OF BULK AT MOST 1048576: true; the input reads as it did. -/
def fnTwoOkUptoRow : OpenClaim := { program := "ytiamiahkjdipkaa", sum := "b4db2ba1641add39a0f0e5f35352efb82fdd7ae32772dc488286f433007ebb67", func := "loop.example/osier/laws.FnTwoOk", spec := "fnTwoOk", recurses := true, plainKeys := false, apart := false, narrowed := true }
def FnTwoOkUptoSaid : Prop := fnTwoOkUptoRow.holds Try.pinned (OpenSpec.upto fnTwoOkSpec)

end Rows
end Go.Proofs.Ytiamiahkjdipkaa
