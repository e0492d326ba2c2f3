/-
  No cell of these rows narrows 'for every input' (looked for: loops, veiled, ifaces, maps, wideKeys, modest, calm, conditions, laid).
  DERIVED. THE GIVEN ROWS OF THIS SEAT. 4 by the template 'for every input the law returns true; each argument reads behind the call as it read before'; 0 by the template 'total and deterministic' (their statements: YtlddkafpbhjpdaaTotals.lean).
  GIVEN WITH THE SEED: the statements are not yours to turn. If you find one false, say at which input.
  Laid BY PROGRAM, IN A SANDBOX (cutbox-rows.mjs): the forced cells as the released guide's own fill.sh prints them over the translation 560d01f375e9b454… (all of the seat's roots in one cut). By AI agents, Wed Nov 11 2026. No macro, syntax, notation, axiom, sorry.
-/
import Derived.Test.YtlddkafpbhjpdaaChecked
import GoSem.Claim
import GoSem.ClaimJoined
import GoSem.ClaimMapViews
import Derived.JoinedTies
import Derived.KernelRfl
namespace Go.Proofs.Ytlddkafpbhjpdaa
/- THE CELL 'sum', in the pinned program and in every row, IS THE sha256 OF THE DUMP (.gsa) THAT YtlddkafpbhjpdaaProg.lean LOADS. Nothing in Lean hashes anything: it is a label: what it is worth is what the hold of that sum in a sandbox is worth. -/
noncomputable def Try.pinned : Pinned := { name := "ytlddkafpbhjpdaa", sum := "560d01f375e9b454d20dc49f0e23c20ca1d41dfb6e60b43758448307b4bdc0b9", checked := Try.checked }
namespace Rows
def none {H : Type} : Left H := { results := [], args := [] }

/-- 'laws.FnTreeTwice': WHATEVER THE INPUT: true; the input reads as it did. -/
def fnTreeTwiceSpec : ChangeSpec := { name := "fnTreeTwice", fn := fun _ => fun
  | [d] => { results := [.lit (.bool true)], args := [d] }
  | _ => none }
def fnTreeTwiceRow : OpenClaim := { program := "ytlddkafpbhjpdaa", sum := "560d01f375e9b454d20dc49f0e23c20ca1d41dfb6e60b43758448307b4bdc0b9", func := "loop.example/osier/laws.FnTreeTwice", spec := "fnTreeTwice", unfollowed := true, recurses := true, apart := false }
def FnTreeTwiceSaid : Prop := fnTreeTwiceRow.holds Try.pinned (OpenSpec.ofChange fnTreeTwiceSpec)

/-- ITS FALSE NEIGHBOUR: 'it returns false'. Refute it at one input. -/
def fnTreeTwiceWrong : ChangeSpec := { name := "fnTreeTwice", fn := fun _ => fun
  | [d] => { results := [.lit (.bool false)], args := [d] }
  | _ => none }
def FnTreeTwiceWrongFalsely : Prop := fnTreeTwiceRow.holds Try.pinned (OpenSpec.ofChange fnTreeTwiceWrong)

/-- 'laws.FnTwoCut': WHATEVER THE INPUT: true; the input reads as it did. -/
def fnTwoCutSpec : ChangeSpec := { name := "fnTwoCut", fn := fun _ => fun
  | [d] => { results := [.lit (.bool true)], args := [d] }
  | _ => none }
def fnTwoCutRow : OpenClaim := { program := "ytlddkafpbhjpdaa", sum := "560d01f375e9b454d20dc49f0e23c20ca1d41dfb6e60b43758448307b4bdc0b9", func := "loop.example/osier/laws.FnTwoCut", spec := "fnTwoCut", unfollowed := true, recurses := true, apart := false }
def FnTwoCutSaid : Prop := fnTwoCutRow.holds Try.pinned (OpenSpec.ofChange fnTwoCutSpec)

/-- ITS FALSE NEIGHBOUR: 'it returns false'. Refute it at one input. -/
def fnTwoCutWrong : ChangeSpec := { name := "fnTwoCut", fn := fun _ => fun
  | [d] => { results := [.lit (.bool false)], args := [d] }
  | _ => none }
def FnTwoCutWrongFalsely : Prop := fnTwoCutRow.holds Try.pinned (OpenSpec.ofChange fnTwoCutWrong)

/-- 'laws.FnBridgeIs': WHATEVER THE INPUT: true; the input reads as it did. -/
def fnBridgeIsSpec : ChangeSpec := { name := "fnBridgeIs", fn := fun _ => fun
  | [d] => { results := [.lit (.bool true)], args := [d] }
  | _ => none }
def fnBridgeIsRow : OpenClaim := { program := "ytlddkafpbhjpdaa", sum := "560d01f375e9b454d20dc49f0e23c20ca1d41dfb6e60b43758448307b4bdc0b9", func := "loop.example/osier/laws.FnBridgeIs", spec := "fnBridgeIs", unfollowed := true, recurses := true, apart := false }
def FnBridgeIsSaid : Prop := fnBridgeIsRow.holds Try.pinned (OpenSpec.ofChange fnBridgeIsSpec)

/-- ITS FALSE NEIGHBOUR: 'it returns false'. Refute it at one input. -/
def fnBridgeIsWrong : ChangeSpec := { name := "fnBridgeIs", fn := fun _ => fun
  | [d] => { results := [.lit (.bool false)], args := [d] }
  | _ => none }
def FnBridgeIsWrongFalsely : Prop := fnBridgeIsRow.holds Try.pinned (OpenSpec.ofChange fnBridgeIsWrong)

/-- 'laws.FnBridgeTree': WHATEVER THE INPUT: true; the input reads as it did. -/
def fnBridgeTreeSpec : ChangeSpec := { name := "fnBridgeTree", fn := fun _ => fun
  | [d] => { results := [.lit (.bool true)], args := [d] }
  | _ => none }
def fnBridgeTreeRow : OpenClaim := { program := "ytlddkafpbhjpdaa", sum := "560d01f375e9b454d20dc49f0e23c20ca1d41dfb6e60b43758448307b4bdc0b9", func := "loop.example/osier/laws.FnBridgeTree", spec := "fnBridgeTree", unfollowed := true, recurses := true, apart := false }
def FnBridgeTreeSaid : Prop := fnBridgeTreeRow.holds Try.pinned (OpenSpec.ofChange fnBridgeTreeSpec)

/-- ITS FALSE NEIGHBOUR: 'it returns false'. Refute it at one input. -/
def fnBridgeTreeWrong : ChangeSpec := { name := "fnBridgeTree", fn := fun _ => fun
  | [d] => { results := [.lit (.bool false)], args := [d] }
  | _ => none }
def FnBridgeTreeWrongFalsely : Prop := fnBridgeTreeRow.holds Try.pinned (OpenSpec.ofChange fnBridgeTreeWrong)

/- THE SECOND FORM. 'bulk': how many values and letters a reading holds, each counted each time it is reached (what is shared counts as often as it is met; a slice's spare places count too). A statement '..UptoSaid' is the law's where the arguments, and the package variables that the reading takes, are together of bulk at most 1048576: NARROWER than '..Said'. Prove '..Said' where nothing that the law and all that it calls make is longer than what came in: it says more and counts as full. Else prove '..UptoSaid'. A law counts once. -/
mutual
def uptoBulk {H : Type} : DataW H → Nat
  | .lit (.string bytes) => bytes.length + 1
  | .lit _ => 1
  | .nil => 1
  | .ptr d => uptoBulk d + 1
  | .slice elems spare => uptoBulkAll elems + uptoBulkAll spare + 1
  | .agg parts => uptoBulkAll parts + 1
  | .iface _ d => uptoBulk d + 1
  | .map entries => uptoBulkEntries entries + 1
  | .held _ => 1
def uptoBulkAll {H : Type} : List (DataW H) → Nat
  | [] => 0
  | d :: r => uptoBulk d + uptoBulkAll r
def uptoBulkEntries {H : Type} : List (Lit × DataW H) → Nat
  | [] => 0
  | x :: r => uptoBulkEntry x + uptoBulkEntries r
def uptoBulkEntry {H : Type} : Lit × DataW H → Nat
  | (.string bytes, d) => bytes.length + uptoBulk d + 1
  | (_, d) => uptoBulk d + 1
 end
def uptoSmall : (H : Type) → List (DataW H) → Bool := fun _ ds => decide (uptoBulkAll ds ≤ 1048576)
def OpenSpec.upto (s : _root_.Go.ChangeSpec) : _root_.Go.OpenSpec := { _root_.Go.OpenSpec.ofChange s with cond := some uptoSmall }

/-- 'laws.FnTreeTwice', WHERE WHAT IT READS IS OF BULK AT MOST 1048576: true; the input reads as it did. -/
def fnTreeTwiceUptoRow : OpenClaim := { program := "ytlddkafpbhjpdaa", sum := "560d01f375e9b454d20dc49f0e23c20ca1d41dfb6e60b43758448307b4bdc0b9", func := "loop.example/osier/laws.FnTreeTwice", spec := "fnTreeTwice", unfollowed := true, recurses := true, apart := false, narrowed := true }
def FnTreeTwiceUptoSaid : Prop := fnTreeTwiceUptoRow.holds Try.pinned (OpenSpec.upto fnTreeTwiceSpec)

/-- 'laws.FnTwoCut', WHERE WHAT IT READS IS OF BULK AT MOST 1048576: true; the input reads as it did. -/
def fnTwoCutUptoRow : OpenClaim := { program := "ytlddkafpbhjpdaa", sum := "560d01f375e9b454d20dc49f0e23c20ca1d41dfb6e60b43758448307b4bdc0b9", func := "loop.example/osier/laws.FnTwoCut", spec := "fnTwoCut", unfollowed := true, recurses := true, apart := false, narrowed := true }
def FnTwoCutUptoSaid : Prop := fnTwoCutUptoRow.holds Try.pinned (OpenSpec.upto fnTwoCutSpec)

/-- 'laws.FnBridgeIs', WHERE WHAT IT READS IS OF BULK AT MOST 1048576: true; the input reads as it did. -/
def fnBridgeIsUptoRow : OpenClaim := { program := "ytlddkafpbhjpdaa", sum := "560d01f375e9b454d20dc49f0e23c20ca1d41dfb6e60b43758448307b4bdc0b9", func := "loop.example/osier/laws.FnBridgeIs", spec := "fnBridgeIs", unfollowed := true, recurses := true, apart := false, narrowed := true }
def FnBridgeIsUptoSaid : Prop := fnBridgeIsUptoRow.holds Try.pinned (OpenSpec.upto fnBridgeIsSpec)

/-- 'laws.FnBridgeTree', WHERE WHAT IT READS IS OF BULK AT MOST 1048576: true; the input reads as it did. -/
def fnBridgeTreeUptoRow : OpenClaim := { program := "ytlddkafpbhjpdaa", sum := "560d01f375e9b454d20dc49f0e23c20ca1d41dfb6e60b43758448307b4bdc0b9", func := "loop.example/osier/laws.FnBridgeTree", spec := "fnBridgeTree", unfollowed := true, recurses := true, apart := false, narrowed := true }
def FnBridgeTreeUptoSaid : Prop := fnBridgeTreeUptoRow.holds Try.pinned (OpenSpec.upto fnBridgeTreeSpec)

end Rows
end Go.Proofs.Ytlddkafpbhjpdaa
