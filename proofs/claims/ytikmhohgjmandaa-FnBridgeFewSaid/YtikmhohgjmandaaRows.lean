/-
  No cell of these rows narrows 'for every input' (looked for: loops, veiled, ifaces, maps, wideKeys, modest, calm, conditions, laid).
  DERIVED. THE GIVEN ROWS OF THIS SEAT. 4 by the template 'for every input the law returns true; each argument reads behind the call as it read before'; 0 by the template 'total and deterministic' (their statements: YtikmhohgjmandaaTotals.lean).
  GIVEN WITH THE SEED: the statements are not yours to turn. If you find one false, say at which input.
  Laid BY PROGRAM, IN A SANDBOX (cutbox-rows.mjs): the forced cells as the released guide's own fill.sh prints them over the translation ccb242626849302d… (all of the seat's roots in one cut). By AI agents, Wed Nov 11 2026. No macro, syntax, notation, axiom, sorry.
-/
import Derived.Test.YtikmhohgjmandaaChecked
import GoSem.Claim
import GoSem.ClaimJoined
import GoSem.ClaimMapViews
import Derived.JoinedTies
import Derived.KernelRfl
namespace Go.Proofs.Ytikmhohgjmandaa
/- THE CELL 'sum', in the pinned program and in every row, IS THE sha256 OF THE DUMP (.gsa) THAT YtikmhohgjmandaaProg.lean LOADS. Nothing in Lean hashes anything: it is a label: what it is worth is what the hold of that sum in a sandbox is worth. -/
noncomputable def Try.pinned : Pinned := { name := "ytikmhohgjmandaa", sum := "ccb242626849302d979c4cbff3c054a3da977fcc3bd8b55e3fe2f6f1efd5a35e", checked := Try.checked }
namespace Rows
def none {H : Type} : Left H := { results := [], args := [] }

/-- 'laws.FnFlowOk': WHATEVER THE INPUT: true; the input reads as it did. -/
def fnFlowOkSpec : ChangeSpec := { name := "fnFlowOk", fn := fun _ => fun
  | [d1, d2] => { results := [.lit (.bool true)], args := [d1, d2] }
  | _ => none }
def fnFlowOkRow : OpenClaim := { program := "ytikmhohgjmandaa", sum := "ccb242626849302d979c4cbff3c054a3da977fcc3bd8b55e3fe2f6f1efd5a35e", func := "loop.example/osier/laws.FnFlowOk", spec := "fnFlowOk", recurses := true, plainKeys := false, apart := false }
def FnFlowOkSaid : Prop := fnFlowOkRow.holds Try.pinned (OpenSpec.ofChange fnFlowOkSpec)

/-- ITS FALSE NEIGHBOUR: 'it returns false'. Refute it at one input. -/
def fnFlowOkWrong : ChangeSpec := { name := "fnFlowOk", fn := fun _ => fun
  | [d1, d2] => { results := [.lit (.bool false)], args := [d1, d2] }
  | _ => none }
def FnFlowOkWrongFalsely : Prop := fnFlowOkRow.holds Try.pinned (OpenSpec.ofChange fnFlowOkWrong)

/-- 'laws.FnFlowTop': WHATEVER THE INPUT: true; the input reads as it did. -/
def fnFlowTopSpec : ChangeSpec := { name := "fnFlowTop", fn := fun _ => fun
  | [d] => { results := [.lit (.bool true)], args := [d] }
  | _ => none }
def fnFlowTopRow : OpenClaim := { program := "ytikmhohgjmandaa", sum := "ccb242626849302d979c4cbff3c054a3da977fcc3bd8b55e3fe2f6f1efd5a35e", func := "loop.example/osier/laws.FnFlowTop", spec := "fnFlowTop", recurses := true, plainKeys := false, apart := false }
def FnFlowTopSaid : Prop := fnFlowTopRow.holds Try.pinned (OpenSpec.ofChange fnFlowTopSpec)

/-- ITS FALSE NEIGHBOUR: 'it returns false'. Refute it at one input. -/
def fnFlowTopWrong : ChangeSpec := { name := "fnFlowTop", fn := fun _ => fun
  | [d] => { results := [.lit (.bool false)], args := [d] }
  | _ => none }
def FnFlowTopWrongFalsely : Prop := fnFlowTopRow.holds Try.pinned (OpenSpec.ofChange fnFlowTopWrong)

/-- 'laws.FnFlowTie': WHATEVER THE INPUT: true; the input reads as it did. -/
def fnFlowTieSpec : ChangeSpec := { name := "fnFlowTie", fn := fun _ => fun
  | [d1, d2] => { results := [.lit (.bool true)], args := [d1, d2] }
  | _ => none }
def fnFlowTieRow : OpenClaim := { program := "ytikmhohgjmandaa", sum := "ccb242626849302d979c4cbff3c054a3da977fcc3bd8b55e3fe2f6f1efd5a35e", func := "loop.example/osier/laws.FnFlowTie", spec := "fnFlowTie", unfollowed := true, recurses := true, plainKeys := false, apart := false }
def FnFlowTieSaid : Prop := fnFlowTieRow.holds Try.pinned (OpenSpec.ofChange fnFlowTieSpec)

/-- ITS FALSE NEIGHBOUR: 'it returns false'. Refute it at one input. -/
def fnFlowTieWrong : ChangeSpec := { name := "fnFlowTie", fn := fun _ => fun
  | [d1, d2] => { results := [.lit (.bool false)], args := [d1, d2] }
  | _ => none }
def FnFlowTieWrongFalsely : Prop := fnFlowTieRow.holds Try.pinned (OpenSpec.ofChange fnFlowTieWrong)

/-- 'laws.FnBridgeFew': WHATEVER THE INPUT: true; the input reads as it did. -/
def fnBridgeFewSpec : ChangeSpec := { name := "fnBridgeFew", fn := fun _ => fun
  | [d] => { results := [.lit (.bool true)], args := [d] }
  | _ => none }
def fnBridgeFewRow : OpenClaim := { program := "ytikmhohgjmandaa", sum := "ccb242626849302d979c4cbff3c054a3da977fcc3bd8b55e3fe2f6f1efd5a35e", func := "loop.example/osier/laws.FnBridgeFew", spec := "fnBridgeFew", unfollowed := true, recurses := true, plainKeys := false, apart := false }
def FnBridgeFewSaid : Prop := fnBridgeFewRow.holds Try.pinned (OpenSpec.ofChange fnBridgeFewSpec)

/-- ITS FALSE NEIGHBOUR: 'it returns false'. Refute it at one input. -/
def fnBridgeFewWrong : ChangeSpec := { name := "fnBridgeFew", fn := fun _ => fun
  | [d] => { results := [.lit (.bool false)], args := [d] }
  | _ => none }
def FnBridgeFewWrongFalsely : Prop := fnBridgeFewRow.holds Try.pinned (OpenSpec.ofChange fnBridgeFewWrong)

/- THE SECOND FORM. 'bulk': how many values and letters a reading holds, each counted each time it is reached (what is shared counts as often as it is met; a slice's spare places count too). A statement '..UptoSaid' is the law's where the arguments, and the package variables that the reading takes, are together of bulk at most 1048576: NARROWER than '..Said'. Prove '..Said' where nothing that the law and all that it calls make is longer than what came in: it says more and counts as full. Else prove '..UptoSaid'. A law counts once. -/
mutual
def uptoBulk {H : Type} : DataW H → Nat
  | .lit (.string bytes) => bytes.length + 1
  | .lit _ => 1
  | .nil => 1
  | .ptr d => uptoBulk d + 1
  | .slice elems spare => uptoBulkAll elems + uptoBulkAll spare + 1
  | .agg parts => uptoBulkAll parts + 1
  | .iface _ d => uptoBulk d + 1
  | .map entries => uptoBulkEntries entries + 1
  | .held _ => 1
def uptoBulkAll {H : Type} : List (DataW H) → Nat
  | [] => 0
  | d :: r => uptoBulk d + uptoBulkAll r
def uptoBulkEntries {H : Type} : List (Lit × DataW H) → Nat
  | [] => 0
  | x :: r => uptoBulkEntry x + uptoBulkEntries r
def uptoBulkEntry {H : Type} : Lit × DataW H → Nat
  | (.string bytes, d) => bytes.length + uptoBulk d + 1
  | (_, d) => uptoBulk d + 1
 end
def uptoSmall : (H : Type) → List (DataW H) → Bool := fun _ ds => decide (uptoBulkAll ds ≤ 1048576)
def OpenSpec.upto (s : _root_.Go.ChangeSpec) : _root_.Go.OpenSpec := { _root_.Go.OpenSpec.ofChange s with cond := some uptoSmall }

/-- 'laws.FnFlowOk', WHERE WHAT IT READS IS OF BULK AT MOST 1048576: true; the input reads as it did. -/
def fnFlowOkUptoRow : OpenClaim := { program := "ytikmhohgjmandaa", sum := "ccb242626849302d979c4cbff3c054a3da977fcc3bd8b55e3fe2f6f1efd5a35e", func := "loop.example/osier/laws.FnFlowOk", spec := "fnFlowOk", recurses := true, plainKeys := false, apart := false, narrowed := true }
def FnFlowOkUptoSaid : Prop := fnFlowOkUptoRow.holds Try.pinned (OpenSpec.upto fnFlowOkSpec)

/-- 'laws.FnFlowTop', WHERE WHAT IT READS IS OF BULK AT MOST 1048576: true; the input reads as it did. -/
def fnFlowTopUptoRow : OpenClaim := { program := "ytikmhohgjmandaa", sum := "ccb242626849302d979c4cbff3c054a3da977fcc3bd8b55e3fe2f6f1efd5a35e", func := "loop.example/osier/laws.FnFlowTop", spec := "fnFlowTop", recurses := true, plainKeys := false, apart := false, narrowed := true }
def FnFlowTopUptoSaid : Prop := fnFlowTopUptoRow.holds Try.pinned (OpenSpec.upto fnFlowTopSpec)

/-- 'laws.FnFlowTie', WHERE WHAT IT READS IS OF BULK AT MOST 1048576: true; the input reads as it did. -/
def fnFlowTieUptoRow : OpenClaim := { program := "ytikmhohgjmandaa", sum := "ccb242626849302d979c4cbff3c054a3da977fcc3bd8b55e3fe2f6f1efd5a35e", func := "loop.example/osier/laws.FnFlowTie", spec := "fnFlowTie", unfollowed := true, recurses := true, plainKeys := false, apart := false, narrowed := true }
def FnFlowTieUptoSaid : Prop := fnFlowTieUptoRow.holds Try.pinned (OpenSpec.upto fnFlowTieSpec)

/-- 'laws.FnBridgeFew', WHERE WHAT IT READS IS OF BULK AT MOST 1048576: true; the input reads as it did. -/
def fnBridgeFewUptoRow : OpenClaim := { program := "ytikmhohgjmandaa", sum := "ccb242626849302d979c4cbff3c054a3da977fcc3bd8b55e3fe2f6f1efd5a35e", func := "loop.example/osier/laws.FnBridgeFew", spec := "fnBridgeFew", unfollowed := true, recurses := true, plainKeys := false, apart := false, narrowed := true }
def FnBridgeFewUptoSaid : Prop := fnBridgeFewUptoRow.holds Try.pinned (OpenSpec.upto fnBridgeFewSpec)

end Rows
end Go.Proofs.Ytikmhohgjmandaa
