/-
The law FnFlowTop holds of the given program for every input: the row, out of the plain statement (YtffflhmblelegaaPureFnFlowTop) and the walk (YtffflhmblelegaaF29).
-/
import Derived.Test.YtffflhmblelegaaRows
import Derived.Test.YtffflhmblelegaaF29
import Derived.Test.YtffflhmblelegaaPmFnFlowTop
import Derived.Test.YtffflhmblelegaaTop
import Derived.WalkKit
import Derived.ProofKit
import Derived.OpenShut
import Derived.ShutString
import Derived.ChangeOld
import Derived.Below
import Derived.SizedLaws
namespace Go.Proofs.Ytffflhmblelegaa.fnFlowTop
open Go.ChangeShapes Go.WideShapes Go.ChangeAt Go.RowKit Go.Proofs.Ytffflhmblelegaa.Op Go.Proofs.Ytffflhmblelegaa.F Go.Proofs.YtffflhmblelegaaW.PrintWords
open Go.ChangeMaps (open_string shut_string)
set_option linter.unusedVariables false
theorem own : ownKnob Try.prog.godebug = none := by kernel_rfl
theorem laidOut : laidOutB Try.prog = true := by kernel_rfl
set_option maxRecDepth 100000 in
theorem lifted (os : Os) (started : os.Started) (H : Type) (enc : TypeId × Value → H) :
    ReturnsInHanded {} Try.checked os 4 .any (Rows.fnFlowTopSpec.pre6 enc Try.prog Try.f4 Rows.fnFlowTopRow.domain false) (Rows.fnFlowTopSpec.post enc Try.prog Try.f4 false true false false) := by
  refine returnsInHanded_of_change_sized (C := Try.checked) own started (by kernel_rfl) Try.func4
    (ChangeSpec.witness6 (enc := enc) (C := Try.checked) false ⟨#[], #[.slice none 0 0], []⟩ 8 (by kernel_rfl) (by kernel_rfl) (by kernel_rfl) (by kernel_rfl)) ?_
  intro W base args ds gs before hval0 hW hcnd hsz0 _
  have hval : ∀ (j : Nat) t v, Try.f4.params[j]? = some t → args[j]? = some v → Value.okWide Try.prog W .any base t v := hval0
  have hW' := hW
  obtain ⟨p, q, hA0, hV, rfl, hfz, hnd⟩ := hW
  have hA : DataW.TrodAll enc Try.prog W 0 (fun _ => true) true Try.f4.params.toList args.toList ds p := hA0
  rw [Try.params4] at hA hval
  obtain ⟨v0, vs0, d0, ds0, p0, q0, hargs, rfl, rfl, h0, r0⟩ := trodAll_cons hA
  obtain ⟨rfl, rfl, rfl⟩ := trodAll_nil r0
  obtain rfl : args = #[v0] := by cases args; simp_all
  obtain ⟨rfl, rfl⟩ := trodVars_none hV
  have k0 := h0
  have lt0 : ∀ x ∈ p0, x.block < W.heap.size := by obtain ⟨m, hm⟩ := k0; exact DataW.trod_lt m _ _ _ hm
  obtain ⟨A0, len0, c0, rfl⟩ := okWide_slice Try.underlying22 (hval 0 22 v0 rfl rfl)
  obtain ⟨l0, rfl, i0, hc0, hr0⟩ := Opens.asSlice (opens_slice Try.underlying22 (by kernel_rfl) (opens_int Try.underlying5)) h0
  obtain ⟨k, h⟩ := Pure.FnFlowTop l0 i0
  clear hA0 hval0 hsz0
  refine (laws_FnFlowTop.calls k A0 c0 l0 true W hr0 hc0 ⟨rfl⟩ h).mono ?_
  rintro e W' ⟨rfl, bel⟩
  exact ⟨_, rfl, _, _, _, [], _, [], hW', trodAll_mk1 (shut_bool Try.underlying4 _), (trodAll_cons_mk (Below.trod laidOut (by kernel_rfl) (of_decide_eq_true (by kernel_rfl)) k0 bel lt0) trodAll_mk0), rfl, bel.frame _, fun h => by cases h⟩
theorem closed : joinedFacts Try.prog 4 Try.f4 Rows.fnFlowTopSpec Rows.fnFlowTopRow = true := by
  delta joinedFacts
  refine Top.and8 ?_ Top.mayEnter ?_ ?_ ?_ ?_ ?_ ?_
  · kernel_rfl
  · rw [Top.liftsFinal]; kernel_rfl
  · rw [Top.make]; kernel_rfl
  · kernel_rfl
  · kernel_rfl
  · kernel_rfl
  · kernel_rfl
theorem over : Rows.fnFlowTopRow.holds Try.pinned (OpenSpec.ofChange Rows.fnFlowTopSpec) :=
  OpenClaim.holds_of_wide 4 Try.f4 rfl rfl rfl rfl rfl rfl rfl ⟨rfl, rfl, rfl, rfl, rfl⟩ rfl rfl rfl rfl rfl (by kernel_rfl) Try.func4 closed
    (of_decide_eq_true (by kernel_rfl)) (by unfold Func.isWrapper; first | (rw [if_pos (by decide +kernel)]; kernel_rfl) | (rw [if_neg (by decide +kernel)]; exact ⟨rfl, rfl⟩))
    (fun os started H enc _ => lifted os started H enc)
theorem proved : Rows.FnFlowTopSaid := over
#print axioms proved
end Go.Proofs.Ytffflhmblelegaa.fnFlowTop
namespace Go.Proofs.Ytffflhmblelegaa
/-- The row, under a short name, for the claim. -/
theorem fnFlowTop_holds : Rows.FnFlowTopSaid := fnFlowTop.proved
end Go.Proofs.Ytffflhmblelegaa
