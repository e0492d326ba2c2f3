/-
The law FnExactBlockKnots holds of the given program for every input: the row, out of the plain statement (YtffflhmblelegaaPureFnExactBlockKnots) and the walk (YtffflhmblelegaaF55).
-/
import Derived.Test.YtffflhmblelegaaRows
import Derived.Test.YtffflhmblelegaaF55
import Derived.Test.YtffflhmblelegaaPmFnExactBlockKnots
import Derived.Test.YtffflhmblelegaaTop
import Derived.WalkKit
import Derived.ProofKit
import Derived.OpenShut
import Derived.ShutString
import Derived.ChangeOld
import Derived.Below
import Derived.SizedLaws
namespace Go.Proofs.Ytffflhmblelegaa.fnExactBlockKnots
open Go.ChangeShapes Go.WideShapes Go.ChangeAt Go.RowKit Go.Proofs.Ytffflhmblelegaa.Op Go.Proofs.Ytffflhmblelegaa.F Go.Proofs.YtffflhmblelegaaW.PrintWords
open Go.ChangeMaps (open_string shut_string)
set_option linter.unusedVariables false
theorem own : ownKnob Try.prog.godebug = none := by kernel_rfl
theorem laidOut : laidOutB Try.prog = true := by kernel_rfl
instance : Inhabited S117 := ⟨z117⟩
set_option maxRecDepth 100000 in
theorem lifted (os : Os) (started : os.Started) (H : Type) (enc : TypeId × Value → H) :
    ReturnsInHanded {} Try.checked os 9 .any (Rows.fnExactBlockKnotsSpec.pre6 enc Try.prog Try.f9 Rows.fnExactBlockKnotsRow.domain false) (Rows.fnExactBlockKnotsSpec.post enc Try.prog Try.f9 false true false false) := by
  refine returnsInHanded_of_change_sized (C := Try.checked) own started (by kernel_rfl) Try.func9
    (ChangeSpec.witness6 (enc := enc) (C := Try.checked) false ⟨#[], #[.agg #[.int .i64 0, .slice none 0 0]], []⟩ 8 (by kernel_rfl) (by kernel_rfl) (by kernel_rfl) (by kernel_rfl)) ?_
  intro W base args ds gs before hval0 hW hcnd hsz0 _
  have hval : ∀ (j : Nat) t v, Try.f9.params[j]? = some t → args[j]? = some v → Value.okWide Try.prog W .any base t v := hval0
  have hW' := hW
  obtain ⟨p, q, hA0, hV, rfl, hfz, hnd⟩ := hW
  have hA : DataW.TrodAll enc Try.prog W 0 (fun _ => true) true Try.f9.params.toList args.toList ds p := hA0
  rw [Try.params9] at hA hval
  obtain ⟨v0, vs0, d0, ds0, p0, q0, hargs, rfl, rfl, h0, r0⟩ := trodAll_cons hA
  obtain ⟨rfl, rfl, rfl⟩ := trodAll_nil r0
  obtain rfl : args = #[v0] := by cases args; simp_all
  obtain ⟨rfl, rfl⟩ := trodVars_none hV
  have k0 := h0
  have lt0 : ∀ x ∈ p0, x.block < W.heap.size := by obtain ⟨m, hm⟩ := k0; exact DataW.trod_lt m _ _ _ hm
  obtain ⟨cs0, rfl, -⟩ := okWide_struct Try.underlying41 (hval 0 41 v0 rfl rfl)
  obtain ⟨⟨a0_0, l0_1⟩, i0, e0, f0, hcs0, he0, hf0⟩ := Opens.asStruct (opens_pair Try.underlying41 (opens_int Try.underlying3) (opens_slice Try.underlying39 (by kernel_rfl) (opens_iso (fun x : S117 => (x.f0, x.f1)) (fun p => ⟨p.1, p.2⟩) (fun _ => rfl) (opens_pair Try.underlying117 (opens_int Try.underlying3) (opens_int Try.underlying3) rfl (by kernel_rfl) (by kernel_rfl)))) rfl (by kernel_rfl) (by kernel_rfl)) h0
  obtain rfl : e0 = [.int .i64 a0_0] := he0
  obtain ⟨A0_1, c0_1, rfl, hc0_1, hr0_1⟩ := hf0
  obtain rfl : cs0 = #[.int .i64 a0_0, .slice A0_1 l0_1.length c0_1] := by cases cs0; simpa using hcs0
  obtain ⟨k, h⟩ := Pure.FnExactBlockKnots a0_0 l0_1 i0.1 i0.2
  clear hA0 hval0 hsz0
  refine (laws_FnExactBlockKnots.calls k a0_0 A0_1 c0_1 l0_1 true W hr0_1 hc0_1 ⟨rfl⟩ h).mono ?_
  rintro e W' ⟨rfl, bel⟩
  exact ⟨_, rfl, _, _, _, [], _, [], hW', trodAll_mk1 (shut_bool Try.underlying4 _), (trodAll_cons_mk (Below.trod laidOut (by kernel_rfl) (of_decide_eq_true (by kernel_rfl)) k0 bel lt0) trodAll_mk0), rfl, bel.frame _, fun h => by cases h⟩
theorem closed : joinedFacts Try.prog 9 Try.f9 Rows.fnExactBlockKnotsSpec Rows.fnExactBlockKnotsRow = true := by
  delta joinedFacts
  refine Top.and8 ?_ Top.mayEnter ?_ ?_ ?_ ?_ ?_ ?_
  · kernel_rfl
  · rw [Top.liftsFinal]; kernel_rfl
  · rw [Top.make]; kernel_rfl
  · kernel_rfl
  · kernel_rfl
  · kernel_rfl
  · kernel_rfl
theorem over : Rows.fnExactBlockKnotsRow.holds Try.pinned (OpenSpec.ofChange Rows.fnExactBlockKnotsSpec) :=
  OpenClaim.holds_of_wide 9 Try.f9 rfl rfl rfl rfl rfl rfl rfl ⟨rfl, rfl, rfl, rfl, rfl⟩ rfl rfl rfl rfl rfl (by kernel_rfl) Try.func9 closed
    (of_decide_eq_true (by kernel_rfl)) (by unfold Func.isWrapper; first | (rw [if_pos (by decide +kernel)]; kernel_rfl) | (rw [if_neg (by decide +kernel)]; exact ⟨rfl, rfl⟩))
    (fun os started H enc _ => lifted os started H enc)
theorem proved : Rows.FnExactBlockKnotsSaid := over
#print axioms proved
end Go.Proofs.Ytffflhmblelegaa.fnExactBlockKnots
namespace Go.Proofs.Ytffflhmblelegaa
/-- The row, under a short name, for the claim. -/
theorem fnExactBlockKnots_holds : Rows.FnExactBlockKnotsSaid := fnExactBlockKnots.proved
end Go.Proofs.Ytffflhmblelegaa
