/-
The law FnExactBlockSame holds of the given program for every input: the row, out of the plain statement (YthmddmobfkfgeaaPureFnExactBlockSame) and the walk (YthmddmobfkfgeaaF15).
-/
import Derived.Test.YthmddmobfkfgeaaRows
import Derived.Test.YthmddmobfkfgeaaF15
import Derived.Test.YthmddmobfkfgeaaPmFnExactBlockSame
import Derived.Test.YthmddmobfkfgeaaTop
import Derived.WalkKit
import Derived.ProofKit
import Derived.OpenShut
import Derived.ShutString
import Derived.ChangeOld
import Derived.Below
import Derived.SizedLaws
namespace Go.Proofs.Ythmddmobfkfgeaa.fnExactBlockSame
open Go.ChangeShapes Go.WideShapes Go.ChangeAt Go.RowKit Go.Proofs.Ythmddmobfkfgeaa.Op Go.Proofs.Ythmddmobfkfgeaa.F Go.Proofs.YthmddmobfkfgeaaW.PrintWords
open Go.ChangeMaps (open_string shut_string)
set_option linter.unusedVariables false
theorem own : ownKnob Try.prog.godebug = none := by kernel_rfl
theorem laidOut : laidOutB Try.prog = true := by kernel_rfl
instance : Inhabited S26 := ⟨z26⟩
set_option maxRecDepth 100000 in
theorem lifted (os : Os) (started : os.Started) (H : Type) (enc : TypeId × Value → H) :
    ReturnsInHanded {} Try.checked os 3 .any (Rows.fnExactBlockSameSpec.pre6 enc Try.prog Try.f3 Rows.fnExactBlockSameRow.domain false) (Rows.fnExactBlockSameSpec.post enc Try.prog Try.f3 false true false false) := by
  refine returnsInHanded_of_change_sized (C := Try.checked) own started (by kernel_rfl) Try.func3
    (ChangeSpec.witness6 (enc := enc) (C := Try.checked) false ⟨#[], #[.agg #[.int .i64 0, .slice none 0 0], .agg #[.int .i64 0, .int .i64 0], .agg #[.int .i64 0, .int .i64 0]], []⟩ 8 (by kernel_rfl) (by kernel_rfl) (by kernel_rfl) (by kernel_rfl)) ?_
  intro W base args ds gs before hval0 hW hcnd hsz0 _
  have hval : ∀ (j : Nat) t v, Try.f3.params[j]? = some t → args[j]? = some v → Value.okWide Try.prog W .any base t v := hval0
  have hW' := hW
  obtain ⟨p, q, hA0, hV, rfl, hfz, hnd⟩ := hW
  have hA : DataW.TrodAll enc Try.prog W 0 (fun _ => true) true Try.f3.params.toList args.toList ds p := hA0
  rw [Try.params3] at hA hval
  obtain ⟨v0, vs0, d0, ds0, p0, q0, hargs, rfl, rfl, h0, r0⟩ := trodAll_cons hA
  obtain ⟨v1, vs1, d1, ds1, p1, q1, rfl, rfl, rfl, h1, r1⟩ := trodAll_cons r0
  obtain ⟨v2, vs2, d2, ds2, p2, q2, rfl, rfl, rfl, h2, r2⟩ := trodAll_cons r1
  obtain ⟨rfl, rfl, rfl⟩ := trodAll_nil r2
  obtain rfl : args = #[v0, v1, v2] := by cases args; simp_all
  obtain ⟨rfl, rfl⟩ := trodVars_none hV
  have k0 := h0
  have lt0 : ∀ x ∈ p0, x.block < W.heap.size := by obtain ⟨m, hm⟩ := k0; exact DataW.trod_lt m _ _ _ hm
  obtain ⟨cs0, rfl, -⟩ := okWide_struct Try.underlying24 (hval 0 24 v0 rfl rfl)
  obtain ⟨⟨a0_0, l0_1⟩, i0, e0, f0, hcs0, he0, hf0⟩ := Opens.asStruct (opens_pair Try.underlying24 (opens_int Try.underlying3) (opens_slice Try.underlying22 (by kernel_rfl) (opens_iso (fun x : S26 => (x.f0, x.f1)) (fun p => ⟨p.1, p.2⟩) (fun _ => rfl) (opens_pair Try.underlying26 (opens_int Try.underlying3) (opens_int Try.underlying3) rfl (by kernel_rfl) (by kernel_rfl)))) rfl (by kernel_rfl) (by kernel_rfl)) h0
  obtain rfl : e0 = [.int .i64 a0_0] := he0
  obtain ⟨A0_1, c0_1, rfl, hc0_1, hr0_1⟩ := hf0
  obtain rfl : cs0 = #[.int .i64 a0_0, .slice A0_1 l0_1.length c0_1] := by cases cs0; simpa using hcs0
  have k1 := h1
  have lt1 : ∀ x ∈ p1, x.block < W.heap.size := by obtain ⟨m, hm⟩ := k1; exact DataW.trod_lt m _ _ _ hm
  obtain ⟨cs1, rfl, -⟩ := okWide_struct Try.underlying26 (hval 1 26 v1 rfl rfl)
  obtain ⟨⟨a1_0, l1_1⟩, i1, e1, f1, hcs1, he1, hf1⟩ := Opens.asStruct (opens_pair Try.underlying26 (opens_int Try.underlying3) (opens_int Try.underlying3) rfl (by kernel_rfl) (by kernel_rfl)) h1
  obtain rfl : e1 = [.int .i64 a1_0] := he1
  obtain rfl : f1 = [.int .i64 l1_1] := hf1
  obtain rfl : cs1 = #[.int .i64 a1_0, .int .i64 l1_1] := by cases cs1; simpa using hcs1
  have k2 := h2
  have lt2 : ∀ x ∈ p2, x.block < W.heap.size := by obtain ⟨m, hm⟩ := k2; exact DataW.trod_lt m _ _ _ hm
  obtain ⟨cs2, rfl, -⟩ := okWide_struct Try.underlying26 (hval 2 26 v2 rfl rfl)
  obtain ⟨⟨a2_0, l2_1⟩, i2, e2, f2, hcs2, he2, hf2⟩ := Opens.asStruct (opens_pair Try.underlying26 (opens_int Try.underlying3) (opens_int Try.underlying3) rfl (by kernel_rfl) (by kernel_rfl)) h2
  obtain rfl : e2 = [.int .i64 a2_0] := he2
  obtain rfl : f2 = [.int .i64 l2_1] := hf2
  obtain rfl : cs2 = #[.int .i64 a2_0, .int .i64 l2_1] := by cases cs2; simpa using hcs2
  obtain ⟨k, h⟩ := Pure.FnExactBlockSame a0_0 l0_1 a1_0 l1_1 a2_0 l2_1 i0.1 i0.2 i1.1 i1.2 i2.1 i2.2
  clear hA0 hval0 hsz0
  refine (laws_FnExactBlockSame.calls k a0_0 A0_1 c0_1 l0_1 a1_0 l1_1 a2_0 l2_1 true W hr0_1 hc0_1 ⟨rfl⟩ h).mono ?_
  rintro e W' ⟨rfl, bel⟩
  exact ⟨_, rfl, _, _, _, [], _, [], hW', trodAll_mk1 (shut_bool Try.underlying4 _), (trodAll_cons_mk (Below.trod laidOut (by kernel_rfl) (of_decide_eq_true (by kernel_rfl)) k0 bel lt0) (trodAll_cons_mk (Below.trod laidOut (by kernel_rfl) (of_decide_eq_true (by kernel_rfl)) k1 bel lt1) (trodAll_cons_mk (Below.trod laidOut (by kernel_rfl) (of_decide_eq_true (by kernel_rfl)) k2 bel lt2) trodAll_mk0))), rfl, bel.frame _, fun h => by cases h⟩
theorem closed : joinedFacts Try.prog 3 Try.f3 Rows.fnExactBlockSameSpec Rows.fnExactBlockSameRow = true := by
  delta joinedFacts
  refine Top.and8 ?_ Top.mayEnter ?_ ?_ ?_ ?_ ?_ ?_
  · kernel_rfl
  · rw [Top.liftsFinal]; kernel_rfl
  · rw [Top.make]; kernel_rfl
  · kernel_rfl
  · kernel_rfl
  · kernel_rfl
  · kernel_rfl
theorem over : Rows.fnExactBlockSameRow.holds Try.pinned (OpenSpec.ofChange Rows.fnExactBlockSameSpec) :=
  OpenClaim.holds_of_wide 3 Try.f3 rfl rfl rfl rfl rfl rfl rfl ⟨rfl, rfl, rfl, rfl, rfl⟩ rfl rfl rfl rfl rfl (by kernel_rfl) Try.func3 closed
    (of_decide_eq_true (by kernel_rfl)) (by unfold Func.isWrapper; first | (rw [if_pos (by decide +kernel)]; kernel_rfl) | (rw [if_neg (by decide +kernel)]; exact ⟨rfl, rfl⟩))
    (fun os started H enc _ => lifted os started H enc)
theorem proved : Rows.FnExactBlockSameSaid := over
#print axioms proved
end Go.Proofs.Ythmddmobfkfgeaa.fnExactBlockSame
namespace Go.Proofs.Ythmddmobfkfgeaa
/-- The row, under a short name, for the claim. -/
theorem fnExactBlockSame_holds : Rows.FnExactBlockSameSaid := fnExactBlockSame.proved
end Go.Proofs.Ythmddmobfkfgeaa
