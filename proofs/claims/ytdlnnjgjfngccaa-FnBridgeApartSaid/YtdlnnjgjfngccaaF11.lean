-- By oprint.py.
import Derived.Test.YtdlnnjgjfngccaaF0
import Derived.Test.YtdlnnjgjfngccaaF10
import Derived.Test.YtdlnnjgjfngccaaXFlowI
namespace Go.Proofs.Ytdlnnjgjfngccaa.F
open Go.RowKit Go.Proofs.YtdlnnjgjfngccaaW.PrintWords Go.Proofs.YtdlnnjgjfngccaaW.PrintLast Go.Proofs.YtdlnnjgjfngccaaW.PrintMore
attribute [local go_sem] max2_int min2_int max_two min_two max_three min_three max_four min_four
set_option linter.unusedVariables false
set_option linter.unusedSimpArgs false

/-! ### impl_FlowCount: function 33 -/
def impl_FlowCount.f (k : Nat) (a0_0 : Int) (l0_1 : List (S73)) (a1 : Int) (a2 : Int) : Option (Int) := (impl_twoKnots.f k a0_0 l0_1 a1 a2).bind fun t183 => (if t183 = true then ((impl_Net_flow.f k a0_0 l0_1 a1 a2).bind fun t184 => (some t184)) else (some (-1)))
theorem impl_FlowCount.mono : ∀ a b c d k, LeO (impl_FlowCount.f k a b c d) (impl_FlowCount.f (k + 1) a b c d) := by
 intro a b c d k; unfold impl_FlowCount.f; have m0_ := @impl_Net_flow.mono; have m1_ := @impl_twoKnots.mono; exact mo_
set_option maxHeartbeats 8000000 in
set_option maxRecDepth 100000 in
theorem impl_FlowCount.calls (k : Nat) (b : Int) (i : Option Addr) (j : Nat) (a : List (S73)) (c : Int) (d : Int) (r : Int) (w : World) (q : Kd.C k73 w i a.length a) (s : a.length ≤ j) (h : impl_FlowCount.f k b a c d = some r) :
  Calls Try.prog 33 #[.agg #[.int .i64 b, .slice i a.length j], .int .i64 c, .int .i64 d] w fun e w' => e = .returned (.int .i64 r) ∧ Below w.heap.size w w' := by
 have z := Try.underlying34; have m := am q; have n := am s; clear q s; have HB := am (Below.refl w.heap.size w)
 have H : ((impl_twoKnots.f k b a c d).bind fun o => (if o = true then ((impl_Net_flow.f k b a c d).bind fun p => (some p)) else (some (-1)))) = some r := h
 clear h; replace H := bi_ H; obtain ⟨o, t, H⟩ := H; (try dsimp only at H); by_cases l : o = true
 ·subst l; rw [if_pos rfl] at H; replace H := bi_ H; obtain ⟨p, u, H⟩ := H; (try dsimp only at H); obtain rfl := Option.some.inj H; go_enter Try.func33, Try.ntmps33
  go_wp2_with (first | ((with_reducible refine gate_dst (N := 3) rfl ?_); refine bx_ 3 #[.int .i64 b, .slice i a.length j] 34 HB ?_; clear HB; intro x hg w7 hb g y HB; clear hb hg; have A := c2 g) | ((with_reducible refine gate_callee (f := 89) rfl ?_); refine gl_ (some 10) Try.func89 #[.agg #[.int .i64 b, .slice i a.length j], .int .i64 c, .int .i64 d] ?_; (with_reducible refine (impl_twoKnots.calls k b _ _ a c d true _ ?z_1 ?z_2 t.out).mono ?_); (case z_1 => exact cb m HB); (case z_2 => exact n.out); rintro e w9 ⟨rfl, hb⟩; refine ⟨_, rfl, ?_⟩; replace g := bb g hb; replace HB := bs HB hb; (try clear hb); have B := c2 g) | ((with_reducible refine gate_callee (f := 90) rfl ?_); refine gl_ (some 15) Try.func90 #[.agg #[.int .i64 b, .slice i a.length j], .int .i64 c, .int .i64 d] ?_; (with_reducible refine (impl_Net_flow.calls k b _ _ a c d p _ ?z_1 ?z_2 u.out).mono ?_); (case z_1 => exact cb m HB); (case z_2 => exact n.out); rintro e w11 ⟨rfl, hb⟩; refine ⟨_, rfl, ?_⟩; replace g := bb g hb; replace HB := bs HB hb; (try clear hb); (try clear hi)))
  go_ret
  exact ⟨er_, bn HB⟩
 ·replace l := Bool.eq_false_iff.mpr l; subst l; rw [if_neg (show ¬ (false = true) by decide)] at H; obtain rfl := Option.some.inj H; go_enter Try.func33, Try.ntmps33
  go_wp2_with (first | ((with_reducible refine gate_dst (N := 3) rfl ?_); refine bx_ 3 #[.int .i64 b, .slice i a.length j] 34 HB ?_; clear HB; intro x hg w12 hb g y HB; clear hb hg; have D := c2 g) | ((with_reducible refine gate_callee (f := 89) rfl ?_); refine gl_ (some 10) Try.func89 #[.agg #[.int .i64 b, .slice i a.length j], .int .i64 c, .int .i64 d] ?_; (with_reducible refine (impl_twoKnots.calls k b _ _ a c d false _ ?z_1 ?z_2 t.out).mono ?_); (case z_1 => exact cb m HB); (case z_2 => exact n.out); rintro e w14 ⟨rfl, hb⟩; refine ⟨_, rfl, ?_⟩; replace g := bb g hb; replace HB := bs HB hb; (try clear hb); (try clear hi)))
  go_ret
  exact ⟨er_, bn HB⟩

end Go.Proofs.Ytdlnnjgjfngccaa.F
