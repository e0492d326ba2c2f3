-- By oprint.py.
import Derived.Test.YtiamiahkjdipkaaF0
import Derived.Test.YtiamiahkjdipkaaF27
import Derived.Test.YtiamiahkjdipkaaXFlowI
namespace Go.Proofs.Ytiamiahkjdipkaa.F
open Go.RowKit Go.Proofs.YtiamiahkjdipkaaW.PrintWords Go.Proofs.YtiamiahkjdipkaaW.PrintLast Go.Proofs.YtiamiahkjdipkaaW.PrintMore
attribute [local go_sem] max2_int min2_int max_two min_two max_three min_three max_four min_four
set_option linter.unusedVariables false
set_option linter.unusedSimpArgs false

/-! ### impl_FlowCount: function 26 -/
def impl_FlowCount.f (k : Nat) (a0_0 : Int) (l0_1 : List (S35)) (a1 : Int) (a2 : Int) : Option (Int) := (impl_twoKnots.f k a0_0 l0_1 a1 a2).bind fun t784 => (if t784 = true then ((impl_Net_flow.f k a0_0 l0_1 a1 a2).bind fun t785 => (some t785)) else (some (-1)))
theorem impl_FlowCount.mono : ∀ a b c d k, LeO (impl_FlowCount.f k a b c d) (impl_FlowCount.f (k + 1) a b c d) := by
 intro a b c d k; unfold impl_FlowCount.f; have m0_ := @impl_Net_flow.mono; have m1_ := @impl_twoKnots.mono; exact mo_
set_option maxHeartbeats 8000000 in
set_option maxRecDepth 100000 in
theorem impl_FlowCount.calls (k : Nat) (b : Int) (i : Option Addr) (j : Nat) (a : List (S35)) (c : Int) (d : Int) (r : Int) (w : World) (p : Kd.C k35 w i a.length a) (q : a.length ≤ j) (h : impl_FlowCount.f k b a c d = some r) :
  Calls Try.prog 26 #[.agg #[.int .i64 b, .slice i a.length j], .int .i64 c, .int .i64 d] w fun e w' => e = .returned (.int .i64 r) ∧ Below w.heap.size w w' := by
 have z := Try.underlying25; have l := am p; have m := am q; clear p q; have HB := am (Below.refl w.heap.size w)
 have H : ((impl_twoKnots.f k b a c d).bind fun n => (if n = true then ((impl_Net_flow.f k b a c d).bind fun o => (some o)) else (some (-1)))) = some r := h
 clear h; obtain ⟨n, s, H⟩ := bi_ H; by_cases t : n = true
 ·subst t; rw [if_pos rfl] at H; obtain ⟨o, u, H⟩ := bi_ H; obtain rfl := Option.some.inj H; go_enter Try.func26, Try.ntmps26
  go_wp2_with (first | ((with_reducible refine gate_dst (N := 3) rfl ?_); refine bx_ 3 #[.int .i64 b, .slice i a.length j] 25 HB ?_; clear HB; intro x hg w7 hb g y HB; clear hb hg; have A := c2 g) | ((with_reducible refine gate_callee (f := 49) rfl ?_); refine gl_ (some 10) Try.func49 #[.agg #[.int .i64 b, .slice i a.length j], .int .i64 c, .int .i64 d] ?_; (with_reducible refine (impl_twoKnots.calls k b _ _ a c d true _ ?z_1 ?z_2 s.out).mono ?_); (case z_1 => exact cb l HB); (case z_2 => exact m.out); rintro e w9 ⟨rfl, hb⟩; refine ⟨_, rfl, ?_⟩; replace g := bb g hb; replace HB := bs HB hb; (try clear hb); have B := c2 g) | ((with_reducible refine gate_callee (f := 55) rfl ?_); refine gl_ (some 15) Try.func55 #[.agg #[.int .i64 b, .slice i a.length j], .int .i64 c, .int .i64 d] ?_; (with_reducible refine (impl_Net_flow.calls k b _ _ a c d o _ ?z_1 ?z_2 u.out).mono ?_); (case z_1 => exact cb l HB); (case z_2 => exact m.out); rintro e w11 ⟨rfl, hb⟩; refine ⟨_, rfl, ?_⟩; replace g := bb g hb; replace HB := bs HB hb; (try clear hb)))
  go_ret
  exact ⟨er_, bn HB⟩
 ·obtain rfl := nt_ t; rw [if_neg nf_] at H; obtain rfl := Option.some.inj H; go_enter Try.func26, Try.ntmps26
  go_wp2_with (first | ((with_reducible refine gate_dst (N := 3) rfl ?_); refine bx_ 3 #[.int .i64 b, .slice i a.length j] 25 HB ?_; clear HB; intro x hg w12 hb g y HB; clear hb hg; have D := c2 g) | ((with_reducible refine gate_callee (f := 49) rfl ?_); refine gl_ (some 10) Try.func49 #[.agg #[.int .i64 b, .slice i a.length j], .int .i64 c, .int .i64 d] ?_; (with_reducible refine (impl_twoKnots.calls k b _ _ a c d false _ ?z_1 ?z_2 s.out).mono ?_); (case z_1 => exact cb l HB); (case z_2 => exact m.out); rintro e w14 ⟨rfl, hb⟩; refine ⟨_, rfl, ?_⟩; replace g := bb g hb; replace HB := bs HB hb; (try clear hb)))
  go_ret
  exact ⟨er_, bn HB⟩

end Go.Proofs.Ytiamiahkjdipkaa.F
