-- By oprint.py.
import Derived.Test.YtffflhmblelegaaF0
namespace Go.Proofs.Ytffflhmblelegaa.F
open Go.RowKit Go.Proofs.YtffflhmblelegaaW.PrintWords Go.Proofs.YtffflhmblelegaaW.PrintLast Go.Proofs.YtffflhmblelegaaW.PrintMore
attribute [local go_sem] max2_int min2_int max_two min_two max_three min_three max_four min_four
set_option linter.unusedVariables false
set_option linter.unusedSimpArgs false
/-! ### spec_l6In: function 74 -/
def spec_l6In.f (a0 : Int) (a1 : Int) (a2 : Int) : Option (Bool) := if a0 ≥ a1 then (some (decide (a0 ≤ a2))) else (some false)
set_option maxHeartbeats 8000000 in
set_option maxRecDepth 100000 in
theorem spec_l6In.calls (b : Int) (c : Int) (d : Int) (r : Bool) (w : World) (h : spec_l6In.f b c d = some r) :
  Calls Try.prog 74 #[.int .i64 b, .int .i64 c, .int .i64 d] w fun e w' => e = .returned (.bool r) ∧ Drawn0 w w' := by
 have H : (if b ≥ c then (some (decide (b ≤ d))) else (some false)) = some r := h
 clear h; by_cases a : b ≥ c
 ·rw [if_pos a] at H; have g := decide_eq_true a; clear a; obtain rfl := Option.some.inj H; go_enter Try.func74, Try.ntmps74; go_wp2
  go_ret
  exact ⟨rs_, by repeat (first | exact Drawn0.refl _ | apply Drawn0.step)⟩
 ·rw [if_neg a] at H; have g := decide_eq_false a; clear a; obtain rfl := Option.some.inj H; go_enter Try.func74, Try.ntmps74; go_wp2
  go_ret
  exact ⟨rs_, by repeat (first | exact Drawn0.refl _ | apply Drawn0.step)⟩
/-! ### spec_l1Less: function 75 -/
def spec_l1Less.f (a0_0 : Int) (a0_1 : Int) (a1_0 : Int) (a1_1 : Int) : Option (Bool) := if a0_0 < a1_0 then (some true) else (if a0_0 = a1_0 then (some (decide (a0_1 < a1_1))) else (some false))
set_option maxHeartbeats 8000000 in
set_option maxRecDepth 100000 in
theorem spec_l1Less.calls (b : Int) (g : Int) (c : Int) (i : Int) (r : Bool) (w : World) (h : spec_l1Less.f b g c i = some r) :
  Calls Try.prog 75 #[.agg #[.int .i64 b, .int .i64 g], .agg #[.int .i64 c, .int .i64 i]] w fun e w' => e = .returned (.bool r) ∧ Below w.heap.size w w' := by
 have y := Try.underlying52; have HB := am (Below.refl w.heap.size w)
 have H : (if b < c then (some true) else (if b = c then (some (decide (g < i))) else (some false))) = some r := h
 clear h; by_cases j : b < c
 ·rw [if_pos j] at H; have t := decide_eq_true j; clear j; obtain rfl := Option.some.inj H; go_enter Try.func75, Try.ntmps75
  go_wp2_with (first | ((with_reducible refine gate_dst (N := 2) rfl ?_); refine bx_ 2 #[.int .i64 b, .int .i64 g] 52 HB ?_; clear HB; intro o hg w4 hb a p HB; clear hb hg) | ((with_reducible refine gate_dst (N := 3) rfl ?_); refine bx_ 3 #[.int .i64 c, .int .i64 i] 52 HB ?_; clear HB; intro q hg w5 hb l s HB; obtain ⟨m, n⟩ := nb_ hg a; replace a := bb a hb; clear hb hg; have z := n2 m n; have A := c2 a; have B := c2 l))
  go_ret
  exact ⟨er_, bn HB⟩
 ·rw [if_neg j] at H; have t := decide_eq_false j; clear j; by_cases d : b = c
  ·rw [if_pos d] at H; have u : (b == c) = true := beq_iff_eq.mpr d; have x : (b != c) = false := bne_eq_false_iff_eq.mpr d; clear d; obtain rfl := Option.some.inj H; go_enter Try.func75, Try.ntmps75
   go_wp2_with (first | ((with_reducible refine gate_dst (N := 2) rfl ?_); refine bx_ 2 #[.int .i64 b, .int .i64 g] 52 HB ?_; clear HB; intro o hg w10 hb a p HB; clear hb hg) | ((with_reducible refine gate_dst (N := 3) rfl ?_); refine bx_ 3 #[.int .i64 c, .int .i64 i] 52 HB ?_; clear HB; intro q hg w11 hb l s HB; obtain ⟨m, n⟩ := nb_ hg a; replace a := bb a hb; clear hb hg; have D := n2 m n; have E := c2 a; have G := c2 l))
   go_ret
   exact ⟨er_, bn HB⟩
  ·rw [if_neg d] at H; have u : (b == c) = false := beq_eq_false_iff_ne.mpr d; have x : (b != c) = true := bne_iff_ne.mpr d; obtain rfl := Option.some.inj H; go_enter Try.func75, Try.ntmps75
   go_wp2_with (first | ((with_reducible refine gate_dst (N := 2) rfl ?_); refine bx_ 2 #[.int .i64 b, .int .i64 g] 52 HB ?_; clear HB; intro o hg w15 hb a p HB; clear hb hg) | ((with_reducible refine gate_dst (N := 3) rfl ?_); refine bx_ 3 #[.int .i64 c, .int .i64 i] 52 HB ?_; clear HB; intro q hg w16 hb l s HB; obtain ⟨m, n⟩ := nb_ hg a; replace a := bb a hb; clear hb hg; have I := n2 m n; have J := c2 a; have K := c2 l))
   go_ret
   exact ⟨er_, bn HB⟩
end Go.Proofs.Ytffflhmblelegaa.F
