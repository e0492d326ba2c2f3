-- By oprint.py.
import Derived.Test.YthmddmobfkfgeaaF0
namespace Go.Proofs.Ythmddmobfkfgeaa.F
open Go.RowKit Go.Proofs.YthmddmobfkfgeaaW.PrintWords Go.Proofs.YthmddmobfkfgeaaW.PrintLast Go.Proofs.YthmddmobfkfgeaaW.PrintMore
attribute [local go_sem] max2_int min2_int max_two min_two max_three min_three max_four min_four
set_option linter.unusedVariables false
set_option linter.unusedSimpArgs false

/-! ### impl_Net_knot: function 93 -/
def impl_Net_knot.f (a0_0 : Int) (l0_1 : List (S33)) (a1 : Int) : Option (Bool) := if a1 ≥ 0 then (some (decide (a1 < a0_0))) else (some false)
set_option maxHeartbeats 8000000 in
set_option maxRecDepth 100000 in
theorem impl_Net_knot.calls (c : Int) (g : Option Addr) (i : Nat) (a : List (S33)) (d : Int) (r : Bool) (w : World) (j : Kd.C k33 w g a.length a) (l : a.length ≤ i) (h : impl_Net_knot.f c a d = some r) :
  Calls Try.prog 93 #[.agg #[.int .i64 c, .slice g a.length i], .int .i64 d] w fun e w' => e = .returned (.bool r) ∧ Below w.heap.size w w' := by
 have q := Try.underlying31; have s := am j; have t := am l; clear j l; have HB := am (Below.refl w.heap.size w)
 have H : (if d ≥ 0 then (some (decide (d < c))) else (some false)) = some r := h
 clear h; by_cases b : d ≥ 0
 ·rw [if_pos b] at H; have n := decide_eq_true b; clear b; obtain rfl := Option.some.inj H; go_enter Try.func93, Try.ntmps93
  go_wp2_with (first | ((with_reducible refine gate_dst (N := 2) rfl ?_); refine bx_ 2 #[.int .i64 c, .slice g a.length i] 31 HB ?_; clear HB; intro o hg w4 hb m p HB; clear hb hg; have u := c2 m))
  go_ret
  exact ⟨er_, bn HB⟩
 ·rw [if_neg b] at H; have n := decide_eq_false b; clear b; obtain rfl := Option.some.inj H; go_enter Try.func93, Try.ntmps93
  go_wp2_with (first | ((with_reducible refine gate_dst (N := 2) rfl ?_); refine bx_ 2 #[.int .i64 c, .slice g a.length i] 31 HB ?_; clear HB; intro o hg w6 hb m p HB; clear hb hg))
  go_ret
  exact ⟨er_, bn HB⟩

end Go.Proofs.Ythmddmobfkfgeaa.F
