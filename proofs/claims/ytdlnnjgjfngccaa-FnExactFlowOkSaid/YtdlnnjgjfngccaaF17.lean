-- By oprint.py.
import Derived.Test.YtdlnnjgjfngccaaF0
import Derived.Test.YtdlnnjgjfngccaaF13
import Derived.Test.YtdlnnjgjfngccaaF14
namespace Go.Proofs.Ytdlnnjgjfngccaa.F
open Go.RowKit Go.Proofs.YtdlnnjgjfngccaaW.PrintWords Go.Proofs.YtdlnnjgjfngccaaW.PrintLast Go.Proofs.YtdlnnjgjfngccaaW.PrintMore
attribute [local go_sem] max2_int min2_int max_two min_two max_three min_three max_four min_four
set_option linter.unusedVariables false
set_option linter.unusedSimpArgs false

/-! ### spec_l1Knot: function 87 -/
def spec_l1Knot.f (k : Nat) (a0_0 : Int) (l0_1 : List (S73)) (a1 : Int) : Option (Bool) := (spec_NetOk.f k a0_0 l0_1).bind fun t248 => (if t248 = true then ((spec_l6In.f a1 0 (wrap64 (a0_0 - 1))).bind fun t249 => (some t249)) else (some false))
theorem spec_l1Knot.mono : ∀ a b c k, LeO (spec_l1Knot.f k a b c) (spec_l1Knot.f (k + 1) a b c) := by
 intro a b c k; unfold spec_l1Knot.f; have m0_ := @spec_NetOk.mono; exact mo_
set_option maxHeartbeats 8000000 in
set_option maxRecDepth 100000 in
theorem spec_l1Knot.calls (k : Nat) (b : Int) (d : Option Addr) (g : Nat) (a : List (S73)) (i : Int) (r : Bool) (w : World) (m : Kd.C k73 w d a.length a) (n : a.length ≤ g) (h : spec_l1Knot.f k b a i = some r) :
  Calls Try.prog 87 #[.agg #[.int .i64 b, .slice d a.length g], .int .i64 i] w fun e w' => e = .returned (.bool r) ∧ Below w.heap.size w w' := by
 have y := Try.underlying34; have o := am m; have p := am n; clear m n; have HB := am (Below.refl w.heap.size w)
 have H : ((spec_NetOk.f k b a).bind fun j => (if j = true then ((spec_l6In.f i 0 (wrap64 (b - 1))).bind fun l => (some l)) else (some false))) = some r := h
 clear h; obtain ⟨j, q, H⟩ := bi_ H; by_cases s : j = true
 ·subst s; rw [if_pos rfl] at H; obtain ⟨l, t, H⟩ := bi_ H; obtain rfl := Option.some.inj H; go_enter Try.func87, Try.ntmps87
  go_wp2_with (first | ((with_reducible refine gate_dst (N := 2) rfl ?_); refine bx_ 2 #[.int .i64 b, .slice d a.length g] 34 HB ?_; clear HB; intro u hg w6 hb c x HB; clear hb hg; have z := c2 c) | ((with_reducible refine gate_callee (f := 66) rfl ?_); refine gl_ (some 6) Try.func66 #[.agg #[.int .i64 b, .slice d a.length g]] ?_; (with_reducible refine (spec_NetOk.calls k b _ _ a true _ ?z_1 ?z_2 q.out).mono ?_); (case z_1 => exact cb o HB); (case z_2 => exact p.out); rintro e w8 ⟨rfl, hb⟩; refine ⟨_, rfl, ?_⟩; replace c := bb c hb; replace HB := bs HB hb; (try clear hb); have A := c2 c) | (go_at_call 118; (with_reducible refine (spec_l6In.calls i 0 (wrap64 (b - 1)) l _ t.out).mono ?_); rintro e w' ⟨rfl, ⟨nd, rfl⟩⟩))
  go_ret
  exact ⟨er_, bn HB⟩
 ·obtain rfl := nt_ s; rw [if_neg nf_] at H; obtain rfl := Option.some.inj H; go_enter Try.func87, Try.ntmps87
  go_wp2_with (first | ((with_reducible refine gate_dst (N := 2) rfl ?_); refine bx_ 2 #[.int .i64 b, .slice d a.length g] 34 HB ?_; clear HB; intro u hg w10 hb c x HB; clear hb hg; have B := c2 c) | ((with_reducible refine gate_callee (f := 66) rfl ?_); refine gl_ (some 6) Try.func66 #[.agg #[.int .i64 b, .slice d a.length g]] ?_; (with_reducible refine (spec_NetOk.calls k b _ _ a false _ ?z_1 ?z_2 q.out).mono ?_); (case z_1 => exact cb o HB); (case z_2 => exact p.out); rintro e w12 ⟨rfl, hb⟩; refine ⟨_, rfl, ?_⟩; replace c := bb c hb; replace HB := bs HB hb; (try clear hb)))
  go_ret
  exact ⟨er_, bn HB⟩

end Go.Proofs.Ytdlnnjgjfngccaa.F
