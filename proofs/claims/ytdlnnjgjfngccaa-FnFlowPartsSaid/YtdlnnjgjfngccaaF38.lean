-- By oprint.py.
import Derived.Test.YtdlnnjgjfngccaaF0
import Derived.Test.YtdlnnjgjfngccaaF10
import Derived.Test.YtdlnnjgjfngccaaF31
import Derived.Test.YtdlnnjgjfngccaaF36
import Derived.Test.YtdlnnjgjfngccaaF37
namespace Go.Proofs.Ytdlnnjgjfngccaa.F
open Go.RowKit Go.Proofs.YtdlnnjgjfngccaaW.PrintWords Go.Proofs.YtdlnnjgjfngccaaW.PrintLast Go.Proofs.YtdlnnjgjfngccaaW.PrintMore
attribute [local go_sem] max2_int min2_int max_two min_two max_three min_three max_four min_four
set_option linter.unusedVariables false
set_option linter.unusedSimpArgs false

/-! ### impl_FlowParts: function 46 -/
def impl_FlowParts.f (k : Nat) (a0_0 : Int) (l0_1 : List (S73)) (a1 : Int) (a2 : Int) (l3 : List (S73)) : Option (Bool) := (impl_twoKnots.f k a0_0 l0_1 a1 a2).bind fun t530 => (if t530 = true then ((impl_Net_own.f k a0_0 l0_1 l3).bind fun t531 => (if t531 = true then ((impl_Net_less.f k a0_0 l0_1 l3).bind fun bt532 => ((impl_Net_joined.f k bt532.1 bt532.2 a1 a2).bind fun t536 => (some (!t536)))) else (some false))) else (some false))
theorem impl_FlowParts.mono : ∀ a b c d e k, LeO (impl_FlowParts.f k a b c d e) (impl_FlowParts.f (k + 1) a b c d e) := by
 intro a b c d e k; unfold impl_FlowParts.f; have m0_ := @impl_Net_joined.mono; have m1_ := @impl_Net_less.mono; have m2_ := @impl_Net_own.mono; have m3_ := @impl_twoKnots.mono; exact mo_
set_option maxHeartbeats 8000000 in
set_option maxRecDepth 100000 in
theorem impl_FlowParts.calls (k : Nat) (c : Int) (j : Option Addr) (l : Nat) (b : List (S73)) (d : Int) (g : Int) (A : Option Addr) (B : Nat) (i : List (S73)) (r : Bool) (w : World) (D : Kd.C k73 w j b.length b) (E : b.length ≤ l) (G : Kd.C k73 w A i.length i) (I : i.length ≤ B) (h : impl_FlowParts.f k c b d g i = some r) :
  Calls Try.prog 46 #[.agg #[.int .i64 c, .slice j b.length l], .int .i64 d, .int .i64 g, .slice A i.length B] w fun e w' => e = .returned (.bool r) ∧ Below w.heap.size w w' := by
 have Y := Try.underlying34; have m := am D; have n := am E; clear D E; have s := am G; have t := am I; clear G I; have HB := am (Below.refl w.heap.size w)
 have H : ((impl_twoKnots.f k c b d g).bind fun u => (if u = true then ((impl_Net_own.f k c b i).bind fun x => (if x = true then ((impl_Net_less.f k c b i).bind fun J => ((impl_Net_joined.f k J.1 J.2 d g).bind fun y => (some (!y)))) else (some false))) else (some false))) = some r := h
 clear h; replace H := bi_ H; obtain ⟨u, z, H⟩ := H; (try dsimp only at H); by_cases p : u = true
 ·subst p; rw [if_pos rfl] at H; replace H := bi_ H; obtain ⟨x, K, H⟩ := H; (try dsimp only at H); by_cases q : x = true
  ·subst q; rw [if_pos rfl] at H; replace H := bi_ H; obtain ⟨⟨L, M⟩, U, H⟩ := H; (try dsimp only at H); replace H := bi_ H; obtain ⟨y, W, H⟩ := H; (try dsimp only at H); obtain rfl := Option.some.inj H; go_enter Try.func46, Try.ntmps46
   go_wp2_with (first | ((with_reducible refine gate_dst (N := 4) rfl ?_); refine bx_ 4 #[.int .i64 c, .slice j b.length l] 34 HB ?_; clear HB; intro O hg w11 hb a P HB; clear hb hg; have Z := c2 a) | ((with_reducible refine gate_callee (f := 89) rfl ?_); refine gl_ (some 12) Try.func89 #[.agg #[.int .i64 c, .slice j b.length l], .int .i64 d, .int .i64 g] ?_; (with_reducible refine (impl_twoKnots.calls k c _ _ b d g true _ ?z_1 ?z_2 z.out).mono ?_); (case z_1 => exact cb m HB); (case z_2 => exact n.out); rintro e w13 ⟨rfl, hb⟩; refine ⟨_, rfl, ?_⟩; replace a := bb a hb; replace HB := bs HB hb; (try clear hb); have aa := c2 a) | (go_at_call 105; (with_reducible refine (impl_Net_own.calls k c _ _ b _ _ i true _ ?z_1 ?z_2 ?z_3 ?z_4 K.out).mono ?_); (case z_1 => exact cb m HB); (case z_2 => exact n.out); (case z_3 => exact cb s HB); (case z_4 => exact t.out); rintro e w15 ⟨rfl, hb⟩; replace a := bb a hb; replace HB := bs HB hb; (try clear hb); have ab := c2 a) | (go_at_call 106; (with_reducible refine (impl_Net_less.calls k c _ _ b _ _ i L M _ ?z_1 ?z_2 ?z_3 ?z_4 U.out).mono ?_); (case z_1 => exact cb m HB); (case z_2 => exact n.out); (case z_3 => exact cb s HB); (case z_4 => exact t.out); rintro e w17 ⟨ad, rfl, T, hb⟩; have o := am (Kd.R_lower T (below_size (bn HB))); replace a := bb a hb; replace HB := bs HB hb; (try clear hb); (try clear T); obtain ⟨ae, af, X⟩ := Kd.R_slice o.out; subst X) | (go_at_call 99; (with_reducible refine (impl_Net_joined.calls k L _ _ M d g y _ ?z_1 ?z_2 W.out).mono ?_); (case z_1 => exact (Kd.R_reads' (onR o)).2.2); (case z_2 => exact (Kd.R_reads' o.out).2.1); rintro e w19 ⟨rfl, hb⟩; replace o := am (Kd.R_below (onR o) hb); replace a := bb a hb; replace HB := bs HB hb; (try clear hb); (try clear hi)))
   go_ret
   exact ⟨er_, bn HB⟩
  ·replace q := Bool.eq_false_iff.mpr q; subst q; rw [if_neg (show ¬ (false = true) by decide)] at H; obtain rfl := Option.some.inj H; go_enter Try.func46, Try.ntmps46
   go_wp2_with (first | ((with_reducible refine gate_dst (N := 4) rfl ?_); refine bx_ 4 #[.int .i64 c, .slice j b.length l] 34 HB ?_; clear HB; intro O hg w20 hb a P HB; clear hb hg; have ag := c2 a) | ((with_reducible refine gate_callee (f := 89) rfl ?_); refine gl_ (some 12) Try.func89 #[.agg #[.int .i64 c, .slice j b.length l], .int .i64 d, .int .i64 g] ?_; (with_reducible refine (impl_twoKnots.calls k c _ _ b d g true _ ?z_1 ?z_2 z.out).mono ?_); (case z_1 => exact cb m HB); (case z_2 => exact n.out); rintro e w22 ⟨rfl, hb⟩; refine ⟨_, rfl, ?_⟩; replace a := bb a hb; replace HB := bs HB hb; (try clear hb); have ah := c2 a) | (go_at_call 105; (with_reducible refine (impl_Net_own.calls k c _ _ b _ _ i false _ ?z_1 ?z_2 ?z_3 ?z_4 K.out).mono ?_); (case z_1 => exact cb m HB); (case z_2 => exact n.out); (case z_3 => exact cb s HB); (case z_4 => exact t.out); rintro e w24 ⟨rfl, hb⟩; replace a := bb a hb; replace HB := bs HB hb; (try clear hb); (try clear hi)))
   go_ret
   exact ⟨er_, bn HB⟩
 ·replace p := Bool.eq_false_iff.mpr p; subst p; rw [if_neg (show ¬ (false = true) by decide)] at H; obtain rfl := Option.some.inj H; go_enter Try.func46, Try.ntmps46
  go_wp2_with (first | ((with_reducible refine gate_dst (N := 4) rfl ?_); refine bx_ 4 #[.int .i64 c, .slice j b.length l] 34 HB ?_; clear HB; intro O hg w25 hb a P HB; clear hb hg; have ai := c2 a) | ((with_reducible refine gate_callee (f := 89) rfl ?_); refine gl_ (some 12) Try.func89 #[.agg #[.int .i64 c, .slice j b.length l], .int .i64 d, .int .i64 g] ?_; (with_reducible refine (impl_twoKnots.calls k c _ _ b d g false _ ?z_1 ?z_2 z.out).mono ?_); (case z_1 => exact cb m HB); (case z_2 => exact n.out); rintro e w27 ⟨rfl, hb⟩; refine ⟨_, rfl, ?_⟩; replace a := bb a hb; replace HB := bs HB hb; (try clear hb); (try clear hi)))
  go_ret
  exact ⟨er_, bn HB⟩

end Go.Proofs.Ytdlnnjgjfngccaa.F
