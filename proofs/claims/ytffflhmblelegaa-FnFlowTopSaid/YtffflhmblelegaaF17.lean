-- By oprint.py.
import Derived.Test.YtffflhmblelegaaF0
import Derived.Test.YtffflhmblelegaaF14
import Derived.Test.YtffflhmblelegaaF4
namespace Go.Proofs.Ytffflhmblelegaa.F
open Go.RowKit Go.Proofs.YtffflhmblelegaaW.PrintWords Go.Proofs.YtffflhmblelegaaW.PrintLast Go.Proofs.YtffflhmblelegaaW.PrintMore
attribute [local go_sem] max2_int min2_int max_two min_two max_three min_three max_four min_four
set_option linter.unusedVariables false
set_option linter.unusedSimpArgs false
/-! ### impl_twoKnots: function 51 -/
def impl_twoKnots.f (k : Nat) (a0_0 : Int) (l0_1 : List (S52)) (a1 : Int) (a2 : Int) : Option (Bool) := (impl_NetOk.f k a0_0 l0_1).bind fun t420 => (if t420 = true then ((impl_Net_knot.f a0_0 l0_1 a1).bind fun t421 => (if t421 = true then ((impl_Net_knot.f a0_0 l0_1 a2).bind fun t422 => (if t422 = true then (some (a1 != a2)) else (some false))) else (some false))) else (some false))
set_option maxHeartbeats 8000000 in
set_option maxRecDepth 100000 in
theorem impl_twoKnots.calls (k : Nat) (c : Int) (d : Option Addr) (g : Nat) (b : List (S52)) (l : Int) (m : Int) (r : Bool) (w : World) (x : Kd.C k52 w d b.length b) (y : b.length ≤ g) (h : impl_twoKnots.f k c b l m = some r) :
  Calls Try.prog 51 #[.agg #[.int .i64 c, .slice d b.length g], .int .i64 l, .int .i64 m] w fun e w' => e = .returned (.bool r) ∧ Below w.heap.size w w' := by
 have E := Try.underlying25; have i := am x; have j := am y; clear x y; have HB := am (Below.refl w.heap.size w)
 have H : ((impl_NetOk.f k c b).bind fun o => (if o = true then ((impl_Net_knot.f c b l).bind fun p => (if p = true then ((impl_Net_knot.f c b m).bind fun q => (if q = true then (some (l != m)) else (some false))) else (some false))) else (some false))) = some r := h
 clear h; obtain ⟨o, n, H⟩ := bi_ H; by_cases z : o = true
 ·subst z; rw [if_pos rfl] at H; obtain ⟨p, s, H⟩ := bi_ H; by_cases A : p = true
  ·subst A; rw [if_pos rfl] at H; obtain ⟨q, B, H⟩ := bi_ H; by_cases D : q = true
   ·subst D; rw [if_pos rfl] at H; obtain rfl := Option.some.inj H; go_enter Try.func51, Try.ntmps51
    go_wp2_with (first | ((with_reducible refine gate_dst (N := 3) rfl ?_); refine bx_ 3 #[.int .i64 c, .slice d b.length g] 25 HB ?_; clear HB; intro t hg w10 hb a u HB; clear hb hg; have G := c2 a) | ((with_reducible refine gate_callee (f := 67) rfl ?_); refine gl_ (some 8) Try.func67 #[.agg #[.int .i64 c, .slice d b.length g]] ?_; (with_reducible refine (impl_NetOk.calls k c _ _ b true _ ?z_1 ?z_2 n.out).mono ?_); (case z_1 => exact cb i HB); (case z_2 => exact j.out); rintro e w12 ⟨rfl, hb⟩; refine ⟨_, rfl, ?_⟩; replace a := bb a hb; replace HB := bs HB hb; (try clear hb); have I := c2 a) | (go_at_call 80; (with_reducible refine (impl_Net_knot.calls c _ _ b l true _ ?z_1 ?z_2 s.out).mono ?_); (case z_1 => exact cb i HB); (case z_2 => exact j.out); rintro e w14 ⟨rfl, hb⟩; replace a := bb a hb; replace HB := bs HB hb; (try clear hb); have J := c2 a) | (go_at_call 80; (with_reducible refine (impl_Net_knot.calls c _ _ b m true _ ?z_1 ?z_2 B.out).mono ?_); (case z_1 => exact cb i HB); (case z_2 => exact j.out); rintro e w16 ⟨rfl, hb⟩; replace a := bb a hb; replace HB := bs HB hb; (try clear hb)))
    go_ret
    exact ⟨er_, bn HB⟩
   ·obtain rfl := nt_ D; rw [if_neg nf_] at H; obtain rfl := Option.some.inj H; go_enter Try.func51, Try.ntmps51
    go_wp2_with (first | ((with_reducible refine gate_dst (N := 3) rfl ?_); refine bx_ 3 #[.int .i64 c, .slice d b.length g] 25 HB ?_; clear HB; intro t hg w17 hb a u HB; clear hb hg; have K := c2 a) | ((with_reducible refine gate_callee (f := 67) rfl ?_); refine gl_ (some 8) Try.func67 #[.agg #[.int .i64 c, .slice d b.length g]] ?_; (with_reducible refine (impl_NetOk.calls k c _ _ b true _ ?z_1 ?z_2 n.out).mono ?_); (case z_1 => exact cb i HB); (case z_2 => exact j.out); rintro e w19 ⟨rfl, hb⟩; refine ⟨_, rfl, ?_⟩; replace a := bb a hb; replace HB := bs HB hb; (try clear hb); have L := c2 a) | (go_at_call 80; (with_reducible refine (impl_Net_knot.calls c _ _ b l true _ ?z_1 ?z_2 s.out).mono ?_); (case z_1 => exact cb i HB); (case z_2 => exact j.out); rintro e w21 ⟨rfl, hb⟩; replace a := bb a hb; replace HB := bs HB hb; (try clear hb); have M := c2 a) | (go_at_call 80; (with_reducible refine (impl_Net_knot.calls c _ _ b m false _ ?z_1 ?z_2 B.out).mono ?_); (case z_1 => exact cb i HB); (case z_2 => exact j.out); rintro e w23 ⟨rfl, hb⟩; replace a := bb a hb; replace HB := bs HB hb; (try clear hb)))
    go_ret
    exact ⟨er_, bn HB⟩
  ·obtain rfl := nt_ A; rw [if_neg nf_] at H; obtain rfl := Option.some.inj H; go_enter Try.func51, Try.ntmps51
   go_wp2_with (first | ((with_reducible refine gate_dst (N := 3) rfl ?_); refine bx_ 3 #[.int .i64 c, .slice d b.length g] 25 HB ?_; clear HB; intro t hg w24 hb a u HB; clear hb hg; have O := c2 a) | ((with_reducible refine gate_callee (f := 67) rfl ?_); refine gl_ (some 8) Try.func67 #[.agg #[.int .i64 c, .slice d b.length g]] ?_; (with_reducible refine (impl_NetOk.calls k c _ _ b true _ ?z_1 ?z_2 n.out).mono ?_); (case z_1 => exact cb i HB); (case z_2 => exact j.out); rintro e w26 ⟨rfl, hb⟩; refine ⟨_, rfl, ?_⟩; replace a := bb a hb; replace HB := bs HB hb; (try clear hb); have P := c2 a) | (go_at_call 80; (with_reducible refine (impl_Net_knot.calls c _ _ b l false _ ?z_1 ?z_2 s.out).mono ?_); (case z_1 => exact cb i HB); (case z_2 => exact j.out); rintro e w28 ⟨rfl, hb⟩; replace a := bb a hb; replace HB := bs HB hb; (try clear hb)))
   go_ret
   exact ⟨er_, bn HB⟩
 ·obtain rfl := nt_ z; rw [if_neg nf_] at H; obtain rfl := Option.some.inj H; go_enter Try.func51, Try.ntmps51
  go_wp2_with (first | ((with_reducible refine gate_dst (N := 3) rfl ?_); refine bx_ 3 #[.int .i64 c, .slice d b.length g] 25 HB ?_; clear HB; intro t hg w29 hb a u HB; clear hb hg; have T := c2 a) | ((with_reducible refine gate_callee (f := 67) rfl ?_); refine gl_ (some 8) Try.func67 #[.agg #[.int .i64 c, .slice d b.length g]] ?_; (with_reducible refine (impl_NetOk.calls k c _ _ b false _ ?z_1 ?z_2 n.out).mono ?_); (case z_1 => exact cb i HB); (case z_2 => exact j.out); rintro e w31 ⟨rfl, hb⟩; refine ⟨_, rfl, ?_⟩; replace a := bb a hb; replace HB := bs HB hb; (try clear hb)))
  go_ret
  exact ⟨er_, bn HB⟩
end Go.Proofs.Ytffflhmblelegaa.F
