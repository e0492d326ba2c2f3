-- By oprint.py.
import Derived.Test.YthmddmobfkfgeaaF0
import Derived.Test.YthmddmobfkfgeaaF11
import Derived.Test.YthmddmobfkfgeaaF47
namespace Go.Proofs.Ythmddmobfkfgeaa.F
open Go.RowKit Go.Proofs.YthmddmobfkfgeaaW.PrintWords Go.Proofs.YthmddmobfkfgeaaW.PrintLast Go.Proofs.YthmddmobfkfgeaaW.PrintMore
attribute [local go_sem] max2_int min2_int max_two min_two max_three min_three max_four min_four
set_option linter.unusedVariables false
set_option linter.unusedSimpArgs false

/-! ### impl_WayCount: function 59 -/
def impl_WayCount.f (k : Nat) (a0_0 : Int) (l0_1 : List (S33)) : Option (Int) := (impl_NetOk.f k a0_0 l0_1).bind fun t1017 => (if t1017 = true then ((impl_Net_count.f k a0_0 l0_1).bind fun t1018 => (some t1018)) else (some (-1)))
theorem impl_WayCount.mono : ∀ a b k, LeO (impl_WayCount.f k a b) (impl_WayCount.f (k + 1) a b) := by
 intro a b k; unfold impl_WayCount.f; have m0_ := @impl_NetOk.mono; have m1_ := @impl_Net_count.mono; exact mo_
set_option maxHeartbeats 8000000 in
set_option maxRecDepth 100000 in
theorem impl_WayCount.calls (k : Nat) (b : Int) (d : Option Addr) (g : Nat) (a : List (S33)) (r : Int) (w : World) (n : Kd.C k33 w d a.length a) (o : a.length ≤ g) (h : impl_WayCount.f k b a = some r) :
  Calls Try.prog 59 #[.agg #[.int .i64 b, .slice d a.length g]] w fun e w' => e = .returned (.int .i64 r) ∧ Below w.heap.size w w' := by
 have x := Try.underlying31; have i := am n; have j := am o; clear n o; have HB := am (Below.refl w.heap.size w)
 have H : ((impl_NetOk.f k b a).bind fun l => (if l = true then ((impl_Net_count.f k b a).bind fun m => (some m)) else (some (-1)))) = some r := h
 clear h; obtain ⟨l, p, H⟩ := bi_ H; by_cases q : l = true
 ·subst q; rw [if_pos rfl] at H; obtain ⟨m, s, H⟩ := bi_ H; obtain rfl := Option.some.inj H; go_enter Try.func59, Try.ntmps59
  go_wp2_with (first | ((with_reducible refine gate_dst (N := 1) rfl ?_); refine bx_ 1 #[.int .i64 b, .slice d a.length g] 31 HB ?_; clear HB; intro t hg w5 hb c u HB; clear hb hg; have y := c2 c) | ((with_reducible refine gate_callee (f := 85) rfl ?_); refine gl_ (some 4) Try.func85 #[.agg #[.int .i64 b, .slice d a.length g]] ?_; (with_reducible refine (impl_NetOk.calls k b _ _ a true _ ?z_1 ?z_2 p.out).mono ?_); (case z_1 => exact cb i HB); (case z_2 => exact j.out); rintro e w7 ⟨rfl, hb⟩; refine ⟨_, rfl, ?_⟩; replace c := bb c hb; replace HB := bs HB hb; (try clear hb); have z := c2 c) | ((with_reducible refine gate_callee (f := 102) rfl ?_); refine gl_ (some 7) Try.func102 #[.agg #[.int .i64 b, .slice d a.length g]] ?_; (with_reducible refine (impl_Net_count.calls k b _ _ a m _ ?z_1 ?z_2 s.out).mono ?_); (case z_1 => exact cb i HB); (case z_2 => exact j.out); rintro e w9 ⟨rfl, hb⟩; refine ⟨_, rfl, ?_⟩; replace c := bb c hb; replace HB := bs HB hb; (try clear hb)))
  go_ret
  exact ⟨er_, bn HB⟩
 ·obtain rfl := nt_ q; rw [if_neg nf_] at H; obtain rfl := Option.some.inj H; go_enter Try.func59, Try.ntmps59
  go_wp2_with (first | ((with_reducible refine gate_dst (N := 1) rfl ?_); refine bx_ 1 #[.int .i64 b, .slice d a.length g] 31 HB ?_; clear HB; intro t hg w10 hb c u HB; clear hb hg; have A := c2 c) | ((with_reducible refine gate_callee (f := 85) rfl ?_); refine gl_ (some 4) Try.func85 #[.agg #[.int .i64 b, .slice d a.length g]] ?_; (with_reducible refine (impl_NetOk.calls k b _ _ a false _ ?z_1 ?z_2 p.out).mono ?_); (case z_1 => exact cb i HB); (case z_2 => exact j.out); rintro e w12 ⟨rfl, hb⟩; refine ⟨_, rfl, ?_⟩; replace c := bb c hb; replace HB := bs HB hb; (try clear hb)))
  go_ret
  exact ⟨er_, bn HB⟩

end Go.Proofs.Ythmddmobfkfgeaa.F
