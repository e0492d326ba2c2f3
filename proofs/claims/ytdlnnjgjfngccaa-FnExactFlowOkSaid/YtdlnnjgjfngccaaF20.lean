-- By oprint.py.
import Derived.Test.YtdlnnjgjfngccaaF0
import Derived.Test.YtdlnnjgjfngccaaF14
import Derived.Test.YtdlnnjgjfngccaaF19
namespace Go.Proofs.Ytdlnnjgjfngccaa.F
open Go.RowKit Go.Proofs.YtdlnnjgjfngccaaW.PrintWords Go.Proofs.YtdlnnjgjfngccaaW.PrintLast Go.Proofs.YtdlnnjgjfngccaaW.PrintMore
attribute [local go_sem] max2_int min2_int max_two min_two max_three min_three max_four min_four
set_option linter.unusedVariables false
set_option linter.unusedSimpArgs false

/-! ### spec_NetHas: function 96 -/
def spec_NetHas.f (k : Nat) (a0_0 : Int) (l0_1 : List (S73)) (a1 : Int) (a2 : Int) : Option (Bool) := (spec_NetOk.f k a0_0 l0_1).bind fun t257 => (if t257 = true then ((spec_l1Has.f k a0_0 l0_1 a1 a2).bind fun t258 => (some t258)) else (some false))
theorem spec_NetHas.mono : ∀ a b c d k, LeO (spec_NetHas.f k a b c d) (spec_NetHas.f (k + 1) a b c d) := by
 intro a b c d k; unfold spec_NetHas.f; have m0_ := @spec_NetOk.mono; have m1_ := @spec_l1Has.mono; exact mo_
set_option maxHeartbeats 8000000 in
set_option maxRecDepth 100000 in
theorem spec_NetHas.calls (k : Nat) (b : Int) (d : Option Addr) (g : Nat) (a : List (S73)) (i : Int) (j : Int) (r : Bool) (w : World) (p : Kd.C k73 w d a.length a) (q : a.length ≤ g) (h : spec_NetHas.f k b a i j = some r) :
  Calls Try.prog 96 #[.agg #[.int .i64 b, .slice d a.length g], .int .i64 i, .int .i64 j] w fun e w' => e = .returned (.bool r) ∧ Below w.heap.size w w' := by
 have z := Try.underlying34; have l := am p; have m := am q; clear p q; have HB := am (Below.refl w.heap.size w)
 have H : ((spec_NetOk.f k b a).bind fun n => (if n = true then ((spec_l1Has.f k b a i j).bind fun o => (some o)) else (some false))) = some r := h
 clear h; obtain ⟨n, s, H⟩ := bi_ H; by_cases t : n = true
 ·subst t; rw [if_pos rfl] at H; obtain ⟨o, u, H⟩ := bi_ H; obtain rfl := Option.some.inj H; go_enter Try.func96, Try.ntmps96
  go_wp2_with (first | ((with_reducible refine gate_dst (N := 3) rfl ?_); refine bx_ 3 #[.int .i64 b, .slice d a.length g] 34 HB ?_; clear HB; intro x hg w7 hb c y HB; clear hb hg; have A := c2 c) | ((with_reducible refine gate_callee (f := 66) rfl ?_); refine gl_ (some 8) Try.func66 #[.agg #[.int .i64 b, .slice d a.length g]] ?_; (with_reducible refine (spec_NetOk.calls k b _ _ a true _ ?z_1 ?z_2 s.out).mono ?_); (case z_1 => exact cb l HB); (case z_2 => exact m.out); rintro e w9 ⟨rfl, hb⟩; refine ⟨_, rfl, ?_⟩; replace c := bb c hb; replace HB := bs HB hb; (try clear hb); have B := c2 c) | (go_at_call 129; (with_reducible refine (spec_l1Has.calls k b _ _ a i j o _ ?z_1 ?z_2 u.out).mono ?_); (case z_1 => exact cb l HB); (case z_2 => exact m.out); rintro e w11 ⟨rfl, hb⟩; replace c := bb c hb; replace HB := bs HB hb; (try clear hb)))
  go_ret
  exact ⟨er_, bn HB⟩
 ·obtain rfl := nt_ t; rw [if_neg nf_] at H; obtain rfl := Option.some.inj H; go_enter Try.func96, Try.ntmps96
  go_wp2_with (first | ((with_reducible refine gate_dst (N := 3) rfl ?_); refine bx_ 3 #[.int .i64 b, .slice d a.length g] 34 HB ?_; clear HB; intro x hg w12 hb c y HB; clear hb hg; have D := c2 c) | ((with_reducible refine gate_callee (f := 66) rfl ?_); refine gl_ (some 8) Try.func66 #[.agg #[.int .i64 b, .slice d a.length g]] ?_; (with_reducible refine (spec_NetOk.calls k b _ _ a false _ ?z_1 ?z_2 s.out).mono ?_); (case z_1 => exact cb l HB); (case z_2 => exact m.out); rintro e w14 ⟨rfl, hb⟩; refine ⟨_, rfl, ?_⟩; replace c := bb c hb; replace HB := bs HB hb; (try clear hb)))
  go_ret
  exact ⟨er_, bn HB⟩

end Go.Proofs.Ytdlnnjgjfngccaa.F
