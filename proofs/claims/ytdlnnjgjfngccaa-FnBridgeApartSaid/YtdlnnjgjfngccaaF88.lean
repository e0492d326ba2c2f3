-- By oprint.py.
import Derived.Test.YtdlnnjgjfngccaaF0
import Derived.Test.YtdlnnjgjfngccaaF24
import Derived.Test.YtdlnnjgjfngccaaF25
import Derived.Test.YtdlnnjgjfngccaaF67
import Derived.Test.YtdlnnjgjfngccaaF75
namespace Go.Proofs.Ytdlnnjgjfngccaa.F
open Go.RowKit Go.Proofs.YtdlnnjgjfngccaaW.PrintWords Go.Proofs.YtdlnnjgjfngccaaW.PrintLast Go.Proofs.YtdlnnjgjfngccaaW.PrintMore
attribute [local go_sem] max2_int min2_int max_two min_two max_three min_three max_four min_four
set_option linter.unusedVariables false
set_option linter.unusedSimpArgs false

/-! ### impl_BridgeIs: function 80 -/
def impl_BridgeIs.f (k : Nat) (a0_0 : Int) (l0_1 : List (S73)) (a1 : Int) (a2 : Int) : Option (Bool) := (impl_NetHas.f k a0_0 l0_1 a1 a2).bind fun t1444 => (if t1444 = true then ((impl_Net_bridges.f k a0_0 l0_1).bind fun t1445 => ((impl_tie.f a1 a2).bind fun bt1448 => ((slices_Contains_impl_Tie_impl_Tie.f k t1445 bt1448.1 bt1448.2).bind fun t1450 => (some t1450)))) else (some false))
theorem impl_BridgeIs.mono : ∀ a b c d k, LeO (impl_BridgeIs.f k a b c d) (impl_BridgeIs.f (k + 1) a b c d) := by
 intro a b c d k; unfold impl_BridgeIs.f; have m0_ := @impl_NetHas.mono; have m1_ := @impl_Net_bridges.mono; have m2_ := @slices_Contains_impl_Tie_impl_Tie.mono; exact mo_
set_option maxHeartbeats 8000000 in
set_option maxRecDepth 100000 in
theorem impl_BridgeIs.calls (k : Nat) (c : Int) (j : Option Addr) (l : Nat) (a : List (S73)) (d : Int) (g : Int) (r : Bool) (w : World) (t : Kd.C k73 w j a.length a) (u : a.length ≤ l) (h : impl_BridgeIs.f k c a d g = some r) :
  Calls Try.prog 80 #[.agg #[.int .i64 c, .slice j a.length l], .int .i64 d, .int .i64 g] w fun e w' => e = .returned (.bool r) ∧ Below w.heap.size w w' := by
 have L := Try.underlying34; have o := am t; have p := am u; clear t u; have HB := am (Below.refl w.heap.size w)
 have H : ((impl_NetHas.f k c a d g).bind fun q => (if q = true then ((impl_Net_bridges.f k c a).bind fun m => ((impl_tie.f d g).bind fun x => ((slices_Contains_impl_Tie_impl_Tie.f k m x.1 x.2).bind fun s => (some s)))) else (some false))) = some r := h
 clear h; replace H := bi_ H; obtain ⟨q, y, H⟩ := H; (try dsimp only at H); by_cases n : q = true
 ·subst n; rw [if_pos rfl] at H; replace H := bi_ H; obtain ⟨m, D, H⟩ := H; (try dsimp only at H); replace H := bi_ H; obtain ⟨⟨z, A⟩, E, H⟩ := H; (try dsimp only at H); replace H := bi_ H; obtain ⟨s, G, H⟩ := H; (try dsimp only at H); obtain rfl := Option.some.inj H; go_enter Try.func80, Try.ntmps80
  go_wp2_with (first | ((with_reducible refine gate_dst (N := 3) rfl ?_); refine bx_ 3 #[.int .i64 c, .slice j a.length l] 34 HB ?_; clear HB; intro I hg w9 hb b J HB; clear hb hg; have M := c2 b) | ((with_reducible refine gate_callee (f := 122) rfl ?_); refine gl_ (some 10) Try.func122 #[.agg #[.int .i64 c, .slice j a.length l], .int .i64 d, .int .i64 g] ?_; (with_reducible refine (impl_NetHas.calls k c _ _ a d g true _ ?z_1 ?z_2 y.out).mono ?_); (case z_1 => exact cb o HB); (case z_2 => exact p.out); rintro e w11 ⟨rfl, hb⟩; refine ⟨_, rfl, ?_⟩; replace b := bb b hb; replace HB := bs HB hb; (try clear hb); have O := c2 b) | (go_at_call 117; (with_reducible refine (impl_Net_bridges.calls k c _ _ a m _ ?z_1 ?z_2 D.out).mono ?_); (case z_1 => exact cb o HB); (case z_2 => exact p.out); rintro e w13 ⟨P, rfl, B, hb⟩; have i := am (Kd.R_lower B (below_size (bn HB))); replace b := bb b hb; replace HB := bs HB hb; (try clear hb); (try clear B)) | (go_at_call 112; (with_reducible refine (impl_tie.calls d g z A _ E.out).mono ?_); rintro e w14 ⟨rfl, hb⟩; replace i := am (Kd.R_below (onR i) hb); replace b := bb b hb; replace HB := bs HB hb; (try clear hb); obtain ⟨T, U, K⟩ := Kd.R_slice i.out; subst K) | (go_at_call 128; (with_reducible refine (slices_Contains_impl_Tie_impl_Tie.calls k _ _ m z A s _ ?z_1 ?z_2 G.out).mono ?_); (case z_1 => exact (Kd.R_reads' (onR i)).2.2); (case z_2 => exact (Kd.R_reads' i.out).2.1); rintro e w16 ⟨rfl, hb⟩; replace i := am (Kd.R_below (onR i) hb); replace b := bb b hb; replace HB := bs HB hb; (try clear hb); (try clear hi)))
  go_ret
  exact ⟨er_, bn HB⟩
 ·replace n := Bool.eq_false_iff.mpr n; subst n; rw [if_neg (show ¬ (false = true) by decide)] at H; obtain rfl := Option.some.inj H; go_enter Try.func80, Try.ntmps80
  go_wp2_with (first | ((with_reducible refine gate_dst (N := 3) rfl ?_); refine bx_ 3 #[.int .i64 c, .slice j a.length l] 34 HB ?_; clear HB; intro I hg w17 hb b J HB; clear hb hg; have W := c2 b) | ((with_reducible refine gate_callee (f := 122) rfl ?_); refine gl_ (some 10) Try.func122 #[.agg #[.int .i64 c, .slice j a.length l], .int .i64 d, .int .i64 g] ?_; (with_reducible refine (impl_NetHas.calls k c _ _ a d g false _ ?z_1 ?z_2 y.out).mono ?_); (case z_1 => exact cb o HB); (case z_2 => exact p.out); rintro e w19 ⟨rfl, hb⟩; refine ⟨_, rfl, ?_⟩; replace b := bb b hb; replace HB := bs HB hb; (try clear hb); (try clear hi)))
  go_ret
  exact ⟨er_, bn HB⟩

end Go.Proofs.Ytdlnnjgjfngccaa.F
