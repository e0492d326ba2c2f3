-- By oprint.py.
import Derived.Test.YtdlnnjgjfngccaaF0
import Derived.Test.YtdlnnjgjfngccaaF25
import Derived.Test.YtdlnnjgjfngccaaF8
namespace Go.Proofs.Ytdlnnjgjfngccaa.F
open Go.RowKit Go.Proofs.YtdlnnjgjfngccaaW.PrintWords Go.Proofs.YtdlnnjgjfngccaaW.PrintLast Go.Proofs.YtdlnnjgjfngccaaW.PrintMore
attribute [local go_sem] max2_int min2_int max_two min_two max_three min_three max_four min_four
set_option linter.unusedVariables false
set_option linter.unusedSimpArgs false

/-! ### impl_Net_own: function 105 -/
def impl_Net_own.l0 : Nat → List (S73) → List (S73) → Int → Int → Int → List (S73) → Option (Bool)
 | 0, _, _, _, _, _, _ => none
 | k + 1, x1, x7, x8, x9, x513000, x513001 => if x9 < x8 then (if 0 ≤ x9 then (if x9 < (x7.length : Int) then ((slices_Contains_impl_Tie_impl_Tie.f k x513001 ((rd_T73 x7 x9).f0) ((rd_T73 x7 x9).f1)).bind fun t515 => (if t515 = true then (impl_Net_own.l0 k x1 x7 x8 (wrap64 (x9 + 1)) x513000 x513001) else (some false))) else (none)) else (none)) else ((impl_ascending.f k x1).bind fun t516 => (some t516))
def impl_Net_own.f (k : Nat) (a0_0 : Int) (l0_1 : List (S73)) (l1 : List (S73)) : Option (Bool) := impl_Net_own.l0 k l1 l1 (l1.length : Int) 0 a0_0 l0_1
theorem impl_Net_own.mono_l : ∀ k, (∀ a b c d e f, LeO (impl_Net_own.l0 k a b c d e f) (impl_Net_own.l0 (k + 1) a b c d e f))
 | 0 => fun _ _ _ _ _ _ r h => by simp [impl_Net_own.l0] at h
 | k + 1 => by
  have ih0 := impl_Net_own.mono_l k
  ·intro a b c d e f; unfold impl_Net_own.l0; have m0_ := @impl_ascending.mono; have m1_ := @slices_Contains_impl_Tie_impl_Tie.mono; exact mo_
theorem impl_Net_own.mono : ∀ a b c k, LeO (impl_Net_own.f k a b c) (impl_Net_own.f (k + 1) a b c) := by
 intro a b c k; have ih0 := impl_Net_own.mono_l k; unfold impl_Net_own.f; have m0_ := @impl_ascending.mono; have m1_ := @slices_Contains_impl_Tie_impl_Tie.mono; exact mo_
set_option maxHeartbeats 8000000 in
set_option maxRecDepth 100000 in
theorem impl_Net_own.calls (k : Nat) (l : Int) (m : Option Addr) (n : Nat) (d : List (S73)) (u : Option Addr) (s : Nat) (a : List (S73)) (r : Bool) (w : World) (B : Kd.C k73 w m d.length d) (D : d.length ≤ n) (E : Kd.C k73 w u a.length a) (G : a.length ≤ s) (h : impl_Net_own.f k l d a = some r) :
  Calls Try.prog 105 #[.agg #[.int .i64 l, .slice m d.length n], .slice u a.length s] w fun e w' => e = .returned (.bool r) ∧ Below w.heap.size w w' := by
 have ab := Try.underlying34; have ad := Try.underlying73; have I := am B; have J := am D; clear B D; have x := am E; have M := am G; clear E G; have HB := am (Below.refl w.heap.size w)
 have H : (impl_Net_own.l0 k a a (a.length : Int) 0 l d) = some r := h
 clear h; have H' := am H; clear H; go_enter Try.func105, Try.ntmps105
 go_wp2_with (first | ((with_reducible refine gate_dst (N := 2) rfl ?_); refine bx_ 2 #[.int .i64 l, .slice m d.length n] 34 HB ?_; clear HB; intro O hg w3 hb c ae HB; clear hb hg))
 go_loopg [9] k (fun kq P w' => ∃ (b : Int), P = .int .i64 b ∧ Aside0 (impl_Net_own.l0 kq a a (a.length : Int) b l d = some r) ∧ Aside0 (kq ≤ k) ∧ Bk w' O (.cells #[.int .i64 l, (.slice m d.length n)] 34 (0, 0)) ∧ Aside0 (Below w.heap.size w w'))
 case atStart => exact ⟨(0), rs_, H', ⟨Nat.le_refl _⟩, ⟨bkn c⟩, ⟨bn HB⟩⟩
 case round =>
  clear H'; (try clear s); (try clear p2); obtain ⟨b, rfl, HA, K, c, HB⟩ := hrel; cases gk with
  | zero => exact absurd HA.out (by simp [impl_Net_own.l0])
  | succ k1 =>
   have H := HA.out; clear HA; simp only [impl_Net_own.l0] at H; by_cases o : b < (a.length : Int)
   ·rw [if_pos o] at H; have T := decide_eq_true o; clear o; obtain ⟨af, H⟩ := id_ H; obtain ⟨ag, H⟩ := id_ H; replace H := bi_ H; obtain ⟨U, L, H⟩ := H; (try dsimp only at H); by_cases t : U = true
    ·subst t; rw [if_pos rfl] at H; have H' := am H; clear H; have g : 0 ≤ (b : Int) := oa; have i : b < (a.length : Int) := oa; obtain ⟨W, y, p, q⟩ := at_T73 x.out b g i; cases y; replace p := hc_ HB p; replace q := hc_ HB q; replace g := eq_true g; replace i := eq_true i
     go_wp2_with (first | ((with_reducible refine gate_dst (N := 6) rfl ?_); refine bx_ 6 #[.int .i64 0, .int .i64 0] 73 HB ?_; clear HB; intro X hg w9 hb j Y HB; obtain ⟨z, A⟩ := nb_ hg c; replace c := bb c hb; clear hb hg; have ah := n2 A z; have ai := c2 j; have aj := c2 c) | ((with_reducible refine gate_callee (f := 128) rfl ?_); refine gl_ (some 16) Try.func128 #[.slice m d.length n, .agg #[.int .i64 ((rd_T73 a b).f0), .int .i64 ((rd_T73 a b).f1)]] ?_; (with_reducible refine (slices_Contains_impl_Tie_impl_Tie.calls k1 _ _ d ((rd_T73 a b).f0) ((rd_T73 a b).f1) true _ ?z_1 ?z_2 L.out).mono ?_); (case z_1 => exact Kd.C_below I.out (bn HB)); (case z_2 => exact J.out); rintro e w13 ⟨rfl, hb⟩; refine ⟨_, rfl, ?_⟩; replace c := bb c hb; replace j := bb j hb; replace HB := bs HB hb; (try clear hb); (try clear hi)))
     go_roundg k1
     case measure => have := K.out; omega
     case rel => exact ⟨(wrap64 (b + 1)), rs_, H', ⟨by have := K.out; omega⟩, ⟨bkn c⟩, ⟨bn HB⟩⟩
    ·replace t := Bool.eq_false_iff.mpr t; subst t; rw [if_neg (show ¬ (false = true) by decide)] at H; obtain rfl := Option.some.inj H; have g : 0 ≤ (b : Int) := oa; have i : b < (a.length : Int) := oa; obtain ⟨W, y, p, q⟩ := at_T73 x.out b g i; cases y; replace p := hc_ HB p; replace q := hc_ HB q; replace g := eq_true g; replace i := eq_true i
     go_wp2_with (first | ((with_reducible refine gate_dst (N := 6) rfl ?_); refine bx_ 6 #[.int .i64 0, .int .i64 0] 73 HB ?_; clear HB; intro X hg w14 hb j Y HB; obtain ⟨z, A⟩ := nb_ hg c; replace c := bb c hb; clear hb hg; have ak := n2 A z; have al := c2 j; have an := c2 c) | ((with_reducible refine gate_callee (f := 128) rfl ?_); refine gl_ (some 16) Try.func128 #[.slice m d.length n, .agg #[.int .i64 ((rd_T73 a b).f0), .int .i64 ((rd_T73 a b).f1)]] ?_; (with_reducible refine (slices_Contains_impl_Tie_impl_Tie.calls k1 _ _ d ((rd_T73 a b).f0) ((rd_T73 a b).f1) false _ ?z_1 ?z_2 L.out).mono ?_); (case z_1 => exact Kd.C_below I.out (bn HB)); (case z_2 => exact J.out); rintro e w18 ⟨rfl, hb⟩; refine ⟨_, rfl, ?_⟩; replace c := bb c hb; replace j := bb j hb; replace HB := bs HB hb; (try clear hb); (try clear hi)))
     go_ret
     exact ⟨er_, bn HB⟩
   ·rw [if_neg o] at H; have T := decide_eq_false o; clear o; replace H := bi_ H; obtain ⟨Z, aa, H⟩ := H; (try dsimp only at H); obtain rfl := Option.some.inj H
    go_wp2_with (first | ((with_reducible refine gate_callee (f := 130) rfl ?_); refine gl_ (some 20) Try.func130 #[.slice u a.length s] ?_; (with_reducible refine (impl_ascending.calls k1 _ _ a Z _ ?z_1 ?z_2 aa.out).mono ?_); (case z_1 => exact cb x HB); (case z_2 => exact M.out); rintro e w20 ⟨rfl, hb⟩; refine ⟨_, rfl, ?_⟩; replace c := bb c hb; replace HB := bs HB hb; (try clear hb); (try clear hi)))
    go_ret
    exact ⟨er_, bn HB⟩

end Go.Proofs.Ytdlnnjgjfngccaa.F
