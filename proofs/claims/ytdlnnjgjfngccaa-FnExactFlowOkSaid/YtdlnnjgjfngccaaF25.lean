-- By oprint.py.
import Derived.Test.YtdlnnjgjfngccaaF0
import Derived.Test.YtdlnnjgjfngccaaF1
namespace Go.Proofs.Ytdlnnjgjfngccaa.F
open Go.RowKit Go.Proofs.YtdlnnjgjfngccaaW.PrintWords Go.Proofs.YtdlnnjgjfngccaaW.PrintLast Go.Proofs.YtdlnnjgjfngccaaW.PrintMore
attribute [local go_sem] max2_int min2_int max_two min_two max_three min_three max_four min_four
set_option linter.unusedVariables false
set_option linter.unusedSimpArgs false

attribute [local go_sem high] eqA73
/-! ### slices_Index_impl_Tie_impl_Tie: function 140 -/
def slices_Index_impl_Tie_impl_Tie.l0 : Nat → List (S73) → Int → Int → Int → Int → Option (Int)
 | 0, _, _, _, _, _ => none
 | k + 1, x0, x7, x8, x280000, x280001 => if x8 < x7 then (if 0 ≤ x8 then (if x8 < (x0.length : Int) then (if (x280000 == ((rd_T73 x0 x8).f0) && (x280001 == ((rd_T73 x0 x8).f1))) = true then (some x8) else (slices_Index_impl_Tie_impl_Tie.l0 k x0 x7 (wrap64 (x8 + 1)) x280000 x280001)) else (none)) else (none)) else (some (-1))
def slices_Index_impl_Tie_impl_Tie.f (k : Nat) (l0 : List (S73)) (a1_0 : Int) (a1_1 : Int) : Option (Int) := slices_Index_impl_Tie_impl_Tie.l0 k l0 (l0.length : Int) 0 a1_0 a1_1
theorem slices_Index_impl_Tie_impl_Tie.mono_l : ∀ k, (∀ a b c d e, LeO (slices_Index_impl_Tie_impl_Tie.l0 k a b c d e) (slices_Index_impl_Tie_impl_Tie.l0 (k + 1) a b c d e))
 | 0 => fun _ _ _ _ _ r h => by simp [slices_Index_impl_Tie_impl_Tie.l0] at h
 | k + 1 => by
  have ih0 := slices_Index_impl_Tie_impl_Tie.mono_l k
  ·intro a b c d e; unfold slices_Index_impl_Tie_impl_Tie.l0; exact mo_
theorem slices_Index_impl_Tie_impl_Tie.mono : ∀ a b c k, LeO (slices_Index_impl_Tie_impl_Tie.f k a b c) (slices_Index_impl_Tie_impl_Tie.f (k + 1) a b c) := by
 intro a b c k; have ih0 := slices_Index_impl_Tie_impl_Tie.mono_l k; unfold slices_Index_impl_Tie_impl_Tie.f; exact mo_
set_option maxHeartbeats 8000000 in
set_option maxRecDepth 100000 in
theorem slices_Index_impl_Tie_impl_Tie.calls (k : Nat) (q : Option Addr) (s : Nat) (l0 : List (S73)) (b : Int) (c : Int) (r : Int) (w : World) (t : Kd.C k73 w q l0.length l0) (u : l0.length ≤ s) (h : slices_Index_impl_Tie_impl_Tie.f k l0 b c = some r) :
  Calls Try.prog 140 #[.slice q l0.length s, .agg #[.int .i64 b, .int .i64 c]] w fun e w' => e = .returned (.int .i64 r) ∧ Below w.heap.size w w' := by
 have K := Try.underlying73; have x := am t; have HC0 := am u; clear t u; have HB := am (Below.refl w.heap.size w)
 have H : (slices_Index_impl_Tie_impl_Tie.l0 k l0 (l0.length : Int) 0 b c) = some r := h
 clear h; have H' := am H; clear H; go_enter Try.func140, Try.ntmps140
 go_wp2_with (first | ((with_reducible refine gate_dst (N := 3) rfl ?_); refine bx_ 3 #[.int .i64 b, .int .i64 c] 73 HB ?_; clear HB; intro o hg y hb g z HB; clear hb hg))
 repeat (go_quiet (first | ((with_reducible refine gate_dst (N := 3) rfl ?_); refine bx_ 3 #[.int .i64 b, .int .i64 c] 73 HB ?_; clear HB; intro o hg y hb g z HB; clear hb hg)); try go_wp2_with (first | ((with_reducible refine gate_dst (N := 3) rfl ?_); refine bx_ 3 #[.int .i64 b, .int .i64 c] 73 HB ?_; clear HB; intro o hg y hb g z HB; clear hb hg)))
 go_loopg [8] k (fun kq B w' => ∃ (a : Int), B = .int .i64 a ∧ Aside0 (slices_Index_impl_Tie_impl_Tie.l0 kq l0 (l0.length : Int) a b c = some r) ∧ Aside0 (kq ≤ k) ∧ Bk w' o (.cells #[.int .i64 b, .int .i64 c] 73 (0, 0)) ∧ Aside0 (Below w.heap.size w w'))
 case atStart => exact ⟨(0), rs_, H', ⟨Nat.le_refl _⟩, ⟨bkn g⟩, ⟨bn HB⟩⟩
 case round =>
  clear H'; obtain ⟨a, rfl, HA, A, g, HB⟩ := hrel; cases gk with
  | zero => exact absurd HA.out (by simp [slices_Index_impl_Tie_impl_Tie.l0])
  | succ k1 =>
   have H := HA.out; clear HA; simp only [slices_Index_impl_Tie_impl_Tie.l0] at H; by_cases l : a < (l0.length : Int)
   ·rw [if_pos l] at H; have D := decide_eq_true l; clear l; obtain ⟨L, H⟩ := id_ H; obtain ⟨M, H⟩ := id_ H; by_cases d : (b == ((rd_T73 l0 a).f0) && (c == ((rd_T73 l0 a).f1))) = true
    ·rw [if_pos d] at H; have E : (b == ((rd_T73 l0 a).f0) && (c == ((rd_T73 l0 a).f1))) = true := d; (try (have G : decide (b = ((rd_T73 l0 a).f0) && (c == ((rd_T73 l0 a).f1))) = true := by simpa using d)); (try (have I : (b == ((rd_T73 l0 a).f0) && (c == ((rd_T73 l0 a).f1))) = true := by simpa using d)); clear d; obtain rfl := Option.some.inj H; have O := c2 g; have i : 0 ≤ (a : Int) := oa; have j : a < (l0.length : Int) := oa; obtain ⟨J, p, m, n⟩ := at_T73 x.out a i j; cases p; replace m := hc_ HB m; replace n := hc_ HB n; obtain ⟨i, j⟩ := e2_ i j; go_wp2
     repeat (go_quiet (fail); try go_wp2)
     go_ret
     exact ⟨er_, bn HB⟩
    ·rw [if_neg d] at H; have E : (b == ((rd_T73 l0 a).f0) && (c == ((rd_T73 l0 a).f1))) = false := by simpa using d
     (try (have G : decide (b = ((rd_T73 l0 a).f0) && (c == ((rd_T73 l0 a).f1))) = false := by simpa using d)); (try (have I : (b == ((rd_T73 l0 a).f0) && (c == ((rd_T73 l0 a).f1))) = false := by simpa using d)); (try (have P : ¬ (b = ((rd_T73 l0 a).f0) && (c == ((rd_T73 l0 a).f1))) := by simpa using d)); clear d; have H' := am H; clear H; have T := c2 g; have i : 0 ≤ (a : Int) := oa; have j : a < (l0.length : Int) := oa; obtain ⟨J, p, m, n⟩ := at_T73 x.out a i j; cases p; replace m := hc_ HB m; replace n := hc_ HB n; obtain ⟨i, j⟩ := e2_ i j; go_wp2
     repeat (go_quiet (fail); try go_wp2)
     go_roundg k1
     case measure => have := A.out; omega
     case rel => exact ⟨(wrap64 (a + 1)), rs_, H', ⟨by have := A.out; omega⟩, ⟨bkn g⟩, ⟨bn HB⟩⟩
   ·rw [if_neg l] at H; have D := decide_eq_false l; clear l; obtain rfl := Option.some.inj H; go_wp2
    repeat (go_quiet (fail); try go_wp2)
    go_ret
    exact ⟨er_, bn HB⟩

/-! ### slices_Contains_impl_Tie_impl_Tie: function 128 -/
def slices_Contains_impl_Tie_impl_Tie.f (k : Nat) (l0 : List (S73)) (a1_0 : Int) (a1_1 : Int) : Option (Bool) := (slices_Index_impl_Tie_impl_Tie.f k l0 a1_0 a1_1).bind fun t282 => (some (decide (t282 ≥ 0)))
theorem slices_Contains_impl_Tie_impl_Tie.mono : ∀ a b c k, LeO (slices_Contains_impl_Tie_impl_Tie.f k a b c) (slices_Contains_impl_Tie_impl_Tie.f (k + 1) a b c) := by
 intro a b c k; unfold slices_Contains_impl_Tie_impl_Tie.f; have m0_ := @slices_Index_impl_Tie_impl_Tie.mono; exact mo_
set_option maxHeartbeats 8000000 in
set_option maxRecDepth 100000 in
theorem slices_Contains_impl_Tie_impl_Tie.calls (k : Nat) (d : Option Addr) (g : Nat) (a : List (S73)) (b : Int) (c : Int) (r : Bool) (w : World) (l : Kd.C k73 w d a.length a) (m : a.length ≤ g) (h : slices_Contains_impl_Tie_impl_Tie.f k a b c = some r) :
  Calls Try.prog 128 #[.slice d a.length g, .agg #[.int .i64 b, .int .i64 c]] w fun e w' => e = .returned (.bool r) ∧ Below w.heap.size w w' := by
 have q := Try.underlying73; have n := am l; have o := am m; clear l m; have HB := am (Below.refl w.heap.size w)
 have H : ((slices_Index_impl_Tie_impl_Tie.f k a b c).bind fun i => (some (decide (i ≥ 0)))) = some r := h
 clear h; obtain ⟨i, p, H⟩ := bi_ H; obtain rfl := Option.some.inj H; go_enter Try.func128, Try.ntmps128
 go_wp2_with (first | ((with_reducible refine gate_dst (N := 3) rfl ?_); refine bx_ 3 #[.int .i64 b, .int .i64 c] 73 HB ?_; clear HB; intro s hg w4 hb j t HB; clear hb hg; have u := c2 j) | ((with_reducible refine gate_callee (f := 140) rfl ?_); refine gl_ (some 7) Try.func140 #[.slice d a.length g, .agg #[.int .i64 b, .int .i64 c]] ?_; (with_reducible refine (slices_Index_impl_Tie_impl_Tie.calls k _ _ a b c i _ ?z_1 ?z_2 p.out).mono ?_); (case z_1 => exact cb n HB); (case z_2 => exact o.out); rintro e w6 ⟨rfl, hb⟩; refine ⟨_, rfl, ?_⟩; replace j := bb j hb; replace HB := bs HB hb; (try clear hb)))
 go_ret
 exact ⟨er_, bn HB⟩

end Go.Proofs.Ytdlnnjgjfngccaa.F
