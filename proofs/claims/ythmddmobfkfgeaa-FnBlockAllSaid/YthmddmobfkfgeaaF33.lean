-- By oprint.py.
import Derived.Test.YthmddmobfkfgeaaF0
import Derived.Test.YthmddmobfkfgeaaF1
namespace Go.Proofs.Ythmddmobfkfgeaa.F
open Go.RowKit Go.Proofs.YthmddmobfkfgeaaW.PrintWords Go.Proofs.YthmddmobfkfgeaaW.PrintLast Go.Proofs.YthmddmobfkfgeaaW.PrintMore
attribute [local go_sem] max2_int min2_int max_two min_two max_three min_three max_four min_four
set_option linter.unusedVariables false
set_option linter.unusedSimpArgs false

attribute [local go_sem high] eqA33
/-! ### laws_loHas: function 43 -/
def laws_loHas.l0 : Nat → List (S33) → Int → Int → Int → Option (Bool)
 | 0, _, _, _, _ => none
 | k + 1, x0, x5, x663000, x663001 => if x5 < (x0.length : Int) then (if 0 ≤ x5 then (if (((rd_T33 x0 x5).f0) == x663000 && (((rd_T33 x0 x5).f1) == x663001)) = true then (some true) else (laws_loHas.l0 k x0 (wrap64 (x5 + 1)) x663000 x663001)) else (none)) else (some false)
def laws_loHas.f (k : Nat) (l0 : List (S33)) (a1_0 : Int) (a1_1 : Int) : Option (Bool) := laws_loHas.l0 k l0 0 a1_0 a1_1
theorem laws_loHas.mono_l : ∀ k, (∀ a b c d, LeO (laws_loHas.l0 k a b c d) (laws_loHas.l0 (k + 1) a b c d))
 | 0 => fun _ _ _ _ r h => by simp [laws_loHas.l0] at h
 | k + 1 => by
  have ih0 := laws_loHas.mono_l k
  ·intro a b c d; unfold laws_loHas.l0; exact mo_
theorem laws_loHas.mono : ∀ a b c k, LeO (laws_loHas.f k a b c) (laws_loHas.f (k + 1) a b c) := by
 intro a b c k; have ih0 := laws_loHas.mono_l k; unfold laws_loHas.f; exact mo_
set_option maxHeartbeats 8000000 in
set_option maxRecDepth 100000 in
theorem laws_loHas.calls (k : Nat) (q : Option Addr) (s : Nat) (l0 : List (S33)) (b : Int) (c : Int) (r : Bool) (w : World) (t : Kd.C k33 w q l0.length l0) (u : l0.length ≤ s) (h : laws_loHas.f k l0 b c = some r) :
  Calls Try.prog 43 #[.slice q l0.length s, .agg #[.int .i64 b, .int .i64 c]] w fun e w' => e = .returned (.bool r) ∧ Below w.heap.size w w' := by
 have K := Try.underlying33; have x := am t; have HC0 := am u; clear t u; have HB := am (Below.refl w.heap.size w)
 have H : (laws_loHas.l0 k l0 0 b c) = some r := h
 clear h; have H' := am H; clear H; go_enter Try.func43, Try.ntmps43
 go_wp2_with (first | ((with_reducible refine gate_dst (N := 3) rfl ?_); refine bx_ 3 #[.int .i64 b, .int .i64 c] 33 HB ?_; clear HB; intro o hg y hb g z HB; clear hb hg))
 repeat (go_quiet (first | ((with_reducible refine gate_dst (N := 3) rfl ?_); refine bx_ 3 #[.int .i64 b, .int .i64 c] 33 HB ?_; clear HB; intro o hg y hb g z HB; clear hb hg)); try go_wp2_with (first | ((with_reducible refine gate_dst (N := 3) rfl ?_); refine bx_ 3 #[.int .i64 b, .int .i64 c] 33 HB ?_; clear HB; intro o hg y hb g z HB; clear hb hg)))
 go_loopg [5] k (fun kq B w' => ∃ (a : Int), B = .int .i64 a ∧ Aside0 (laws_loHas.l0 kq l0 a b c = some r) ∧ Aside0 (kq ≤ k) ∧ Bk w' o (.cells #[.int .i64 b, .int .i64 c] 33 (0, 0)) ∧ Aside0 (Below w.heap.size w w'))
 case atStart => exact ⟨(0), rs_, H', ⟨Nat.le_refl _⟩, ⟨bkn g⟩, ⟨bn HB⟩⟩
 case round =>
  clear H'; obtain ⟨a, rfl, HA, A, g, HB⟩ := hrel; cases gk with
  | zero => exact absurd HA.out (by simp [laws_loHas.l0])
  | succ k1 =>
   have H := HA.out; clear HA; simp only [laws_loHas.l0] at H; by_cases l : a < (l0.length : Int)
   ·rw [if_pos l] at H; have D := decide_eq_true l; clear l; obtain ⟨L, H⟩ := id_ H; by_cases d : (((rd_T33 l0 a).f0) == b && (((rd_T33 l0 a).f1) == c)) = true
    ·rw [if_pos d] at H; have E : (((rd_T33 l0 a).f0) == b && (((rd_T33 l0 a).f1) == c)) = true := d; (try (have G : decide (((rd_T33 l0 a).f0) = b && (((rd_T33 l0 a).f1) == c)) = true := by simpa using d)); (try (have I : (((rd_T33 l0 a).f0) == b && (((rd_T33 l0 a).f1) == c)) = true := by simpa using d)); clear d; obtain rfl := Option.some.inj H; have i : 0 ≤ (a : Int) := oa; have j : a < (l0.length : Int) := oa; obtain ⟨J, p, m, n⟩ := at_T33 x.out a i j; cases p; replace m := hc_ HB m; replace n := hc_ HB n; obtain ⟨i, j⟩ := e2_ i j; have M := c2 g; go_wp2
     repeat (go_quiet (fail); try go_wp2)
     go_ret
     exact ⟨er_, bn HB⟩
    ·rw [if_neg d] at H; have E : (((rd_T33 l0 a).f0) == b && (((rd_T33 l0 a).f1) == c)) = false := by simpa using d
     (try (have G : decide (((rd_T33 l0 a).f0) = b && (((rd_T33 l0 a).f1) == c)) = false := by simpa using d)); (try (have I : (((rd_T33 l0 a).f0) == b && (((rd_T33 l0 a).f1) == c)) = false := by simpa using d)); (try (have O : ¬ (((rd_T33 l0 a).f0) = b && (((rd_T33 l0 a).f1) == c)) := by simpa using d)); clear d; have H' := am H; clear H; have i : 0 ≤ (a : Int) := oa; have j : a < (l0.length : Int) := oa; obtain ⟨J, p, m, n⟩ := at_T33 x.out a i j; cases p; replace m := hc_ HB m; replace n := hc_ HB n; obtain ⟨i, j⟩ := e2_ i j; have P := c2 g; go_wp2
     repeat (go_quiet (fail); try go_wp2)
     go_roundg k1
     case measure => have := A.out; omega
     case rel => exact ⟨(wrap64 (a + 1)), rs_, H', ⟨by have := A.out; omega⟩, ⟨bkn g⟩, ⟨bn HB⟩⟩
   ·rw [if_neg l] at H; have D := decide_eq_false l; clear l; obtain rfl := Option.some.inj H; go_wp2
    repeat (go_quiet (fail); try go_wp2)
    go_ret
    exact ⟨er_, bn HB⟩

end Go.Proofs.Ythmddmobfkfgeaa.F
