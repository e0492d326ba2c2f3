-- By oprint.py.
import Derived.Test.YtffflhmblelegaaF0
namespace Go.Proofs.Ytffflhmblelegaa.F
open Go.RowKit Go.Proofs.YtffflhmblelegaaW.PrintWords Go.Proofs.YtffflhmblelegaaW.PrintLast Go.Proofs.YtffflhmblelegaaW.PrintMore
attribute [local go_sem] max2_int min2_int max_two min_two max_three min_three max_four min_four
set_option linter.unusedVariables false
set_option linter.unusedSimpArgs false
/-! ### spec_l2Has: function 84 -/
def spec_l2Has.l0 : Nat → List Int → Int → Int → Option (Bool)
 | 0, _, _, _ => none
 | k + 1, x0, x1, x5 => if x5 < (x0.length : Int) then (if 0 ≤ x5 then (if (rd x0 x5) = x1 then (some true) else (spec_l2Has.l0 k x0 x1 (wrap64 (x5 + 1)))) else (none)) else (some false)
def spec_l2Has.f (k : Nat) (l0 : List Int) (a1 : Int) : Option (Bool) := spec_l2Has.l0 k l0 a1 0
set_option maxHeartbeats 8000000 in
set_option maxRecDepth 100000 in
theorem spec_l2Has.calls (k : Nat) (l : Option Addr) (m : Nat) (l0 : List Int) (b : Int) (r : Bool) (w : World) (n : Kd.C (Kd.int .i64) w l l0.length l0) (o : l0.length ≤ m) (h : spec_l2Has.f k l0 b = some r) :
  Calls Try.prog 84 #[.slice l l0.length m, .int .i64 b] w fun e w' => e = .returned (.bool r) ∧ Drawn0 w w' := by
 have p := am n; have HC0 := am o; clear n o
 have H : (spec_l2Has.l0 k l0 b 0) = some r := h
 clear h; have H' := am H; clear H; go_enter Try.func84, Try.ntmps84; go_wp2
 go_loopg [5] k (fun kq s w' => ∃ (a : Int), s = .int .i64 a ∧ Aside0 (spec_l2Has.l0 kq l0 b a = some r) ∧ Aside0 (kq ≤ k) ∧ Drawn0 w w')
 case atStart => exact ⟨(0), rs_, H', ⟨Nat.le_refl _⟩, by repeat (first | exact Drawn0.refl _ | apply Drawn0.step)⟩
 case round =>
  clear H'; obtain ⟨a, rfl, HA, q, ⟨m1, rfl⟩⟩ := hrel; cases gk with
  | zero => exact absurd HA.out (by simp [spec_l2Has.l0])
  | succ k1 =>
   have H := HA.out; clear HA; simp only [spec_l2Has.l0] at H; by_cases i : a < (l0.length : Int)
   ·rw [if_pos i] at H; have t := decide_eq_true i; clear i; obtain ⟨A, H⟩ := id_ H; by_cases c : (rd l0 a) = b
    ·rw [if_pos c] at H; have u : ((rd l0 a) == b) = true := beq_iff_eq.mpr c; have x : ((rd l0 a) != b) = false := bne_eq_false_iff_eq.mpr c; clear c; obtain rfl := Option.some.inj H; have d : 0 ≤ (a : Int) := oa; have g : a < (l0.length : Int) := oa; obtain ⟨y, j, z⟩ := Kd.at_int p.out a d g; cases j; obtain ⟨d, g⟩ := e2_ d g; go_wp2
     go_ret
     exact ⟨rs_, by repeat (first | exact Drawn0.refl _ | apply Drawn0.step)⟩
    ·rw [if_neg c] at H; have u : ((rd l0 a) == b) = false := beq_eq_false_iff_ne.mpr c; have x : ((rd l0 a) != b) = true := bne_iff_ne.mpr c; have H' := am H; clear H; have d : 0 ≤ (a : Int) := oa; have g : a < (l0.length : Int) := oa; obtain ⟨y, j, z⟩ := Kd.at_int p.out a d g; cases j; obtain ⟨d, g⟩ := e2_ d g; go_wp2
     go_roundg k1
     case measure => have := q.out; omega
     case rel => exact ⟨(wrap64 (a + 1)), rs_, H', ⟨by have := q.out; omega⟩, by repeat (first | exact Drawn0.refl _ | apply Drawn0.step)⟩
   ·rw [if_neg i] at H; have t := decide_eq_false i; clear i; obtain rfl := Option.some.inj H; go_wp2
    go_ret
    exact ⟨rs_, by repeat (first | exact Drawn0.refl _ | apply Drawn0.step)⟩
end Go.Proofs.Ytffflhmblelegaa.F
