-- By oprint.py.
import Derived.Test.YthmddmobfkfgeaaF0
import Derived.Test.YthmddmobfkfgeaaF1
namespace Go.Proofs.Ythmddmobfkfgeaa.F
open Go.RowKit Go.Proofs.YthmddmobfkfgeaaW.PrintWords Go.Proofs.YthmddmobfkfgeaaW.PrintLast Go.Proofs.YthmddmobfkfgeaaW.PrintMore
attribute [local go_sem] max2_int min2_int max_two min_two max_three min_three max_four min_four
set_option linter.unusedVariables false
set_option linter.unusedSimpArgs false

attribute [local go_sem high] eqA33
/-! ### laws_loTies: function 45 -/
def laws_loTies.l0 : Nat → List (S33) → List (S33) → Int → Option (Bool)
 | 0, _, _, _ => none
 | k + 1, x0, x1, x5 => if x5 < (x0.length : Int) then (if 0 ≤ x5 then (if x5 < (x1.length : Int) then (if (!(((rd_T33 x0 x5).f0) == ((rd_T33 x1 x5).f0)) || (!(((rd_T33 x0 x5).f1) == ((rd_T33 x1 x5).f1)))) = true then (some false) else (laws_loTies.l0 k x0 x1 (wrap64 (x5 + 1)))) else (none)) else (none)) else (some true)
def laws_loTies.f (k : Nat) (l0 : List (S33)) (l1 : List (S33)) : Option (Bool) := if (l0.length : Int) = (l1.length : Int) then (laws_loTies.l0 k l0 l1 0) else (some false)
theorem laws_loTies.mono_l : ∀ k, (∀ a b c, LeO (laws_loTies.l0 k a b c) (laws_loTies.l0 (k + 1) a b c))
 | 0 => fun _ _ _ r h => by simp [laws_loTies.l0] at h
 | k + 1 => by
  have ih0 := laws_loTies.mono_l k
  ·intro a b c; unfold laws_loTies.l0; exact mo_
theorem laws_loTies.mono : ∀ a b k, LeO (laws_loTies.f k a b) (laws_loTies.f (k + 1) a b) := by
 intro a b k; have ih0 := laws_loTies.mono_l k; unfold laws_loTies.f; exact mo_
set_option maxHeartbeats 8000000 in
set_option maxRecDepth 100000 in
theorem laws_loTies.calls (k : Nat) (q : Option Addr) (s : Nat) (l0 : List (S33)) (t : Option Addr) (n : Nat) (b : List (S33)) (r : Bool) (w : World) (u : Kd.C k33 w q l0.length l0) (x : l0.length ≤ s) (y : Kd.C k33 w t b.length b) (z : b.length ≤ n) (h : laws_loTies.f k l0 b = some r) :
  Calls Try.prog 45 #[.slice q l0.length s, .slice t b.length n] w fun e w' => e = .returned (.bool r) ∧ Drawn0 w w' := by
 have X := Try.underlying33; have A := am u; have HC0 := am x; clear u x; have B := am y; have HC1 := am z; clear y z
 have H : (if (l0.length : Int) = (b.length : Int) then (laws_loTies.l0 k l0 b 0) else (some false)) = some r := h
 clear h; by_cases c : (l0.length : Int) = (b.length : Int)
 ·rw [if_pos c] at H; have D : ((l0.length : Int) == (b.length : Int)) = true := beq_iff_eq.mpr c; have E : ((l0.length : Int) != (b.length : Int)) = false := bne_eq_false_iff_eq.mpr c; have G : (l0.length == b.length) = true := by first | simpa using c | (simp at c ⊢; omega)
  clear c; have H' := am H; clear H; go_enter Try.func45, Try.ntmps45; go_wp2
  repeat (go_quiet (fail); try go_wp2)
  go_loopg [5] k (fun kq J w' => ∃ (a : Int), J = .int .i64 a ∧ Aside0 (laws_loTies.l0 kq l0 b a = some r) ∧ Aside0 (kq ≤ k) ∧ Drawn0 w w')
  case atStart => exact ⟨(0), rs_, H', ⟨Nat.le_refl _⟩, by repeat (first | exact Drawn0.refl _ | apply Drawn0.step)⟩
  case round =>
   clear H'; (try clear n c D E G); obtain ⟨a, rfl, HA, I, ⟨m1, rfl⟩⟩ := hrel; cases gk with
   | zero => exact absurd HA.out (by simp [laws_loTies.l0])
   | succ k1 =>
    have H := HA.out; clear HA; simp only [laws_loTies.l0] at H; by_cases l : a < (l0.length : Int)
    ·rw [if_pos l] at H; have K := decide_eq_true l; clear l; obtain ⟨Y, H⟩ := id_ H; obtain ⟨Z, H⟩ := id_ H; by_cases m : (!(((rd_T33 l0 a).f0) == ((rd_T33 b a).f0)) || (!(((rd_T33 l0 a).f1) == ((rd_T33 b a).f1)))) = true
     ·rw [if_pos m] at H; have L : (!(((rd_T33 l0 a).f0) == ((rd_T33 b a).f0)) || (!(((rd_T33 l0 a).f1) == ((rd_T33 b a).f1)))) = true := m; clear m; obtain rfl := Option.some.inj H; have d : 0 ≤ (a : Int) := oa; have g : a < (l0.length : Int) := oa; obtain ⟨M, o, O, P⟩ := at_T33 A.out a d g; cases o; obtain ⟨d, g⟩ := e2_ d g; have i : 0 ≤ (a : Int) := oa; have j : a < (b.length : Int) := oa; obtain ⟨T, p, U, W⟩ := at_T33 B.out a i j; cases p; obtain ⟨i, j⟩ := e2_ i j; go_wp2
      repeat (go_quiet (fail); try go_wp2)
      go_ret
      exact ⟨rs_, by repeat (first | exact Drawn0.refl _ | apply Drawn0.step)⟩
     ·rw [if_neg m] at H; have L : (!(((rd_T33 l0 a).f0) == ((rd_T33 b a).f0)) || (!(((rd_T33 l0 a).f1) == ((rd_T33 b a).f1)))) = false := by simpa using m
      clear m; have H' := am H; clear H; have d : 0 ≤ (a : Int) := oa; have g : a < (l0.length : Int) := oa; obtain ⟨M, o, O, P⟩ := at_T33 A.out a d g; cases o; obtain ⟨d, g⟩ := e2_ d g; have i : 0 ≤ (a : Int) := oa; have j : a < (b.length : Int) := oa; obtain ⟨T, p, U, W⟩ := at_T33 B.out a i j; cases p; obtain ⟨i, j⟩ := e2_ i j; go_wp2
      repeat (go_quiet (fail); try go_wp2)
      go_roundg k1
      case measure => have := I.out; omega
      case rel => exact ⟨(wrap64 (a + 1)), rs_, H', ⟨by have := I.out; omega⟩, by repeat (first | exact Drawn0.refl _ | apply Drawn0.step)⟩
    ·rw [if_neg l] at H; have K := decide_eq_false l; clear l; obtain rfl := Option.some.inj H; go_wp2
     repeat (go_quiet (fail); try go_wp2)
     go_ret
     exact ⟨rs_, by repeat (first | exact Drawn0.refl _ | apply Drawn0.step)⟩
 ·rw [if_neg c] at H; have D : ((l0.length : Int) == (b.length : Int)) = false := beq_eq_false_iff_ne.mpr c; have E : ((l0.length : Int) != (b.length : Int)) = true := bne_iff_ne.mpr c; have G : (l0.length == b.length) = false := by first | simpa using c | (simp at c ⊢; omega)
  obtain rfl := Option.some.inj H; go_enter Try.func45, Try.ntmps45; go_wp2
  repeat (go_quiet (fail); try go_wp2)
  go_ret
  exact ⟨rs_, by repeat (first | exact Drawn0.refl _ | apply Drawn0.step)⟩

end Go.Proofs.Ythmddmobfkfgeaa.F
