-- By oprint.py.
import Derived.Test.YthmddmobfkfgeaaF0
namespace Go.Proofs.Ythmddmobfkfgeaa.F
open Go.RowKit Go.Proofs.YthmddmobfkfgeaaW.PrintWords Go.Proofs.YthmddmobfkfgeaaW.PrintLast Go.Proofs.YthmddmobfkfgeaaW.PrintMore
attribute [local go_sem] max2_int min2_int max_two min_two max_three min_three max_four min_four
set_option linter.unusedVariables false
set_option linter.unusedSimpArgs false

/-! ### laws_heldTieS: function 66 -/
def laws_heldTieS.l0 : Nat → List (S33) → Int → Int → Option (Int)
 | 0, _, _, _ => none
 | k + 1, x0, x1, x5 => if x5 < (x0.length : Int) then (if 0 ≤ x5 then (if ((rd_T33 x0 x5).f0) = x1 then (if ((rd_T33 x0 x5).f1) = (wrap64 (x1 + 1)) then (laws_heldTieS.l0 k x0 (wrap64 ((wrap64 (x1 + 1)) + 1)) (wrap64 (x5 + 1))) else (some (-1))) else (some (-1))) else (none)) else (some x1)
def laws_heldTieS.f (k : Nat) (l0 : List (S33)) (a1 : Int) : Option (Int) := laws_heldTieS.l0 k l0 a1 0
theorem laws_heldTieS.mono_l : ∀ k, (∀ a b c, LeO (laws_heldTieS.l0 k a b c) (laws_heldTieS.l0 (k + 1) a b c))
 | 0 => fun _ _ _ r h => by simp [laws_heldTieS.l0] at h
 | k + 1 => by
  have ih0 := laws_heldTieS.mono_l k
  ·intro a b c; unfold laws_heldTieS.l0; exact mo_
theorem laws_heldTieS.mono : ∀ a b k, LeO (laws_heldTieS.f k a b) (laws_heldTieS.f (k + 1) a b) := by
 intro a b k; have ih0 := laws_heldTieS.mono_l k; unfold laws_heldTieS.f; exact mo_
set_option maxHeartbeats 8000000 in
set_option maxRecDepth 100000 in
theorem laws_heldTieS.calls (k : Nat) (u : Option Addr) (x : Nat) (l0 : List (S33)) (p : Int) (r : Int) (w : World) (y : Kd.C k33 w u l0.length l0) (z : l0.length ≤ x) (h : laws_heldTieS.f k l0 p = some r) :
  Calls Try.prog 66 #[.slice u l0.length x, .int .i64 p] w fun e w' => e = .returned (.int .i64 r) ∧ Drawn0 w w' := by
 have n := am y; have HC0 := am z; clear y z
 have H : (laws_heldTieS.l0 k l0 p 0) = some r := h
 clear h; have H' := am H; clear H; go_enter Try.func66, Try.ntmps66; go_wp2
 go_loopg [1, 5] k (fun kq E G w' => ∃ (b : Int) (a : Int), E = .int .i64 b ∧ G = .int .i64 a ∧ Aside0 (laws_heldTieS.l0 kq l0 b a = some r) ∧ Aside0 (kq ≤ k) ∧ Drawn0 w w')
 case atStart => exact ⟨(p), (0), rs_, rs_, H', ⟨Nat.le_refl _⟩, by repeat (first | exact Drawn0.refl _ | apply Drawn0.step)⟩
 case round =>
  clear H'; obtain ⟨b, a, rfl, rfl, HA, A, ⟨m1, rfl⟩⟩ := hrel; cases gk with
  | zero => exact absurd HA.out (by simp [laws_heldTieS.l0])
  | succ k1 =>
   have H := HA.out; clear HA; simp only [laws_heldTieS.l0] at H; by_cases m : a < (l0.length : Int)
   ·rw [if_pos m] at H; have I := decide_eq_true m; clear m; obtain ⟨T, H⟩ := id_ H; by_cases g : ((rd_T33 l0 a).f0) = b
    ·rw [if_pos g] at H; have J : (((rd_T33 l0 a).f0) == b) = true := beq_iff_eq.mpr g; have K : (((rd_T33 l0 a).f0) != b) = false := bne_eq_false_iff_eq.mpr g; clear g; by_cases i : ((rd_T33 l0 a).f1) = (wrap64 (b + 1))
     ·rw [if_pos i] at H; have L : (((rd_T33 l0 a).f1) == (wrap64 (b + 1))) = true := beq_iff_eq.mpr i; have M : (((rd_T33 l0 a).f1) != (wrap64 (b + 1))) = false := bne_eq_false_iff_eq.mpr i; clear i; have H' := am H; clear H; have c : 0 ≤ (a : Int) := oa; have d : a < (l0.length : Int) := oa; obtain ⟨q, o, B, D⟩ := at_T33 n.out a c d; cases o; obtain ⟨c, d⟩ := e2_ c d; have j : 0 ≤ (a : Int) := oa; have l : a < (l0.length : Int) := oa; obtain ⟨s, t, O, P⟩ := at_T33 n.out a j l; obtain rfl : q = s := (by injection t); obtain ⟨j, l⟩ := e2_ j l; go_wp2
      go_roundg k1
      case measure => have := A.out; omega
      case rel => exact ⟨(wrap64 ((wrap64 (b + 1)) + 1)), (wrap64 (a + 1)), rs_, rs_, H', ⟨by have := A.out; omega⟩, by repeat (first | exact Drawn0.refl _ | apply Drawn0.step)⟩
     ·rw [if_neg i] at H; have L : (((rd_T33 l0 a).f1) == (wrap64 (b + 1))) = false := beq_eq_false_iff_ne.mpr i; have M : (((rd_T33 l0 a).f1) != (wrap64 (b + 1))) = true := bne_iff_ne.mpr i; obtain rfl := Option.some.inj H; have c : 0 ≤ (a : Int) := oa; have d : a < (l0.length : Int) := oa; obtain ⟨q, o, B, D⟩ := at_T33 n.out a c d; cases o; obtain ⟨c, d⟩ := e2_ c d; have j : 0 ≤ (a : Int) := oa; have l : a < (l0.length : Int) := oa; obtain ⟨s, t, O, P⟩ := at_T33 n.out a j l; obtain rfl : q = s := (by injection t); obtain ⟨j, l⟩ := e2_ j l; go_wp2
      go_ret
      exact ⟨rs_, by repeat (first | exact Drawn0.refl _ | apply Drawn0.step)⟩
    ·rw [if_neg g] at H; have J : (((rd_T33 l0 a).f0) == b) = false := beq_eq_false_iff_ne.mpr g; have K : (((rd_T33 l0 a).f0) != b) = true := bne_iff_ne.mpr g; obtain rfl := Option.some.inj H; have c : 0 ≤ (a : Int) := oa; have d : a < (l0.length : Int) := oa; obtain ⟨q, o, B, D⟩ := at_T33 n.out a c d; cases o; obtain ⟨c, d⟩ := e2_ c d; go_wp2
     go_ret
     exact ⟨rs_, by repeat (first | exact Drawn0.refl _ | apply Drawn0.step)⟩
   ·rw [if_neg m] at H; have I := decide_eq_false m; clear m; obtain rfl := Option.some.inj H; go_wp2
    go_ret
    exact ⟨rs_, by repeat (first | exact Drawn0.refl _ | apply Drawn0.step)⟩

end Go.Proofs.Ythmddmobfkfgeaa.F
