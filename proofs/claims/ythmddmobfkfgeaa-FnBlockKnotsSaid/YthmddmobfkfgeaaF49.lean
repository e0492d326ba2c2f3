-- By oprint.py.
import Derived.Test.YthmddmobfkfgeaaF0
namespace Go.Proofs.Ythmddmobfkfgeaa.F
open Go.RowKit Go.Proofs.YthmddmobfkfgeaaW.PrintWords Go.Proofs.YthmddmobfkfgeaaW.PrintLast Go.Proofs.YthmddmobfkfgeaaW.PrintMore
attribute [local go_sem] max2_int min2_int max_two min_two max_three min_three max_four min_four
set_option linter.unusedVariables false
set_option linter.unusedSimpArgs false

/-! ### laws_loInts: function 49 -/
def laws_loInts.l0 : Nat → List Int → List Int → Int → Option (Bool)
 | 0, _, _, _ => none
 | k + 1, x0, x1, x5 => if x5 < (x0.length : Int) then (if 0 ≤ x5 then (if x5 < (x1.length : Int) then (if (rd x0 x5) = (rd x1 x5) then (laws_loInts.l0 k x0 x1 (wrap64 (x5 + 1))) else (some false)) else (none)) else (none)) else (some true)
def laws_loInts.f (k : Nat) (l0 : List Int) (l1 : List Int) : Option (Bool) := if (l0.length : Int) = (l1.length : Int) then (laws_loInts.l0 k l0 l1 0) else (some false)
theorem laws_loInts.mono_l : ∀ k, (∀ a b c, LeO (laws_loInts.l0 k a b c) (laws_loInts.l0 (k + 1) a b c))
 | 0 => fun _ _ _ r h => by simp [laws_loInts.l0] at h
 | k + 1 => by
  have ih0 := laws_loInts.mono_l k
  ·intro a b c; unfold laws_loInts.l0; exact mo_
theorem laws_loInts.mono : ∀ a b k, LeO (laws_loInts.f k a b) (laws_loInts.f (k + 1) a b) := by
 intro a b k; have ih0 := laws_loInts.mono_l k; unfold laws_loInts.f; exact mo_
set_option maxHeartbeats 8000000 in
set_option maxRecDepth 100000 in
theorem laws_loInts.calls (k : Nat) (q : Option Addr) (s : Nat) (l0 : List Int) (t : Option Addr) (n : Nat) (b : List Int) (r : Bool) (w : World) (u : Kd.C (Kd.int .i64) w q l0.length l0) (x : l0.length ≤ s) (y : Kd.C (Kd.int .i64) w t b.length b) (z : b.length ≤ n) (h : laws_loInts.f k l0 b = some r) :
  Calls Try.prog 49 #[.slice q l0.length s, .slice t b.length n] w fun e w' => e = .returned (.bool r) ∧ Drawn0 w w' := by
 have A := am u; have HC0 := am x; clear u x; have B := am y; have HC1 := am z; clear y z
 have H : (if (l0.length : Int) = (b.length : Int) then (laws_loInts.l0 k l0 b 0) else (some false)) = some r := h
 clear h; by_cases c : (l0.length : Int) = (b.length : Int)
 ·rw [if_pos c] at H; have D : ((l0.length : Int) == (b.length : Int)) = true := beq_iff_eq.mpr c; have E : ((l0.length : Int) != (b.length : Int)) = false := bne_eq_false_iff_eq.mpr c; have G : (l0.length == b.length) = true := by first | simpa using c | (simp at c ⊢; omega)
  clear c; have H' := am H; clear H; go_enter Try.func49, Try.ntmps49; go_wp2
  repeat (go_quiet (fail); try go_wp2)
  go_loopg [5] k (fun kq J w' => ∃ (a : Int), J = .int .i64 a ∧ Aside0 (laws_loInts.l0 kq l0 b a = some r) ∧ Aside0 (kq ≤ k) ∧ Drawn0 w w')
  case atStart => exact ⟨(0), rs_, H', ⟨Nat.le_refl _⟩, by repeat (first | exact Drawn0.refl _ | apply Drawn0.step)⟩
  case round =>
   clear H'; (try clear n c D E G); obtain ⟨a, rfl, HA, I, ⟨m1, rfl⟩⟩ := hrel; cases gk with
   | zero => exact absurd HA.out (by simp [laws_loInts.l0])
   | succ k1 =>
    have H := HA.out; clear HA; simp only [laws_loInts.l0] at H; by_cases m : a < (l0.length : Int)
    ·rw [if_pos m] at H; have K := decide_eq_true m; clear m; obtain ⟨W, H⟩ := id_ H; obtain ⟨X, H⟩ := id_ H; by_cases d : (rd l0 a) = (rd b a)
     ·rw [if_pos d] at H; have L : ((rd l0 a) == (rd b a)) = true := beq_iff_eq.mpr d; have M : ((rd l0 a) != (rd b a)) = false := bne_eq_false_iff_eq.mpr d; clear d; have H' := am H; clear H; have g : 0 ≤ (a : Int) := oa; have i : a < (l0.length : Int) := oa; obtain ⟨O, o, P⟩ := Kd.at_int A.out a g i; cases o; obtain ⟨g, i⟩ := e2_ g i; have j : 0 ≤ (a : Int) := oa; have l : a < (b.length : Int) := oa; obtain ⟨T, p, U⟩ := Kd.at_int B.out a j l; cases p; obtain ⟨j, l⟩ := e2_ j l; go_wp2
      repeat (go_quiet (fail); try go_wp2)
      go_roundg k1
      case measure => have := I.out; omega
      case rel => exact ⟨(wrap64 (a + 1)), rs_, H', ⟨by have := I.out; omega⟩, by repeat (first | exact Drawn0.refl _ | apply Drawn0.step)⟩
     ·rw [if_neg d] at H; have L : ((rd l0 a) == (rd b a)) = false := beq_eq_false_iff_ne.mpr d; have M : ((rd l0 a) != (rd b a)) = true := bne_iff_ne.mpr d; obtain rfl := Option.some.inj H; have g : 0 ≤ (a : Int) := oa; have i : a < (l0.length : Int) := oa; obtain ⟨O, o, P⟩ := Kd.at_int A.out a g i; cases o; obtain ⟨g, i⟩ := e2_ g i; have j : 0 ≤ (a : Int) := oa; have l : a < (b.length : Int) := oa; obtain ⟨T, p, U⟩ := Kd.at_int B.out a j l; cases p; obtain ⟨j, l⟩ := e2_ j l; go_wp2
      repeat (go_quiet (fail); try go_wp2)
      go_ret
      exact ⟨rs_, by repeat (first | exact Drawn0.refl _ | apply Drawn0.step)⟩
    ·rw [if_neg m] at H; have K := decide_eq_false m; clear m; obtain rfl := Option.some.inj H; go_wp2
     repeat (go_quiet (fail); try go_wp2)
     go_ret
     exact ⟨rs_, by repeat (first | exact Drawn0.refl _ | apply Drawn0.step)⟩
 ·rw [if_neg c] at H; have D : ((l0.length : Int) == (b.length : Int)) = false := beq_eq_false_iff_ne.mpr c; have E : ((l0.length : Int) != (b.length : Int)) = true := bne_iff_ne.mpr c; have G : (l0.length == b.length) = false := by first | simpa using c | (simp at c ⊢; omega)
  obtain rfl := Option.some.inj H; go_enter Try.func49, Try.ntmps49; go_wp2
  repeat (go_quiet (fail); try go_wp2)
  go_ret
  exact ⟨rs_, by repeat (first | exact Drawn0.refl _ | apply Drawn0.step)⟩

end Go.Proofs.Ythmddmobfkfgeaa.F
