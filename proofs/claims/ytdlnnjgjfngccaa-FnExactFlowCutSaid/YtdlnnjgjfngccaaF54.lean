-- Written by oprint.py (wip/tools) over the kit's print program, for this seat.
import Derived.Test.YtdlnnjgjfngccaaF0
namespace Go.Proofs.Ytdlnnjgjfngccaa.F
open Go.RowKit Go.Proofs.YtdlnnjgjfngccaaW.PrintWords Go.Proofs.YtdlnnjgjfngccaaW.PrintLast Go.Proofs.YtdlnnjgjfngccaaW.PrintMore
attribute [local go_sem] max2_int min2_int max_two min_two max_three min_three max_four min_four   -- for this text's walks alone
set_option linter.unusedVariables false
set_option linter.unusedSimpArgs false

/-! ### laws_heldTieS: function 54 -/
def laws_heldTieS.l0 : Nat → List (S73) → Int → Int → Option (Int)
 | 0, _, _, _ => none
 | k + 1, x0, x1, x5 => if x5 < (x0.length : Int) then (if 0 ≤ x5 then (if ((rd_T73 x0 x5).f0) = x1 then (if ((rd_T73 x0 x5).f1) = (wrap64 (x1 + 1)) then (laws_heldTieS.l0 k x0 (wrap64 ((wrap64 (x1 + 1)) + 1)) (wrap64 (x5 + 1))) else (some (-1))) else (some (-1))) else (none)) else (some x1)
def laws_heldTieS.f (k : Nat) (l0 : List (S73)) (a1 : Int) : Option (Int) := laws_heldTieS.l0 k l0 a1 0
theorem laws_heldTieS.mono_l : ∀ k, (∀ y0 y1 y2, LeO (laws_heldTieS.l0 k y0 y1 y2) (laws_heldTieS.l0 (k + 1) y0 y1 y2))
 | 0 => fun _ _ _ r h => by simp [laws_heldTieS.l0] at h
 | k + 1 => by
  have ih0 := laws_heldTieS.mono_l k
  ·intro y0 y1 y2
   unfold laws_heldTieS.l0
   exact mo_
theorem laws_heldTieS.mono : ∀ a0 a1 k, LeO (laws_heldTieS.f k a0 a1) (laws_heldTieS.f (k + 1) a0 a1) := by
 intro a0 a1 k
 have ih0 := laws_heldTieS.mono_l k
 unfold laws_heldTieS.f
 exact mo_
set_option maxHeartbeats 8000000 in
set_option maxRecDepth 100000 in
theorem laws_heldTieS.calls (k : Nat) (A0 : Option Addr) (c0 : Nat) (l0 : List (S73)) (a1 : Int) (r : Int) (w : World) (hr0 : Kd.C k73 w A0 l0.length l0) (hc0 : l0.length ≤ c0) (h : laws_heldTieS.f k l0 a1 = some r) :
  Calls Try.prog 54 #[.slice A0 l0.length c0, .int .i64 a1] w fun e w' => e = .returned (.int .i64 r) ∧ Drawn0 w w' := by
 have HR0 := am hr0
 have HC0 := am hc0
 clear hr0 hc0
 have H : (laws_heldTieS.l0 k l0 a1 0) = some r := h
 clear h
 have H' := am H
 clear H
 go_enter Try.func54, Try.ntmps54
 go_wp2
 go_loopg [1, 5] k (fun kq v1 v5 w' => ∃ (x1_1 : Int) (x5_1 : Int), v1 = .int .i64 x1_1 ∧ v5 = .int .i64 x5_1 ∧ Aside0 (laws_heldTieS.l0 kq l0 x1_1 x5_1 = some r) ∧ Aside0 (kq ≤ k) ∧ Drawn0 w w')
 case atStart => exact ⟨(a1), (0), (by first | rfl | (simp; done) | (simp [*]; done)), (by first | rfl | (simp; done) | (simp [*]; done)), H', ⟨Nat.le_refl _⟩, by repeat (first | exact Drawn0.refl _ | apply Drawn0.step)⟩
 case round =>
  clear H'
  try clear p2
  obtain ⟨x1_1, x5_1, rfl, rfl, HA, HK1, ⟨m1, rfl⟩⟩ := hrel
  cases gk with
  | zero => exact absurd HA.out (by simp [laws_heldTieS.l0])
  | succ k1 =>
   have H := HA.out
   clear HA
   simp only [laws_heldTieS.l0] at H
   by_cases c3 : x5_1 < (l0.length : Int)
   ·rw [if_pos c3] at H
    have c3b0 := decide_eq_true c3
    clear c3
    obtain ⟨c4, H⟩ := ig_ H
    have c4b0 := decide_eq_true c4
    clear c4
    by_cases c5 : ((rd_T73 l0 x5_1).f0) = x1_1
    ·rw [if_pos c5] at H
     have c5b0 : (((rd_T73 l0 x5_1).f0) == x1_1) = true := beq_iff_eq.mpr c5
     have c5b1 : (((rd_T73 l0 x5_1).f0) != x1_1) = false := bne_eq_false_iff_eq.mpr c5
     clear c5
     by_cases c6 : ((rd_T73 l0 x5_1).f1) = (wrap64 (x1_1 + 1))
     ·rw [if_pos c6] at H
      have c6b0 : (((rd_T73 l0 x5_1).f1) == (wrap64 (x1_1 + 1))) = true := beq_iff_eq.mpr c6
      have c6b1 : (((rd_T73 l0 x5_1).f1) != (wrap64 (x1_1 + 1))) = false := bne_eq_false_iff_eq.mpr c6
      clear c6
      have H' := am H
      clear H
      have p798 : 0 ≤ (x5_1 : Int) := oa
      have q798 : x5_1 < (l0.length : Int) := oa
      obtain ⟨ad798, e798, hx798_0, hx798_1⟩ := at_T73 HR0.out x5_1 p798 q798
      cases e798
      replace p798 := eq_true p798
      replace q798 := eq_true q798
      have p799 : 0 ≤ (x5_1 : Int) := oa
      have q799 : x5_1 < (l0.length : Int) := oa
      obtain ⟨ad799, e799, hx799_0, hx799_1⟩ := at_T73 HR0.out x5_1 p799 q799
      obtain rfl : ad798 = ad799 := (by injection e799)
      replace p799 := eq_true p799
      replace q799 := eq_true q799
      go_wp2
      go_roundg k1
      case measure => have := HK1.out; omega
      case rel => exact ⟨(wrap64 ((wrap64 (x1_1 + 1)) + 1)), (wrap64 (x5_1 + 1)), (by first | rfl | (simp; done) | (simp [*]; done)), (by first | rfl | (simp; done) | (simp [*]; done)), H', ⟨by have := HK1.out; omega⟩, by repeat (first | exact Drawn0.refl _ | apply Drawn0.step)⟩
     ·rw [if_neg c6] at H
      have c6b0 : (((rd_T73 l0 x5_1).f1) == (wrap64 (x1_1 + 1))) = false := beq_eq_false_iff_ne.mpr c6
      have c6b1 : (((rd_T73 l0 x5_1).f1) != (wrap64 (x1_1 + 1))) = true := bne_iff_ne.mpr c6
      obtain rfl := Option.some.inj H
      have p798 : 0 ≤ (x5_1 : Int) := oa
      have q798 : x5_1 < (l0.length : Int) := oa
      obtain ⟨ad798, e798, hx798_0, hx798_1⟩ := at_T73 HR0.out x5_1 p798 q798
      cases e798
      replace p798 := eq_true p798
      replace q798 := eq_true q798
      have p799 : 0 ≤ (x5_1 : Int) := oa
      have q799 : x5_1 < (l0.length : Int) := oa
      obtain ⟨ad799, e799, hx799_0, hx799_1⟩ := at_T73 HR0.out x5_1 p799 q799
      obtain rfl : ad798 = ad799 := (by injection e799)
      replace p799 := eq_true p799
      replace q799 := eq_true q799
      go_wp2
      go_ret
      exact ⟨by first | rfl | (simp; done) | (simp [*]; done), by repeat (first | exact Drawn0.refl _ | apply Drawn0.step)⟩
    ·rw [if_neg c5] at H
     have c5b0 : (((rd_T73 l0 x5_1).f0) == x1_1) = false := beq_eq_false_iff_ne.mpr c5
     have c5b1 : (((rd_T73 l0 x5_1).f0) != x1_1) = true := bne_iff_ne.mpr c5
     obtain rfl := Option.some.inj H
     have p798 : 0 ≤ (x5_1 : Int) := oa
     have q798 : x5_1 < (l0.length : Int) := oa
     obtain ⟨ad798, e798, hx798_0, hx798_1⟩ := at_T73 HR0.out x5_1 p798 q798
     cases e798
     replace p798 := eq_true p798
     replace q798 := eq_true q798
     go_wp2
     go_ret
     exact ⟨by first | rfl | (simp; done) | (simp [*]; done), by repeat (first | exact Drawn0.refl _ | apply Drawn0.step)⟩
   ·rw [if_neg c3] at H
    have c3b0 := decide_eq_false c3
    clear c3
    obtain rfl := Option.some.inj H
    go_wp2
    go_ret
    exact ⟨by first | rfl | (simp; done) | (simp [*]; done), by repeat (first | exact Drawn0.refl _ | apply Drawn0.step)⟩

end Go.Proofs.Ytdlnnjgjfngccaa.F
