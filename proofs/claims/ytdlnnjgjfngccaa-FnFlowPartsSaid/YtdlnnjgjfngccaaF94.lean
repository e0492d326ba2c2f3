-- By oprint.py.
import Derived.Test.YtdlnnjgjfngccaaF0
import Derived.Test.YtdlnnjgjfngccaaF1
namespace Go.Proofs.Ytdlnnjgjfngccaa.F
open Go.RowKit Go.Proofs.YtdlnnjgjfngccaaW.PrintWords Go.Proofs.YtdlnnjgjfngccaaW.PrintLast Go.Proofs.YtdlnnjgjfngccaaW.PrintMore
attribute [local go_sem] max2_int min2_int max_two min_two max_three min_three max_four min_four
set_option linter.unusedVariables false
set_option linter.unusedSimpArgs false

attribute [local go_sem high] eqA73
/-! ### laws_loLess: function 84 -/
mutual
def laws_loLess.l0 : Nat → List (S73) → List (S73) → Int → Option (Bool)
 | 0, _, _, _ => none
 | k + 1, x0, x1, x5 => if x5 < (x0.length : Int) then (laws_loLess.j1 k x0 x1 x5 (decide (x5 < (x1.length : Int)))) else (laws_loLess.j1 k x0 x1 x5 false)
def laws_loLess.j1 : Nat → List (S73) → List (S73) → Int → Bool → Option (Bool)
 | 0, _, _, _, _ => none
 | k + 1, x0, x1, x5, x15 => if x15 = true then (if 0 ≤ x5 then (if x5 < (x0.length : Int) then (if x5 < (x1.length : Int) then (if (!(((rd_T73 x0 x5).f0) == ((rd_T73 x1 x5).f0)) || (!(((rd_T73 x0 x5).f1) == ((rd_T73 x1 x5).f1)))) = true then (if ((rd_T73 x0 x5).f0) < ((rd_T73 x1 x5).f0) then (some true) else (if ((rd_T73 x0 x5).f0) = ((rd_T73 x1 x5).f0) then (some (decide (((rd_T73 x0 x5).f1) < ((rd_T73 x1 x5).f1)))) else (some false))) else (laws_loLess.l0 k x0 x1 (wrap64 (x5 + 1)))) else (none)) else (none)) else (none)) else (some false)
end
def laws_loLess.f (k : Nat) (l0 : List (S73)) (l1 : List (S73)) : Option (Bool) := laws_loLess.l0 k l0 l1 0
theorem laws_loLess.mono_l : ∀ k, (∀ a b c, LeO (laws_loLess.l0 k a b c) (laws_loLess.l0 (k + 1) a b c)) ∧ (∀ a b c d, LeO (laws_loLess.j1 k a b c d) (laws_loLess.j1 (k + 1) a b c d))
 | 0 => ⟨fun _ _ _ r h => by simp [laws_loLess.l0] at h, fun _ _ _ _ r h => by simp [laws_loLess.j1] at h⟩
 | k + 1 => by
  obtain ⟨ih0, ih1⟩ := laws_loLess.mono_l k; refine ⟨?_, ?_⟩
  ·intro a b c; unfold laws_loLess.l0; exact mo_
  ·intro a b c d; unfold laws_loLess.j1; exact mo_
theorem laws_loLess.mono : ∀ a b k, LeO (laws_loLess.f k a b) (laws_loLess.f (k + 1) a b) := by
 intro a b k; obtain ⟨ih0, ih1⟩ := laws_loLess.mono_l k; unfold laws_loLess.f; exact mo_
set_option maxHeartbeats 8000000 in
set_option maxRecDepth 100000 in
theorem laws_loLess.calls (k : Nat) (A0 : Option Addr) (c0 : Nat) (l0 : List (S73)) (A1 : Option Addr) (O : Nat) (b : List (S73)) (r : Bool) (w : World) (hr0 : Kd.C k73 w A0 l0.length l0) (hc0 : l0.length ≤ c0) (hr1 : Kd.C k73 w A1 b.length b) (hc1 : b.length ≤ O) (h : laws_loLess.f k l0 b = some r) :
  Calls Try.prog 84 #[.slice A0 l0.length c0, .slice A1 b.length O] w fun e w' => e = .returned (.bool r) ∧ Drawn0 w w' := by
 have hu73 := Try.underlying73; have o := am hr0; have HC0 := am hc0; clear hr0 hc0; have p := am hr1; have HC1 := am hc1; clear hr1 hc1
 have H : (laws_loLess.l0 k l0 b 0) = some r := h
 clear h; have H' := am H; clear H; go_enter Try.func84, Try.ntmps84; go_wp2
 repeat (go_quiet (fail); try go_wp2)
 go_loopg [5] k (fun kq v5 w' => ∃ (a : Int), v5 = .int .i64 a ∧ Aside0 (laws_loLess.l0 kq l0 b a = some r) ∧ Aside0 (kq ≤ k) ∧ Drawn0 w w')
 case atStart => exact ⟨(0), rs_, H', ⟨Nat.le_refl _⟩, by repeat (first | exact Drawn0.refl _ | apply Drawn0.step)⟩
 case round =>
  clear H'; (try clear O); (try clear p2); obtain ⟨a, rfl, HA, P, ⟨m1, rfl⟩⟩ := hrel; cases gk with
  | zero => exact absurd HA.out (by simp [laws_loLess.l0])
  | succ k1 =>
   have H := HA.out; clear HA; simp only [laws_loLess.l0] at H; have W := am H; clear H
   go_upto_region 2 with (fail)
   repeat (go_quiet (fail); go_upto_region 2 with (fail))
   go_cut [15] (fun v15 wc => ∃ (kq : Nat) (T : Bool), v15 = .bool T ∧ Aside0 (laws_loLess.j1 kq l0 b a T = some r) ∧ Aside0 (kq ≤ k1) ∧ Drawn0 w wc)
   case first =>
    have H := W.out; clear W; by_cases t : a < (l0.length : Int)
    ·rw [if_pos t] at H; have E := decide_eq_true t; clear t; (first | rw [E] | (simp only [i64_w, i32_w]; rw [E]) | skip); have H' := am H; clear H; go_wp2
     repeat (go_quiet (fail); try go_wp2)
     go_meet
     case rel => exact ⟨_, (decide (a < (b.length : Int))), rs_, H', ⟨by have := P.out; first | omega | exact Nat.le_refl _⟩, by repeat (first | exact Drawn0.refl _ | apply Drawn0.step)⟩
    ·rw [if_neg t] at H; have E := decide_eq_false t; clear t; (first | rw [E] | (simp only [i64_w, i32_w]; rw [E]) | skip); have H' := am H; clear H; go_wp2
     repeat (go_quiet (fail); try go_wp2)
     go_meet
     case rel => exact ⟨_, (false), rs_, H', ⟨by have := P.out; first | omega | exact Nat.le_refl _⟩, by repeat (first | exact Drawn0.refl _ | apply Drawn0.step)⟩
   case rest =>
    clear W; (try clear O); (try clear p2); (try clear t); (try clear E); (try clear p2); obtain ⟨kq, T, rfl, HA, HJ2, ⟨mc2, rfl⟩⟩ := hcut; cases kq with
    | zero => exact absurd HA.out (by simp [laws_loLess.j1])
    | succ kj2 =>
     have H := HA.out; clear HA; simp only [laws_loLess.j1] at H; by_cases U : T = true
     ·subst U; rw [if_pos rfl] at H; obtain ⟨c6b0, H⟩ := id_ H; obtain ⟨c7b0, H⟩ := id_ H; obtain ⟨c8b0, H⟩ := id_ H; by_cases G : (!(((rd_T73 l0 a).f0) == ((rd_T73 b a).f0)) || (!(((rd_T73 l0 a).f1) == ((rd_T73 b a).f1)))) = true
      ·rw [if_pos G] at H; have c9b0 : (!(((rd_T73 l0 a).f0) == ((rd_T73 b a).f0)) || (!(((rd_T73 l0 a).f1) == ((rd_T73 b a).f1)))) = true := G; clear G; by_cases I : ((rd_T73 l0 a).f0) < ((rd_T73 b a).f0)
       ·rw [if_pos I] at H; have c10b0 := decide_eq_true I; clear I; obtain rfl := Option.some.inj H; have c : 0 ≤ (a : Int) := oa; have d : a < (l0.length : Int) := oa; obtain ⟨q, u, X, Y⟩ := at_T73 o.out a c d; cases u; replace c := eq_true c; replace d := eq_true d; have g : 0 ≤ (a : Int) := oa; have i : a < (b.length : Int) := oa; obtain ⟨s, x, Z, aa⟩ := at_T73 p.out a g i; cases x; replace g := eq_true g; replace i := eq_true i; have j : 0 ≤ (a : Int) := oa; have l : a < (l0.length : Int) := oa; obtain ⟨J, K, hx1614_0, hx1614_1⟩ := at_T73 o.out a j l; obtain rfl : q = J := (by injection K); replace j := eq_true j; replace l := eq_true l; have m : 0 ≤ (a : Int) := oa; have n : a < (b.length : Int) := oa; obtain ⟨L, M, hx1615_0, hx1615_1⟩ := at_T73 p.out a m n; obtain rfl : s = L := (by injection M); replace m := eq_true m; replace n := eq_true n; go_wp2
        repeat (go_quiet (fail); try go_wp2)
        go_ret
        exact ⟨rs_, by repeat (first | exact Drawn0.refl _ | apply Drawn0.step)⟩
       ·rw [if_neg I] at H; have c10b0 := decide_eq_false I; clear I; by_cases y : ((rd_T73 l0 a).f0) = ((rd_T73 b a).f0)
        ·rw [if_pos y] at H; have c11b0 : (((rd_T73 l0 a).f0) == ((rd_T73 b a).f0)) = true := beq_iff_eq.mpr y; have c11b1 : (((rd_T73 l0 a).f0) != ((rd_T73 b a).f0)) = false := bne_eq_false_iff_eq.mpr y; have c11b2 : (((rd_T73 l0 a).f1) == ((rd_T73 b a).f1)) = false := by simpa [c11b0] using c9b0
         clear y; obtain rfl := Option.some.inj H; have c : 0 ≤ (a : Int) := oa; have d : a < (l0.length : Int) := oa; obtain ⟨q, u, X, Y⟩ := at_T73 o.out a c d; cases u; replace c := eq_true c; replace d := eq_true d; have g : 0 ≤ (a : Int) := oa; have i : a < (b.length : Int) := oa; obtain ⟨s, x, Z, aa⟩ := at_T73 p.out a g i; cases x; replace g := eq_true g; replace i := eq_true i; have j : 0 ≤ (a : Int) := oa; have l : a < (l0.length : Int) := oa; obtain ⟨J, K, hx1614_0, hx1614_1⟩ := at_T73 o.out a j l; obtain rfl : q = J := (by injection K); replace j := eq_true j; replace l := eq_true l; have m : 0 ≤ (a : Int) := oa; have n : a < (b.length : Int) := oa; obtain ⟨L, M, hx1615_0, hx1615_1⟩ := at_T73 p.out a m n; obtain rfl : s = L := (by injection M); replace m := eq_true m; replace n := eq_true n; have z : 0 ≤ (a : Int) := oa; have A : a < (l0.length : Int) := oa; obtain ⟨ab, ad, hx1616_0, hx1616_1⟩ := at_T73 o.out a z A; obtain rfl : q = ab := (by injection ad); replace z := eq_true z; replace A := eq_true A; have B : 0 ≤ (a : Int) := oa; have D : a < (b.length : Int) := oa; obtain ⟨ae, af, hx1617_0, hx1617_1⟩ := at_T73 p.out a B D; obtain rfl : s = ae := (by injection af); replace B := eq_true B; replace D := eq_true D; have ag : 0 ≤ (a : Int) := oa; have ah : a < (l0.length : Int) := oa; obtain ⟨ad1618, e1618, hx1618_0, hx1618_1⟩ := at_T73 o.out a ag ah; obtain rfl : q = ad1618 := (by injection e1618); replace ag := eq_true ag; replace ah := eq_true ah; have ai : 0 ≤ (a : Int) := oa; have aj : a < (b.length : Int) := oa; obtain ⟨ad1619, e1619, hx1619_0, hx1619_1⟩ := at_T73 p.out a ai aj; obtain rfl : s = ad1619 := (by injection e1619); replace ai := eq_true ai; replace aj := eq_true aj; go_wp2
         repeat (go_quiet (fail); try go_wp2)
         go_ret
         exact ⟨rs_, by repeat (first | exact Drawn0.refl _ | apply Drawn0.step)⟩
        ·rw [if_neg y] at H; have c11b0 : (((rd_T73 l0 a).f0) == ((rd_T73 b a).f0)) = false := beq_eq_false_iff_ne.mpr y; have c11b1 : (((rd_T73 l0 a).f0) != ((rd_T73 b a).f0)) = true := bne_iff_ne.mpr y; obtain rfl := Option.some.inj H; have c : 0 ≤ (a : Int) := oa; have d : a < (l0.length : Int) := oa; obtain ⟨q, u, X, Y⟩ := at_T73 o.out a c d; cases u; replace c := eq_true c; replace d := eq_true d; have g : 0 ≤ (a : Int) := oa; have i : a < (b.length : Int) := oa; obtain ⟨s, x, Z, aa⟩ := at_T73 p.out a g i; cases x; replace g := eq_true g; replace i := eq_true i; have j : 0 ≤ (a : Int) := oa; have l : a < (l0.length : Int) := oa; obtain ⟨J, K, hx1614_0, hx1614_1⟩ := at_T73 o.out a j l; obtain rfl : q = J := (by injection K); replace j := eq_true j; replace l := eq_true l; have m : 0 ≤ (a : Int) := oa; have n : a < (b.length : Int) := oa; obtain ⟨L, M, hx1615_0, hx1615_1⟩ := at_T73 p.out a m n; obtain rfl : s = L := (by injection M); replace m := eq_true m; replace n := eq_true n; have z : 0 ≤ (a : Int) := oa; have A : a < (l0.length : Int) := oa; obtain ⟨ab, ad, hx1616_0, hx1616_1⟩ := at_T73 o.out a z A; obtain rfl : q = ab := (by injection ad); replace z := eq_true z; replace A := eq_true A; have B : 0 ≤ (a : Int) := oa; have D : a < (b.length : Int) := oa; obtain ⟨ae, af, hx1617_0, hx1617_1⟩ := at_T73 p.out a B D; obtain rfl : s = ae := (by injection af); replace B := eq_true B; replace D := eq_true D; go_wp2
         repeat (go_quiet (fail); try go_wp2)
         go_ret
         exact ⟨rs_, by repeat (first | exact Drawn0.refl _ | apply Drawn0.step)⟩
      ·rw [if_neg G] at H; have c9b0 : (!(((rd_T73 l0 a).f0) == ((rd_T73 b a).f0)) || (!(((rd_T73 l0 a).f1) == ((rd_T73 b a).f1)))) = false := by simpa using G
       clear G; have H' := am H; clear H; have c : 0 ≤ (a : Int) := oa; have d : a < (l0.length : Int) := oa; obtain ⟨q, u, X, Y⟩ := at_T73 o.out a c d; cases u; replace c := eq_true c; replace d := eq_true d; have g : 0 ≤ (a : Int) := oa; have i : a < (b.length : Int) := oa; obtain ⟨s, x, Z, aa⟩ := at_T73 p.out a g i; cases x; replace g := eq_true g; replace i := eq_true i; go_wp2
       repeat (go_quiet (fail); try go_wp2)
       go_roundg kj2
       case measure => have := P.out; have := HJ2.out; omega
       case rel => exact ⟨(wrap64 (a + 1)), rs_, H', ⟨by have := P.out; have := HJ2.out; omega⟩, by repeat (first | exact Drawn0.refl _ | apply Drawn0.step)⟩
     ·replace U := Bool.eq_false_iff.mpr U; subst U; rw [if_neg (show ¬ (false = true) by decide)] at H; obtain rfl := Option.some.inj H; go_wp2
      repeat (go_quiet (fail); try go_wp2)
      go_ret
      exact ⟨rs_, by repeat (first | exact Drawn0.refl _ | apply Drawn0.step)⟩

end Go.Proofs.Ytdlnnjgjfngccaa.F
