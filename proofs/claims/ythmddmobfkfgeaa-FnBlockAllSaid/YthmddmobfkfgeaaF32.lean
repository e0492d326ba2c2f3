-- By oprint.py.
import Derived.Test.YthmddmobfkfgeaaF0
import Derived.Test.YthmddmobfkfgeaaF1
namespace Go.Proofs.Ythmddmobfkfgeaa.F
open Go.RowKit Go.Proofs.YthmddmobfkfgeaaW.PrintWords Go.Proofs.YthmddmobfkfgeaaW.PrintLast Go.Proofs.YthmddmobfkfgeaaW.PrintMore
attribute [local go_sem] max2_int min2_int max_two min_two max_three min_three max_four min_four
set_option linter.unusedVariables false
set_option linter.unusedSimpArgs false

attribute [local go_sem high] eqA33
/-! ### laws_loLess: function 42 -/
mutual
def laws_loLess.l0 : Nat → List (S33) → List (S33) → Int → Option (Bool)
 | 0, _, _, _ => none
 | k + 1, x0, x1, x5 => if x5 < (x0.length : Int) then (laws_loLess.j1 k x0 x1 x5 (decide (x5 < (x1.length : Int)))) else (laws_loLess.j1 k x0 x1 x5 false)
def laws_loLess.j1 : Nat → List (S33) → List (S33) → Int → Bool → Option (Bool)
 | 0, _, _, _, _ => none
 | k + 1, x0, x1, x5, x15 => if x15 = true then (if 0 ≤ x5 then (if x5 < (x0.length : Int) then (if x5 < (x1.length : Int) then (if (!(((rd_T33 x0 x5).f0) == ((rd_T33 x1 x5).f0)) || (!(((rd_T33 x0 x5).f1) == ((rd_T33 x1 x5).f1)))) = true then (if ((rd_T33 x0 x5).f0) < ((rd_T33 x1 x5).f0) then (some true) else (if ((rd_T33 x0 x5).f0) = ((rd_T33 x1 x5).f0) then (some (decide (((rd_T33 x0 x5).f1) < ((rd_T33 x1 x5).f1)))) else (some false))) else (laws_loLess.l0 k x0 x1 (wrap64 (x5 + 1)))) else (none)) else (none)) else (none)) else (some false)
end
def laws_loLess.f (k : Nat) (l0 : List (S33)) (l1 : List (S33)) : Option (Bool) := laws_loLess.l0 k l0 l1 0
theorem laws_loLess.mono_l : ∀ k, (∀ a b c, LeO (laws_loLess.l0 k a b c) (laws_loLess.l0 (k + 1) a b c)) ∧ (∀ a b c d, LeO (laws_loLess.j1 k a b c d) (laws_loLess.j1 (k + 1) a b c d))
 | 0 => ⟨fun _ _ _ r h => by simp [laws_loLess.l0] at h, fun _ _ _ _ r h => by simp [laws_loLess.j1] at h⟩
 | k + 1 => by
  obtain ⟨ih0, ih1⟩ := laws_loLess.mono_l k; refine ⟨?_, ?_⟩
  ·intro a b c; unfold laws_loLess.l0; exact mo_
  ·intro a b c d; unfold laws_loLess.j1; exact mo_
theorem laws_loLess.mono : ∀ a b k, LeO (laws_loLess.f k a b) (laws_loLess.f (k + 1) a b) := by
 intro a b k; obtain ⟨ih0, ih1⟩ := laws_loLess.mono_l k; unfold laws_loLess.f; exact mo_
set_option maxHeartbeats 8000000 in
set_option maxRecDepth 100000 in
theorem laws_loLess.calls (k : Nat) (A0 : Option Addr) (c0 : Nat) (l0 : List (S33)) (A1 : Option Addr) (O : Nat) (b : List (S33)) (r : Bool) (w : World) (aj : Kd.C k33 w A0 l0.length l0) (ak : l0.length ≤ c0) (al : Kd.C k33 w A1 b.length b) (an : b.length ≤ O) (h : laws_loLess.f k l0 b = some r) :
  Calls Try.prog 42 #[.slice A0 l0.length c0, .slice A1 b.length O] w fun e w' => e = .returned (.bool r) ∧ Drawn0 w w' := by
 have aJ := Try.underlying33; have o := am aj; have HC0 := am ak; clear aj ak; have p := am al; have HC1 := am an; clear al an
 have H : (laws_loLess.l0 k l0 b 0) = some r := h
 clear h; have H' := am H; clear H; go_enter Try.func42, Try.ntmps42; go_wp2
 repeat (go_quiet (fail); try go_wp2)
 go_loopg [5] k (fun kq v5 w' => ∃ (a : Int), v5 = .int .i64 a ∧ Aside0 (laws_loLess.l0 kq l0 b a = some r) ∧ Aside0 (kq ≤ k) ∧ Drawn0 w w')
 case atStart => exact ⟨(0), rs_, H', ⟨Nat.le_refl _⟩, by repeat (first | exact Drawn0.refl _ | apply Drawn0.step)⟩
 case round =>
  clear H'; (try clear O); obtain ⟨a, rfl, HA, P, ⟨m1, rfl⟩⟩ := hrel; cases gk with
  | zero => exact absurd HA.out (by simp [laws_loLess.l0])
  | succ k1 =>
   have H := HA.out; clear HA; simp only [laws_loLess.l0] at H; have U := am H; clear H
   go_upto_region 2 with (fail)
   repeat (go_quiet (fail); go_upto_region 2 with (fail))
   go_cut [15] (fun ay wc => ∃ (kq : Nat) (T : Bool), ay = .bool T ∧ Aside0 (laws_loLess.j1 kq l0 b a T = some r) ∧ Aside0 (kq ≤ k1) ∧ Drawn0 w wc)
   case first =>
    have H := U.out; clear U; by_cases t : a < (l0.length : Int)
    ·rw [if_pos t] at H; have E := decide_eq_true t; clear t; (first | rw [E] | (simp only [i64_w, i32_w]; rw [E]) | skip); have H' := am H; clear H; go_wp2
     repeat (go_quiet (fail); try go_wp2)
     go_meet
     case rel => exact ⟨_, (decide (a < (b.length : Int))), rs_, H', ⟨by have := P.out; first | omega | exact Nat.le_refl _⟩, by repeat (first | exact Drawn0.refl _ | apply Drawn0.step)⟩
    ·rw [if_neg t] at H; have E := decide_eq_false t; clear t; (first | rw [E] | (simp only [i64_w, i32_w]; rw [E]) | skip); have H' := am H; clear H; go_wp2
     repeat (go_quiet (fail); try go_wp2)
     go_meet
     case rel => exact ⟨_, (false), rs_, H', ⟨by have := P.out; first | omega | exact Nat.le_refl _⟩, by repeat (first | exact Drawn0.refl _ | apply Drawn0.step)⟩
   case rest =>
    clear U; (try clear O t E); obtain ⟨kq, T, rfl, HA, ap, ⟨mc2, rfl⟩⟩ := hcut; cases kq with
    | zero => exact absurd HA.out (by simp [laws_loLess.j1])
    | succ kj2 =>
     have H := HA.out; clear HA; simp only [laws_loLess.j1] at H; by_cases c5 : T = true
     ·subst c5; rw [if_pos rfl] at H; obtain ⟨aK, H⟩ := id_ H; obtain ⟨aL, H⟩ := id_ H; obtain ⟨aM, H⟩ := id_ H; by_cases G : (!(((rd_T33 l0 a).f0) == ((rd_T33 b a).f0)) || (!(((rd_T33 l0 a).f1) == ((rd_T33 b a).f1)))) = true
      ·rw [if_pos G] at H; have aq : (!(((rd_T33 l0 a).f0) == ((rd_T33 b a).f0)) || (!(((rd_T33 l0 a).f1) == ((rd_T33 b a).f1)))) = true := G; clear G; by_cases I : ((rd_T33 l0 a).f0) < ((rd_T33 b a).f0)
       ·rw [if_pos I] at H; have az := decide_eq_true I; clear I; obtain rfl := Option.some.inj H; have c : 0 ≤ (a : Int) := oa; have d : a < (l0.length : Int) := oa; obtain ⟨q, u, W, X⟩ := at_T33 o.out a c d; cases u; obtain ⟨c, d⟩ := e2_ c d; have g : 0 ≤ (a : Int) := oa; have i : a < (b.length : Int) := oa; obtain ⟨s, x, Y, Z⟩ := at_T33 p.out a g i; cases x; obtain ⟨g, i⟩ := e2_ g i; have j : 0 ≤ (a : Int) := oa; have l : a < (l0.length : Int) := oa; obtain ⟨J, K, ar, au⟩ := at_T33 o.out a j l; obtain rfl : q = J := (by injection K); obtain ⟨j, l⟩ := e2_ j l; have m : 0 ≤ (a : Int) := oa; have n : a < (b.length : Int) := oa; obtain ⟨L, M, av, aw⟩ := at_T33 p.out a m n; obtain rfl : s = L := (by injection M); obtain ⟨m, n⟩ := e2_ m n; go_wp2
        repeat (go_quiet (fail); try go_wp2)
        go_ret
        exact ⟨rs_, by repeat (first | exact Drawn0.refl _ | apply Drawn0.step)⟩
       ·rw [if_neg I] at H; have az := decide_eq_false I; clear I; by_cases y : ((rd_T33 l0 a).f0) = ((rd_T33 b a).f0)
        ·rw [if_pos y] at H; have ax : (((rd_T33 l0 a).f0) == ((rd_T33 b a).f0)) = true := beq_iff_eq.mpr y; have aA : (((rd_T33 l0 a).f0) != ((rd_T33 b a).f0)) = false := bne_eq_false_iff_eq.mpr y; have aN : (((rd_T33 l0 a).f1) == ((rd_T33 b a).f1)) = false := by simpa [ax] using aq
         clear y; obtain rfl := Option.some.inj H; have c : 0 ≤ (a : Int) := oa; have d : a < (l0.length : Int) := oa; obtain ⟨q, u, W, X⟩ := at_T33 o.out a c d; cases u; obtain ⟨c, d⟩ := e2_ c d; have g : 0 ≤ (a : Int) := oa; have i : a < (b.length : Int) := oa; obtain ⟨s, x, Y, Z⟩ := at_T33 p.out a g i; cases x; obtain ⟨g, i⟩ := e2_ g i; have j : 0 ≤ (a : Int) := oa; have l : a < (l0.length : Int) := oa; obtain ⟨J, K, ar, au⟩ := at_T33 o.out a j l; obtain rfl : q = J := (by injection K); obtain ⟨j, l⟩ := e2_ j l; have m : 0 ≤ (a : Int) := oa; have n : a < (b.length : Int) := oa; obtain ⟨L, M, av, aw⟩ := at_T33 p.out a m n; obtain rfl : s = L := (by injection M); obtain ⟨m, n⟩ := e2_ m n; have z : 0 ≤ (a : Int) := oa; have A : a < (l0.length : Int) := oa; obtain ⟨aa, ab, aB, aC⟩ := at_T33 o.out a z A; obtain rfl : q = aa := (by injection ab); obtain ⟨z, A⟩ := e2_ z A; have B : 0 ≤ (a : Int) := oa; have D : a < (b.length : Int) := oa; obtain ⟨ad, ae, aD, aE⟩ := at_T33 p.out a B D; obtain rfl : s = ad := (by injection ae); obtain ⟨B, D⟩ := e2_ B D; have af : 0 ≤ (a : Int) := oa; have ag : a < (l0.length : Int) := oa; obtain ⟨aF, aG, aO, aP⟩ := at_T33 o.out a af ag; obtain rfl : q = aF := (by injection aG); obtain ⟨af, ag⟩ := e2_ af ag; have ah : 0 ≤ (a : Int) := oa; have ai : a < (b.length : Int) := oa; obtain ⟨aH, aI, aQ, aR⟩ := at_T33 p.out a ah ai; obtain rfl : s = aH := (by injection aI); obtain ⟨ah, ai⟩ := e2_ ah ai; go_wp2
         repeat (go_quiet (fail); try go_wp2)
         go_ret
         exact ⟨rs_, by repeat (first | exact Drawn0.refl _ | apply Drawn0.step)⟩
        ·rw [if_neg y] at H; have ax : (((rd_T33 l0 a).f0) == ((rd_T33 b a).f0)) = false := beq_eq_false_iff_ne.mpr y; have aA : (((rd_T33 l0 a).f0) != ((rd_T33 b a).f0)) = true := bne_iff_ne.mpr y; obtain rfl := Option.some.inj H; have c : 0 ≤ (a : Int) := oa; have d : a < (l0.length : Int) := oa; obtain ⟨q, u, W, X⟩ := at_T33 o.out a c d; cases u; obtain ⟨c, d⟩ := e2_ c d; have g : 0 ≤ (a : Int) := oa; have i : a < (b.length : Int) := oa; obtain ⟨s, x, Y, Z⟩ := at_T33 p.out a g i; cases x; obtain ⟨g, i⟩ := e2_ g i; have j : 0 ≤ (a : Int) := oa; have l : a < (l0.length : Int) := oa; obtain ⟨J, K, ar, au⟩ := at_T33 o.out a j l; obtain rfl : q = J := (by injection K); obtain ⟨j, l⟩ := e2_ j l; have m : 0 ≤ (a : Int) := oa; have n : a < (b.length : Int) := oa; obtain ⟨L, M, av, aw⟩ := at_T33 p.out a m n; obtain rfl : s = L := (by injection M); obtain ⟨m, n⟩ := e2_ m n; have z : 0 ≤ (a : Int) := oa; have A : a < (l0.length : Int) := oa; obtain ⟨aa, ab, aB, aC⟩ := at_T33 o.out a z A; obtain rfl : q = aa := (by injection ab); obtain ⟨z, A⟩ := e2_ z A; have B : 0 ≤ (a : Int) := oa; have D : a < (b.length : Int) := oa; obtain ⟨ad, ae, aD, aE⟩ := at_T33 p.out a B D; obtain rfl : s = ad := (by injection ae); obtain ⟨B, D⟩ := e2_ B D; go_wp2
         repeat (go_quiet (fail); try go_wp2)
         go_ret
         exact ⟨rs_, by repeat (first | exact Drawn0.refl _ | apply Drawn0.step)⟩
      ·rw [if_neg G] at H; have aq : (!(((rd_T33 l0 a).f0) == ((rd_T33 b a).f0)) || (!(((rd_T33 l0 a).f1) == ((rd_T33 b a).f1)))) = false := by simpa using G
       clear G; have H' := am H; clear H; have c : 0 ≤ (a : Int) := oa; have d : a < (l0.length : Int) := oa; obtain ⟨q, u, W, X⟩ := at_T33 o.out a c d; cases u; obtain ⟨c, d⟩ := e2_ c d; have g : 0 ≤ (a : Int) := oa; have i : a < (b.length : Int) := oa; obtain ⟨s, x, Y, Z⟩ := at_T33 p.out a g i; cases x; obtain ⟨g, i⟩ := e2_ g i; go_wp2
       repeat (go_quiet (fail); try go_wp2)
       go_roundg kj2
       case measure => have := P.out; have := ap.out; omega
       case rel => exact ⟨(wrap64 (a + 1)), rs_, H', ⟨by have := P.out; have := ap.out; omega⟩, by repeat (first | exact Drawn0.refl _ | apply Drawn0.step)⟩
     ·obtain rfl := nt_ c5; rw [if_neg nf_] at H; obtain rfl := Option.some.inj H; go_wp2
      repeat (go_quiet (fail); try go_wp2)
      go_ret
      exact ⟨rs_, by repeat (first | exact Drawn0.refl _ | apply Drawn0.step)⟩

end Go.Proofs.Ythmddmobfkfgeaa.F
