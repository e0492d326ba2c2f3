-- By oprint.py.
import Derived.Test.YthmddmobfkfgeaaF0
import Derived.Test.YthmddmobfkfgeaaF11
namespace Go.Proofs.Ythmddmobfkfgeaa.F
open Go.RowKit Go.Proofs.YthmddmobfkfgeaaW.PrintWords Go.Proofs.YthmddmobfkfgeaaW.PrintLast Go.Proofs.YthmddmobfkfgeaaW.PrintMore
attribute [local go_sem] max2_int min2_int max_two min_two max_three min_three max_four min_four
set_option linter.unusedVariables false
set_option linter.unusedSimpArgs false

/-! ### impl_disjoint: function 111 -/
mutual
def impl_disjoint.j0 : Nat → List Int → List Int → Bool → Option (Bool)
 | 0, _, _, _ => none
 | k + 1, x0, x1, x14 => if x14 = true then (some false) else (if 1 ≤ (wrap64 ((x0.length : Int) - 1)) then (if (wrap64 ((x0.length : Int) - 1)) ≤ (x0.length : Int) then (impl_disjoint.l0 k x1 ((x0.take ((wrap64 ((x0.length : Int) - 1)) : Int).toNat).drop 1) (((x0.take ((wrap64 ((x0.length : Int) - 1)) : Int).toNat).drop 1).length : Int) 0) else (none)) else (none))
def impl_disjoint.l0 : Nat → List Int → List Int → Int → Int → Option (Bool)
 | 0, _, _, _, _ => none
 | k + 1, x1, x19, x20, x21 => if x21 < x20 then (if 0 ≤ x21 then (if x21 < (x19.length : Int) then ((slices_Contains_int_int.f k x1 (rd x19 x21)).bind fun t1044 => (if t1044 = true then (some false) else (impl_disjoint.l0 k x1 x19 x20 (wrap64 (x21 + 1))))) else (none)) else (none)) else (some true)
end
def impl_disjoint.f (k : Nat) (l0 : List Int) (l1 : List Int) : Option (Bool) := if (l0.length : Int) = 2 then (impl_disjoint.j0 k l0 l1 ((l1.length : Int) == 2)) else (impl_disjoint.j0 k l0 l1 false)
theorem impl_disjoint.mono_l : ∀ k, (∀ a b c, LeO (impl_disjoint.j0 k a b c) (impl_disjoint.j0 (k + 1) a b c)) ∧ (∀ a b c d, LeO (impl_disjoint.l0 k a b c d) (impl_disjoint.l0 (k + 1) a b c d))
 | 0 => ⟨fun _ _ _ r h => by simp [impl_disjoint.j0] at h, fun _ _ _ _ r h => by simp [impl_disjoint.l0] at h⟩
 | k + 1 => by
  obtain ⟨ih0, ih1⟩ := impl_disjoint.mono_l k; refine ⟨?_, ?_⟩
  ·intro a b c; unfold impl_disjoint.j0; have e := @slices_Contains_int_int.mono; exact mo_
  ·intro a b c d; unfold impl_disjoint.l0; have e := @slices_Contains_int_int.mono; exact mo_
theorem impl_disjoint.mono : ∀ a b k, LeO (impl_disjoint.f k a b) (impl_disjoint.f (k + 1) a b) := by
 intro a b k; obtain ⟨ih0, ih1⟩ := impl_disjoint.mono_l k; unfold impl_disjoint.f; have m0_ := @slices_Contains_int_int.mono; exact mo_
set_option maxHeartbeats 8000000 in
set_option maxRecDepth 100000 in
theorem impl_disjoint.calls (k : Nat) (q : Option Addr) (s : Nat) (l0 : List Int) (m : Option Addr) (j : Nat) (a : List Int) (r : Bool) (w : World) (z : Kd.C (Kd.int .i64) w q l0.length l0) (A : l0.length ≤ s) (B : Kd.C (Kd.int .i64) w m a.length a) (D : a.length ≤ j) (h : impl_disjoint.f k l0 a = some r) :
  Calls Try.prog 111 #[.slice q l0.length s, .slice m a.length j] w fun e w' => e = .returned (.bool r) ∧ Drawn0 w w' := by
 have X := am z; have Y := am A; clear z A; have E := am B; have G := am D; clear B D
 have H : (if (l0.length : Int) = 2 then (impl_disjoint.j0 k l0 a ((a.length : Int) == 2)) else (impl_disjoint.j0 k l0 a false)) = some r := h
 clear h; have t := am H; clear H; go_enter Try.func111, Try.ntmps111
 go_upto_region 1 with (fail)
 go_cut [14] (fun Z wc => ∃ (kq : Nat) (n : Bool), Z = .bool n ∧ Aside0 (impl_disjoint.j0 kq l0 a n = some r) ∧ Aside0 (kq ≤ k) ∧ Drawn0 w wc)
 case first =>
  have H := t.out; clear t; by_cases c : (l0.length : Int) = 2
  ·rw [if_pos c] at H; have d : ((l0.length : Int) == 2) = true := beq_iff_eq.mpr c; have u : ((l0.length : Int) != 2) = false := bne_eq_false_iff_eq.mpr c; clear c; (first | rw [d] | (simp only [i64_w, i32_w]; rw [d]) | skip); have H' := am H; clear H; go_wp2
   go_meet
   case rel => exact ⟨_, (((a.length : Int) == 2)), rs_, H', ⟨by first | omega | exact Nat.le_refl _⟩, by repeat (first | exact Drawn0.refl _ | apply Drawn0.step)⟩
  ·rw [if_neg c] at H; have d : ((l0.length : Int) == 2) = false := beq_eq_false_iff_ne.mpr c; have u : ((l0.length : Int) != 2) = true := bne_iff_ne.mpr c; (first | rw [d] | (simp only [i64_w, i32_w]; rw [d]) | skip); have H' := am H; clear H; go_wp2
   go_meet
   case rel => exact ⟨_, (false), rs_, H', ⟨by first | omega | exact Nat.le_refl _⟩, by repeat (first | exact Drawn0.refl _ | apply Drawn0.step)⟩
 case rest =>
  clear t; (try clear j c d u); obtain ⟨kq, n, rfl, HA, I, ⟨mc2, rfl⟩⟩ := hcut; cases kq with
  | zero => exact absurd HA.out (by simp [impl_disjoint.j0])
  | succ kj2 =>
   have H := HA.out; clear HA; simp only [impl_disjoint.j0] at H; by_cases x : n = true
   ·subst x; rw [if_pos rfl] at H; obtain rfl := Option.some.inj H; go_wp2
    go_ret
    exact ⟨rs_, by repeat (first | exact Drawn0.refl _ | apply Drawn0.step)⟩
   ·obtain rfl := nt_ x; rw [if_neg nf_] at H; obtain ⟨o, H⟩ := ig_ H; have aa := eq_true o; have ab := decide_eq_true o; clear o; obtain ⟨p, H⟩ := ig_ H; have ad := eq_true p; have ae := decide_eq_true p; clear p; have H' := am H; clear H; obtain ⟨i08, J, _, K, _⟩ := info_parts info3; obtain ⟨A8, ak, L, M⟩ := print_mid_of (P := Try.prog) (Value.int .i64) 0 57 3 .i64 .i64 Try.underlying57 J K q s l0 1 (wrap64 ((l0.length : Int) - 1)) (by omega) (by first | omega | exact oa) (oa) Y.out; have O := am (Kd.C_of_reads (h1 := fun _ => rfl) (L _ (Kd.reads_of_C X.out))); have al := am M; clear L M J K; (try simp only [show Int.toNat 1 = 1 from rfl] at *); generalize ((l0.take ((wrap64 ((l0.length : Int) - 1)) : Int).toNat).drop 1) = L_ at *; go_wp2
    go_loopg [21] kj2 (fun kq af w' => ∃ (b : Int), af = .int .i64 b ∧ Aside0 (impl_disjoint.l0 kq a L_ (L_.length : Int) b = some r) ∧ Aside0 (kq ≤ kj2) ∧ Drawn0 w w')
    case atStart => exact ⟨(0), rs_, H', ⟨Nat.le_refl _⟩, by repeat (first | exact Drawn0.refl _ | apply Drawn0.step)⟩
    case round =>
     clear H'; (try clear j c d u x o aa ab p ad ae); obtain ⟨b, rfl, HA, T, ⟨m2, rfl⟩⟩ := hrel; cases gk with
     | zero => exact absurd HA.out (by simp [impl_disjoint.l0])
     | succ k2 =>
      have H := HA.out; clear HA; simp only [impl_disjoint.l0] at H; by_cases l : b < (L_.length : Int)
      ·rw [if_pos l] at H; have ag := decide_eq_true l; clear l; obtain ⟨an, H⟩ := id_ H; obtain ⟨ap, H⟩ := id_ H; obtain ⟨ah, U, H⟩ := bi_ H; by_cases W : ah = true
       ·subst W; rw [if_pos rfl] at H; obtain rfl := Option.some.inj H; have g : 0 ≤ (b : Int) := oa; have i : b < (L_.length : Int) := oa; obtain ⟨ai, y, aj⟩ := Kd.at_int O.out b g i; cases y; obtain ⟨g, i⟩ := e2_ g i
        go_wp2_with (first | ((with_reducible refine gate_callee (f := 114) rfl ?_); refine gl_ (some 27) Try.func114 #[.slice m a.length j, .int .i64 (rd L_ b)] ?_; (with_reducible refine (slices_Contains_int_int.calls k2 _ _ a (rd L_ b) true _ ?z_1 ?z_2 U.out).mono ?_); (case z_1 => repeat (first | exact E.out | (with_reducible refine Kd.C_alloc ?_ _) | (with_reducible refine Kd.C_drewN ?_ _) | (with_reducible refine Kd.C_drew ?_))); (case z_2 => exact G.out); rintro e w' ⟨rfl, ⟨nd, rfl⟩⟩; refine ⟨_, rfl, ?_⟩))
        go_ret
        exact ⟨rs_, by repeat (first | exact Drawn0.refl _ | apply Drawn0.step)⟩
       ·obtain rfl := nt_ W; rw [if_neg nf_] at H; have H' := am H; clear H; have g : 0 ≤ (b : Int) := oa; have i : b < (L_.length : Int) := oa; obtain ⟨ai, y, aj⟩ := Kd.at_int O.out b g i; cases y; obtain ⟨g, i⟩ := e2_ g i
        go_wp2_with (first | ((with_reducible refine gate_callee (f := 114) rfl ?_); refine gl_ (some 27) Try.func114 #[.slice m a.length j, .int .i64 (rd L_ b)] ?_; (with_reducible refine (slices_Contains_int_int.calls k2 _ _ a (rd L_ b) false _ ?z_1 ?z_2 U.out).mono ?_); (case z_1 => repeat (first | exact E.out | (with_reducible refine Kd.C_alloc ?_ _) | (with_reducible refine Kd.C_drewN ?_ _) | (with_reducible refine Kd.C_drew ?_))); (case z_2 => exact G.out); rintro e w' ⟨rfl, ⟨nd, rfl⟩⟩; refine ⟨_, rfl, ?_⟩))
        go_roundg k2
        case measure => have := I.out; have := T.out; omega
        case rel => exact ⟨(wrap64 (b + 1)), rs_, H', ⟨by have := I.out; have := T.out; omega⟩, by repeat (first | exact Drawn0.refl _ | apply Drawn0.step)⟩
      ·rw [if_neg l] at H; have ag := decide_eq_false l; clear l; obtain rfl := Option.some.inj H; go_wp2
       go_ret
       exact ⟨rs_, by repeat (first | exact Drawn0.refl _ | apply Drawn0.step)⟩

end Go.Proofs.Ythmddmobfkfgeaa.F
