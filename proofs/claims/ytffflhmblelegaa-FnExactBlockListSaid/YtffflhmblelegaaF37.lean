-- By oprint.py.
import Derived.Test.YtffflhmblelegaaF0
import Derived.Test.YtffflhmblelegaaF36
namespace Go.Proofs.Ytffflhmblelegaa.F
open Go.RowKit Go.Proofs.YtffflhmblelegaaW.PrintWords Go.Proofs.YtffflhmblelegaaW.PrintLast Go.Proofs.YtffflhmblelegaaW.PrintMore
attribute [local go_sem] max2_int min2_int max_two min_two max_three min_three max_four min_four
set_option linter.unusedVariables false
set_option linter.unusedSimpArgs false

/-! ### laws_eqTieSS: function 23 -/
def laws_eqTieSS.l0 : Nat → List (List (S52)) → List (List (S52)) → Int → Option (Bool)
 | 0, _, _, _ => none
 | k + 1, x0, x1, x5 => if x5 < (x0.length : Int) then (if 0 ≤ x5 then (if x5 < (x1.length : Int) then ((laws_eqTieS.f k (rd_L4 x0 x5) (rd_L4 x1 x5)).bind fun t823 => (if t823 = true then (laws_eqTieSS.l0 k x0 x1 (wrap64 (x5 + 1))) else (some false))) else (none)) else (none)) else (some true)
def laws_eqTieSS.f (k : Nat) (l0 : List (List (S52))) (l1 : List (List (S52))) : Option (Bool) := if (l0.length : Int) = (l1.length : Int) then (laws_eqTieSS.l0 k l0 l1 0) else (some false)
theorem laws_eqTieSS.mono_l : ∀ k, (∀ a b c, LeO (laws_eqTieSS.l0 k a b c) (laws_eqTieSS.l0 (k + 1) a b c))
 | 0 => fun _ _ _ r h => by simp [laws_eqTieSS.l0] at h
 | k + 1 => by
  have ih0 := laws_eqTieSS.mono_l k
  ·intro a b c; unfold laws_eqTieSS.l0; have m0_ := @laws_eqTieS.mono; exact mo_
theorem laws_eqTieSS.mono : ∀ a b k, LeO (laws_eqTieSS.f k a b) (laws_eqTieSS.f (k + 1) a b) := by
 intro a b k; have ih0 := laws_eqTieSS.mono_l k; unfold laws_eqTieSS.f; have m0_ := @laws_eqTieS.mono; exact mo_
def laws_eqTieSS.T6 : Bool × List (List Nat × List Nat) := (true, [([], []), ([], []), ([0, 1], [0, 1]), ([2], [2]), ([], []), ([], []), ([4, 5], [4, 5]), ([6], [6]), ([3, 7], [3, 7]), ([8], [8])])
def laws_eqTieSS.B6 : List Nat := [0, 0, 3, 7, 0, 0, 48, 112, 255, 511]
theorem laws_eqTieSS.tab6 : rtab .any (opsOf Try.f23 6) = laws_eqTieSS.T6 := by kernel_rfl
theorem laws_eqTieSS.bits6 : waitsOk laws_eqTieSS.T6.2 laws_eqTieSS.B6 = true := by kernel_rfl
set_option maxHeartbeats 8000000 in
set_option maxRecDepth 100000 in
theorem laws_eqTieSS.calls (k : Nat) (T : Option Addr) (U : Nat) (l0 : List (List (S52))) (W : Option Addr) (D : Nat) (c : List (List (S52))) (r : Bool) (w : World) (X : Kd.C (Kd.slice 52 k52) w T l0.length l0) (Y : l0.length ≤ U) (Z : Kd.C (Kd.slice 52 k52) w W c.length c) (aa : c.length ≤ D) (h : laws_eqTieSS.f k l0 c = some r) :
  Calls Try.prog 23 #[.slice T l0.length U, .slice W c.length D] w fun e w' => e = .returned (.bool r) ∧ Below w.heap.size w w' := by
 have ab := am X; have HC0 := am Y; clear X Y; have ad := am Z; have HC1 := am aa; clear Z aa; have HB := am (Below.refl w.heap.size w)
 have H : (if (l0.length : Int) = (c.length : Int) then (laws_eqTieSS.l0 k l0 c 0) else (some false)) = some r := h
 clear h; by_cases d : (l0.length : Int) = (c.length : Int)
 ·rw [if_pos d] at H; have ae : ((l0.length : Int) == (c.length : Int)) = true := beq_iff_eq.mpr d; have af : ((l0.length : Int) != (c.length : Int)) = false := bne_eq_false_iff_eq.mpr d; have ag : (l0.length == c.length) = true := by first | simpa using d | (simp at d ⊢; omega)
  clear d; have H' := am H; clear H; go_enter Try.func23, Try.ntmps23; go_wp2
  go_loopg [5] k (fun kq v5 w' => ∃ (a : Int), v5 = .int .i64 a ∧ Aside0 (laws_eqTieSS.l0 kq l0 c a = some r) ∧ Aside0 (kq ≤ k) ∧ Aside0 (Below w.heap.size w w'))
  case atStart => exact ⟨(0), rs_, H', ⟨Nat.le_refl _⟩, ⟨bn HB⟩⟩
  case round =>
   clear H'; (try clear D d ae af ag); obtain ⟨a, rfl, HA, ah, HB⟩ := hrel; cases gk with
   | zero => exact absurd HA.out (by simp [laws_eqTieSS.l0])
   | succ k1 =>
    have H := HA.out; clear HA; simp only [laws_eqTieSS.l0] at H; by_cases p : a < (l0.length : Int)
    ·rw [if_pos p] at H; have ai := decide_eq_true p; clear p; obtain ⟨an, H⟩ := id_ H; obtain ⟨ap, H⟩ := id_ H; obtain ⟨aj, A7, H⟩ := bi_ H; by_cases c8 : aj = true
     ·subst c8; rw [if_pos rfl] at H; have H' := am H; clear H; try go_wp2
      replace HB := dL HB; have l : 0 ≤ (a : Int) := oa; have m : a < (l0.length : Int) := oa; obtain ⟨ak, E, G, I, g, q, s⟩ := at_L4 ab.out a l m; have t := g; cases I; replace g := hc_ HB g; have u := am s; have J := am q; clear s q; obtain ⟨l, m⟩ := e2_ l m; have n : 0 ≤ (a : Int) := oa; have o : a < (c.length : Int) := oa; obtain ⟨al, L, M, O, i, x, y⟩ := at_L4 ad.out a n o; have z := i; cases O; replace i := hc_ HB i; have A := am y; have P := am x; clear y x; obtain ⟨n, o⟩ := e2_ n o; refine s2_ 10 [] (hb_ HB t) (hb_ HB z) (fun j => ?_); refine with_tabW laws_eqTieSS.tab6 laws_eqTieSS.bits6 (fun b B => ?_); generalize wr.drew = w9 at HB u A g i j ⊢; refine pz_ 0 b ?_; refine pz_ 1 b ?_; refine pz_ 2 b ?_; refine pz_ 4 b ?_; refine pz_ 5 b ?_; refine pz_ 6 b ?_; refine tz_ 3 b B j ?_; refine tz_ 7 b B j ?_; refine on_ 8 b (fun K hK => ?_); refine gg_ Try.func69 #[.slice E (rd_L4 l0 a).length G, .slice L (rd_L4 c a).length M] ?_
      with_reducible refine (laws_eqTieS.calls k1 _ _ (rd_L4 l0 a) _ _ (rd_L4 c a) true _ ?z_1 ?z_2 ?z_3 ?z_4 A7.out).mono ?_
      (case z_1 => exact cb u HB); (case z_2 => exact J.out); (case z_3 => exact cb A HB); (case z_4 => exact P.out); rintro e w10 ⟨rfl, hb⟩; refine ⟨_, rfl, ?_⟩; replace HB := bs HB hb; (try clear hb); refine hK.out _ _ ⟨(hb_ HB t), (hb_ HB z)⟩ (fun j => ?_); clear hK K; refine nz_ 25 ?_; refine pz_ 9 b ?_; refine done_ (done_of b.out (by kernel_rfl)) ?_; try go_wp2
      go_roundg k1
      case measure => have := ah.out; omega
      case rel => exact ⟨(wrap64 (a + 1)), rs_, H', ⟨by have := ah.out; omega⟩, ⟨bn HB⟩⟩
     ·obtain rfl := nt_ c8; rw [if_neg nf_] at H; obtain rfl := Option.some.inj H; try go_wp2
      replace HB := dL HB; have l : 0 ≤ (a : Int) := oa; have m : a < (l0.length : Int) := oa; obtain ⟨ak, E, G, I, g, q, s⟩ := at_L4 ab.out a l m; have t := g; cases I; replace g := hc_ HB g; have u := am s; have J := am q; clear s q; obtain ⟨l, m⟩ := e2_ l m; have n : 0 ≤ (a : Int) := oa; have o : a < (c.length : Int) := oa; obtain ⟨al, L, M, O, i, x, y⟩ := at_L4 ad.out a n o; have z := i; cases O; replace i := hc_ HB i; have A := am y; have P := am x; clear y x; obtain ⟨n, o⟩ := e2_ n o; refine s2_ 10 [] (hb_ HB t) (hb_ HB z) (fun j => ?_); refine with_tabW laws_eqTieSS.tab6 laws_eqTieSS.bits6 (fun b B => ?_); generalize wr.drew = w11 at HB u A g i j ⊢; refine pz_ 0 b ?_; refine pz_ 1 b ?_; refine pz_ 2 b ?_; refine pz_ 4 b ?_; refine pz_ 5 b ?_; refine pz_ 6 b ?_; refine tz_ 3 b B j ?_; refine tz_ 7 b B j ?_; refine on_ 8 b (fun K hK => ?_); refine gg_ Try.func69 #[.slice E (rd_L4 l0 a).length G, .slice L (rd_L4 c a).length M] ?_
      with_reducible refine (laws_eqTieS.calls k1 _ _ (rd_L4 l0 a) _ _ (rd_L4 c a) false _ ?z_1 ?z_2 ?z_3 ?z_4 A7.out).mono ?_
      (case z_1 => exact cb u HB); (case z_2 => exact J.out); (case z_3 => exact cb A HB); (case z_4 => exact P.out); rintro e w12 ⟨rfl, hb⟩; refine ⟨_, rfl, ?_⟩; replace HB := bs HB hb; (try clear hb); refine hK.out _ _ ⟨(hb_ HB t), (hb_ HB z)⟩ (fun j => ?_); clear hK K; refine nz_ 25 ?_; refine pz_ 9 b ?_; refine done_ (done_of b.out (by kernel_rfl)) ?_; try go_wp2
      go_ret
      exact ⟨er_, bn HB⟩
    ·rw [if_neg p] at H; have ai := decide_eq_false p; clear p; obtain rfl := Option.some.inj H; go_wp2
     go_ret
     exact ⟨er_, bn HB⟩
 ·rw [if_neg d] at H; have ae : ((l0.length : Int) == (c.length : Int)) = false := beq_eq_false_iff_ne.mpr d; have af : ((l0.length : Int) != (c.length : Int)) = true := bne_iff_ne.mpr d; have ag : (l0.length == c.length) = false := by first | simpa using d | (simp at d ⊢; omega)
  obtain rfl := Option.some.inj H; go_enter Try.func23, Try.ntmps23; go_wp2
  go_ret
  exact ⟨er_, bn HB⟩

/-! ### laws_heldTieS: function 71 -/
def laws_heldTieS.l0 : Nat → List (S52) → Int → Int → Option (Int)
 | 0, _, _, _ => none
 | k + 1, x0, x1, x5 => if x5 < (x0.length : Int) then (if 0 ≤ x5 then (if ((rd_T52 x0 x5).f0) = x1 then (if ((rd_T52 x0 x5).f1) = (wrap64 (x1 + 1)) then (laws_heldTieS.l0 k x0 (wrap64 ((wrap64 (x1 + 1)) + 1)) (wrap64 (x5 + 1))) else (some (-1))) else (some (-1))) else (none)) else (some x1)
def laws_heldTieS.f (k : Nat) (l0 : List (S52)) (a1 : Int) : Option (Int) := laws_heldTieS.l0 k l0 a1 0
theorem laws_heldTieS.mono_l : ∀ k, (∀ a b c, LeO (laws_heldTieS.l0 k a b c) (laws_heldTieS.l0 (k + 1) a b c))
 | 0 => fun _ _ _ r h => by simp [laws_heldTieS.l0] at h
 | k + 1 => by
  have ih0 := laws_heldTieS.mono_l k
  ·intro a b c; unfold laws_heldTieS.l0; exact mo_
theorem laws_heldTieS.mono : ∀ a b k, LeO (laws_heldTieS.f k a b) (laws_heldTieS.f (k + 1) a b) := by
 intro a b k; have ih0 := laws_heldTieS.mono_l k; unfold laws_heldTieS.f; exact mo_
set_option maxHeartbeats 8000000 in
set_option maxRecDepth 100000 in
theorem laws_heldTieS.calls (k : Nat) (u : Option Addr) (x : Nat) (l0 : List (S52)) (p : Int) (r : Int) (w : World) (y : Kd.C k52 w u l0.length l0) (z : l0.length ≤ x) (h : laws_heldTieS.f k l0 p = some r) :
  Calls Try.prog 71 #[.slice u l0.length x, .int .i64 p] w fun e w' => e = .returned (.int .i64 r) ∧ Drawn0 w w' := by
 have n := am y; have HC0 := am z; clear y z
 have H : (laws_heldTieS.l0 k l0 p 0) = some r := h
 clear h; have H' := am H; clear H; go_enter Try.func71, Try.ntmps71; go_wp2
 go_loopg [1, 5] k (fun kq E G w' => ∃ (b : Int) (a : Int), E = .int .i64 b ∧ G = .int .i64 a ∧ Aside0 (laws_heldTieS.l0 kq l0 b a = some r) ∧ Aside0 (kq ≤ k) ∧ Drawn0 w w')
 case atStart => exact ⟨(p), (0), rs_, rs_, H', ⟨Nat.le_refl _⟩, by repeat (first | exact Drawn0.refl _ | apply Drawn0.step)⟩
 case round =>
  clear H'; obtain ⟨b, a, rfl, rfl, HA, A, ⟨m1, rfl⟩⟩ := hrel; cases gk with
  | zero => exact absurd HA.out (by simp [laws_heldTieS.l0])
  | succ k1 =>
   have H := HA.out; clear HA; simp only [laws_heldTieS.l0] at H; by_cases m : a < (l0.length : Int)
   ·rw [if_pos m] at H; have I := decide_eq_true m; clear m; obtain ⟨T, H⟩ := id_ H; by_cases g : ((rd_T52 l0 a).f0) = b
    ·rw [if_pos g] at H; have J : (((rd_T52 l0 a).f0) == b) = true := beq_iff_eq.mpr g; have K : (((rd_T52 l0 a).f0) != b) = false := bne_eq_false_iff_eq.mpr g; clear g; by_cases i : ((rd_T52 l0 a).f1) = (wrap64 (b + 1))
     ·rw [if_pos i] at H; have L : (((rd_T52 l0 a).f1) == (wrap64 (b + 1))) = true := beq_iff_eq.mpr i; have M : (((rd_T52 l0 a).f1) != (wrap64 (b + 1))) = false := bne_eq_false_iff_eq.mpr i; clear i; have H' := am H; clear H; have c : 0 ≤ (a : Int) := oa; have d : a < (l0.length : Int) := oa; obtain ⟨q, o, B, D⟩ := at_T52 n.out a c d; cases o; obtain ⟨c, d⟩ := e2_ c d; have j : 0 ≤ (a : Int) := oa; have l : a < (l0.length : Int) := oa; obtain ⟨s, t, O, P⟩ := at_T52 n.out a j l; obtain rfl : q = s := (by injection t); obtain ⟨j, l⟩ := e2_ j l; go_wp2
      go_roundg k1
      case measure => have := A.out; omega
      case rel => exact ⟨(wrap64 ((wrap64 (b + 1)) + 1)), (wrap64 (a + 1)), rs_, rs_, H', ⟨by have := A.out; omega⟩, by repeat (first | exact Drawn0.refl _ | apply Drawn0.step)⟩
     ·rw [if_neg i] at H; have L : (((rd_T52 l0 a).f1) == (wrap64 (b + 1))) = false := beq_eq_false_iff_ne.mpr i; have M : (((rd_T52 l0 a).f1) != (wrap64 (b + 1))) = true := bne_iff_ne.mpr i; obtain rfl := Option.some.inj H; have c : 0 ≤ (a : Int) := oa; have d : a < (l0.length : Int) := oa; obtain ⟨q, o, B, D⟩ := at_T52 n.out a c d; cases o; obtain ⟨c, d⟩ := e2_ c d; have j : 0 ≤ (a : Int) := oa; have l : a < (l0.length : Int) := oa; obtain ⟨s, t, O, P⟩ := at_T52 n.out a j l; obtain rfl : q = s := (by injection t); obtain ⟨j, l⟩ := e2_ j l; go_wp2
      go_ret
      exact ⟨rs_, by repeat (first | exact Drawn0.refl _ | apply Drawn0.step)⟩
    ·rw [if_neg g] at H; have J : (((rd_T52 l0 a).f0) == b) = false := beq_eq_false_iff_ne.mpr g; have K : (((rd_T52 l0 a).f0) != b) = true := bne_iff_ne.mpr g; obtain rfl := Option.some.inj H; have c : 0 ≤ (a : Int) := oa; have d : a < (l0.length : Int) := oa; obtain ⟨q, o, B, D⟩ := at_T52 n.out a c d; cases o; obtain ⟨c, d⟩ := e2_ c d; go_wp2
     go_ret
     exact ⟨rs_, by repeat (first | exact Drawn0.refl _ | apply Drawn0.step)⟩
   ·rw [if_neg m] at H; have I := decide_eq_false m; clear m; obtain rfl := Option.some.inj H; go_wp2
    go_ret
    exact ⟨rs_, by repeat (first | exact Drawn0.refl _ | apply Drawn0.step)⟩

/-! ### laws_heldTieSS: function 27 -/
def laws_heldTieSS.l0 : Nat → List (List (S52)) → Int → Int → Option (Int)
 | 0, _, _, _ => none
 | k + 1, x0, x1, x5 => if x5 < (x0.length : Int) then (if 0 ≤ x5 then ((laws_heldTieS.f k (rd_L4 x0 x5) x1).bind fun t835 => (if t835 < 0 then (some (-1)) else (laws_heldTieSS.l0 k x0 t835 (wrap64 (x5 + 1))))) else (none)) else (some x1)
def laws_heldTieSS.f (k : Nat) (l0 : List (List (S52))) (a1 : Int) : Option (Int) := laws_heldTieSS.l0 k l0 a1 0
theorem laws_heldTieSS.mono_l : ∀ k, (∀ a b c, LeO (laws_heldTieSS.l0 k a b c) (laws_heldTieSS.l0 (k + 1) a b c))
 | 0 => fun _ _ _ r h => by simp [laws_heldTieSS.l0] at h
 | k + 1 => by
  have ih0 := laws_heldTieSS.mono_l k
  ·intro a b c; unfold laws_heldTieSS.l0; have m0_ := @laws_heldTieS.mono; exact mo_
theorem laws_heldTieSS.mono : ∀ a b k, LeO (laws_heldTieSS.f k a b) (laws_heldTieSS.f (k + 1) a b) := by
 intro a b k; have ih0 := laws_heldTieSS.mono_l k; unfold laws_heldTieSS.f; have m0_ := @laws_heldTieS.mono; exact mo_
set_option maxHeartbeats 8000000 in
set_option maxRecDepth 100000 in
theorem laws_heldTieSS.calls (k : Nat) (u : Option Addr) (x : Nat) (l0 : List (List (S52))) (m : Int) (r : Int) (w : World) (y : Kd.C (Kd.slice 52 k52) w u l0.length l0) (z : l0.length ≤ x) (h : laws_heldTieSS.f k l0 m = some r) :
  Calls Try.prog 27 #[.slice u l0.length x, .int .i64 m] w fun e w' => e = .returned (.int .i64 r) ∧ Drawn0 w w' := by
 have A := am y; have HC0 := am z; clear y z
 have H : (laws_heldTieSS.l0 k l0 m 0) = some r := h
 clear h; have H' := am H; clear H; go_enter Try.func27, Try.ntmps27; go_wp2
 go_loopg [1, 5] k (fun kq E G w' => ∃ (b : Int) (a : Int), E = .int .i64 b ∧ G = .int .i64 a ∧ Aside0 (laws_heldTieSS.l0 kq l0 b a = some r) ∧ Aside0 (kq ≤ k) ∧ Drawn0 w w')
 case atStart => exact ⟨(m), (0), rs_, rs_, H', ⟨Nat.le_refl _⟩, by repeat (first | exact Drawn0.refl _ | apply Drawn0.step)⟩
 case round =>
  clear H'; obtain ⟨b, a, rfl, rfl, HA, B, ⟨m1, rfl⟩⟩ := hrel; cases gk with
  | zero => exact absurd HA.out (by simp [laws_heldTieSS.l0])
  | succ k1 =>
   have H := HA.out; clear HA; simp only [laws_heldTieSS.l0] at H; by_cases g : a < (l0.length : Int)
   ·rw [if_pos g] at H; have I := decide_eq_true g; clear g; obtain ⟨M, H⟩ := id_ H; obtain ⟨n, D, H⟩ := bi_ H; by_cases i : n < 0
    ·rw [if_pos i] at H; have J := decide_eq_true i; clear i; obtain rfl := Option.some.inj H; have c : 0 ≤ (a : Int) := oa; have d : a < (l0.length : Int) := oa; obtain ⟨K, o, p, q, L, j, l⟩ := at_L4 A.out a c d; cases q; have s := am l; have t := am j; clear l j; obtain ⟨c, d⟩ := e2_ c d
     go_wp2_with (first | ((with_reducible refine gate_callee (f := 71) rfl ?_); refine gl_ (some 17) Try.func71 #[.slice o (rd_L4 l0 a).length p, .int .i64 b] ?_; (with_reducible refine (laws_heldTieS.calls k1 _ _ (rd_L4 l0 a) b n _ ?z_1 ?z_2 D.out).mono ?_); (case z_1 => repeat (first | exact s.out | (with_reducible refine Kd.C_alloc ?_ _) | (with_reducible refine Kd.C_drewN ?_ _) | (with_reducible refine Kd.C_drew ?_))); (case z_2 => exact t.out); rintro e w' ⟨rfl, ⟨nd, rfl⟩⟩; refine ⟨_, rfl, ?_⟩))
     go_ret
     exact ⟨rs_, by repeat (first | exact Drawn0.refl _ | apply Drawn0.step)⟩
    ·rw [if_neg i] at H; have J := decide_eq_false i; clear i; have H' := am H; clear H; have c : 0 ≤ (a : Int) := oa; have d : a < (l0.length : Int) := oa; obtain ⟨K, o, p, q, L, j, l⟩ := at_L4 A.out a c d; cases q; have s := am l; have t := am j; clear l j; obtain ⟨c, d⟩ := e2_ c d
     go_wp2_with (first | ((with_reducible refine gate_callee (f := 71) rfl ?_); refine gl_ (some 17) Try.func71 #[.slice o (rd_L4 l0 a).length p, .int .i64 b] ?_; (with_reducible refine (laws_heldTieS.calls k1 _ _ (rd_L4 l0 a) b n _ ?z_1 ?z_2 D.out).mono ?_); (case z_1 => repeat (first | exact s.out | (with_reducible refine Kd.C_alloc ?_ _) | (with_reducible refine Kd.C_drewN ?_ _) | (with_reducible refine Kd.C_drew ?_))); (case z_2 => exact t.out); rintro e w' ⟨rfl, ⟨nd, rfl⟩⟩; refine ⟨_, rfl, ?_⟩))
     go_roundg k1
     case measure => have := B.out; omega
     case rel => exact ⟨(n), (wrap64 (a + 1)), rs_, rs_, H', ⟨by have := B.out; omega⟩, by repeat (first | exact Drawn0.refl _ | apply Drawn0.step)⟩
   ·rw [if_neg g] at H; have I := decide_eq_false g; clear g; obtain rfl := Option.some.inj H; go_wp2
    go_ret
    exact ⟨rs_, by repeat (first | exact Drawn0.refl _ | apply Drawn0.step)⟩

end Go.Proofs.Ytffflhmblelegaa.F
