-- By oprint.py.
import Derived.Test.YtdlnnjgjfngccaaF0
import Derived.Test.YtdlnnjgjfngccaaF4
import Derived.Test.YtdlnnjgjfngccaaF5
namespace Go.Proofs.Ytdlnnjgjfngccaa.F
open Go.RowKit Go.Proofs.YtdlnnjgjfngccaaW.PrintWords Go.Proofs.YtdlnnjgjfngccaaW.PrintLast Go.Proofs.YtdlnnjgjfngccaaW.PrintMore
attribute [local go_sem] max2_int min2_int max_two min_two max_three min_three max_four min_four
set_option linter.unusedVariables false
set_option linter.unusedSimpArgs false

/-! ### laws_szIntS: function 85 -/
def laws_szIntS.f (l0 : List Int) (a1 : Int) : Option (Int) := if (wrap64 (a1 - (l0.length : Int))) < 0 then (some (-1)) else (some (wrap64 (a1 - (l0.length : Int))))
set_option maxHeartbeats 8000000 in
set_option maxRecDepth 100000 in
theorem laws_szIntS.calls (d : Option Addr) (g : Nat) (a : List Int) (c : Int) (r : Int) (w : World) (i : Kd.C (Kd.int .i64) w d a.length a) (j : a.length ≤ g) (h : laws_szIntS.f a c = some r) :
  Calls Try.prog 85 #[.slice d a.length g, .int .i64 c] w fun e w' => e = .returned (.int .i64 r) ∧ Drawn0 w w' := by
 have HR0 := am i; have HC0 := am j; clear i j
 have H : (if (wrap64 (c - (a.length : Int))) < 0 then (some (-1)) else (some (wrap64 (c - (a.length : Int))))) = some r := h
 clear h; by_cases b : (wrap64 (c - (a.length : Int))) < 0
 ·rw [if_pos b] at H; have l := decide_eq_true b; clear b; obtain rfl := Option.some.inj H; go_enter Try.func85, Try.ntmps85; go_wp2
  go_ret
  exact ⟨rs_, by repeat (first | exact Drawn0.refl _ | apply Drawn0.step)⟩
 ·rw [if_neg b] at H; have l := decide_eq_false b; clear b; obtain rfl := Option.some.inj H; go_enter Try.func85, Try.ntmps85; go_wp2
  go_ret
  exact ⟨rs_, by repeat (first | exact Drawn0.refl _ | apply Drawn0.step)⟩

/-! ### laws_szIntSS: function 25 -/
def laws_szIntSS.l0 : Nat → List (List Int) → Int → Int → Option (Int)
 | 0, _, _, _ => none
 | k + 1, x0, x1, x5 => if x5 < (x0.length : Int) then (if 0 ≤ x5 then ((laws_szIntS.f (rd_L1 x0 x5) x1).bind fun t102 => (if t102 < 0 then (some (-1)) else (laws_szIntSS.l0 k x0 t102 (wrap64 (x5 + 1))))) else (none)) else (some x1)
def laws_szIntSS.f (k : Nat) (l0 : List (List Int)) (a1 : Int) : Option (Int) := if (wrap64 (a1 - (l0.length : Int))) < 0 then (some (-1)) else (laws_szIntSS.l0 k l0 (wrap64 (a1 - (l0.length : Int))) 0)
theorem laws_szIntSS.mono_l : ∀ k, (∀ a b c, LeO (laws_szIntSS.l0 k a b c) (laws_szIntSS.l0 (k + 1) a b c))
 | 0 => fun _ _ _ r h => by simp [laws_szIntSS.l0] at h
 | k + 1 => by
  have ih0 := laws_szIntSS.mono_l k
  ·intro a b c; unfold laws_szIntSS.l0; exact mo_
theorem laws_szIntSS.mono : ∀ a b k, LeO (laws_szIntSS.f k a b) (laws_szIntSS.f (k + 1) a b) := by
 intro a b k; have ih0 := laws_szIntSS.mono_l k; unfold laws_szIntSS.f; exact mo_
set_option maxHeartbeats 8000000 in
set_option maxRecDepth 100000 in
theorem laws_szIntSS.calls (k : Nat) (x : Option Addr) (y : Nat) (l0 : List (List Int)) (i : Int) (r : Int) (w : World) (z : Kd.C (Kd.slice 3 (Kd.int .i64)) w x l0.length l0) (A : l0.length ≤ y) (h : laws_szIntSS.f k l0 i = some r) :
  Calls Try.prog 25 #[.slice x l0.length y, .int .i64 i] w fun e w' => e = .returned (.int .i64 r) ∧ Drawn0 w w' := by
 have B := am z; have HC0 := am A; clear z A
 have H : (if (wrap64 (i - (l0.length : Int))) < 0 then (some (-1)) else (laws_szIntSS.l0 k l0 (wrap64 (i - (l0.length : Int))) 0)) = some r := h
 clear h; by_cases b : (wrap64 (i - (l0.length : Int))) < 0
 ·rw [if_pos b] at H; have D := decide_eq_true b; clear b; obtain rfl := Option.some.inj H; go_enter Try.func25, Try.ntmps25; go_wp2
  go_ret
  exact ⟨rs_, by repeat (first | exact Drawn0.refl _ | apply Drawn0.step)⟩
 ·rw [if_neg b] at H; have D := decide_eq_false b; clear b; have H' := am H; clear H; go_enter Try.func25, Try.ntmps25; go_wp2
  go_loopg [1, 5] k (fun kq I J w' => ∃ (c : Int) (a : Int), I = .int .i64 c ∧ J = .int .i64 a ∧ Aside0 (laws_szIntSS.l0 kq l0 c a = some r) ∧ Aside0 (kq ≤ k) ∧ Drawn0 w w')
  case atStart => exact ⟨(wrap64 (i - (l0.length : Int))), (0), rs_, rs_, H', ⟨Nat.le_refl _⟩, by repeat (first | exact Drawn0.refl _ | apply Drawn0.step)⟩
  case round =>
   clear H'; (try clear b D); obtain ⟨c, a, rfl, rfl, HA, E, ⟨m1, rfl⟩⟩ := hrel; cases gk with
   | zero => exact absurd HA.out (by simp [laws_szIntSS.l0])
   | succ k1 =>
    have H := HA.out; clear HA; simp only [laws_szIntSS.l0] at H; by_cases j : a < (l0.length : Int)
    ·rw [if_pos j] at H; have K := decide_eq_true j; clear j; obtain ⟨P, H⟩ := id_ H; obtain ⟨o, G, H⟩ := bi_ H; by_cases l : o < 0
     ·rw [if_pos l] at H; have L := decide_eq_true l; clear l; obtain rfl := Option.some.inj H; have d : 0 ≤ (a : Int) := oa; have g : a < (l0.length : Int) := oa; obtain ⟨M, p, q, s, O, m, n⟩ := at_L1 B.out a d g; cases s; have t := am n; have u := am m; clear n m; obtain ⟨d, g⟩ := e2_ d g
      go_wp2_with (first | ((with_reducible refine gate_callee (f := 85) rfl ?_); refine gl_ (some 23) Try.func85 #[.slice p (rd_L1 l0 a).length q, .int .i64 c] ?_; (with_reducible refine (laws_szIntS.calls _ _ (rd_L1 l0 a) c o _ ?z_1 ?z_2 G.out).mono ?_); (case z_1 => repeat (first | exact t.out | (with_reducible refine Kd.C_alloc ?_ _) | (with_reducible refine Kd.C_drewN ?_ _) | (with_reducible refine Kd.C_drew ?_))); (case z_2 => exact u.out); rintro e w' ⟨rfl, ⟨nd, rfl⟩⟩; refine ⟨_, rfl, ?_⟩))
      go_ret
      exact ⟨rs_, by repeat (first | exact Drawn0.refl _ | apply Drawn0.step)⟩
     ·rw [if_neg l] at H; have L := decide_eq_false l; clear l; have H' := am H; clear H; have d : 0 ≤ (a : Int) := oa; have g : a < (l0.length : Int) := oa; obtain ⟨M, p, q, s, O, m, n⟩ := at_L1 B.out a d g; cases s; have t := am n; have u := am m; clear n m; obtain ⟨d, g⟩ := e2_ d g
      go_wp2_with (first | ((with_reducible refine gate_callee (f := 85) rfl ?_); refine gl_ (some 23) Try.func85 #[.slice p (rd_L1 l0 a).length q, .int .i64 c] ?_; (with_reducible refine (laws_szIntS.calls _ _ (rd_L1 l0 a) c o _ ?z_1 ?z_2 G.out).mono ?_); (case z_1 => repeat (first | exact t.out | (with_reducible refine Kd.C_alloc ?_ _) | (with_reducible refine Kd.C_drewN ?_ _) | (with_reducible refine Kd.C_drew ?_))); (case z_2 => exact u.out); rintro e w' ⟨rfl, ⟨nd, rfl⟩⟩; refine ⟨_, rfl, ?_⟩))
      go_roundg k1
      case measure => have := E.out; omega
      case rel => exact ⟨(o), (wrap64 (a + 1)), rs_, rs_, H', ⟨by have := E.out; omega⟩, by repeat (first | exact Drawn0.refl _ | apply Drawn0.step)⟩
    ·rw [if_neg j] at H; have K := decide_eq_false j; clear j; obtain rfl := Option.some.inj H; go_wp2
     go_ret
     exact ⟨rs_, by repeat (first | exact Drawn0.refl _ | apply Drawn0.step)⟩

/-! ### laws_toIntSS: function 27 -/
def laws_toIntSS.l0 : Nat → List (List Int) → List (List Int) → Int → Option ((List (List Int)))
 | 0, _, _, _ => none
 | k + 1, x0, x3, x4 => if x4 < (x0.length : Int) then (if 0 ≤ x4 then ((laws_toIntS.f k (rd_L1 x0 x4)).bind fun t116 => (if x4 < (x3.length : Int) then (laws_toIntSS.l0 k x0 (x3.set (x4 : Int).toNat t116) (wrap64 (x4 + 1))) else (none))) else (none)) else (some x3)
def laws_toIntSS.f (k : Nat) (l0 : List (List Int)) : Option ((List (List Int))) := if 0 ≤ (l0.length : Int) then (if ((l0.length : Int) : Int).toNat ≤ 11728124029610 then (laws_toIntSS.l0 k l0 (List.replicate ((l0.length : Int) : Int).toNat []) 0) else (none)) else (none)
theorem laws_toIntSS.mono_l : ∀ k, (∀ a b c, LeO (laws_toIntSS.l0 k a b c) (laws_toIntSS.l0 (k + 1) a b c))
 | 0 => fun _ _ _ r h => by simp [laws_toIntSS.l0] at h
 | k + 1 => by
  have ih0 := laws_toIntSS.mono_l k
  ·intro a b c; unfold laws_toIntSS.l0; have m0_ := @laws_toIntS.mono; exact mo_
theorem laws_toIntSS.mono : ∀ a k, LeO (laws_toIntSS.f k a) (laws_toIntSS.f (k + 1) a) := by
 intro a k; have ih0 := laws_toIntSS.mono_l k; unfold laws_toIntSS.f; have m0_ := @laws_toIntS.mono; exact mo_
set_option maxHeartbeats 8000000 in
set_option maxRecDepth 100000 in
theorem laws_toIntSS.calls (k : Nat) (K : Option Addr) (L : Nat) (l0 : List (List Int)) (r : List (List Int)) (w : World) (M : Kd.C (Kd.slice 3 (Kd.int .i64)) w K l0.length l0) (O : l0.length ≤ L) (h : laws_toIntSS.f k l0 = some r) :
  Calls Try.prog 27 #[.slice K l0.length L] w fun e w' => ∃ P : Value, e = .returned (P) ∧ Kd.S (Kd.slice 3 (Kd.int .i64)) 40 w' w.heap.size (fun _ => True) P r ∧ Below w.heap.size w w' := by
 have an := am M; have HC0 := am O; clear M O; have HB := am (Below.refl w.heap.size w)
 have H : (if 0 ≤ (l0.length : Int) then (if ((l0.length : Int) : Int).toNat ≤ 11728124029610 then (laws_toIntSS.l0 k l0 (List.replicate ((l0.length : Int) : Int).toNat []) 0) else (none)) else (none)) = some r := h
 clear h; obtain ⟨c2, H⟩ := ig_ H; have ap := eq_true c2; have aq := decide_eq_true c2; clear c2; obtain ⟨n, H⟩ := ig_ H; have ar := eq_true n; have au := decide_eq_true n; clear n; obtain ⟨T, u⟩ : ∃ y_ : List (List Int), y_ = (List.replicate ((l0.length : Int) : Int).toNat []) := ⟨_, rfl⟩; replace H : (laws_toIntSS.l0 k l0 T 0) = some r := nh_ u H; have U := am u; clear u; have H' := am H; clear H; go_enter Try.func27, Try.ntmps27
 go_wp2_with (first | ((with_reducible refine gate_dst (N := 7) rfl ?_); refine Kd.S_make (Kd.slice 3 (Kd.int .i64)) _ 40 rfl (N := 7) rfl 22 _ _ rfl (l0.length : Int) rfl rfl Try.underlying22 (.slice none 0 0) 24 info40 rfl (by decide) (by omega) [] (ok := fun _ => True) (okp := fun _ => True) ⟨_, rfl, Kd.R_nil _ _ _ _ _⟩ (fun _ hk => hk) trivial (oa) (Nat.le_trans (Nat.mul_le_mul_right _ (oa : (l0.length : Int).toNat ≤ 11728124029610)) (by omega)) (Below.refl _ _) (Nat.le_refl _) ?_; intro av w4 m hb aw ax; clear aw ax; (first | rw [← U.out] at m | (simp only [Int.reduceToNat] at m; rw [← U.out] at m)); have ay := am (Kd.S_lower m (below_size (bn HB))); replace HB := bs HB hb; clear hb m))
 go_loopg [4] k (fun kq v4 w' => ∃ (c : List (List Int)) (a : Int), v4 = .int .i64 a ∧ Aside0 (laws_toIntSS.l0 kq l0 c a = some r) ∧ Aside0 (kq ≤ k) ∧ Aside0 (Kd.S (Kd.slice 3 (Kd.int .i64)) 40 w' w.heap.size (fun _ => True) av c) ∧ Aside0 (Below w.heap.size w w'))
 case atStart => exact ⟨(T), (0), rs_, H', ⟨Nat.le_refl _⟩, ⟨onS ay⟩, ⟨bn HB⟩⟩
 case round =>
  clear H'; (try clear c2 ap aq n ar au); obtain ⟨c, a, rfl, HA, W, b, HB⟩ := hrel; cases gk with
  | zero => exact absurd HA.out (by simp [laws_toIntSS.l0])
  | succ k1 =>
   have H := HA.out; clear HA; simp only [laws_toIntSS.l0] at H; by_cases i : a < (l0.length : Int)
   ·rw [if_pos i] at H; have az := decide_eq_true i; clear i; obtain ⟨aQ, H⟩ := id_ H; obtain ⟨x, A8, H⟩ := bi_ H; obtain ⟨aR, H⟩ := id_ H; obtain ⟨y, z⟩ : ∃ y_ : List (List Int), y_ = (c.set (a : Int).toNat x) := ⟨_, rfl⟩; replace H : (laws_toIntSS.l0 k1 l0 y (wrap64 (a + 1))) = some r := nh_ z H; have aA := am z; clear z; have H' := am H; clear H; have A : 0 ≤ (a : Int) := oa; have B : a < (l0.length : Int) := oa; obtain ⟨aS, aB, aC, aD, X, Y, Z⟩ := at_L1 an.out a A B; cases aD; replace X := hc_ HB X; have aE := am Z; have aF := am Y; clear Z Y; obtain ⟨A, B⟩ := e2_ A B
    go_wp2_with (first | ((with_reducible refine gate_callee (f := 38) rfl ?_); refine gl_ (some 20) Try.func38 #[.slice aB (rd_L1 l0 a).length aC] ?_; (with_reducible refine (laws_toIntS.calls k1 _ _ (rd_L1 l0 a) x _ ?z_1 ?z_2 A8.out).mono ?_); (case z_1 => exact cb aE HB); (case z_2 => exact aF.out); rintro e D ⟨o, rfl, E, hb⟩; refine ⟨_, rfl, ?_⟩; replace b := am (Kd.S_elder' (onS b) (Kd.R_base E) hb); have q := am (Kd.R_lower E (below_size (bn HB))); replace HB := bs HB hb; (try clear hb E); have G : 0 ≤ (a : Int) := oa; have I : (a : Int) < ((c.length : Int) : Int) := oa; obtain ⟨l, aa, ab, ad, aG, aT, ae⟩ := Kd.S_form b.out (by omega); (first | cases ab | (injection ab with ea_ en_ ec_; (first | subst ea_ | (injection ea_ with ea_; subst ea_)); subst ec_; clear en_)); have aH := am ad; have aU := am ae; clear ad aG ae; obtain ⟨_, aV, aI, af, ag, ah, _, _⟩ := Kd.S_elem b.out [] (a : Int) G I; obtain ⟨aW, rfl, aX⟩ := af; have aJ := ag 0 _ rfl; have aK := ah 0; (try simp only [show ((Kd.slice 3 (Kd.int .i64))).sz = 1 from rfl, Nat.mul_one, Nat.add_zero] at aJ); (try simp only [show ((Kd.slice 3 (Kd.int .i64))).sz = 1 from rfl, Nat.mul_one, Nat.add_zero] at aK); clear aI ag ah; (try clear af); obtain ⟨G, I⟩ := e2_ G I; have n_ := am (Kd.S_mono (ok' := (fun k_ => some k_ ≠ (o : Value).ownBlock)) b.out (fun k_ hk => hk.2)); clear b; have b := n_; clear n_; have aL := am (show Kd.S (Kd.slice 3 (Kd.int .i64)) 40 D w.heap.size (fun k_ => ((fun _ => True)) k_ ∧ ¬ ((fun k_ => some k_ = (o : Value).ownBlock)) k_) (.slice (some ⟨l, 0, none⟩) c.length aa) c from (Kd.S_mono (onS b) (fun k_ hk => ⟨trivial, fun d => hk d⟩))); obtain ⟨aY, aZ, aM, ai, aj, ak, aN, al⟩ := Kd.S_elem aL.out [] (a : Int) (oa) (by have g : (a : Int) < ((c.length : Int) : Int) := oa; first | exact g | (have d := (Kd.S_reads' b.out).1; omega) | simpa using g); obtain ⟨a0, rfl, a1⟩ := ai; have s := Kd.S_seg al (oa) (by have g : (a : Int) < ((c.length : Int) : Int) := oa; first | exact g | (have d := (Kd.S_reads' b.out).1; omega) | simpa using g) (seg := [o]) (j := 0) (show 1 ≤ 1 from by decide) (x' := x) (Kd.M_row (Kd.R_mono (Kd.R_tight rfl (Kd.R_mono (ok' := fun k_ => ((fun _ => True)) k_ ∧ k_ ≠ l) (Kd.R_apart' (q.out) (Kd.S_typed b.out) (by decide)) (fun k_ hk => ⟨trivial, fun d => (hk.2) (by rw [d]; rfl)⟩))) (fun _ g => Or.inr (g)))) (fun _ hk => hk) (fun k_ hk_ => ((Kd.R_mono (ok' := fun k_ => ((fun _ => True)) k_ ∧ k_ ≠ l) (Kd.R_apart' (q.out) (Kd.S_typed b.out) (by decide)) (fun k_ hk => ⟨trivial, fun d => (hk.2) (by rw [d]; rfl)⟩))).1 k_ hk_.symm); have aO := aj 0 _ rfl; (try simp only [show ((Kd.slice 3 (Kd.int .i64))).sz = 1 from rfl, Nat.mul_one, Nat.add_zero] at aO); have aP := ak 0; (try simp only [show ((Kd.slice 3 (Kd.int .i64))).sz = 1 from rfl, Nat.mul_one, Nat.add_zero] at aP); clear aM aj ak; (try clear ai); clear aN al; (try simp only [show ((Kd.slice 3 (Kd.int .i64))).sz = 1 from rfl, Nat.mul_one, Nat.add_zero] at s)) | ((with_reducible refine gate_store (t := 40) (p := 21) rfl ?_); refine store_event (t := 40) (p := 21) (v := ?vo_w13) (w1 := (D.setCell ⟨l, (a : Int).toNat, none⟩ (o))) ?hg ?ho ?hn ?hr ?_; (case ho => rfl); (case hg => rfl); (case hn => rfl); (case hr => first | (go_simp; done) | (go_simp; rfl) | (obtain ⟨A_, c_, d⟩ := Kd.R_slice q.out; subst d; first | (go_simp; done) | (go_simp; rfl))); intro J hw; have hg : D.grownBy J (some l) := (by rw [hw]; exact s.2); have hp_ : Kd.S (Kd.slice 3 (Kd.int .i64)) 40 J w.heap.size (fun _ => True) (.slice (some ⟨l, 0, none⟩) c.length aa) y := (by rw [hw, aA.out]; exact s.1); clear s; replace b := am hp_; replace HB := am (by rw [hw]; exact below_set (HB.out) aH.out : Below w.heap.size w J); clear q; clear hg hw hp_))
    go_roundg k1
    case measure => have := W.out; omega
    case rel => exact ⟨(y), (wrap64 (a + 1)), rs_, H', ⟨by have := W.out; omega⟩, ⟨onS b⟩, ⟨bn HB⟩⟩
   ·rw [if_neg i] at H; have az := decide_eq_false i; clear i; obtain rfl := Option.some.inj H; go_wp2
    go_ret
    exact ⟨_, er_, onS b, bn HB⟩

/-! ### laws_eqIntSS: function 29 -/
def laws_eqIntSS.l0 : Nat → List (List Int) → List (List Int) → Int → Option (Bool)
 | 0, _, _, _ => none
 | k + 1, x0, x1, x5 => if x5 < (x0.length : Int) then (if 0 ≤ x5 then (if x5 < (x1.length : Int) then ((laws_eqIntS.f k (rd_L1 x0 x5) (rd_L1 x1 x5)).bind fun t127 => (if t127 = true then (laws_eqIntSS.l0 k x0 x1 (wrap64 (x5 + 1))) else (some false))) else (none)) else (none)) else (some true)
def laws_eqIntSS.f (k : Nat) (l0 : List (List Int)) (l1 : List (List Int)) : Option (Bool) := if (l0.length : Int) = (l1.length : Int) then (laws_eqIntSS.l0 k l0 l1 0) else (some false)
theorem laws_eqIntSS.mono_l : ∀ k, (∀ a b c, LeO (laws_eqIntSS.l0 k a b c) (laws_eqIntSS.l0 (k + 1) a b c))
 | 0 => fun _ _ _ r h => by simp [laws_eqIntSS.l0] at h
 | k + 1 => by
  have ih0 := laws_eqIntSS.mono_l k
  ·intro a b c; unfold laws_eqIntSS.l0; have m0_ := @laws_eqIntS.mono; exact mo_
theorem laws_eqIntSS.mono : ∀ a b k, LeO (laws_eqIntSS.f k a b) (laws_eqIntSS.f (k + 1) a b) := by
 intro a b k; have ih0 := laws_eqIntSS.mono_l k; unfold laws_eqIntSS.f; have m0_ := @laws_eqIntS.mono; exact mo_
set_option maxHeartbeats 8000000 in
set_option maxRecDepth 100000 in
theorem laws_eqIntSS.calls (k : Nat) (B : Option Addr) (D : Nat) (l0 : List (List Int)) (E : Option Addr) (y : Nat) (b : List (List Int)) (r : Bool) (w : World) (G : Kd.C (Kd.slice 3 (Kd.int .i64)) w B l0.length l0) (I : l0.length ≤ D) (J : Kd.C (Kd.slice 3 (Kd.int .i64)) w E b.length b) (K : b.length ≤ y) (h : laws_eqIntSS.f k l0 b = some r) :
  Calls Try.prog 29 #[.slice B l0.length D, .slice E b.length y] w fun e w' => e = .returned (.bool r) ∧ Drawn0 w w' := by
 have L := am G; have HC0 := am I; clear G I; have M := am J; have HC1 := am K; clear J K
 have H : (if (l0.length : Int) = (b.length : Int) then (laws_eqIntSS.l0 k l0 b 0) else (some false)) = some r := h
 clear h; by_cases c : (l0.length : Int) = (b.length : Int)
 ·rw [if_pos c] at H; have O : ((l0.length : Int) == (b.length : Int)) = true := beq_iff_eq.mpr c; have P : ((l0.length : Int) != (b.length : Int)) = false := bne_eq_false_iff_eq.mpr c; have T : (l0.length == b.length) = true := by first | simpa using c | (simp at c ⊢; omega)
  clear c; have H' := am H; clear H; go_enter Try.func29, Try.ntmps29; go_wp2
  repeat (go_quiet (fail); try go_wp2)
  go_loopg [5] k (fun kq X w' => ∃ (a : Int), X = .int .i64 a ∧ Aside0 (laws_eqIntSS.l0 kq l0 b a = some r) ∧ Aside0 (kq ≤ k) ∧ Drawn0 w w')
  case atStart => exact ⟨(0), rs_, H', ⟨Nat.le_refl _⟩, by repeat (first | exact Drawn0.refl _ | apply Drawn0.step)⟩
  case round =>
   clear H'; (try clear y c O P T); obtain ⟨a, rfl, HA, U, ⟨m1, rfl⟩⟩ := hrel; cases gk with
   | zero => exact absurd HA.out (by simp [laws_eqIntSS.l0])
   | succ k1 =>
    have H := HA.out; clear HA; simp only [laws_eqIntSS.l0] at H; by_cases p : a < (l0.length : Int)
    ·rw [if_pos p] at H; have Y := decide_eq_true p; clear p; obtain ⟨aj, H⟩ := id_ H; obtain ⟨ak, H⟩ := id_ H; obtain ⟨Z, q, H⟩ := bi_ H; by_cases W : Z = true
     ·subst W; rw [if_pos rfl] at H; have H' := am H; clear H; have d : 0 ≤ (a : Int) := oa; have g : a < (l0.length : Int) := oa; obtain ⟨aa, ab, ad, z, ae, s, t⟩ := at_L1 L.out a d g; cases z; have i := am t; have j := am s; clear t s; obtain ⟨d, g⟩ := e2_ d g; have l : 0 ≤ (a : Int) := oa; have m : a < (b.length : Int) := oa; obtain ⟨af, ag, ah, A, ai, u, x⟩ := at_L1 M.out a l m; cases A; have n := am x; have o := am u; clear x u; obtain ⟨l, m⟩ := e2_ l m
      go_wp2_with (first | (go_at_call 40; (with_reducible refine (laws_eqIntS.calls k1 _ _ (rd_L1 l0 a) _ _ (rd_L1 b a) true _ ?z_1 ?z_2 ?z_3 ?z_4 q.out).mono ?_); (case z_1 => repeat (first | exact i.out | (with_reducible refine Kd.C_alloc ?_ _) | (with_reducible refine Kd.C_drewN ?_ _) | (with_reducible refine Kd.C_drew ?_))); (case z_2 => exact j.out); (case z_3 => repeat (first | exact n.out | (with_reducible refine Kd.C_alloc ?_ _) | (with_reducible refine Kd.C_drewN ?_ _) | (with_reducible refine Kd.C_drew ?_))); (case z_4 => exact o.out); rintro e w' ⟨rfl, ⟨nd, rfl⟩⟩; (try first | exact ⟨rfl, _, World.drewN_drewN _ _ _⟩ | exact ⟨rfl, _, Eq.trans (World.drewN_drewN _ _ _) (congrArg (World.drewN _) (Nat.add_assoc _ _ _))⟩)))
      repeat (go_quiet (first | (go_at_call 40; (with_reducible refine (laws_eqIntS.calls k1 _ _ (rd_L1 l0 a) _ _ (rd_L1 b a) true _ ?z_1 ?z_2 ?z_3 ?z_4 q.out).mono ?_); (case z_1 => repeat (first | exact i.out | (with_reducible refine Kd.C_alloc ?_ _) | (with_reducible refine Kd.C_drewN ?_ _) | (with_reducible refine Kd.C_drew ?_))); (case z_2 => exact j.out); (case z_3 => repeat (first | exact n.out | (with_reducible refine Kd.C_alloc ?_ _) | (with_reducible refine Kd.C_drewN ?_ _) | (with_reducible refine Kd.C_drew ?_))); (case z_4 => exact o.out); rintro e w' ⟨rfl, ⟨nd, rfl⟩⟩; (try first | exact ⟨rfl, _, World.drewN_drewN _ _ _⟩ | exact ⟨rfl, _, Eq.trans (World.drewN_drewN _ _ _) (congrArg (World.drewN _) (Nat.add_assoc _ _ _))⟩))); try go_wp2_with (first | (go_at_call 40; (with_reducible refine (laws_eqIntS.calls k1 _ _ (rd_L1 l0 a) _ _ (rd_L1 b a) true _ ?z_1 ?z_2 ?z_3 ?z_4 q.out).mono ?_); (case z_1 => repeat (first | exact i.out | (with_reducible refine Kd.C_alloc ?_ _) | (with_reducible refine Kd.C_drewN ?_ _) | (with_reducible refine Kd.C_drew ?_))); (case z_2 => exact j.out); (case z_3 => repeat (first | exact n.out | (with_reducible refine Kd.C_alloc ?_ _) | (with_reducible refine Kd.C_drewN ?_ _) | (with_reducible refine Kd.C_drew ?_))); (case z_4 => exact o.out); rintro e w' ⟨rfl, ⟨nd, rfl⟩⟩; (try first | exact ⟨rfl, _, World.drewN_drewN _ _ _⟩ | exact ⟨rfl, _, Eq.trans (World.drewN_drewN _ _ _) (congrArg (World.drewN _) (Nat.add_assoc _ _ _))⟩))))
      go_roundg k1
      case measure => have := U.out; omega
      case rel => exact ⟨(wrap64 (a + 1)), rs_, H', ⟨by have := U.out; omega⟩, by repeat (first | exact Drawn0.refl _ | apply Drawn0.step)⟩
     ·obtain rfl := nt_ W; rw [if_neg nf_] at H; obtain rfl := Option.some.inj H; have d : 0 ≤ (a : Int) := oa; have g : a < (l0.length : Int) := oa; obtain ⟨aa, ab, ad, z, ae, s, t⟩ := at_L1 L.out a d g; cases z; have i := am t; have j := am s; clear t s; obtain ⟨d, g⟩ := e2_ d g; have l : 0 ≤ (a : Int) := oa; have m : a < (b.length : Int) := oa; obtain ⟨af, ag, ah, A, ai, u, x⟩ := at_L1 M.out a l m; cases A; have n := am x; have o := am u; clear x u; obtain ⟨l, m⟩ := e2_ l m
      go_wp2_with (first | (go_at_call 40; (with_reducible refine (laws_eqIntS.calls k1 _ _ (rd_L1 l0 a) _ _ (rd_L1 b a) false _ ?z_1 ?z_2 ?z_3 ?z_4 q.out).mono ?_); (case z_1 => repeat (first | exact i.out | (with_reducible refine Kd.C_alloc ?_ _) | (with_reducible refine Kd.C_drewN ?_ _) | (with_reducible refine Kd.C_drew ?_))); (case z_2 => exact j.out); (case z_3 => repeat (first | exact n.out | (with_reducible refine Kd.C_alloc ?_ _) | (with_reducible refine Kd.C_drewN ?_ _) | (with_reducible refine Kd.C_drew ?_))); (case z_4 => exact o.out); rintro e w' ⟨rfl, ⟨nd, rfl⟩⟩; (try first | exact ⟨rfl, _, World.drewN_drewN _ _ _⟩ | exact ⟨rfl, _, Eq.trans (World.drewN_drewN _ _ _) (congrArg (World.drewN _) (Nat.add_assoc _ _ _))⟩)))
      repeat (go_quiet (first | (go_at_call 40; (with_reducible refine (laws_eqIntS.calls k1 _ _ (rd_L1 l0 a) _ _ (rd_L1 b a) false _ ?z_1 ?z_2 ?z_3 ?z_4 q.out).mono ?_); (case z_1 => repeat (first | exact i.out | (with_reducible refine Kd.C_alloc ?_ _) | (with_reducible refine Kd.C_drewN ?_ _) | (with_reducible refine Kd.C_drew ?_))); (case z_2 => exact j.out); (case z_3 => repeat (first | exact n.out | (with_reducible refine Kd.C_alloc ?_ _) | (with_reducible refine Kd.C_drewN ?_ _) | (with_reducible refine Kd.C_drew ?_))); (case z_4 => exact o.out); rintro e w' ⟨rfl, ⟨nd, rfl⟩⟩; (try first | exact ⟨rfl, _, World.drewN_drewN _ _ _⟩ | exact ⟨rfl, _, Eq.trans (World.drewN_drewN _ _ _) (congrArg (World.drewN _) (Nat.add_assoc _ _ _))⟩))); try go_wp2_with (first | (go_at_call 40; (with_reducible refine (laws_eqIntS.calls k1 _ _ (rd_L1 l0 a) _ _ (rd_L1 b a) false _ ?z_1 ?z_2 ?z_3 ?z_4 q.out).mono ?_); (case z_1 => repeat (first | exact i.out | (with_reducible refine Kd.C_alloc ?_ _) | (with_reducible refine Kd.C_drewN ?_ _) | (with_reducible refine Kd.C_drew ?_))); (case z_2 => exact j.out); (case z_3 => repeat (first | exact n.out | (with_reducible refine Kd.C_alloc ?_ _) | (with_reducible refine Kd.C_drewN ?_ _) | (with_reducible refine Kd.C_drew ?_))); (case z_4 => exact o.out); rintro e w' ⟨rfl, ⟨nd, rfl⟩⟩; (try first | exact ⟨rfl, _, World.drewN_drewN _ _ _⟩ | exact ⟨rfl, _, Eq.trans (World.drewN_drewN _ _ _) (congrArg (World.drewN _) (Nat.add_assoc _ _ _))⟩))))
      go_ret
      exact ⟨rs_, by repeat (first | exact Drawn0.refl _ | apply Drawn0.step)⟩
    ·rw [if_neg p] at H; have Y := decide_eq_false p; clear p; obtain rfl := Option.some.inj H; go_wp2
     repeat (go_quiet (fail); try go_wp2)
     go_ret
     exact ⟨rs_, by repeat (first | exact Drawn0.refl _ | apply Drawn0.step)⟩
 ·rw [if_neg c] at H; have O : ((l0.length : Int) == (b.length : Int)) = false := beq_eq_false_iff_ne.mpr c; have P : ((l0.length : Int) != (b.length : Int)) = true := bne_iff_ne.mpr c; have T : (l0.length == b.length) = false := by first | simpa using c | (simp at c ⊢; omega)
  obtain rfl := Option.some.inj H; go_enter Try.func29, Try.ntmps29; go_wp2
  repeat (go_quiet (fail); try go_wp2)
  go_ret
  exact ⟨rs_, by repeat (first | exact Drawn0.refl _ | apply Drawn0.step)⟩

end Go.Proofs.Ytdlnnjgjfngccaa.F
