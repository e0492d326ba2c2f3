-- By oprint.py.
import Derived.Test.YthmddmobfkfgeaaF0
namespace Go.Proofs.Ythmddmobfkfgeaa.F
open Go.RowKit Go.Proofs.YthmddmobfkfgeaaW.PrintWords Go.Proofs.YthmddmobfkfgeaaW.PrintLast Go.Proofs.YthmddmobfkfgeaaW.PrintMore
attribute [local go_sem] max2_int min2_int max_two min_two max_three min_three max_four min_four
set_option linter.unusedVariables false
set_option linter.unusedSimpArgs false

/-! ### laws_eqIntS: function 70 -/
def laws_eqIntS.l0 : Nat → List Int → List Int → Int → Option (Bool)
 | 0, _, _, _ => none
 | k + 1, x0, x1, x5 => if x5 < (x0.length : Int) then (if 0 ≤ x5 then (if x5 < (x1.length : Int) then (if (rd x0 x5) = (rd x1 x5) then (laws_eqIntS.l0 k x0 x1 (wrap64 (x5 + 1))) else (some false)) else (none)) else (none)) else (some true)
def laws_eqIntS.f (k : Nat) (l0 : List Int) (l1 : List Int) : Option (Bool) := if (l0.length : Int) = (l1.length : Int) then (laws_eqIntS.l0 k l0 l1 0) else (some false)
theorem laws_eqIntS.mono_l : ∀ k, (∀ a b c, LeO (laws_eqIntS.l0 k a b c) (laws_eqIntS.l0 (k + 1) a b c))
 | 0 => fun _ _ _ r h => by simp [laws_eqIntS.l0] at h
 | k + 1 => by
  have ih0 := laws_eqIntS.mono_l k
  ·intro a b c; unfold laws_eqIntS.l0; exact mo_
theorem laws_eqIntS.mono : ∀ a b k, LeO (laws_eqIntS.f k a b) (laws_eqIntS.f (k + 1) a b) := by
 intro a b k; have ih0 := laws_eqIntS.mono_l k; unfold laws_eqIntS.f; exact mo_
set_option maxHeartbeats 8000000 in
set_option maxRecDepth 100000 in
theorem laws_eqIntS.calls (k : Nat) (q : Option Addr) (s : Nat) (l0 : List Int) (t : Option Addr) (n : Nat) (b : List Int) (r : Bool) (w : World) (u : Kd.C (Kd.int .i64) w q l0.length l0) (x : l0.length ≤ s) (y : Kd.C (Kd.int .i64) w t b.length b) (z : b.length ≤ n) (h : laws_eqIntS.f k l0 b = some r) :
  Calls Try.prog 70 #[.slice q l0.length s, .slice t b.length n] w fun e w' => e = .returned (.bool r) ∧ Drawn0 w w' := by
 have A := am u; have HC0 := am x; clear u x; have B := am y; have HC1 := am z; clear y z
 have H : (if (l0.length : Int) = (b.length : Int) then (laws_eqIntS.l0 k l0 b 0) else (some false)) = some r := h
 clear h; by_cases c : (l0.length : Int) = (b.length : Int)
 ·rw [if_pos c] at H; have D : ((l0.length : Int) == (b.length : Int)) = true := beq_iff_eq.mpr c; have E : ((l0.length : Int) != (b.length : Int)) = false := bne_eq_false_iff_eq.mpr c; have G : (l0.length == b.length) = true := by first | simpa using c | (simp at c ⊢; omega)
  clear c; have H' := am H; clear H; go_enter Try.func70, Try.ntmps70; go_wp2
  repeat (go_quiet (fail); try go_wp2)
  go_loopg [5] k (fun kq J w' => ∃ (a : Int), J = .int .i64 a ∧ Aside0 (laws_eqIntS.l0 kq l0 b a = some r) ∧ Aside0 (kq ≤ k) ∧ Drawn0 w w')
  case atStart => exact ⟨(0), rs_, H', ⟨Nat.le_refl _⟩, by repeat (first | exact Drawn0.refl _ | apply Drawn0.step)⟩
  case round =>
   clear H'; (try clear n c D E G); obtain ⟨a, rfl, HA, I, ⟨m1, rfl⟩⟩ := hrel; cases gk with
   | zero => exact absurd HA.out (by simp [laws_eqIntS.l0])
   | succ k1 =>
    have H := HA.out; clear HA; simp only [laws_eqIntS.l0] at H; by_cases m : a < (l0.length : Int)
    ·rw [if_pos m] at H; have K := decide_eq_true m; clear m; obtain ⟨W, H⟩ := id_ H; obtain ⟨X, H⟩ := id_ H; by_cases d : (rd l0 a) = (rd b a)
     ·rw [if_pos d] at H; have L : ((rd l0 a) == (rd b a)) = true := beq_iff_eq.mpr d; have M : ((rd l0 a) != (rd b a)) = false := bne_eq_false_iff_eq.mpr d; clear d; have H' := am H; clear H; have g : 0 ≤ (a : Int) := oa; have i : a < (l0.length : Int) := oa; obtain ⟨O, o, P⟩ := Kd.at_int A.out a g i; cases o; obtain ⟨g, i⟩ := e2_ g i; have j : 0 ≤ (a : Int) := oa; have l : a < (b.length : Int) := oa; obtain ⟨T, p, U⟩ := Kd.at_int B.out a j l; cases p; obtain ⟨j, l⟩ := e2_ j l; go_wp2
      repeat (go_quiet (fail); try go_wp2)
      go_roundg k1
      case measure => have := I.out; omega
      case rel => exact ⟨(wrap64 (a + 1)), rs_, H', ⟨by have := I.out; omega⟩, by repeat (first | exact Drawn0.refl _ | apply Drawn0.step)⟩
     ·rw [if_neg d] at H; have L : ((rd l0 a) == (rd b a)) = false := beq_eq_false_iff_ne.mpr d; have M : ((rd l0 a) != (rd b a)) = true := bne_iff_ne.mpr d; obtain rfl := Option.some.inj H; have g : 0 ≤ (a : Int) := oa; have i : a < (l0.length : Int) := oa; obtain ⟨O, o, P⟩ := Kd.at_int A.out a g i; cases o; obtain ⟨g, i⟩ := e2_ g i; have j : 0 ≤ (a : Int) := oa; have l : a < (b.length : Int) := oa; obtain ⟨T, p, U⟩ := Kd.at_int B.out a j l; cases p; obtain ⟨j, l⟩ := e2_ j l; go_wp2
      repeat (go_quiet (fail); try go_wp2)
      go_ret
      exact ⟨rs_, by repeat (first | exact Drawn0.refl _ | apply Drawn0.step)⟩
    ·rw [if_neg m] at H; have K := decide_eq_false m; clear m; obtain rfl := Option.some.inj H; go_wp2
     repeat (go_quiet (fail); try go_wp2)
     go_ret
     exact ⟨rs_, by repeat (first | exact Drawn0.refl _ | apply Drawn0.step)⟩
 ·rw [if_neg c] at H; have D : ((l0.length : Int) == (b.length : Int)) = false := beq_eq_false_iff_ne.mpr c; have E : ((l0.length : Int) != (b.length : Int)) = true := bne_iff_ne.mpr c; have G : (l0.length == b.length) = false := by first | simpa using c | (simp at c ⊢; omega)
  obtain rfl := Option.some.inj H; go_enter Try.func70, Try.ntmps70; go_wp2
  repeat (go_quiet (fail); try go_wp2)
  go_ret
  exact ⟨rs_, by repeat (first | exact Drawn0.refl _ | apply Drawn0.step)⟩

/-! ### laws_markIntS: function 71 -/
def laws_markIntS.l0 : Nat → List Int → Int → Int → Option (Int × List Int)
 | 0, _, _, _ => none
 | k + 1, x0, x1, x5 => if x5 < (x0.length : Int) then (if 0 ≤ x5 then (laws_markIntS.l0 k (x0.set (x5 : Int).toNat x1) (wrap64 (x1 + 1)) (wrap64 (x5 + 1))) else (none)) else (some (x1, x0))
def laws_markIntS.f (k : Nat) (l0 : List Int) (a1 : Int) : Option (Int × List Int) := laws_markIntS.l0 k l0 a1 0
theorem laws_markIntS.mono_l : ∀ k, (∀ a b c, LeO (laws_markIntS.l0 k a b c) (laws_markIntS.l0 (k + 1) a b c))
 | 0 => fun _ _ _ r h => by simp [laws_markIntS.l0] at h
 | k + 1 => by
  have ih0 := laws_markIntS.mono_l k
  ·intro a b c; unfold laws_markIntS.l0; exact mo_
theorem laws_markIntS.mono : ∀ a b k, LeO (laws_markIntS.f k a b) (laws_markIntS.f (k + 1) a b) := by
 intro a b k; have ih0 := laws_markIntS.mono_l k; unfold laws_markIntS.f; exact mo_
set_option maxHeartbeats 8000000 in
set_option maxRecDepth 100000 in
theorem laws_markIntS.calls (k : Nat) (c : Nat → Prop) (l : Value) (l0 : List Int) (q : Int) (m : Int) (n : List Int) (a w : World) (hB : Below a.heap.size a w) (I : Kd.R (Kd.int .i64) 3 w a.heap.size c l l0) (h : laws_markIntS.f k l0 q = some (m, n)) :
  Calls Try.prog 71 #[l, .int .i64 q] w fun e w' => e = .returned (.int .i64 m) ∧ Kd.R (Kd.int .i64) 3 w' a.heap.size (fun k_ => (c k_ ∨ w.heap.size ≤ k_)) l n ∧ Below a.heap.size a w' ∧ Kept w w' (fun k_ => c k_) := by
 have J := am (show Kd.R (Kd.int .i64) 3 w a.heap.size (fun k_ => (c k_ ∨ w.heap.size ≤ k_)) l l0 from Kd.R_mono I (fun k_ hk => (.inl hk))); have HK := am (Kept.refl w (fun k_ => c k_)); have HW0 := am hB.size; have HB := am hB; clear hB
 have H : (laws_markIntS.l0 k l0 q 0) = some (m, n) := h
 clear h; have H' := am H; clear H; go_enter Try.func71, Try.ntmps71; go_wp2
 go_loopg [1, 5] k (fun kq K L w' => ∃ (i : List Int) (g : Int) (b : Int), K = .int .i64 g ∧ L = .int .i64 b ∧ Aside0 (laws_markIntS.l0 kq i g b = some (m, n)) ∧ Aside0 (kq ≤ k) ∧ Aside0 (Kd.R (Kd.int .i64) 3 w' a.heap.size (fun k_ => (c k_ ∨ w.heap.size ≤ k_)) l i) ∧ Aside0 (Kept w w' (fun k_ => c k_)) ∧ Aside0 (Below a.heap.size a w'))
 case atStart => exact ⟨(l0), (q), (0), rs_, rs_, H', ⟨Nat.le_refl _⟩, ⟨onR J⟩, ⟨by repeat (first | (with_reducible first | exact HK.out | apply Kept.alloc | apply Kept.drewN | apply Kept.drew) | exact HK.out)⟩, ⟨bn HB⟩⟩
 case round =>
  clear H'; obtain ⟨i, g, b, rfl, rfl, HA, B, d, HK, HB⟩ := hrel; cases gk with
  | zero => exact absurd HA.out (by simp [laws_markIntS.l0])
  | succ k1 =>
   have H := HA.out; clear HA; simp only [laws_markIntS.l0] at H; by_cases j : b < (i.length : Int)
   ·rw [if_pos j] at H; have M := decide_eq_true j; clear j; obtain ⟨Z, H⟩ := id_ H; obtain ⟨s, u⟩ : ∃ y_ : List Int, y_ = (i.set (b : Int).toNat g) := ⟨_, rfl⟩; replace H : (laws_markIntS.l0 k1 s (wrap64 (g + 1)) (wrap64 (b + 1))) = some (m, n) := nh_ u H; have O := am u; clear u; have H' := am H; clear H; obtain ⟨Ao6, P, T⟩ := Kd.R_slice d.out; subst T; have x : 0 ≤ (b : Int) := oa; have y : (b : Int) < ((i.length : Int) : Int) := oa; obtain ⟨o, co5, D, E, U, cl5, G⟩ := Kd.R_form d.out (by omega); (first | cases D | (injection D with ea_ en_ ec_; (first | subst ea_ | (injection ea_ with ea_; subst ea_)); subst ec_; clear en_)); have W := am E; have GG5 := am G; clear E U G; have aa := am (show (c o ∨ w.heap.size ≤ o) from (d.out.1 _ rfl)); obtain ⟨ab, ad⟩ := Kd.R_celln 0 d.out (b : Int) x y; obtain ⟨x, y⟩ := e2_ x y; have z := Kd.R_putg d.out (b : Int) g
    go_wp2_with (first | ((with_reducible refine gate_store (t := 3) (p := 15) rfl ?_); refine store_event (t := 3) (p := 15) (v := ?vo_w8) (w1 := (wr.setCell ⟨o, (b : Int).toNat, none⟩ (.int .i64 g))) ?hg ?ho ?hn ?hr ?_; (case ho => rfl); (case hg => rfl); (case hn => rfl); (case hr => first | (go_simp; done) | (go_simp; rfl)); intro A hw; have hg : wr.grownBy A (some o) := (by rw [hw]; exact z.2); have hp_ : Kd.R (Kd.int .i64) 3 A a.heap.size (fun k_ => (c k_ ∨ w.heap.size ≤ k_)) (.slice (some ⟨o, 0, none⟩) i.length P) s := (by rw [hw, O.out]; exact z.1); clear z; replace HB := am (by rw [hw]; exact below_set (HB.out) W.out : Below a.heap.size a A); replace HK := am (Kept.of_grown (S := (fun k_ => c k_)) hg (by repeat (first | (with_reducible first | exact HK.out | apply Kept.alloc | apply Kept.drewN | apply Kept.drew) | exact HK.out)) (fun k_ X => (d.out.1 k_ X))); replace d := am hp_; clear hg hw hp_))
    go_roundg k1
    case measure => have := B.out; omega
    case rel => exact ⟨(s), (wrap64 (g + 1)), (wrap64 (b + 1)), rs_, rs_, H', ⟨by have := B.out; omega⟩, ⟨onR d⟩, ⟨by repeat (first | (with_reducible first | exact HK.out | apply Kept.alloc | apply Kept.drewN | apply Kept.drew) | exact HK.out)⟩, ⟨bn HB⟩⟩
   ·rw [if_neg j] at H; have M := decide_eq_false j; clear j; simp only [Option.some.injEq, Prod.mk.injEq] at H; obtain ⟨rfl, rfl⟩ := H; obtain ⟨Ao9, co9, Y⟩ := Kd.R_slice d.out; subst Y; go_wp2
    go_ret
    exact ⟨er_, onR d, bn HB, by repeat (first | (with_reducible first | exact HK.out | apply Kept.alloc | apply Kept.drewN | apply Kept.drew) | exact HK.out)⟩

/-! ### laws_heldIntS: function 72 -/
def laws_heldIntS.l0 : Nat → List Int → Int → Int → Option (Int)
 | 0, _, _, _ => none
 | k + 1, x0, x1, x5 => if x5 < (x0.length : Int) then (if 0 ≤ x5 then (if (rd x0 x5) = x1 then (laws_heldIntS.l0 k x0 (wrap64 (x1 + 1)) (wrap64 (x5 + 1))) else (some (-1))) else (none)) else (some x1)
def laws_heldIntS.f (k : Nat) (l0 : List Int) (a1 : Int) : Option (Int) := laws_heldIntS.l0 k l0 a1 0
theorem laws_heldIntS.mono_l : ∀ k, (∀ a b c, LeO (laws_heldIntS.l0 k a b c) (laws_heldIntS.l0 (k + 1) a b c))
 | 0 => fun _ _ _ r h => by simp [laws_heldIntS.l0] at h
 | k + 1 => by
  have ih0 := laws_heldIntS.mono_l k
  ·intro a b c; unfold laws_heldIntS.l0; exact mo_
theorem laws_heldIntS.mono : ∀ a b k, LeO (laws_heldIntS.f k a b) (laws_heldIntS.f (k + 1) a b) := by
 intro a b k; have ih0 := laws_heldIntS.mono_l k; unfold laws_heldIntS.f; exact mo_
set_option maxHeartbeats 8000000 in
set_option maxRecDepth 100000 in
theorem laws_heldIntS.calls (k : Nat) (m : Option Addr) (n : Nat) (l0 : List Int) (j : Int) (r : Int) (w : World) (o : Kd.C (Kd.int .i64) w m l0.length l0) (p : l0.length ≤ n) (h : laws_heldIntS.f k l0 j = some r) :
  Calls Try.prog 72 #[.slice m l0.length n, .int .i64 j] w fun e w' => e = .returned (.int .i64 r) ∧ Drawn0 w w' := by
 have q := am o; have HC0 := am p; clear o p
 have H : (laws_heldIntS.l0 k l0 j 0) = some r := h
 clear h; have H' := am H; clear H; go_enter Try.func72, Try.ntmps72; go_wp2
 go_loopg [1, 5] k (fun kq t u w' => ∃ (b : Int) (a : Int), t = .int .i64 b ∧ u = .int .i64 a ∧ Aside0 (laws_heldIntS.l0 kq l0 b a = some r) ∧ Aside0 (kq ≤ k) ∧ Drawn0 w w')
 case atStart => exact ⟨(j), (0), rs_, rs_, H', ⟨Nat.le_refl _⟩, by repeat (first | exact Drawn0.refl _ | apply Drawn0.step)⟩
 case round =>
  clear H'; obtain ⟨b, a, rfl, rfl, HA, s, ⟨m1, rfl⟩⟩ := hrel; cases gk with
  | zero => exact absurd HA.out (by simp [laws_heldIntS.l0])
  | succ k1 =>
   have H := HA.out; clear HA; simp only [laws_heldIntS.l0] at H; by_cases i : a < (l0.length : Int)
   ·rw [if_pos i] at H; have x := decide_eq_true i; clear i; obtain ⟨D, H⟩ := id_ H; by_cases c : (rd l0 a) = b
    ·rw [if_pos c] at H; have y : ((rd l0 a) == b) = true := beq_iff_eq.mpr c; have z : ((rd l0 a) != b) = false := bne_eq_false_iff_eq.mpr c; clear c; have H' := am H; clear H; have d : 0 ≤ (a : Int) := oa; have g : a < (l0.length : Int) := oa; obtain ⟨A, l, B⟩ := Kd.at_int q.out a d g; cases l; obtain ⟨d, g⟩ := e2_ d g; go_wp2
     go_roundg k1
     case measure => have := s.out; omega
     case rel => exact ⟨(wrap64 (b + 1)), (wrap64 (a + 1)), rs_, rs_, H', ⟨by have := s.out; omega⟩, by repeat (first | exact Drawn0.refl _ | apply Drawn0.step)⟩
    ·rw [if_neg c] at H; have y : ((rd l0 a) == b) = false := beq_eq_false_iff_ne.mpr c; have z : ((rd l0 a) != b) = true := bne_iff_ne.mpr c; obtain rfl := Option.some.inj H; have d : 0 ≤ (a : Int) := oa; have g : a < (l0.length : Int) := oa; obtain ⟨A, l, B⟩ := Kd.at_int q.out a d g; cases l; obtain ⟨d, g⟩ := e2_ d g; go_wp2
     go_ret
     exact ⟨rs_, by repeat (first | exact Drawn0.refl _ | apply Drawn0.step)⟩
   ·rw [if_neg i] at H; have x := decide_eq_false i; clear i; obtain rfl := Option.some.inj H; go_wp2
    go_ret
    exact ⟨rs_, by repeat (first | exact Drawn0.refl _ | apply Drawn0.step)⟩

end Go.Proofs.Ythmddmobfkfgeaa.F
