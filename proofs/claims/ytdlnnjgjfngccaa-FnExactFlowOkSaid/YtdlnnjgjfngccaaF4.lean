-- By oprint.py.
import Derived.Test.YtdlnnjgjfngccaaF0
namespace Go.Proofs.Ytdlnnjgjfngccaa.F
open Go.RowKit Go.Proofs.YtdlnnjgjfngccaaW.PrintWords Go.Proofs.YtdlnnjgjfngccaaW.PrintLast Go.Proofs.YtdlnnjgjfngccaaW.PrintMore
attribute [local go_sem] max2_int min2_int max_two min_two max_three min_three max_four min_four
set_option linter.unusedVariables false
set_option linter.unusedSimpArgs false

/-! ### laws_toIntS: function 38 -/
def laws_toIntS.l0 : Nat → List Int → List Int → Int → Option (List Int)
 | 0, _, _, _ => none
 | k + 1, x0, x3, x4 => if x4 < (x0.length : Int) then (if 0 ≤ x4 then (if x4 < (x3.length : Int) then (laws_toIntS.l0 k x0 (x3.set (x4 : Int).toNat (rd x0 x4)) (wrap64 (x4 + 1))) else (none)) else (none)) else (some x3)
def laws_toIntS.f (k : Nat) (l0 : List Int) : Option (List Int) := if 0 ≤ (l0.length : Int) then (if ((l0.length : Int) : Int).toNat ≤ 35184372088832 then (laws_toIntS.l0 k l0 (List.replicate ((l0.length : Int) : Int).toNat 0) 0) else (none)) else (none)
theorem laws_toIntS.mono_l : ∀ k, (∀ a b c, LeO (laws_toIntS.l0 k a b c) (laws_toIntS.l0 (k + 1) a b c))
 | 0 => fun _ _ _ r h => by simp [laws_toIntS.l0] at h
 | k + 1 => by
  have ih0 := laws_toIntS.mono_l k
  ·intro a b c; unfold laws_toIntS.l0; exact mo_
theorem laws_toIntS.mono : ∀ a k, LeO (laws_toIntS.f k a) (laws_toIntS.f (k + 1) a) := by
 intro a k; have ih0 := laws_toIntS.mono_l k; unfold laws_toIntS.f; exact mo_
set_option maxHeartbeats 8000000 in
set_option maxRecDepth 100000 in
theorem laws_toIntS.calls (k : Nat) (z : Option Addr) (A : Nat) (l0 : List Int) (r : List Int) (w : World) (B : Kd.C (Kd.int .i64) w z l0.length l0) (D : l0.length ≤ A) (h : laws_toIntS.f k l0 = some r) :
  Calls Try.prog 38 #[.slice z l0.length A] w fun e w' => ∃ E : Value, e = .returned (E) ∧ Kd.R (Kd.int .i64) 3 w' w.heap.size (fun _ => True) E r ∧ Below w.heap.size w w' := by
 have P := am B; have HC0 := am D; clear B D; have HB := am (Below.refl w.heap.size w)
 have H : (if 0 ≤ (l0.length : Int) then (if ((l0.length : Int) : Int).toNat ≤ 35184372088832 then (laws_toIntS.l0 k l0 (List.replicate ((l0.length : Int) : Int).toNat 0) 0) else (none)) else (none)) = some r := h
 clear h; obtain ⟨c2, H⟩ := ig_ H; have T := eq_true c2; have U := decide_eq_true c2; clear c2; obtain ⟨i, H⟩ := ig_ H; have W := eq_true i; have X := decide_eq_true i; clear i; obtain ⟨G, j⟩ : ∃ y_ : List Int, y_ = (List.replicate ((l0.length : Int) : Int).toNat 0) := ⟨_, rfl⟩; replace H : (laws_toIntS.l0 k l0 G 0) = some r := nh_ j H; have I := am j; clear j; have H' := am H; clear H; go_enter Try.func38, Try.ntmps38
 go_wp2_with (first | ((with_reducible refine gate_dst (N := 7) rfl ?_); refine Kd.R_make (Kd.int .i64) _ 3 rfl (N := 7) rfl 40 _ _ rfl (l0.length : Int) rfl rfl Try.underlying40 (.int .i64 0) 8 info3 rfl (by decide) (by omega) 0 (ok := fun _ => True) (okp := fun _ => True) rfl (fun _ hk => hk) trivial (oa) (Nat.le_trans (Nat.mul_le_mul_right _ (oa : (l0.length : Int).toNat ≤ 35184372088832)) (by omega)) (Below.refl _ _) (Nat.le_refl _) ?_; intro Y w4 g hb Z aa; clear Z aa; (first | rw [← I.out] at g | (simp only [Int.reduceToNat] at g; rw [← I.out] at g)); have ab := am (Kd.R_lower g (below_size (bn HB))); replace HB := bs HB hb; clear hb g))
 go_loopg [4] k (fun kq v4 w' => ∃ (b : List Int) (a : Int), v4 = .int .i64 a ∧ Aside0 (laws_toIntS.l0 kq l0 b a = some r) ∧ Aside0 (kq ≤ k) ∧ Aside0 (Kd.R (Kd.int .i64) 3 w' w.heap.size (fun _ => True) Y b) ∧ Aside0 (Below w.heap.size w w'))
 case atStart => exact ⟨(G), (0), rs_, H', ⟨Nat.le_refl _⟩, ⟨onR ab⟩, ⟨bn HB⟩⟩
 case round =>
  clear H'; (try clear c2 T U i W X); obtain ⟨b, a, rfl, HA, J, c, HB⟩ := hrel; cases gk with
  | zero => exact absurd HA.out (by simp [laws_toIntS.l0])
  | succ k1 =>
   have H := HA.out; clear HA; simp only [laws_toIntS.l0] at H; by_cases d : a < (l0.length : Int)
   ·rw [if_pos d] at H; have ad := decide_eq_true d; clear d; obtain ⟨aj, H⟩ := id_ H; obtain ⟨ak, H⟩ := id_ H; obtain ⟨l, m⟩ : ∃ y_ : List Int, y_ = (b.set (a : Int).toNat (rd l0 a)) := ⟨_, rfl⟩; replace H : (laws_toIntS.l0 k1 l0 l (wrap64 (a + 1))) = some r := nh_ m H; have ae := am m; clear m; have H' := am H; clear H; have n : 0 ≤ (a : Int) := oa; have o : a < (l0.length : Int) := oa; obtain ⟨al, af, K⟩ := Kd.at_int P.out a n o; cases af; replace K := hc_ HB K; obtain ⟨n, o⟩ := e2_ n o; have q : 0 ≤ (a : Int) := oa; have s : (a : Int) < ((b.length : Int) : Int) := oa; obtain ⟨u, ag, L, M, ah, cl9, O⟩ := Kd.R_form c.out (by omega); (first | cases L | (injection L with ea_ en_ ec_; (first | subst ea_ | (injection ea_ with ea_; subst ea_)); subst ec_; clear en_)); have ai := am M; have GG9 := am O; clear M ah O; obtain ⟨an, ap⟩ := Kd.R_celln 0 c.out (a : Int) q s; obtain ⟨q, s⟩ := e2_ q s; have x := Kd.R_putg c.out (a : Int) (rd l0 a)
    go_wp2_with (first | ((with_reducible refine gate_store (t := 3) (p := 20) rfl ?_); refine store_event (t := 3) (p := 20) (v := ?vo_w11) (w1 := (wr.setCell ⟨u, (a : Int).toNat, none⟩ (.int .i64 (rd l0 a)))) ?hg ?ho ?hn ?hr ?_; (case ho => rfl); (case hg => rfl); (case hn => rfl); (case hr => first | (go_simp; done) | (go_simp; rfl)); intro y hw; have hg : wr.grownBy y (some u) := (by rw [hw]; exact x.2); have hp_ : Kd.R (Kd.int .i64) 3 y w.heap.size (fun _ => True) (.slice (some ⟨u, 0, none⟩) b.length ag) l := (by rw [hw, ae.out]; exact x.1); clear x; replace c := am hp_; replace HB := am (by rw [hw]; exact below_set (HB.out) ai.out : Below w.heap.size w y); clear hg hw hp_))
    go_roundg k1
    case measure => have := J.out; omega
    case rel => exact ⟨(l), (wrap64 (a + 1)), rs_, H', ⟨by have := J.out; omega⟩, ⟨onR c⟩, ⟨bn HB⟩⟩
   ·rw [if_neg d] at H; have ad := decide_eq_false d; clear d; obtain rfl := Option.some.inj H; go_wp2
    go_ret
    exact ⟨_, er_, onR c, bn HB⟩

end Go.Proofs.Ytdlnnjgjfngccaa.F
