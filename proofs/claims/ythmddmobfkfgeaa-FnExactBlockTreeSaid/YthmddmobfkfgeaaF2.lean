-- By oprint.py.
import Derived.Test.YthmddmobfkfgeaaF0
namespace Go.Proofs.Ythmddmobfkfgeaa.F
open Go.RowKit Go.Proofs.YthmddmobfkfgeaaW.PrintWords Go.Proofs.YthmddmobfkfgeaaW.PrintLast Go.Proofs.YthmddmobfkfgeaaW.PrintMore
attribute [local go_sem] max2_int min2_int max_two min_two max_three min_three max_four min_four
set_option linter.unusedVariables false
set_option linter.unusedSimpArgs false

/-! ### laws_szTieS: function 83 -/
def laws_szTieS.f (l0 : List (S26)) (a1 : Int) : Option (Int) := if (wrap64 (a1 - (l0.length : Int))) < 0 then (some (-1)) else (some (wrap64 (a1 - (l0.length : Int))))
set_option maxHeartbeats 8000000 in
set_option maxRecDepth 100000 in
theorem laws_szTieS.calls (d : Option Addr) (g : Nat) (a : List (S26)) (c : Int) (r : Int) (w : World) (i : Kd.C k26 w d a.length a) (j : a.length ≤ g) (h : laws_szTieS.f a c = some r) :
  Calls Try.prog 83 #[.slice d a.length g, .int .i64 c] w fun e w' => e = .returned (.int .i64 r) ∧ Drawn0 w w' := by
 have HR0 := am i; have HC0 := am j; clear i j
 have H : (if (wrap64 (c - (a.length : Int))) < 0 then (some (-1)) else (some (wrap64 (c - (a.length : Int))))) = some r := h
 clear h; by_cases b : (wrap64 (c - (a.length : Int))) < 0
 ·rw [if_pos b] at H; have l := decide_eq_true b; clear b; obtain rfl := Option.some.inj H; go_enter Try.func83, Try.ntmps83; go_wp2
  go_ret
  exact ⟨rs_, by repeat (first | exact Drawn0.refl _ | apply Drawn0.step)⟩
 ·rw [if_neg b] at H; have l := decide_eq_false b; clear b; obtain rfl := Option.some.inj H; go_enter Try.func83, Try.ntmps83; go_wp2
  go_ret
  exact ⟨rs_, by repeat (first | exact Drawn0.refl _ | apply Drawn0.step)⟩

/-! ### laws_szNet: function 24 -/
def laws_szNet.f (a0_0 : Int) (l0_1 : List (S26)) (a1 : Int) : Option (Int) := (laws_szTieS.f l0_1 a1).bind fun t102 => (if t102 < 0 then (some (-1)) else (some t102))
set_option maxHeartbeats 8000000 in
set_option maxRecDepth 100000 in
theorem laws_szNet.calls (j : Int) (c : Option Addr) (d : Nat) (a : List (S26)) (b : Int) (r : Int) (w : World) (m : Kd.C k26 w c a.length a) (n : a.length ≤ d) (h : laws_szNet.f j a b = some r) :
  Calls Try.prog 24 #[.agg #[.int .i64 j, .slice c a.length d], .int .i64 b] w fun e w' => e = .returned (.int .i64 r) ∧ Below w.heap.size w w' := by
 have x := Try.underlying24; have o := am m; have p := am n; clear m n; have HB := am (Below.refl w.heap.size w)
 have H : ((laws_szTieS.f a b).bind fun g => (if g < 0 then (some (-1)) else (some g))) = some r := h
 clear h; obtain ⟨g, q, H⟩ := bi_ H; by_cases i : g < 0
 ·rw [if_pos i] at H; have s := decide_eq_true i; clear i; obtain rfl := Option.some.inj H; go_enter Try.func24, Try.ntmps24
  go_wp2_with (first | ((with_reducible refine gate_dst (N := 2) rfl ?_); refine bx_ 2 #[.int .i64 j, .slice c a.length d] 24 HB ?_; clear HB; intro t hg w5 hb l u HB; clear hb hg; have y := c2 l) | ((with_reducible refine gate_callee (f := 83) rfl ?_); refine gl_ (some 8) Try.func83 #[.slice c a.length d, .int .i64 b] ?_; (with_reducible refine (laws_szTieS.calls _ _ a b g _ ?z_1 ?z_2 q.out).mono ?_); (case z_1 => exact cb o HB); (case z_2 => exact p.out); rintro e w' ⟨rfl, ⟨nd, rfl⟩⟩; refine ⟨_, rfl, ?_⟩))
  go_ret
  exact ⟨er_, bn HB⟩
 ·rw [if_neg i] at H; have s := decide_eq_false i; clear i; obtain rfl := Option.some.inj H; go_enter Try.func24, Try.ntmps24
  go_wp2_with (first | ((with_reducible refine gate_dst (N := 2) rfl ?_); refine bx_ 2 #[.int .i64 j, .slice c a.length d] 24 HB ?_; clear HB; intro t hg w7 hb l u HB; clear hb hg; have z := c2 l) | ((with_reducible refine gate_callee (f := 83) rfl ?_); refine gl_ (some 8) Try.func83 #[.slice c a.length d, .int .i64 b] ?_; (with_reducible refine (laws_szTieS.calls _ _ a b g _ ?z_1 ?z_2 q.out).mono ?_); (case z_1 => exact cb o HB); (case z_2 => exact p.out); rintro e w' ⟨rfl, ⟨nd, rfl⟩⟩; refine ⟨_, rfl, ?_⟩))
  go_ret
  exact ⟨er_, bn HB⟩

/-! ### laws_toTie: function 27 -/
def laws_toTie.f (a0_0 : Int) (a0_1 : Int) : Option (Int × Int) := some (a0_0, a0_1)
set_option maxHeartbeats 8000000 in
set_option maxRecDepth 100000 in
theorem laws_toTie.calls (b : Int) (c : Int) (g : Int) (i : Int) (w : World) (h : laws_toTie.f b c = some (g, i)) :
  Calls Try.prog 27 #[.agg #[.int .i64 b, .int .i64 c]] w fun e w' => e = .returned (.agg #[.int .i64 g, .int .i64 i]) ∧ Below w.heap.size w w' := by
 have t := Try.underlying26; have u := Try.underlying33; have HB := am (Below.refl w.heap.size w)
 have H : (some (b, c)) = some (g, i) := h
 clear h; simp only [Option.some.injEq, Prod.mk.injEq] at H; obtain ⟨rfl, rfl⟩ := H; go_enter Try.func27, Try.ntmps27
 go_wp2_with (first | ((with_reducible refine gate_dst (N := 1) rfl ?_); refine bx_ 1 #[.int .i64 b, .int .i64 c] 26 HB ?_; clear HB; intro x hg w2 hb a y HB; clear hb hg) | ((with_reducible refine gate_dst (N := 2) rfl ?_); refine bx_ 2 #[.int .i64 0, .int .i64 0] 33 HB ?_; clear HB; intro l hg w3 hb d z HB; obtain ⟨m, n⟩ := nb_ hg a; replace a := bb a hb; clear hb hg) | ((with_reducible refine gate_dst (N := 3) rfl ?_); refine bx_ 3 #[.int .i64 0, .int .i64 0] 33 HB ?_; clear HB; intro A hg w4 hb o B HB; obtain ⟨p, q⟩ := nb_ hg a; replace a := bb a hb; obtain ⟨j, s⟩ := nb_ hg d; replace d := bb d hb; clear hb hg; have D := n2 m n; have E := n2 p q; have G := c2 a; have I := n2 s j; have J := c2 o; have K := c2 d))
 refine bodyPost_ret (results_cell_row rfl _ _ l 33 #[.int .i64 b, .int .i64 c] (0, 0) _ rfl (by (with_reducible repeat (first | refine blk_drewN ?_ _ | refine blk_drew ?_ | refine blk_alloc ?_ _)); refine blk_put (cs := #[.int .i64 b, .int .i64 0]) ?_ 1 _ rfl; (with_reducible repeat (first | refine blk_drewN ?_ _ | refine blk_drew ?_ | refine blk_alloc ?_ _)); refine blk_put (cs := #[.int .i64 0, .int .i64 0]) ?_ 0 _ rfl; (with_reducible repeat (first | refine blk_drewN ?_ _ | refine blk_drew ?_ | refine blk_alloc ?_ _)); refine blk_far ?_ j.out _; (with_reducible repeat (first | refine blk_drewN ?_ _ | refine blk_drew ?_ | refine blk_alloc ?_ _)); refine blk_far ?_ j.out _; (with_reducible repeat (first | refine blk_drewN ?_ _ | refine blk_drew ?_ | refine blk_alloc ?_ _)); exact d.out) Try.underlying33 rfl (by kernel_rfl)) rfl ?_; exact ⟨er_, bn HB⟩

/-! ### laws_toTieS: function 84 -/
def laws_toTieS.l0 : Nat → List (S26) → List (S33) → Int → Option ((List (S33)))
 | 0, _, _, _ => none
 | k + 1, x0, x3, x4 => if x4 < (x0.length : Int) then (if 0 ≤ x4 then ((laws_toTie.f ((rd_T26 x0 x4).f0) ((rd_T26 x0 x4).f1)).bind fun bt237 => (if x4 < (x3.length : Int) then (laws_toTieS.l0 k x0 (x3.set (x4 : Int).toNat (⟨bt237.1, bt237.2⟩ : S33)) (wrap64 (x4 + 1))) else (none))) else (none)) else (some x3)
def laws_toTieS.f (k : Nat) (l0 : List (S26)) : Option ((List (S33))) := if 0 ≤ (l0.length : Int) then (if ((l0.length : Int) : Int).toNat ≤ 17592186044416 then (laws_toTieS.l0 k l0 (List.replicate ((l0.length : Int) : Int).toNat z33) 0) else (none)) else (none)
theorem laws_toTieS.mono_l : ∀ k, (∀ a b c, LeO (laws_toTieS.l0 k a b c) (laws_toTieS.l0 (k + 1) a b c))
 | 0 => fun _ _ _ r h => by simp [laws_toTieS.l0] at h
 | k + 1 => by
  have ih0 := laws_toTieS.mono_l k
  ·intro a b c; unfold laws_toTieS.l0; exact mo_
theorem laws_toTieS.mono : ∀ a k, LeO (laws_toTieS.f k a) (laws_toTieS.f (k + 1) a) := by
 intro a k; have ih0 := laws_toTieS.mono_l k; unfold laws_toTieS.f; exact mo_
set_option maxHeartbeats 8000000 in
set_option maxRecDepth 100000 in
theorem laws_toTieS.calls (k : Nat) (L : Option Addr) (M : Nat) (l0 : List (S26)) (r : List (S33)) (w : World) (O : Kd.C k26 w L l0.length l0) (P : l0.length ≤ M) (h : laws_toTieS.f k l0 = some r) :
  Calls Try.prog 84 #[.slice L l0.length M] w fun e w' => ∃ T : Value, e = .returned (T) ∧ Kd.R k33 33 w' w.heap.size (fun _ => True) T r ∧ Below w.heap.size w w' := by
 have aG := Try.underlying26; have aH := Try.underlying33; have ak := am O; have HC0 := am P; clear O P; have HB := am (Below.refl w.heap.size w)
 have H : (if 0 ≤ (l0.length : Int) then (if ((l0.length : Int) : Int).toNat ≤ 17592186044416 then (laws_toTieS.l0 k l0 (List.replicate ((l0.length : Int) : Int).toNat z33) 0) else (none)) else (none)) = some r := h
 clear h; obtain ⟨c2, H⟩ := ig_ H; have al := eq_true c2; have an := decide_eq_true c2; clear c2; obtain ⟨q, H⟩ := ig_ H; have ap := eq_true q; have aq := decide_eq_true q; clear q; obtain ⟨U, u⟩ : ∃ y_ : List (S33), y_ = (List.replicate ((l0.length : Int) : Int).toNat z33) := ⟨_, rfl⟩; replace H : (laws_toTieS.l0 k l0 U 0) = some r := nh_ u H; have W := am u; clear u; have H' := am H; clear H; go_enter Try.func84, Try.ntmps84
 go_wp2_with (first | ((with_reducible refine gate_dst (N := 7) rfl ?_); refine Kd.R_make k33 _ 33 rfl (N := 7) rfl 29 _ _ rfl (l0.length : Int) rfl rfl Try.underlying29 (.agg #[(.int .i64 0), (.int .i64 0)]) 16 info33 rfl (by decide) (by omega) z33 (ok := fun _ => True) (okp := fun _ => True) (k33_mkM _ _ _ z33 ) (fun _ hk => hk) trivial (oa) (Nat.le_trans (Nat.mul_le_mul_right _ (oa : (l0.length : Int).toNat ≤ 17592186044416)) (by omega)) (Below.refl _ _) (Nat.le_refl _) ?_; intro ar w4 n hb au av; clear au av; (first | rw [← W.out] at n | (simp only [Int.reduceToNat] at n; rw [← W.out] at n)); have aw := am (Kd.R_lower n (below_size (bn HB))); replace HB := bs HB hb; clear hb n))
 go_loopg [4] k (fun kq v4 w' => ∃ (b : List (S33)) (a : Int), v4 = .int .i64 a ∧ Aside0 (laws_toTieS.l0 kq l0 b a = some r) ∧ Aside0 (kq ≤ k) ∧ Aside0 (Kd.R k33 33 w' w.heap.size (fun _ => True) ar b) ∧ Aside0 (Below w.heap.size w w'))
 case atStart => exact ⟨(U), (0), rs_, H', ⟨Nat.le_refl _⟩, ⟨onR aw⟩, ⟨bn HB⟩⟩
 case round =>
  clear H'; (try clear c2 al an q ap aq); obtain ⟨b, a, rfl, HA, X, c, HB⟩ := hrel; cases gk with
  | zero => exact absurd HA.out (by simp [laws_toTieS.l0])
  | succ k1 =>
   have H := HA.out; clear HA; simp only [laws_toTieS.l0] at H; by_cases i : a < (l0.length : Int)
   ·rw [if_pos i] at H; have ax := decide_eq_true i; clear i; obtain ⟨aI, H⟩ := id_ H; obtain ⟨⟨l, m⟩, A8, H⟩ := bi_ H; (try dsimp only at H); obtain ⟨aJ, H⟩ := id_ H; obtain ⟨x, y⟩ : ∃ y_ : List (S33), y_ = (b.set (a : Int).toNat (⟨l, m⟩ : S33)) := ⟨_, rfl⟩; replace H : (laws_toTieS.l0 k1 l0 x (wrap64 (a + 1))) = some r := nh_ y H; have ay := am y; clear y; have H' := am H; clear H; have z : 0 ≤ (a : Int) := oa; have A : a < (l0.length : Int) := oa; obtain ⟨aK, az, Y, Z⟩ := at_T26 ak.out a z A; cases az; replace Y := hc_ HB Y; replace Z := hc_ HB Z; obtain ⟨z, A⟩ := e2_ z A
    go_wp2_with (first | ((with_reducible refine gate_callee (f := 27) rfl ?_); refine gl_ (some 20) Try.func27 #[.agg #[.int .i64 ((rd_T26 l0 a).f0), .int .i64 ((rd_T26 l0 a).f1)]] ?_; (with_reducible refine (laws_toTie.calls ((rd_T26 l0 a).f0) ((rd_T26 l0 a).f1) l m _ A8.out).mono ?_); rintro e g ⟨rfl, hb⟩; refine ⟨_, rfl, ?_⟩; replace c := am (Kd.R_below (onR c) hb); replace HB := bs HB hb; (try clear hb); have B : 0 ≤ (a : Int) := oa; have D : (a : Int) < ((b.length : Int) : Int) := oa; obtain ⟨d, aa, ab, ad, aA, aL, ae⟩ := Kd.R_form c.out (by omega); (first | cases ab | (injection ab with ea_ en_ ec_; (first | subst ea_ | (injection ea_ with ea_; subst ea_)); subst ec_; clear en_)); have af := am ad; have aM := am ae; clear ad aA ae; obtain ⟨aN, aB, ag, E, G⟩ := Kd.R_elem c.out z33 (a : Int) B D; obtain rfl := k33_openM ag; have aO : g.cell? ⟨d, (a : Int).toNat * 2, none⟩ = some (.int .i64 ((rd_T33 b a).f0)) := E 0 _ rfl; have aP : g.cell? ⟨d, (a : Int).toNat * 2 + 1, none⟩ = some (.int .i64 ((rd_T33 b a).f1)) := E 1 _ rfl; have aQ : g.frozen? ⟨d, (a : Int).toNat * 2, none⟩ = false := G 0; have aR : g.frozen? ⟨d, (a : Int).toNat * 2 + 1, none⟩ = false := G 1; clear aB E G; (try clear ag); obtain ⟨B, D⟩ := e2_ B D; have ah := am (show Kd.R k33 33 g w.heap.size (fun _ => True) (.slice (some ⟨d, 0, none⟩) b.length aa) b from (onR c)); obtain ⟨aS, ai, aj, s, I⟩ := Kd.R_elem ah.out z33 (a : Int) (oa) (by have o : (a : Int) < ((b.length : Int) : Int) := oa; first | exact o | (have e_ := (Kd.R_reads' c.out).1; omega) | simpa using o); obtain rfl := k33_openM aj; have J := Kd.R_seg ah.out (a : Int) (oa) (by have o : (a : Int) < ((b.length : Int) : Int) := oa; first | exact o | (have e_ := (Kd.R_reads' c.out).1; omega) | simpa using o) (seg := [.int .i64 l, .int .i64 m]) (j := 0) ai s (show 2 ≤ 2 from by decide) (x' := (⟨l, m⟩ : S33)) (k33_mkM _ _ _ (⟨l, m⟩ : S33) ) (fun _ hk => hk); have aC := s 0 _ rfl; (try simp only [show (k33).sz = 2 from rfl, Nat.mul_one, Nat.add_zero] at aC); have aD := I 0; (try simp only [show (k33).sz = 2 from rfl, Nat.mul_one, Nat.add_zero] at aD); have aE := s 1 _ rfl; (try simp only [show (k33).sz = 2 from rfl, Nat.mul_one, Nat.add_zero] at aE); have aF := I 1; (try simp only [show (k33).sz = 2 from rfl, Nat.mul_one, Nat.add_zero] at aF); clear ai s I; (try clear aj)) | ((with_reducible refine gate_store (t := 33) (p := 21) rfl ?_); refine store_event (t := 33) (p := 21) (v := ?vo_w13) (w1 := ((g.setCell ⟨d, (a : Int).toNat * 2, none⟩ (.int .i64 l)).setCell ⟨d, (a : Int).toNat * 2 + 1, none⟩ (.int .i64 m))) ?hg ?ho ?hn ?hr ?_; (case ho => rfl); (case hg => rfl); (case hn => rfl); (case hr => first | (go_simp; done) | (go_simp; rfl)); intro K hw; have hg : g.grownBy K (some d) := (by rw [hw]; exact J.2); have hp_ : Kd.R k33 33 K w.heap.size (fun _ => True) (.slice (some ⟨d, 0, none⟩) b.length aa) x := (by rw [hw, ay.out]; exact J.1); clear J; replace c := am hp_; replace HB := am ((by rw [hw]; exact below_set (below_set (HB.out) af.out) af.out : Below w.heap.size w K)); clear hg hw hp_))
    go_roundg k1
    case measure => have := X.out; omega
    case rel => exact ⟨(x), (wrap64 (a + 1)), rs_, H', ⟨by have := X.out; omega⟩, ⟨onR c⟩, ⟨bn HB⟩⟩
   ·rw [if_neg i] at H; have ax := decide_eq_false i; clear i; obtain rfl := Option.some.inj H; go_wp2
    go_ret
    exact ⟨_, er_, onR c, bn HB⟩

/-! ### laws_toNet: function 26 -/
def laws_toNet.f (k : Nat) (a0_0 : Int) (l0_1 : List (S26)) : Option (Int × (List (S33))) := (laws_toTieS.f k l0_1).bind fun t243 => (some (a0_0, t243))
theorem laws_toNet.mono : ∀ a b k, LeO (laws_toNet.f k a b) (laws_toNet.f (k + 1) a b) := by
 intro a b k; unfold laws_toNet.f; have m0_ := @laws_toTieS.mono; exact mo_
set_option maxHeartbeats 8000000 in
set_option maxRecDepth 100000 in
theorem laws_toNet.calls (k : Nat) (d : Int) (j : Option Addr) (l : Nat) (a : List (S26)) (m : Int) (n : List (S33)) (w : World) (t : Kd.C k26 w j a.length a) (u : a.length ≤ l) (h : laws_toNet.f k d a = some (m, n)) :
  Calls Try.prog 26 #[.agg #[.int .i64 d, .slice j a.length l]] w fun e w' => ∃ x : Value, e = .returned (.agg #[.int .i64 m, x]) ∧ Kd.R k33 33 w' w.heap.size (fun _ => True) x n ∧ Below w.heap.size w w' := by
 have P := Try.underlying24; have T := Try.underlying31; have B := am t; have D := am u; clear t u; have HB := am (Below.refl w.heap.size w)
 have H : ((laws_toTieS.f k a).bind fun g => (some (d, g))) = some (m, n) := h
 clear h; obtain ⟨g, E, H⟩ := bi_ H; simp only [Option.some.injEq, Prod.mk.injEq] at H; obtain ⟨rfl, rfl⟩ := H; go_enter Try.func26, Try.ntmps26
 go_wp2_with (first | ((with_reducible refine gate_dst (N := 1) rfl ?_); refine bx_ 1 #[.int .i64 d, .slice j a.length l] 24 HB ?_; clear HB; intro U hg w3 hb b W HB; clear hb hg) | ((with_reducible refine gate_dst (N := 2) rfl ?_); refine bx_ 2 #[.int .i64 0, .slice none 0 0] 31 HB ?_; clear HB; intro o hg w4 hb c X HB; obtain ⟨G, I⟩ := nb_ hg b; replace b := bb b hb; clear hb hg) | ((with_reducible refine gate_dst (N := 3) rfl ?_); refine bx_ 3 #[.int .i64 0, .slice none 0 0] 31 HB ?_; clear HB; intro J hg w5 hb i Y HB; obtain ⟨K, L⟩ := nb_ hg b; replace b := bb b hb; obtain ⟨y, M⟩ := nb_ hg c; replace c := bb c hb; clear hb hg; have Z := n2 G I; have aa := n2 K L; have ab := c2 b; have ad := n2 M y; have ae := c2 i) | ((with_reducible refine gate_callee (f := 84) rfl ?_); refine gl_ (some 9) Try.func84 #[.slice j a.length l] ?_; (with_reducible refine (laws_toTieS.calls k _ _ a g _ ?z_1 ?z_2 E.out).mono ?_); (case z_1 => exact Kd.C_below B.out (bn HB)); (case z_2 => exact D.out); rintro e w11 ⟨af, rfl, z, hb⟩; refine ⟨_, rfl, ?_⟩; have A := am (Kd.R_lower z (below_size (bn HB))); replace b := bb b hb; replace c := bb c hb; replace i := bb i hb; replace HB := bs HB hb; (try clear hb z); obtain ⟨q, s, O⟩ := Kd.R_slice A.out; subst O; have ag := c2 i; have ah := c2 c))
 refine bodyPost_ret (results_cell_row rfl _ _ o 31 #[.int .i64 d, .slice q g.length s] (0, 0) _ rfl (by (with_reducible repeat (first | refine blk_drewN ?_ _ | refine blk_drew ?_ | refine blk_alloc ?_ _)); refine blk_put (cs := #[.int .i64 d, .slice none 0 0]) ?_ 1 _ rfl; (with_reducible repeat (first | refine blk_drewN ?_ _ | refine blk_drew ?_ | refine blk_alloc ?_ _)); refine blk_put (cs := #[.int .i64 0, .slice none 0 0]) ?_ 0 _ rfl; (with_reducible repeat (first | refine blk_drewN ?_ _ | refine blk_drew ?_ | refine blk_alloc ?_ _)); refine blk_far ?_ y.out _; (with_reducible repeat (first | refine blk_drewN ?_ _ | refine blk_drew ?_ | refine blk_alloc ?_ _)); exact c.out) Try.underlying31 rfl (by kernel_rfl)) rfl ?_; exact ⟨_, er_, by (with_reducible repeat (first | apply Kd.R_alloc | apply Kd.R_drewN | apply Kd.R_drew)); exact Kd.R_mono (Kd.R_far (p := ⟨o, 1, none⟩) (Kd.R_far (p := ⟨o, 0, none⟩) (Kd.R_far (p := ⟨J, 1, none⟩) (Kd.R_types (Kd.R_types A.out i.out (by decide)) c.out (by decide)) (fun _ hk => hk.1.2) (.slice q g.length s)) (fun _ hk => hk.2) (.int .i64 d)) (fun _ hk => hk.2) (.slice q g.length s)) (fun _ hk => trivial), bn HB⟩

/-! ### laws_eqTie: function 115 -/
def laws_eqTie.f (a0_0 : Int) (a0_1 : Int) (a1_0 : Int) (a1_1 : Int) : Option (Bool) := if a0_0 = a1_0 then (if a0_1 = a1_1 then (some true) else (some false)) else (some false)
set_option maxHeartbeats 8000000 in
set_option maxRecDepth 100000 in
theorem laws_eqTie.calls (b : Int) (c : Int) (d : Int) (g : Int) (r : Bool) (w : World) (h : laws_eqTie.f b c d g = some r) :
  Calls Try.prog 115 #[.agg #[.int .i64 b, .int .i64 c], .agg #[.int .i64 d, .int .i64 g]] w fun e w' => e = .returned (.bool r) ∧ Below w.heap.size w w' := by
 have z := Try.underlying33; have HB := am (Below.refl w.heap.size w)
 have H : (if b = d then (if c = g then (some true) else (some false)) else (some false)) = some r := h
 clear h; by_cases i : b = d
 ·rw [if_pos i] at H; have t : (b == d) = true := beq_iff_eq.mpr i; have u : (b != d) = false := bne_eq_false_iff_eq.mpr i; clear i; by_cases j : c = g
  ·rw [if_pos j] at H; have x : (c == g) = true := beq_iff_eq.mpr j; have y : (c != g) = false := bne_eq_false_iff_eq.mpr j; clear j; obtain rfl := Option.some.inj H; go_enter Try.func115, Try.ntmps115
   go_wp2_with (first | ((with_reducible refine gate_dst (N := 2) rfl ?_); refine bx_ 2 #[.int .i64 b, .int .i64 c] 33 HB ?_; clear HB; intro o hg w5 hb a p HB; clear hb hg) | ((with_reducible refine gate_dst (N := 3) rfl ?_); refine bx_ 3 #[.int .i64 d, .int .i64 g] 33 HB ?_; clear HB; intro q hg w6 hb l s HB; obtain ⟨m, n⟩ := nb_ hg a; replace a := bb a hb; clear hb hg; have A := n2 m n; have B := c2 a; have D := c2 l))
   go_ret
   exact ⟨er_, bn HB⟩
  ·rw [if_neg j] at H; have x : (c == g) = false := beq_eq_false_iff_ne.mpr j; have y : (c != g) = true := bne_iff_ne.mpr j; obtain rfl := Option.some.inj H; go_enter Try.func115, Try.ntmps115
   go_wp2_with (first | ((with_reducible refine gate_dst (N := 2) rfl ?_); refine bx_ 2 #[.int .i64 b, .int .i64 c] 33 HB ?_; clear HB; intro o hg w10 hb a p HB; clear hb hg) | ((with_reducible refine gate_dst (N := 3) rfl ?_); refine bx_ 3 #[.int .i64 d, .int .i64 g] 33 HB ?_; clear HB; intro q hg w11 hb l s HB; obtain ⟨m, n⟩ := nb_ hg a; replace a := bb a hb; clear hb hg; have E := n2 m n; have G := c2 a; have I := c2 l))
   go_ret
   exact ⟨er_, bn HB⟩
 ·rw [if_neg i] at H; have t : (b == d) = false := beq_eq_false_iff_ne.mpr i; have u : (b != d) = true := bne_iff_ne.mpr i; obtain rfl := Option.some.inj H; go_enter Try.func115, Try.ntmps115
  go_wp2_with (first | ((with_reducible refine gate_dst (N := 2) rfl ?_); refine bx_ 2 #[.int .i64 b, .int .i64 c] 33 HB ?_; clear HB; intro o hg w15 hb a p HB; clear hb hg) | ((with_reducible refine gate_dst (N := 3) rfl ?_); refine bx_ 3 #[.int .i64 d, .int .i64 g] 33 HB ?_; clear HB; intro q hg w16 hb l s HB; obtain ⟨m, n⟩ := nb_ hg a; replace a := bb a hb; clear hb hg; have J := n2 m n; have K := c2 a; have L := c2 l))
  go_ret
  exact ⟨er_, bn HB⟩

/-! ### laws_eqTieS: function 64 -/
def laws_eqTieS.l0 : Nat → List (S33) → List (S33) → Int → Option (Bool)
 | 0, _, _, _ => none
 | k + 1, x0, x1, x5 => if x5 < (x0.length : Int) then (if 0 ≤ x5 then (if x5 < (x1.length : Int) then ((laws_eqTie.f ((rd_T33 x0 x5).f0) ((rd_T33 x0 x5).f1) ((rd_T33 x1 x5).f0) ((rd_T33 x1 x5).f1)).bind fun t331 => (if t331 = true then (laws_eqTieS.l0 k x0 x1 (wrap64 (x5 + 1))) else (some false))) else (none)) else (none)) else (some true)
def laws_eqTieS.f (k : Nat) (l0 : List (S33)) (l1 : List (S33)) : Option (Bool) := if (l0.length : Int) = (l1.length : Int) then (laws_eqTieS.l0 k l0 l1 0) else (some false)
theorem laws_eqTieS.mono_l : ∀ k, (∀ a b c, LeO (laws_eqTieS.l0 k a b c) (laws_eqTieS.l0 (k + 1) a b c))
 | 0 => fun _ _ _ r h => by simp [laws_eqTieS.l0] at h
 | k + 1 => by
  have ih0 := laws_eqTieS.mono_l k
  ·intro a b c; unfold laws_eqTieS.l0; exact mo_
theorem laws_eqTieS.mono : ∀ a b k, LeO (laws_eqTieS.f k a b) (laws_eqTieS.f (k + 1) a b) := by
 intro a b k; have ih0 := laws_eqTieS.mono_l k; unfold laws_eqTieS.f; exact mo_
def laws_eqTieS.T6 : Bool × List (List Nat × List Nat) := (true, [([], []), ([], []), ([0, 1], [0, 1]), ([2], [2]), ([], []), ([], []), ([4, 5], [4, 5]), ([6], [6]), ([3, 7], [3, 7]), ([8], [8])])
def laws_eqTieS.B6 : List Nat := [0, 0, 3, 7, 0, 0, 48, 112, 255, 511]
theorem laws_eqTieS.tab6 : rtab .any (opsOf Try.f64 6) = laws_eqTieS.T6 := by kernel_rfl
theorem laws_eqTieS.bits6 : waitsOk laws_eqTieS.T6.2 laws_eqTieS.B6 = true := by kernel_rfl
set_option maxHeartbeats 8000000 in
set_option maxRecDepth 100000 in
theorem laws_eqTieS.calls (k : Nat) (E : Option Addr) (G : Nat) (l0 : List (S33)) (I : Option Addr) (A : Nat) (b : List (S33)) (r : Bool) (w : World) (J : Kd.C k33 w E l0.length l0) (L : l0.length ≤ G) (M : Kd.C k33 w I b.length b) (O : b.length ≤ A) (h : laws_eqTieS.f k l0 b = some r) :
  Calls Try.prog 64 #[.slice E l0.length G, .slice I b.length A] w fun e w' => e = .returned (.bool r) ∧ Below w.heap.size w w' := by
 have af := Try.underlying33; have P := am J; have HC0 := am L; clear J L; have T := am M; have HC1 := am O; clear M O; have HB := am (Below.refl w.heap.size w)
 have H : (if (l0.length : Int) = (b.length : Int) then (laws_eqTieS.l0 k l0 b 0) else (some false)) = some r := h
 clear h; by_cases d : (l0.length : Int) = (b.length : Int)
 ·rw [if_pos d] at H; have U : ((l0.length : Int) == (b.length : Int)) = true := beq_iff_eq.mpr d; have W : ((l0.length : Int) != (b.length : Int)) = false := bne_eq_false_iff_eq.mpr d; have X : (l0.length == b.length) = true := by first | simpa using d | (simp at d ⊢; omega)
  clear d; have H' := am H; clear H; go_enter Try.func64, Try.ntmps64; go_wp2
  go_loopg [5] k (fun kq v5 w' => ∃ (a : Int), v5 = .int .i64 a ∧ Aside0 (laws_eqTieS.l0 kq l0 b a = some r) ∧ Aside0 (kq ≤ k) ∧ Aside0 (Below w.heap.size w w'))
  case atStart => exact ⟨(0), rs_, H', ⟨Nat.le_refl _⟩, ⟨bn HB⟩⟩
  case round =>
   clear H'; (try clear A d U W X); obtain ⟨a, rfl, HA, Y, HB⟩ := hrel; cases gk with
   | zero => exact absurd HA.out (by simp [laws_eqTieS.l0])
   | succ k1 =>
    have H := HA.out; clear HA; simp only [laws_eqTieS.l0] at H; by_cases s : a < (l0.length : Int)
    ·rw [if_pos s] at H; have aa := decide_eq_true s; clear s; obtain ⟨ag, H⟩ := id_ H; obtain ⟨ah, H⟩ := id_ H; obtain ⟨ab, Z, H⟩ := bi_ H; by_cases c8 : ab = true
     ·subst c8; rw [if_pos rfl] at H; have H' := am H; clear H; try go_wp2
      replace HB := dL HB; have n : 0 ≤ (a : Int) := oa; have o : a < (l0.length : Int) := oa; obtain ⟨ad, B, g, i⟩ := at_T33 P.out a n o; have t := i; have u := g; cases B; replace g := hc_ HB g; replace i := hc_ HB i; obtain ⟨n, o⟩ := e2_ n o; have p : 0 ≤ (a : Int) := oa; have q : a < (b.length : Int) := oa; obtain ⟨ae, D, j, l⟩ := at_T33 T.out a p q; have x := l; have y := j; cases D; replace j := hc_ HB j; replace l := hc_ HB l; obtain ⟨p, q⟩ := e2_ p q; refine s4_ 10 [] (hb_ HB u) (hb_ HB t) (hb_ HB y) (hb_ HB x) (fun m => ?_); refine with_tabW laws_eqTieS.tab6 laws_eqTieS.bits6 (fun c z => ?_); generalize wr.drew = w9 at HB g i j l m ⊢; refine pz_ 0 c ?_; refine pz_ 1 c ?_; refine pz_ 2 c ?_; refine pz_ 4 c ?_; refine pz_ 5 c ?_; refine pz_ 6 c ?_; refine tz_ 3 c z m ?_; refine tz_ 7 c z m ?_; refine on_ 8 c (fun K hK => ?_); refine gg_ Try.func115 #[.agg #[.int .i64 ((rd_T33 l0 a).f0), .int .i64 ((rd_T33 l0 a).f1)], .agg #[.int .i64 ((rd_T33 b a).f0), .int .i64 ((rd_T33 b a).f1)]] ?_
      with_reducible refine (laws_eqTie.calls ((rd_T33 l0 a).f0) ((rd_T33 l0 a).f1) ((rd_T33 b a).f0) ((rd_T33 b a).f1) true _ Z.out).mono ?_
      rintro e w10 ⟨rfl, hb⟩; refine ⟨_, rfl, ?_⟩; replace HB := bs HB hb; (try clear hb); refine hK.out _ _ ⟨(hb_ HB u), (hb_ HB t), (hb_ HB y), (hb_ HB x)⟩ (fun m => ?_); clear hK K; refine nz_ 25 ?_; refine pz_ 9 c ?_; refine done_ (done_of c.out (by kernel_rfl)) ?_; try go_wp2
      go_roundg k1
      case measure => have := Y.out; omega
      case rel => exact ⟨(wrap64 (a + 1)), rs_, H', ⟨by have := Y.out; omega⟩, ⟨bn HB⟩⟩
     ·obtain rfl := nt_ c8; rw [if_neg nf_] at H; obtain rfl := Option.some.inj H; try go_wp2
      replace HB := dL HB; have n : 0 ≤ (a : Int) := oa; have o : a < (l0.length : Int) := oa; obtain ⟨ad, B, g, i⟩ := at_T33 P.out a n o; have t := i; have u := g; cases B; replace g := hc_ HB g; replace i := hc_ HB i; obtain ⟨n, o⟩ := e2_ n o; have p : 0 ≤ (a : Int) := oa; have q : a < (b.length : Int) := oa; obtain ⟨ae, D, j, l⟩ := at_T33 T.out a p q; have x := l; have y := j; cases D; replace j := hc_ HB j; replace l := hc_ HB l; obtain ⟨p, q⟩ := e2_ p q; refine s4_ 10 [] (hb_ HB u) (hb_ HB t) (hb_ HB y) (hb_ HB x) (fun m => ?_); refine with_tabW laws_eqTieS.tab6 laws_eqTieS.bits6 (fun c z => ?_); generalize wr.drew = w11 at HB g i j l m ⊢; refine pz_ 0 c ?_; refine pz_ 1 c ?_; refine pz_ 2 c ?_; refine pz_ 4 c ?_; refine pz_ 5 c ?_; refine pz_ 6 c ?_; refine tz_ 3 c z m ?_; refine tz_ 7 c z m ?_; refine on_ 8 c (fun K hK => ?_); refine gg_ Try.func115 #[.agg #[.int .i64 ((rd_T33 l0 a).f0), .int .i64 ((rd_T33 l0 a).f1)], .agg #[.int .i64 ((rd_T33 b a).f0), .int .i64 ((rd_T33 b a).f1)]] ?_
      with_reducible refine (laws_eqTie.calls ((rd_T33 l0 a).f0) ((rd_T33 l0 a).f1) ((rd_T33 b a).f0) ((rd_T33 b a).f1) false _ Z.out).mono ?_
      rintro e w12 ⟨rfl, hb⟩; refine ⟨_, rfl, ?_⟩; replace HB := bs HB hb; (try clear hb); refine hK.out _ _ ⟨(hb_ HB u), (hb_ HB t), (hb_ HB y), (hb_ HB x)⟩ (fun m => ?_); clear hK K; refine nz_ 25 ?_; refine pz_ 9 c ?_; refine done_ (done_of c.out (by kernel_rfl)) ?_; try go_wp2
      go_ret
      exact ⟨er_, bn HB⟩
    ·rw [if_neg s] at H; have aa := decide_eq_false s; clear s; obtain rfl := Option.some.inj H; go_wp2
     go_ret
     exact ⟨er_, bn HB⟩
 ·rw [if_neg d] at H; have U : ((l0.length : Int) == (b.length : Int)) = false := beq_eq_false_iff_ne.mpr d; have W : ((l0.length : Int) != (b.length : Int)) = true := bne_iff_ne.mpr d; have X : (l0.length == b.length) = false := by first | simpa using d | (simp at d ⊢; omega)
  obtain rfl := Option.some.inj H; go_enter Try.func64, Try.ntmps64; go_wp2
  go_ret
  exact ⟨er_, bn HB⟩

/-! ### laws_eqNet: function 29 -/
def laws_eqNet.f (k : Nat) (a0_0 : Int) (l0_1 : List (S33)) (a1_0 : Int) (l1_1 : List (S33)) : Option (Bool) := if a0_0 = a1_0 then ((laws_eqTieS.f k l0_1 l1_1).bind fun t334 => (if t334 = true then (some true) else (some false))) else (some false)
theorem laws_eqNet.mono : ∀ a b c d k, LeO (laws_eqNet.f k a b c d) (laws_eqNet.f (k + 1) a b c d) := by
 intro a b c d k; unfold laws_eqNet.f; have m0_ := @laws_eqTieS.mono; exact mo_
set_option maxHeartbeats 8000000 in
set_option maxRecDepth 100000 in
theorem laws_eqNet.calls (k : Nat) (d : Int) (j : Option Addr) (l : Nat) (b : List (S33)) (g : Int) (m : Option Addr) (n : Nat) (c : List (S33)) (r : Bool) (w : World) (t : Kd.C k33 w j b.length b) (u : b.length ≤ l) (x : Kd.C k33 w m c.length c) (y : c.length ≤ n) (h : laws_eqNet.f k d b g c = some r) :
  Calls Try.prog 29 #[.agg #[.int .i64 d, .slice j b.length l], .agg #[.int .i64 g, .slice m c.length n]] w fun e w' => e = .returned (.bool r) ∧ Below w.heap.size w w' := by
 have P := Try.underlying31; have z := am t; have A := am u; clear t u; have B := am x; have D := am y; clear x y; have HB := am (Below.refl w.heap.size w)
 have H : (if d = g then ((laws_eqTieS.f k b c).bind fun s => (if s = true then (some true) else (some false))) else (some false)) = some r := h
 clear h; by_cases o : d = g
 ·rw [if_pos o] at H; have M : (d == g) = true := beq_iff_eq.mpr o; have O : (d != g) = false := bne_eq_false_iff_eq.mpr o; clear o; obtain ⟨s, E, H⟩ := bi_ H; by_cases G : s = true
  ·subst G; rw [if_pos rfl] at H; obtain rfl := Option.some.inj H; go_enter Try.func29, Try.ntmps29
   go_wp2_with (first | ((with_reducible refine gate_dst (N := 2) rfl ?_); refine bx_ 2 #[.int .i64 d, .slice j b.length l] 31 HB ?_; clear HB; intro I hg w6 hb a J HB; clear hb hg) | ((with_reducible refine gate_dst (N := 3) rfl ?_); refine bx_ 3 #[.int .i64 g, .slice m c.length n] 31 HB ?_; clear HB; intro K hg w7 hb i L HB; obtain ⟨p, q⟩ := nb_ hg a; replace a := bb a hb; clear hb hg; have T := n2 p q; have U := c2 a; have W := c2 i) | ((with_reducible refine gate_callee (f := 64) rfl ?_); refine gl_ (some 14) Try.func64 #[.slice j b.length l, .slice m c.length n] ?_; (with_reducible refine (laws_eqTieS.calls k _ _ b _ _ c true _ ?z_1 ?z_2 ?z_3 ?z_4 E.out).mono ?_); (case z_1 => exact cb z HB); (case z_2 => exact A.out); (case z_3 => exact cb B HB); (case z_4 => exact D.out); rintro e w11 ⟨rfl, hb⟩; refine ⟨_, rfl, ?_⟩; replace a := bb a hb; replace i := bb i hb; replace HB := bs HB hb; (try clear hb)))
   go_ret
   exact ⟨er_, bn HB⟩
  ·obtain rfl := nt_ G; rw [if_neg nf_] at H; obtain rfl := Option.some.inj H; go_enter Try.func29, Try.ntmps29
   go_wp2_with (first | ((with_reducible refine gate_dst (N := 2) rfl ?_); refine bx_ 2 #[.int .i64 d, .slice j b.length l] 31 HB ?_; clear HB; intro I hg w12 hb a J HB; clear hb hg) | ((with_reducible refine gate_dst (N := 3) rfl ?_); refine bx_ 3 #[.int .i64 g, .slice m c.length n] 31 HB ?_; clear HB; intro K hg w13 hb i L HB; obtain ⟨p, q⟩ := nb_ hg a; replace a := bb a hb; clear hb hg; have X := n2 p q; have Y := c2 a; have Z := c2 i) | ((with_reducible refine gate_callee (f := 64) rfl ?_); refine gl_ (some 14) Try.func64 #[.slice j b.length l, .slice m c.length n] ?_; (with_reducible refine (laws_eqTieS.calls k _ _ b _ _ c false _ ?z_1 ?z_2 ?z_3 ?z_4 E.out).mono ?_); (case z_1 => exact cb z HB); (case z_2 => exact A.out); (case z_3 => exact cb B HB); (case z_4 => exact D.out); rintro e w17 ⟨rfl, hb⟩; refine ⟨_, rfl, ?_⟩; replace a := bb a hb; replace i := bb i hb; replace HB := bs HB hb; (try clear hb)))
   go_ret
   exact ⟨er_, bn HB⟩
 ·rw [if_neg o] at H; have M : (d == g) = false := beq_eq_false_iff_ne.mpr o; have O : (d != g) = true := bne_iff_ne.mpr o; obtain rfl := Option.some.inj H; go_enter Try.func29, Try.ntmps29
  go_wp2_with (first | ((with_reducible refine gate_dst (N := 2) rfl ?_); refine bx_ 2 #[.int .i64 d, .slice j b.length l] 31 HB ?_; clear HB; intro I hg w18 hb a J HB; clear hb hg) | ((with_reducible refine gate_dst (N := 3) rfl ?_); refine bx_ 3 #[.int .i64 g, .slice m c.length n] 31 HB ?_; clear HB; intro K hg w19 hb i L HB; obtain ⟨p, q⟩ := nb_ hg a; replace a := bb a hb; clear hb hg; have aa := n2 p q; have ab := c2 a; have ad := c2 i))
  go_ret
  exact ⟨er_, bn HB⟩

end Go.Proofs.Ythmddmobfkfgeaa.F
