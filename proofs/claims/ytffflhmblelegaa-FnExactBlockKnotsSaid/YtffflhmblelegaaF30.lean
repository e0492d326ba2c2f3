-- By oprint.py.
import Derived.Test.YtffflhmblelegaaF0
import Derived.Test.YtffflhmblelegaaF35
import Derived.Test.YtffflhmblelegaaF4
import Derived.Test.YtffflhmblelegaaXMap
namespace Go.Proofs.Ytffflhmblelegaa.F
open Go.RowKit Go.Proofs.YtffflhmblelegaaW.PrintWords Go.Proofs.YtffflhmblelegaaW.PrintLast Go.Proofs.YtffflhmblelegaaW.PrintMore
attribute [local go_sem] max2_int min2_int max_two min_two max_three min_three max_four min_four
set_option linter.unusedVariables false
set_option linter.unusedSimpArgs false

/-! ### laws_szTieS: function 64 -/
def laws_szTieS.f (l0 : List (S117)) (a1 : Int) : Option (Int) := if (wrap64 (a1 - (l0.length : Int))) < 0 then (some (-1)) else (some (wrap64 (a1 - (l0.length : Int))))
set_option maxHeartbeats 8000000 in
set_option maxRecDepth 100000 in
theorem laws_szTieS.calls (d : Option Addr) (g : Nat) (a : List (S117)) (c : Int) (r : Int) (w : World) (i : Kd.C k117 w d a.length a) (j : a.length ≤ g) (h : laws_szTieS.f a c = some r) :
  Calls Try.prog 64 #[.slice d a.length g, .int .i64 c] w fun e w' => e = .returned (.int .i64 r) ∧ Drawn0 w w' := by
 have HR0 := am i; have HC0 := am j; clear i j
 have H : (if (wrap64 (c - (a.length : Int))) < 0 then (some (-1)) else (some (wrap64 (c - (a.length : Int))))) = some r := h
 clear h; by_cases b : (wrap64 (c - (a.length : Int))) < 0
 ·rw [if_pos b] at H; have l := decide_eq_true b; clear b; obtain rfl := Option.some.inj H; go_enter Try.func64, Try.ntmps64; go_wp2
  go_ret
  exact ⟨rs_, by repeat (first | exact Drawn0.refl _ | apply Drawn0.step)⟩
 ·rw [if_neg b] at H; have l := decide_eq_false b; clear b; obtain rfl := Option.some.inj H; go_enter Try.func64, Try.ntmps64; go_wp2
  go_ret
  exact ⟨rs_, by repeat (first | exact Drawn0.refl _ | apply Drawn0.step)⟩

/-! ### laws_szNet: function 19 -/
def laws_szNet.f (a0_0 : Int) (l0_1 : List (S117)) (a1 : Int) : Option (Int) := (laws_szTieS.f l0_1 a1).bind fun t660 => (if t660 < 0 then (some (-1)) else (some t660))
set_option maxHeartbeats 8000000 in
set_option maxRecDepth 100000 in
theorem laws_szNet.calls (j : Int) (c : Option Addr) (d : Nat) (a : List (S117)) (b : Int) (r : Int) (w : World) (m : Kd.C k117 w c a.length a) (n : a.length ≤ d) (h : laws_szNet.f j a b = some r) :
  Calls Try.prog 19 #[.agg #[.int .i64 j, .slice c a.length d], .int .i64 b] w fun e w' => e = .returned (.int .i64 r) ∧ Below w.heap.size w w' := by
 have x := Try.underlying41; have o := am m; have p := am n; clear m n; have HB := am (Below.refl w.heap.size w)
 have H : ((laws_szTieS.f a b).bind fun g => (if g < 0 then (some (-1)) else (some g))) = some r := h
 clear h; obtain ⟨g, q, H⟩ := bi_ H; by_cases i : g < 0
 ·rw [if_pos i] at H; have s := decide_eq_true i; clear i; obtain rfl := Option.some.inj H; go_enter Try.func19, Try.ntmps19
  go_wp2_with (first | ((with_reducible refine gate_dst (N := 2) rfl ?_); refine bx_ 2 #[.int .i64 j, .slice c a.length d] 41 HB ?_; clear HB; intro t hg w5 hb l u HB; clear hb hg; have y := c2 l) | ((with_reducible refine gate_callee (f := 64) rfl ?_); refine gl_ (some 8) Try.func64 #[.slice c a.length d, .int .i64 b] ?_; (with_reducible refine (laws_szTieS.calls _ _ a b g _ ?z_1 ?z_2 q.out).mono ?_); (case z_1 => exact cb o HB); (case z_2 => exact p.out); rintro e w' ⟨rfl, ⟨nd, rfl⟩⟩; refine ⟨_, rfl, ?_⟩))
  go_ret
  exact ⟨er_, bn HB⟩
 ·rw [if_neg i] at H; have s := decide_eq_false i; clear i; obtain rfl := Option.some.inj H; go_enter Try.func19, Try.ntmps19
  go_wp2_with (first | ((with_reducible refine gate_dst (N := 2) rfl ?_); refine bx_ 2 #[.int .i64 j, .slice c a.length d] 41 HB ?_; clear HB; intro t hg w7 hb l u HB; clear hb hg; have z := c2 l) | ((with_reducible refine gate_callee (f := 64) rfl ?_); refine gl_ (some 8) Try.func64 #[.slice c a.length d, .int .i64 b] ?_; (with_reducible refine (laws_szTieS.calls _ _ a b g _ ?z_1 ?z_2 q.out).mono ?_); (case z_1 => exact cb o HB); (case z_2 => exact p.out); rintro e w' ⟨rfl, ⟨nd, rfl⟩⟩; refine ⟨_, rfl, ?_⟩))
  go_ret
  exact ⟨er_, bn HB⟩

/-! ### laws_toTie: function 103 -/
def laws_toTie.f (a0_0 : Int) (a0_1 : Int) : Option (Int × Int) := some (a0_0, a0_1)
set_option maxHeartbeats 8000000 in
set_option maxRecDepth 100000 in
theorem laws_toTie.calls (b : Int) (c : Int) (g : Int) (i : Int) (w : World) (h : laws_toTie.f b c = some (g, i)) :
  Calls Try.prog 103 #[.agg #[.int .i64 b, .int .i64 c]] w fun e w' => e = .returned (.agg #[.int .i64 g, .int .i64 i]) ∧ Below w.heap.size w w' := by
 have t := Try.underlying117; have u := Try.underlying52; have HB := am (Below.refl w.heap.size w)
 have H : (some (b, c)) = some (g, i) := h
 clear h; simp only [Option.some.injEq, Prod.mk.injEq] at H; obtain ⟨rfl, rfl⟩ := H; go_enter Try.func103, Try.ntmps103
 go_wp2_with (first | ((with_reducible refine gate_dst (N := 1) rfl ?_); refine bx_ 1 #[.int .i64 b, .int .i64 c] 117 HB ?_; clear HB; intro x hg w2 hb a y HB; clear hb hg) | ((with_reducible refine gate_dst (N := 2) rfl ?_); refine bx_ 2 #[.int .i64 0, .int .i64 0] 52 HB ?_; clear HB; intro l hg w3 hb d z HB; obtain ⟨m, n⟩ := nb_ hg a; replace a := bb a hb; clear hb hg) | ((with_reducible refine gate_dst (N := 3) rfl ?_); refine bx_ 3 #[.int .i64 0, .int .i64 0] 52 HB ?_; clear HB; intro A hg w4 hb o B HB; obtain ⟨p, q⟩ := nb_ hg a; replace a := bb a hb; obtain ⟨j, s⟩ := nb_ hg d; replace d := bb d hb; clear hb hg; have D := n2 m n; have E := n2 p q; have G := c2 a; have I := n2 s j; have J := c2 o; have K := c2 d))
 refine bodyPost_ret (results_cell_row rfl _ _ l 52 #[.int .i64 b, .int .i64 c] (0, 0) _ rfl (by (with_reducible repeat (first | refine blk_drewN ?_ _ | refine blk_drew ?_ | refine blk_alloc ?_ _)); refine blk_put (cs := #[.int .i64 b, .int .i64 0]) ?_ 1 _ rfl; (with_reducible repeat (first | refine blk_drewN ?_ _ | refine blk_drew ?_ | refine blk_alloc ?_ _)); refine blk_put (cs := #[.int .i64 0, .int .i64 0]) ?_ 0 _ rfl; (with_reducible repeat (first | refine blk_drewN ?_ _ | refine blk_drew ?_ | refine blk_alloc ?_ _)); refine blk_far ?_ j.out _; (with_reducible repeat (first | refine blk_drewN ?_ _ | refine blk_drew ?_ | refine blk_alloc ?_ _)); refine blk_far ?_ j.out _; (with_reducible repeat (first | refine blk_drewN ?_ _ | refine blk_drew ?_ | refine blk_alloc ?_ _)); exact d.out) Try.underlying52 rfl (by kernel_rfl)) rfl ?_; exact ⟨er_, bn HB⟩

/-! ### laws_toTieS: function 66 -/
def laws_toTieS.l0 : Nat → List (S117) → List (S52) → Int → Option ((List (S52)))
 | 0, _, _, _ => none
 | k + 1, x0, x3, x4 => if x4 < (x0.length : Int) then (if 0 ≤ x4 then ((laws_toTie.f ((rd_T117 x0 x4).f0) ((rd_T117 x0 x4).f1)).bind fun bt756 => (if x4 < (x3.length : Int) then (laws_toTieS.l0 k x0 (x3.set (x4 : Int).toNat (⟨bt756.1, bt756.2⟩ : S52)) (wrap64 (x4 + 1))) else (none))) else (none)) else (some x3)
def laws_toTieS.f (k : Nat) (l0 : List (S117)) : Option ((List (S52))) := if 0 ≤ (l0.length : Int) then (if ((l0.length : Int) : Int).toNat ≤ 17592186044416 then (laws_toTieS.l0 k l0 (List.replicate ((l0.length : Int) : Int).toNat z52) 0) else (none)) else (none)
theorem laws_toTieS.mono_l : ∀ k, (∀ a b c, LeO (laws_toTieS.l0 k a b c) (laws_toTieS.l0 (k + 1) a b c))
 | 0 => fun _ _ _ r h => by simp [laws_toTieS.l0] at h
 | k + 1 => by
  have ih0 := laws_toTieS.mono_l k
  ·intro a b c; unfold laws_toTieS.l0; exact mo_
theorem laws_toTieS.mono : ∀ a k, LeO (laws_toTieS.f k a) (laws_toTieS.f (k + 1) a) := by
 intro a k; have ih0 := laws_toTieS.mono_l k; unfold laws_toTieS.f; exact mo_
set_option maxHeartbeats 8000000 in
set_option maxRecDepth 100000 in
theorem laws_toTieS.calls (k : Nat) (L : Option Addr) (M : Nat) (l0 : List (S117)) (r : List (S52)) (w : World) (O : Kd.C k117 w L l0.length l0) (P : l0.length ≤ M) (h : laws_toTieS.f k l0 = some r) :
  Calls Try.prog 66 #[.slice L l0.length M] w fun e w' => ∃ T : Value, e = .returned (T) ∧ Kd.R k52 52 w' w.heap.size (fun _ => True) T r ∧ Below w.heap.size w w' := by
 have aG := Try.underlying117; have aH := Try.underlying52; have ak := am O; have HC0 := am P; clear O P; have HB := am (Below.refl w.heap.size w)
 have H : (if 0 ≤ (l0.length : Int) then (if ((l0.length : Int) : Int).toNat ≤ 17592186044416 then (laws_toTieS.l0 k l0 (List.replicate ((l0.length : Int) : Int).toNat z52) 0) else (none)) else (none)) = some r := h
 clear h; obtain ⟨c2, H⟩ := ig_ H; have al := eq_true c2; have an := decide_eq_true c2; clear c2; obtain ⟨q, H⟩ := ig_ H; have ap := eq_true q; have aq := decide_eq_true q; clear q; obtain ⟨U, u⟩ : ∃ y_ : List (S52), y_ = (List.replicate ((l0.length : Int) : Int).toNat z52) := ⟨_, rfl⟩; replace H : (laws_toTieS.l0 k l0 U 0) = some r := nh_ u H; have W := am u; clear u; have H' := am H; clear H; go_enter Try.func66, Try.ntmps66
 go_wp2_with (first | ((with_reducible refine gate_dst (N := 7) rfl ?_); refine Kd.R_make k52 _ 52 rfl (N := 7) rfl 23 _ _ rfl (l0.length : Int) rfl rfl Try.underlying23 (.agg #[(.int .i64 0), (.int .i64 0)]) 16 info52 rfl (by decide) (by omega) z52 (ok := fun _ => True) (okp := fun _ => True) (k52_mkM _ _ _ z52 ) (fun _ hk => hk) trivial (oa) (Nat.le_trans (Nat.mul_le_mul_right _ (oa : (l0.length : Int).toNat ≤ 17592186044416)) (by omega)) (Below.refl _ _) (Nat.le_refl _) ?_; intro ar w4 n hb au av; clear au av; (first | rw [← W.out] at n | (simp only [Int.reduceToNat] at n; rw [← W.out] at n)); have aw := am (Kd.R_lower n (below_size (bn HB))); replace HB := bs HB hb; clear hb n))
 go_loopg [4] k (fun kq v4 w' => ∃ (b : List (S52)) (a : Int), v4 = .int .i64 a ∧ Aside0 (laws_toTieS.l0 kq l0 b a = some r) ∧ Aside0 (kq ≤ k) ∧ Aside0 (Kd.R k52 52 w' w.heap.size (fun _ => True) ar b) ∧ Aside0 (Below w.heap.size w w'))
 case atStart => exact ⟨(U), (0), rs_, H', ⟨Nat.le_refl _⟩, ⟨onR aw⟩, ⟨bn HB⟩⟩
 case round =>
  clear H'; (try clear c2 al an q ap aq); obtain ⟨b, a, rfl, HA, X, c, HB⟩ := hrel; cases gk with
  | zero => exact absurd HA.out (by simp [laws_toTieS.l0])
  | succ k1 =>
   have H := HA.out; clear HA; simp only [laws_toTieS.l0] at H; by_cases i : a < (l0.length : Int)
   ·rw [if_pos i] at H; have ax := decide_eq_true i; clear i; obtain ⟨aI, H⟩ := id_ H; obtain ⟨⟨l, m⟩, A8, H⟩ := bi_ H; (try dsimp only at H); obtain ⟨aJ, H⟩ := id_ H; obtain ⟨x, y⟩ : ∃ y_ : List (S52), y_ = (b.set (a : Int).toNat (⟨l, m⟩ : S52)) := ⟨_, rfl⟩; replace H : (laws_toTieS.l0 k1 l0 x (wrap64 (a + 1))) = some r := nh_ y H; have ay := am y; clear y; have H' := am H; clear H; have z : 0 ≤ (a : Int) := oa; have A : a < (l0.length : Int) := oa; obtain ⟨aK, az, Y, Z⟩ := at_T117 ak.out a z A; cases az; replace Y := hc_ HB Y; replace Z := hc_ HB Z; obtain ⟨z, A⟩ := e2_ z A
    go_wp2_with (first | ((with_reducible refine gate_callee (f := 103) rfl ?_); refine gl_ (some 20) Try.func103 #[.agg #[.int .i64 ((rd_T117 l0 a).f0), .int .i64 ((rd_T117 l0 a).f1)]] ?_; (with_reducible refine (laws_toTie.calls ((rd_T117 l0 a).f0) ((rd_T117 l0 a).f1) l m _ A8.out).mono ?_); rintro e g ⟨rfl, hb⟩; refine ⟨_, rfl, ?_⟩; replace c := am (Kd.R_below (onR c) hb); replace HB := bs HB hb; (try clear hb); have B : 0 ≤ (a : Int) := oa; have D : (a : Int) < ((b.length : Int) : Int) := oa; obtain ⟨d, aa, ab, ad, aA, aL, ae⟩ := Kd.R_form c.out (by omega); (first | cases ab | (injection ab with ea_ en_ ec_; (first | subst ea_ | (injection ea_ with ea_; subst ea_)); subst ec_; clear en_)); have af := am ad; have aM := am ae; clear ad aA ae; obtain ⟨aN, aB, ag, E, G⟩ := Kd.R_elem c.out z52 (a : Int) B D; obtain rfl := k52_openM ag; have aO : g.cell? ⟨d, (a : Int).toNat * 2, none⟩ = some (.int .i64 ((rd_T52 b a).f0)) := E 0 _ rfl; have aP : g.cell? ⟨d, (a : Int).toNat * 2 + 1, none⟩ = some (.int .i64 ((rd_T52 b a).f1)) := E 1 _ rfl; have aQ : g.frozen? ⟨d, (a : Int).toNat * 2, none⟩ = false := G 0; have aR : g.frozen? ⟨d, (a : Int).toNat * 2 + 1, none⟩ = false := G 1; clear aB E G; (try clear ag); obtain ⟨B, D⟩ := e2_ B D; have ah := am (show Kd.R k52 52 g w.heap.size (fun _ => True) (.slice (some ⟨d, 0, none⟩) b.length aa) b from (onR c)); obtain ⟨aS, ai, aj, s, I⟩ := Kd.R_elem ah.out z52 (a : Int) (oa) (by have o : (a : Int) < ((b.length : Int) : Int) := oa; first | exact o | (have e_ := (Kd.R_reads' c.out).1; omega) | simpa using o); obtain rfl := k52_openM aj; have J := Kd.R_seg ah.out (a : Int) (oa) (by have o : (a : Int) < ((b.length : Int) : Int) := oa; first | exact o | (have e_ := (Kd.R_reads' c.out).1; omega) | simpa using o) (seg := [.int .i64 l, .int .i64 m]) (j := 0) ai s (show 2 ≤ 2 from by decide) (x' := (⟨l, m⟩ : S52)) (k52_mkM _ _ _ (⟨l, m⟩ : S52) ) (fun _ hk => hk); have aC := s 0 _ rfl; (try simp only [show (k52).sz = 2 from rfl, Nat.mul_one, Nat.add_zero] at aC); have aD := I 0; (try simp only [show (k52).sz = 2 from rfl, Nat.mul_one, Nat.add_zero] at aD); have aE := s 1 _ rfl; (try simp only [show (k52).sz = 2 from rfl, Nat.mul_one, Nat.add_zero] at aE); have aF := I 1; (try simp only [show (k52).sz = 2 from rfl, Nat.mul_one, Nat.add_zero] at aF); clear ai s I; (try clear aj)) | ((with_reducible refine gate_store (t := 52) (p := 21) rfl ?_); refine store_event (t := 52) (p := 21) (v := ?vo_w13) (w1 := ((g.setCell ⟨d, (a : Int).toNat * 2, none⟩ (.int .i64 l)).setCell ⟨d, (a : Int).toNat * 2 + 1, none⟩ (.int .i64 m))) ?hg ?ho ?hn ?hr ?_; (case ho => rfl); (case hg => rfl); (case hn => rfl); (case hr => first | (go_simp; done) | (go_simp; rfl)); intro K hw; have hg : g.grownBy K (some d) := (by rw [hw]; exact J.2); have hp_ : Kd.R k52 52 K w.heap.size (fun _ => True) (.slice (some ⟨d, 0, none⟩) b.length aa) x := (by rw [hw, ay.out]; exact J.1); clear J; replace c := am hp_; replace HB := am ((by rw [hw]; exact below_set (below_set (HB.out) af.out) af.out : Below w.heap.size w K)); clear hg hw hp_))
    go_roundg k1
    case measure => have := X.out; omega
    case rel => exact ⟨(x), (wrap64 (a + 1)), rs_, H', ⟨by have := X.out; omega⟩, ⟨onR c⟩, ⟨bn HB⟩⟩
   ·rw [if_neg i] at H; have ax := decide_eq_false i; clear i; obtain rfl := Option.some.inj H; go_wp2
    go_ret
    exact ⟨_, er_, onR c, bn HB⟩

/-! ### laws_toNet: function 21 -/
def laws_toNet.f (k : Nat) (a0_0 : Int) (l0_1 : List (S117)) : Option (Int × (List (S52))) := (laws_toTieS.f k l0_1).bind fun t762 => (some (a0_0, t762))
theorem laws_toNet.mono : ∀ a b k, LeO (laws_toNet.f k a b) (laws_toNet.f (k + 1) a b) := by
 intro a b k; unfold laws_toNet.f; have m0_ := @laws_toTieS.mono; exact mo_
set_option maxHeartbeats 8000000 in
set_option maxRecDepth 100000 in
theorem laws_toNet.calls (k : Nat) (d : Int) (j : Option Addr) (l : Nat) (a : List (S117)) (m : Int) (n : List (S52)) (w : World) (t : Kd.C k117 w j a.length a) (u : a.length ≤ l) (h : laws_toNet.f k d a = some (m, n)) :
  Calls Try.prog 21 #[.agg #[.int .i64 d, .slice j a.length l]] w fun e w' => ∃ x : Value, e = .returned (.agg #[.int .i64 m, x]) ∧ Kd.R k52 52 w' w.heap.size (fun _ => True) x n ∧ Below w.heap.size w w' := by
 have P := Try.underlying41; have T := Try.underlying25; have B := am t; have D := am u; clear t u; have HB := am (Below.refl w.heap.size w)
 have H : ((laws_toTieS.f k a).bind fun g => (some (d, g))) = some (m, n) := h
 clear h; obtain ⟨g, E, H⟩ := bi_ H; simp only [Option.some.injEq, Prod.mk.injEq] at H; obtain ⟨rfl, rfl⟩ := H; go_enter Try.func21, Try.ntmps21
 go_wp2_with (first | ((with_reducible refine gate_dst (N := 1) rfl ?_); refine bx_ 1 #[.int .i64 d, .slice j a.length l] 41 HB ?_; clear HB; intro U hg w3 hb b W HB; clear hb hg) | ((with_reducible refine gate_dst (N := 2) rfl ?_); refine bx_ 2 #[.int .i64 0, .slice none 0 0] 25 HB ?_; clear HB; intro o hg w4 hb c X HB; obtain ⟨G, I⟩ := nb_ hg b; replace b := bb b hb; clear hb hg) | ((with_reducible refine gate_dst (N := 3) rfl ?_); refine bx_ 3 #[.int .i64 0, .slice none 0 0] 25 HB ?_; clear HB; intro J hg w5 hb i Y HB; obtain ⟨K, L⟩ := nb_ hg b; replace b := bb b hb; obtain ⟨y, M⟩ := nb_ hg c; replace c := bb c hb; clear hb hg; have Z := n2 G I; have aa := n2 K L; have ab := c2 b; have ad := n2 M y; have ae := c2 i) | ((with_reducible refine gate_callee (f := 66) rfl ?_); refine gl_ (some 9) Try.func66 #[.slice j a.length l] ?_; (with_reducible refine (laws_toTieS.calls k _ _ a g _ ?z_1 ?z_2 E.out).mono ?_); (case z_1 => exact Kd.C_below B.out (bn HB)); (case z_2 => exact D.out); rintro e w11 ⟨af, rfl, z, hb⟩; refine ⟨_, rfl, ?_⟩; have A := am (Kd.R_lower z (below_size (bn HB))); replace b := bb b hb; replace c := bb c hb; replace i := bb i hb; replace HB := bs HB hb; (try clear hb z); obtain ⟨q, s, O⟩ := Kd.R_slice A.out; subst O; have ag := c2 i; have ah := c2 c))
 refine bodyPost_ret (results_cell_row rfl _ _ o 25 #[.int .i64 d, .slice q g.length s] (0, 0) _ rfl (by (with_reducible repeat (first | refine blk_drewN ?_ _ | refine blk_drew ?_ | refine blk_alloc ?_ _)); refine blk_put (cs := #[.int .i64 d, .slice none 0 0]) ?_ 1 _ rfl; (with_reducible repeat (first | refine blk_drewN ?_ _ | refine blk_drew ?_ | refine blk_alloc ?_ _)); refine blk_put (cs := #[.int .i64 0, .slice none 0 0]) ?_ 0 _ rfl; (with_reducible repeat (first | refine blk_drewN ?_ _ | refine blk_drew ?_ | refine blk_alloc ?_ _)); refine blk_far ?_ y.out _; (with_reducible repeat (first | refine blk_drewN ?_ _ | refine blk_drew ?_ | refine blk_alloc ?_ _)); exact c.out) Try.underlying25 rfl (by kernel_rfl)) rfl ?_; exact ⟨_, er_, by (with_reducible repeat (first | apply Kd.R_alloc | apply Kd.R_drewN | apply Kd.R_drew)); exact Kd.R_mono (Kd.R_far (p := ⟨o, 1, none⟩) (Kd.R_far (p := ⟨o, 0, none⟩) (Kd.R_far (p := ⟨J, 1, none⟩) (Kd.R_types (Kd.R_types A.out i.out (by decide)) c.out (by decide)) (fun _ hk => hk.1.2) (.slice q g.length s)) (fun _ hk => hk.2) (.int .i64 d)) (fun _ hk => hk.2) (.slice q g.length s)) (fun _ hk => trivial), bn HB⟩

/-! ### impl_BlockList: function 22 -/
mutual
def impl_BlockList.l0 : Nat → List (List (S52)) → List (S52) → Int → Int → Int → List (S52) → Int → Option ((List (List (S52))))
 | 0, _, _, _, _, _, _, _ => none
 | k + 1, x3, x17, x18, x19, x797000, x797001, x803000 => if x19 < x18 then (if 0 ≤ x19 then (if x19 < (x17.length : Int) then ((impl_mapHas.f x803000 ((rd_T52 x17 x19).f0) ((rd_T52 x17 x19).f1)).bind fun bt805 => (if bt805.1 = true then (impl_BlockList.l0 k x3 x17 x18 (wrap64 (x19 + 1)) x797000 x797001 bt805.2) else ((impl_Net_block.f k x797000 x797001 ((rd_T52 x17 x19).f0) ((rd_T52 x17 x19).f1)).bind fun t807 => (impl_BlockList.l1 k x3 t807 x17 x18 x19 t807 (t807.length : Int) 0 x797000 x797001 bt805.2)))) else (none)) else (none)) else (some x3)
def impl_BlockList.l1 : Nat → List (List (S52)) → List (S52) → List (S52) → Int → Int → List (S52) → Int → Int → Int → List (S52) → Int → Option ((List (List (S52))))
 | 0, _, _, _, _, _, _, _, _, _, _, _ => none
 | k + 1, x3, x7, x17, x18, x19, x29, x30, x31, x797000, x797001, x803000 => if x31 < x30 then (if 0 ≤ x31 then (if x31 < (x29.length : Int) then ((impl_mapAdd.f x803000 ((rd_T52 x29 x31).f0) ((rd_T52 x29 x31).f1)).bind fun t812 => (impl_BlockList.l1 k x3 x7 x17 x18 x19 x29 x30 (wrap64 (x31 + 1)) x797000 x797001 t812)) else (none)) else (none)) else (if x3.length < 5864062014805 then (impl_BlockList.l0 k (x3 ++ [x7]) x17 x18 (wrap64 (x19 + 1)) x797000 x797001 x803000) else (none))
end
def impl_BlockList.f (k : Nat) (a0_0 : Int) (l0_1 : List (S52)) : Option ((List (List (S52)))) := (some (([] : List (List (S52))) : List (List (S52)))).bind fun y797 => ((impl_NetOk.f k a0_0 l0_1).bind fun t800 => (if t800 = true then ((impl_mapNew.f).bind fun t801 => (impl_BlockList.l0 k y797 l0_1 (l0_1.length : Int) 0 a0_0 l0_1 t801)) else (some y797)))
theorem impl_BlockList.mono_l : ∀ k, (∀ a b c d e f g, LeO (impl_BlockList.l0 k a b c d e f g) (impl_BlockList.l0 (k + 1) a b c d e f g)) ∧ (∀ a b c d e f g i j l m, LeO (impl_BlockList.l1 k a b c d e f g i j l m) (impl_BlockList.l1 (k + 1) a b c d e f g i j l m))
 | 0 => ⟨fun _ _ _ _ _ _ _ r h => by simp [impl_BlockList.l0] at h, fun _ _ _ _ _ _ _ _ _ _ _ r h => by simp [impl_BlockList.l1] at h⟩
 | k + 1 => by
  obtain ⟨ih0, ih1⟩ := impl_BlockList.mono_l k; refine ⟨?_, ?_⟩
  ·intro a b c d e f g; unfold impl_BlockList.l0; have n := @impl_NetOk.mono; have o := @impl_Net_block.mono; exact mo_
  ·intro a b c d e f g i j l m; unfold impl_BlockList.l1; have n := @impl_NetOk.mono; have o := @impl_Net_block.mono; exact mo_
theorem impl_BlockList.mono : ∀ a b k, LeO (impl_BlockList.f k a b) (impl_BlockList.f (k + 1) a b) := by
 intro a b k; obtain ⟨ih0, ih1⟩ := impl_BlockList.mono_l k; unfold impl_BlockList.f; have m0_ := @impl_NetOk.mono; have m1_ := @impl_Net_block.mono; exact mo_
set_option maxHeartbeats 8000000 in
set_option maxRecDepth 100000 in
theorem impl_BlockList.calls (k : Nat) (l : Int) (B : Option Addr) (s : Nat) (a : List (S52)) (r : List (List (S52))) (w : World) (aC : Kd.C k52 w B a.length a) (aD : a.length ≤ s) (h : impl_BlockList.f k l a = some r) :
  Calls Try.prog 22 #[.agg #[.int .i64 l, .slice B a.length s]] w fun e w' => ∃ aE : Value, e = .returned (aE) ∧ Kd.S (Kd.slice 52 k52) 23 w' w.heap.size (fun _ => True) aE r ∧ Below w.heap.size w w' := by
 have bu := Try.underlying25; have bv := Try.underlying52; have U := am aC; have af := am aD; clear aC aD; have HB := am (Below.refl w.heap.size w)
 have H : ((some (([] : List (List (S52))) : List (List (S52)))).bind fun E => ((impl_NetOk.f k l a).bind fun W => (if W = true then ((impl_mapNew.f).bind fun G => (impl_BlockList.l0 k E a (a.length : Int) 0 l a G)) else (some E)))) = some r := h
 clear h; obtain ⟨E, ag⟩ : ∃ y_ : List (List (S52)), y_ = (([] : List (List (S52)))) := ⟨_, rfl⟩; replace H : ((impl_NetOk.f k l a).bind fun W => (if W = true then ((impl_mapNew.f).bind fun G => (impl_BlockList.l0 k E a (a.length : Int) 0 l a G)) else (some E))) = some r := nh_ ag H; have ab := am ag; clear ag; obtain ⟨W, A2, H⟩ := bi_ H; by_cases c3 : W = true
 ·subst c3; rw [if_pos rfl] at H; obtain ⟨G, A4, H⟩ := bi_ H; have H' := am H; clear H; go_enter Try.func22, Try.ntmps22
  go_wp2_with (first | ((with_reducible refine gate_dst (N := 1) rfl ?_); refine bx_ 1 #[.int .i64 l, .slice B a.length s] 25 HB ?_; clear HB; intro ah hg w5 hb c aU HB; clear hb hg) | ((with_reducible refine gate_dst (N := 10) rfl ?_); refine Kd.S_lit (Kd.slice 52 k52) _ 23 ?hg (N := 10) ?hd (xs := ([] : List (List (S52)))) (inner := []) (ok := fun _ => True) (okp := fun _ => True) ?hr ?hp (fun _ hk => hk) trivial (Below.refl _ _) (Nat.le_refl _) (by simp) ?_; (case hd => rfl); (case hg => rfl); (case hr => first | (go_simp; done) | (go_simp; rfl)); (case hp => exact (Reps.none _ _)); intro aV w6 X hb ai aj; clear ai aj; (first | rw [← ab.out] at X | (simp only [Int.reduceToNat] at X; rw [← ab.out] at X)); have t := am (Kd.S_lower X (below_size (bn HB))); replace c := bb c hb; replace HB := bs HB hb; clear hb X; have aG := c2 c) | ((with_reducible refine gate_callee (f := 67) rfl ?_); refine gl_ (some 12) Try.func67 #[.agg #[.int .i64 l, .slice B a.length s]] ?_; (with_reducible refine (impl_NetOk.calls k l _ _ a true _ ?z_1 ?z_2 A2.out).mono ?_); (case z_1 => exact cb U HB); (case z_2 => exact af.out); rintro e w9 ⟨rfl, hb⟩; refine ⟨_, rfl, ?_⟩; replace t := am (Kd.S_below (onS t) hb); replace c := bb c hb; replace HB := bs HB hb; (try clear hb)) | ((with_reducible refine gate_dst (N := 15) rfl ?_); refine mn_ (some 15) 78 ?_; (with_reducible refine (impl_mapNew.calls  G w _ ?z_1 A4.out).mono ?_); (case z_1 => exact bn HB); rintro e w10 ⟨m, rfl, hi, hb, Y⟩; refine ⟨_, rfl, ?_⟩; replace t := am (Kd.S_below (onS t) Y); replace HB := am hb; have p := am hi; have aH := am (IsS190.ne_blk hi (blk_below (bkn c) Y) (by decide)); have Z := am (Ne.symm (IsS190.ne_blk hi (blk_below (bkn c) Y) (by decide))); replace c := bm (blk_below (bkn c) Y); (try clear hb Y hi); have bw := n2 Z aH; have aI := c2 c))
  go_loopg [3, 19] k (fun kq v3 aW w' => ∃ (x : List (List (S52))) (d : Int) (u : Int), aW = .int .i64 d ∧ Aside0 (impl_BlockList.l0 kq x a (a.length : Int) d l a u = some r) ∧ Aside0 (kq ≤ k) ∧ Aside0 (Kd.S (Kd.slice 52 k52) 23 w' w.heap.size (fun _ => True) v3 x) ∧ Bk w' ah (.cells #[.int .i64 l, (.slice B a.length s)] 25 (0, 0)) ∧ Aside0 (IsS190 w w' m u) ∧ Aside0 (Below w.heap.size w w'))
  case atStart => exact ⟨(E), (0), (G), rs_, H', ⟨Nat.le_refl _⟩, ⟨onS t⟩, ⟨bkn c⟩, ⟨IsS190.now⟩, ⟨bn HB⟩⟩
  case round =>
   clear H'; (try clear c2 c3 aI aG); obtain ⟨x, d, u, rfl, HA, I, g, c, p, HB⟩ := hrel; cases gk with
   | zero => exact absurd HA.out (by simp [impl_BlockList.l0])
   | succ k1 =>
    have H := HA.out; clear HA; simp only [impl_BlockList.l0] at H; by_cases D : d < (a.length : Int)
    ·rw [if_pos D] at H; have aJ := decide_eq_true D; clear D; obtain ⟨aX, H⟩ := id_ H; obtain ⟨aY, H⟩ := id_ H; obtain ⟨⟨aZ, ad⟩, aK, H⟩ := bi_ H; (try dsimp only at H); by_cases ak : aZ = true
     ·subst ak; rw [if_pos rfl] at H; have H' := am H; clear H; have y : 0 ≤ (d : Int) := oa; have z : d < (a.length : Int) := oa; obtain ⟨al, an, J, K⟩ := at_T52 U.out d y z; cases an; replace J := hc_ HB J; replace K := hc_ HB K; obtain ⟨y, z⟩ := e2_ y z
      go_wp2_with (first | ((with_reducible refine gate_dst (N := 6) rfl ?_); refine bx_ 6 #[.int .i64 0, .int .i64 0] 52 HB ?_; clear HB; intro n hg w18 hb i a0 HB; replace g := am (Kd.S_below (Kd.S_elderB (onS g) n (Nat.le_of_eq hg.symm)) hb); obtain ⟨ap, aq⟩ := nb_ hg c; replace c := bb c hb; obtain ⟨ar, L⟩ := ns_ hg (IsS190.lt (show IsS190 w _ m u from IsS190.now)); replace p := am (IsS190.below (IsS190.now) hb); clear hb hg; have bx := n2 aq ap; have bz := n2 L ar; have a1 := c2 i) | ((with_reducible refine gate_dst (N := 25) rfl ?_); refine mh_ (some 25) 78 (.map (some m)) (.agg #[.int .i64 ((rd_T52 a d).f0), .int .i64 ((rd_T52 a d).f1)]) ?_; (with_reducible refine (impl_mapHas.calls m u ((rd_T52 a d).f0) ((rd_T52 a d).f1) true ad w _ ?z_1 ?z_2 aK.out).mono ?_); (case z_1 => exact IsS190.now); (case z_2 => exact bn HB); rintro e w22 ⟨rfl, hi, hb, hk⟩; refine ⟨_, rfl, ?_⟩; replace g := kS_ hk (IsS190.apartS (show IsS190 w _ m u from IsS190.now) (onS g) (by decide)); replace c := kb hk c Z; replace i := kb hk i L; replace HB := am hb; replace p := am hi; (try clear hb hk hi)))
      go_roundg k1
      case measure => have := I.out; omega
      case rel => exact ⟨(x), (wrap64 (d + 1)), (ad), rs_, H', ⟨by have := I.out; omega⟩, ⟨Kd.S_mono (onS g) (fun _ hk => trivial)⟩, ⟨bkn c⟩, ⟨IsS190.now⟩, ⟨bn HB⟩⟩
     ·obtain rfl := nt_ ak; rw [if_neg nf_] at H; obtain ⟨j, a2, H⟩ := bi_ H; have H' := am H; clear H; have y : 0 ≤ (d : Int) := oa; have z : d < (a.length : Int) := oa; obtain ⟨al, an, J, K⟩ := at_T52 U.out d y z; cases an; replace J := hc_ HB J; replace K := hc_ HB K; obtain ⟨y, z⟩ := e2_ y z
      go_wp2_with (first | ((with_reducible refine gate_dst (N := 6) rfl ?_); refine bx_ 6 #[.int .i64 0, .int .i64 0] 52 HB ?_; clear HB; intro n hg w24 hb i a0 HB; replace g := am (Kd.S_below (Kd.S_elderB (onS g) n (Nat.le_of_eq hg.symm)) hb); obtain ⟨ap, aq⟩ := nb_ hg c; replace c := bb c hb; obtain ⟨ar, L⟩ := ns_ hg (IsS190.lt (show IsS190 w _ m u from IsS190.now)); replace p := am (IsS190.below (IsS190.now) hb); clear hb hg; have bA := n2 aq ap; have bB := n2 L ar; have a3 := c2 i) | ((with_reducible refine gate_dst (N := 25) rfl ?_); refine mh_ (some 25) 78 (.map (some m)) (.agg #[.int .i64 ((rd_T52 a d).f0), .int .i64 ((rd_T52 a d).f1)]) ?_; (with_reducible refine (impl_mapHas.calls m u ((rd_T52 a d).f0) ((rd_T52 a d).f1) false ad w _ ?z_1 ?z_2 aK.out).mono ?_); (case z_1 => exact IsS190.now); (case z_2 => exact bn HB); rintro e aM ⟨rfl, hi, hb, hk⟩; refine ⟨_, rfl, ?_⟩; replace g := kS_ hk (IsS190.apartS (show IsS190 w _ m u from IsS190.now) (onS g) (by decide)); replace c := kb hk c Z; replace i := kb hk i L; replace HB := am hb; replace p := am hi; (try clear hb hk hi); have bC := n2 Z aH; have a4 := c2 c; have a5 : aM.cell? ⟨n, 0, none⟩ = some (.int .i64 ((rd_T52 a d).f0)) := (bc i 0); have a6 : aM.cell? ⟨n, 1, none⟩ = some (.int .i64 ((rd_T52 a d).f1)) := (bc i 1); have a7 := blk_frozen i.out 0; have a8 := blk_frozen i.out 1) | ((with_reducible refine gate_callee (f := 68) rfl ?_); refine gl_ (some 28) Try.func68 #[.agg #[.int .i64 l, .slice (some al) a.length s], .agg #[.int .i64 ((rd_T52 a d).f0), .int .i64 ((rd_T52 a d).f1)]] ?_; (with_reducible refine (impl_Net_block.calls k1 l _ _ a ((rd_T52 a d).f0) ((rd_T52 a d).f1) j _ ?z_1 ?z_2 a2.out).mono ?_); (case z_1 => exact cb U HB); (case z_2 => exact af.out); rintro e w32 ⟨bD, rfl, au, hb⟩; refine ⟨_, rfl, ?_⟩; replace g := am (Kd.S_elder' (onS g) (Kd.R_base au) hb); have av := am (Kd.R_lower (Kd.R_newB au (bkn i)) (below_size (bn HB))); replace c := bb c hb; replace p := am (IsS190.below (IsS190.now) hb); replace i := bb i hb; replace HB := bs HB hb; (try clear hb au); obtain ⟨M, O, a9⟩ := Kd.R_slice av.out; subst a9))
      go_loopg [31] k1 (fun kq ba w' => ∃ (o : Int) (q : Int), ba = .int .i64 o ∧ Aside0 (impl_BlockList.l1 kq x j a (a.length : Int) d j (j.length : Int) o l a q = some r) ∧ Aside0 (kq ≤ k1) ∧ Aside0 (Kd.S (Kd.slice 52 k52) 23 w' w.heap.size (fun k_ => some k_ ≠ ((.slice M j.length O) : Value).ownBlock ∧ some k_ ≠ ((.slice M j.length O) : Value).ownBlock ∧ k_ ≠ n) u3 x) ∧ Aside0 (Kd.R k52 52 w' w.heap.size (fun k_ => k_ ≠ n) (.slice M j.length O) j) ∧ Aside0 (Kd.R k52 52 w' w.heap.size (fun k_ => k_ ≠ n) (.slice M j.length O) j) ∧ Bk w' ah (.cells #[.int .i64 l, (.slice (some al) a.length s)] 25 (0, 0)) ∧ Bk w' n (.cells #[.int .i64 ((rd_T52 a d).f0), .int .i64 ((rd_T52 a d).f1)] 52 (0, 0)) ∧ Aside0 (IsS190 w w' m q) ∧ Aside0 (Below w.heap.size w w'))
      case atStart => exact ⟨(0), (ad), rs_, H', ⟨Nat.le_refl _⟩, ⟨Kd.S_mono (onS g) (fun _ hk => ⟨hk.2, ⟨hk.2, hk.1.2⟩⟩)⟩, ⟨Kd.R_mono (onR av) (fun _ hk => hk.2)⟩, ⟨Kd.R_mono (onR av) (fun _ hk => hk.2)⟩, ⟨bkn c⟩, ⟨bkn i⟩, ⟨IsS190.now⟩, ⟨bn HB⟩⟩
      case round =>
       clear H'; (try clear c2 c3 D aJ aX aY ak aI a1 a3 a4 a5 a6 a7 a8 aG J K y z); obtain ⟨o, q, rfl, HA, ae, g, A, P, c, i, p, HB⟩ := hrel; cases gk with
       | zero => exact absurd HA.out (by simp [impl_BlockList.l1])
       | succ k2 =>
        have H := HA.out; clear HA; simp only [impl_BlockList.l1] at H; by_cases T : o < (j.length : Int)
        ·rw [if_pos T] at H; have bd := decide_eq_true T; clear T; obtain ⟨bE, H⟩ := id_ H; obtain ⟨bF, H⟩ := id_ H; obtain ⟨aN, be, H⟩ := bi_ H; have H' := am H; clear H; have aw : 0 ≤ (o : Int) := oa; have ax : o < (j.length : Int) := oa; obtain ⟨bG, bf, bH, bI⟩ := at_T52 (Kd.R_reads' P.out).2.2 o aw ax; cases bf; obtain ⟨aw, ax⟩ := e2_ aw ax
         go_wp2_with (first | ((with_reducible refine gate_dst (N := 9) rfl ?_); refine bx_ 9 #[.int .i64 0, .int .i64 0] 52 HB ?_; clear HB; intro ay hg w38 hb az bJ HB; replace g := am (Kd.S_below (Kd.S_elderB (onS g) ay (Nat.le_of_eq hg.symm)) hb); replace A := am (Kd.R_below (Kd.R_elderB (onR A) ay (Nat.le_of_eq hg.symm)) hb); replace P := am (Kd.R_below (Kd.R_elderB (onR P) ay (Nat.le_of_eq hg.symm)) hb); obtain ⟨bg, bh⟩ := nb_ hg c; replace c := bb c hb; obtain ⟨bi, bj⟩ := nb_ hg i; replace i := bb i hb; obtain ⟨bk, aQ⟩ := ns_ hg (IsS190.lt (show IsS190 w _ m q from IsS190.now)); replace p := am (IsS190.below (IsS190.now) hb); clear hb hg; have bK := n2 bh bg; have bL := n2 bj bi; have bM := n2 aQ bk; have bN := c2 az) | ((with_reducible refine gate_mw (by first | exact Or.inl rfl | exact Or.inr rfl) ?_); refine mw_ 78 (.map (some m)) (.agg #[.int .i64 ((rd_T52 j o).f0), .int .i64 ((rd_T52 j o).f1)]) (.bool true) ?_; (with_reducible refine (impl_mapAdd.calls m q ((rd_T52 j o).f0) ((rd_T52 j o).f1) aN w _ ?z_1 ?z_2 be.out).mono ?_); (case z_1 => exact IsS190.now); (case z_2 => exact bn HB); rintro e w43 ⟨rfl, hi, hb, hk⟩; refine ⟨_, rfl, ?_⟩; replace g := kS_ hk (IsS190.apartS (show IsS190 w _ m q from IsS190.now) (onS g) (by decide)); replace A := kR_ hk (IsS190.apart (show IsS190 w _ m q from IsS190.now) (onR A) (by decide)); replace P := kR_ hk (IsS190.apart (show IsS190 w _ m q from IsS190.now) (onR P) (by decide)); replace c := kb hk c Z; replace i := kb hk i L; replace az := kb hk az aQ; replace HB := am hb; replace p := am hi; (try clear hb hk hi)))
         go_roundg k2
         case measure => have := I.out; have := ae.out; omega
         case rel => exact ⟨(wrap64 (o + 1)), (aN), rs_, H', ⟨by have := I.out; have := ae.out; omega⟩, ⟨Kd.S_mono (onS g) (fun _ hk => ⟨hk.1.1, ⟨hk.1.2.1, hk.1.2.2⟩⟩)⟩, ⟨Kd.R_mono (onR A) (fun _ hk => hk.1)⟩, ⟨Kd.R_mono (onR P) (fun _ hk => hk.1)⟩, ⟨bkn c⟩, ⟨bkn i⟩, ⟨IsS190.now⟩, ⟨bn HB⟩⟩
        ·rw [if_neg T] at H; have bd := decide_eq_false T; clear T; obtain ⟨aR, H⟩ := ig_ H; have bl := am aR; clear aR; obtain ⟨aT, aA⟩ : ∃ y_ : List (List (S52)), y_ = (x ++ [j]) := ⟨_, rfl⟩; replace H : (impl_BlockList.l0 k2 aT a (a.length : Int) (wrap64 (d + 1)) l a q) = some r := nh_ aA H; have bo := am aA; clear aA; have H' := am H; clear H
         go_wp2_with (first | ((with_reducible refine gate_builtin (b := .append) (xs := #[.tmp 38, .tmp 40]) rfl ?_); at_builtin; refine Kd.S_append (Kd.slice 52 k52) (w0 := w) w.heap.size rfl (.tmp 38) (.tmp 40) 43 23 (.slice none 0 0) 24 rfl Try.underlying43 info23 rfl (by decide) (by omega) u3 x j [.slice M j.length O] (fun k_ => k_ ≠ n) (fun k_ => some k_ = (.slice M j.length O : Value).ownBlock) rfl rfl ?aP (fun k_ hk_ => ((Kd.R_mono (ok' := fun k_ => ((fun k_ => k_ ≠ n)) k_ ∧ some k_ ≠ (u3 : Value).ownBlock) (Kd.R_apart' (A.out) (Kd.S_typed g.out) (by decide)) (fun k_ hk => ⟨hk.1, hk.2⟩))).1 k_ hk_.symm) ?aF ?aO ?aB ?aS ?aL ?_; (case aP => exact Kd.M_row (Kd.R_mono (Kd.R_tight rfl (Kd.R_mono (ok' := fun k_ => ((fun k_ => k_ ≠ n)) k_ ∧ some k_ ≠ (u3 : Value).ownBlock) (Kd.R_apart' (A.out) (Kd.S_typed g.out) (by decide)) (fun k_ hk => ⟨hk.1, hk.2⟩))) (fun _ h_ => h_))); (case aB => exact (bn HB)); (case aF => exact (fun k_ hk => Kd.freshB (bkn i) k_ hk)); (case aO => exact (Kd.S_mono (onS g) (fun k_ hk => ⟨hk.2.2, fun e_ => hk.1 e_⟩))); (case aS => exact (below_size (bn HB))); (case aL => have := bl.out; omega); intro bO w45 ho hb hg bp; rw [← bo.out] at ho; replace c := bm (blk_grown (bkn c) hg (Kd.S_ne g.out c.out (by decide))); replace i := bm (blk_grown (bkn i) hg (Kd.S_ne g.out i.out (by decide))); replace p := am (IsS190.grown (IsS190.now) hg (IsS190.own_neS p.out g.out (by decide))); replace HB := am hb; have br := am ho; clear g A; clear ho hb hg bp))
         go_roundg k2
         case measure => have := I.out; have := ae.out; omega
         case rel => exact ⟨(aT), (wrap64 (d + 1)), (q), rs_, H', ⟨by have := I.out; have := ae.out; omega⟩, ⟨Kd.S_mono (onS br) (fun _ hk => trivial)⟩, ⟨bkn c⟩, ⟨IsS190.now⟩, ⟨bn HB⟩⟩
    ·rw [if_neg D] at H; have aJ := decide_eq_false D; clear D; obtain rfl := Option.some.inj H; go_wp2
     go_ret
     exact ⟨_, er_, onS g, bn HB⟩
 ·obtain rfl := nt_ c3; rw [if_neg nf_] at H; obtain rfl := Option.some.inj H; go_enter Try.func22, Try.ntmps22
  go_wp2_with (first | ((with_reducible refine gate_dst (N := 1) rfl ?_); refine bx_ 1 #[.int .i64 l, .slice B a.length s] 25 HB ?_; clear HB; intro ah hg w46 hb c aU HB; clear hb hg) | ((with_reducible refine gate_dst (N := 10) rfl ?_); refine Kd.S_lit (Kd.slice 52 k52) _ 23 ?hg (N := 10) ?hd (xs := ([] : List (List (S52)))) (inner := []) (ok := fun _ => True) (okp := fun _ => True) ?hr ?hp (fun _ hk => hk) trivial (Below.refl _ _) (Nat.le_refl _) (by simp) ?_; (case hd => rfl); (case hg => rfl); (case hr => first | (go_simp; done) | (go_simp; rfl)); (case hp => exact (Reps.none _ _)); intro aV w47 aa hb ai aj; clear ai aj; (first | rw [← ab.out] at aa | (simp only [Int.reduceToNat] at aa; rw [← ab.out] at aa)); have t := am (Kd.S_lower aa (below_size (bn HB))); replace c := bb c hb; replace HB := bs HB hb; clear hb aa; have bP := c2 c) | ((with_reducible refine gate_callee (f := 67) rfl ?_); refine gl_ (some 12) Try.func67 #[.agg #[.int .i64 l, .slice B a.length s]] ?_; (with_reducible refine (impl_NetOk.calls k l _ _ a false _ ?z_1 ?z_2 A2.out).mono ?_); (case z_1 => exact cb U HB); (case z_2 => exact af.out); rintro e w50 ⟨rfl, hb⟩; refine ⟨_, rfl, ?_⟩; replace t := am (Kd.S_below (onS t) hb); replace c := bb c hb; replace HB := bs HB hb; (try clear hb hi)))
  go_ret
  exact ⟨_, er_, onS t, bn HB⟩

/-! ### laws_eqTie: function 104 -/
def laws_eqTie.f (a0_0 : Int) (a0_1 : Int) (a1_0 : Int) (a1_1 : Int) : Option (Bool) := if a0_0 = a1_0 then (if a0_1 = a1_1 then (some true) else (some false)) else (some false)
set_option maxHeartbeats 8000000 in
set_option maxRecDepth 100000 in
theorem laws_eqTie.calls (b : Int) (c : Int) (d : Int) (g : Int) (r : Bool) (w : World) (h : laws_eqTie.f b c d g = some r) :
  Calls Try.prog 104 #[.agg #[.int .i64 b, .int .i64 c], .agg #[.int .i64 d, .int .i64 g]] w fun e w' => e = .returned (.bool r) ∧ Below w.heap.size w w' := by
 have z := Try.underlying52; have HB := am (Below.refl w.heap.size w)
 have H : (if b = d then (if c = g then (some true) else (some false)) else (some false)) = some r := h
 clear h; by_cases i : b = d
 ·rw [if_pos i] at H; have t : (b == d) = true := beq_iff_eq.mpr i; have u : (b != d) = false := bne_eq_false_iff_eq.mpr i; clear i; by_cases j : c = g
  ·rw [if_pos j] at H; have x : (c == g) = true := beq_iff_eq.mpr j; have y : (c != g) = false := bne_eq_false_iff_eq.mpr j; clear j; obtain rfl := Option.some.inj H; go_enter Try.func104, Try.ntmps104
   go_wp2_with (first | ((with_reducible refine gate_dst (N := 2) rfl ?_); refine bx_ 2 #[.int .i64 b, .int .i64 c] 52 HB ?_; clear HB; intro o hg w5 hb a p HB; clear hb hg) | ((with_reducible refine gate_dst (N := 3) rfl ?_); refine bx_ 3 #[.int .i64 d, .int .i64 g] 52 HB ?_; clear HB; intro q hg w6 hb l s HB; obtain ⟨m, n⟩ := nb_ hg a; replace a := bb a hb; clear hb hg; have A := n2 m n; have B := c2 a; have D := c2 l))
   go_ret
   exact ⟨er_, bn HB⟩
  ·rw [if_neg j] at H; have x : (c == g) = false := beq_eq_false_iff_ne.mpr j; have y : (c != g) = true := bne_iff_ne.mpr j; obtain rfl := Option.some.inj H; go_enter Try.func104, Try.ntmps104
   go_wp2_with (first | ((with_reducible refine gate_dst (N := 2) rfl ?_); refine bx_ 2 #[.int .i64 b, .int .i64 c] 52 HB ?_; clear HB; intro o hg w10 hb a p HB; clear hb hg) | ((with_reducible refine gate_dst (N := 3) rfl ?_); refine bx_ 3 #[.int .i64 d, .int .i64 g] 52 HB ?_; clear HB; intro q hg w11 hb l s HB; obtain ⟨m, n⟩ := nb_ hg a; replace a := bb a hb; clear hb hg; have E := n2 m n; have G := c2 a; have I := c2 l))
   go_ret
   exact ⟨er_, bn HB⟩
 ·rw [if_neg i] at H; have t : (b == d) = false := beq_eq_false_iff_ne.mpr i; have u : (b != d) = true := bne_iff_ne.mpr i; obtain rfl := Option.some.inj H; go_enter Try.func104, Try.ntmps104
  go_wp2_with (first | ((with_reducible refine gate_dst (N := 2) rfl ?_); refine bx_ 2 #[.int .i64 b, .int .i64 c] 52 HB ?_; clear HB; intro o hg w15 hb a p HB; clear hb hg) | ((with_reducible refine gate_dst (N := 3) rfl ?_); refine bx_ 3 #[.int .i64 d, .int .i64 g] 52 HB ?_; clear HB; intro q hg w16 hb l s HB; obtain ⟨m, n⟩ := nb_ hg a; replace a := bb a hb; clear hb hg; have J := n2 m n; have K := c2 a; have L := c2 l))
  go_ret
  exact ⟨er_, bn HB⟩

end Go.Proofs.Ytffflhmblelegaa.F
