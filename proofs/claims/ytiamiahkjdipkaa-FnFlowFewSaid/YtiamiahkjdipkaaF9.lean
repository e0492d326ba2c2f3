-- By oprint.py.
import Derived.Test.YtiamiahkjdipkaaF0
import Derived.Test.YtiamiahkjdipkaaF1
import Derived.Test.YtiamiahkjdipkaaF2
import Derived.Test.YtiamiahkjdipkaaF6
import Derived.Test.YtiamiahkjdipkaaF8
namespace Go.Proofs.Ytiamiahkjdipkaa.F
open Go.RowKit Go.Proofs.YtiamiahkjdipkaaW.PrintWords Go.Proofs.YtiamiahkjdipkaaW.PrintLast Go.Proofs.YtiamiahkjdipkaaW.PrintMore
attribute [local go_sem] max2_int min2_int max_two min_two max_three min_three max_four min_four
set_option linter.unusedVariables false
set_option linter.unusedSimpArgs false

attribute [local go_sem high] eqA35
/-! ### spec_l71Any: function 34 -/
def spec_l71Any.f (k : Nat) (s0_0 : List Int) (s0_1 : Int) : Option (Int × (List (S35)) × Int) := (spec_l71Net.f k s0_0 s0_1).bind fun bt232 => ((spec_l6Rd_pick.f k s0_0 bt232.2.2 12).bind fun bt238 => (if bt238.1 = 0 then ((spec_l71Spoil.f k s0_0 bt238.2 bt232.1 bt232.2.1).bind fun bt240 => (some (bt240.1, bt240.2.1, bt240.2.2))) else (some (bt232.1, bt232.2.1, bt238.2))))
theorem spec_l71Any.mono : ∀ a b k, LeO (spec_l71Any.f k a b) (spec_l71Any.f (k + 1) a b) := by
 intro a b k; unfold spec_l71Any.f; have m0_ := @spec_l6Rd_pick.mono; have m1_ := @spec_l71Net.mono; have m2_ := @spec_l71Spoil.mono; exact mo_
set_option maxHeartbeats 8000000 in
set_option maxRecDepth 100000 in
theorem spec_l71Any.calls (k : Nat) (g : Nat) (c : List Int) (o : Int) (B : Int) (D : List (S35)) (E : Int) (a w : World) (hI : IsS88 a w g c o) (hB : Below a.heap.size a w) (h : spec_l71Any.f k c o = some (B, D, E)) :
  Calls Try.prog 34 #[.pointer (some ⟨g, 0, none⟩)] w fun e w' => ∃ T : Value, e = .returned (.agg #[.int .i64 B, T]) ∧ Kd.R k35 35 w' w.heap.size (fun _ => True) T D ∧ IsS88 a w' g c E ∧ Below a.heap.size a w' ∧ KeepBut w w' g none := by
 have aw := Try.underlying25; have GEs_ := am (IsS88.ge hI); have j := am hI; have HK := am (KeepBut.refl w g none); have HL := am hB.size; clear hI; have A := am hB.size; have HB := am hB; clear hB
 have H : ((spec_l71Net.f k c o).bind fun t => ((spec_l6Rd_pick.f k c t.2.2 12).bind fun G => (if G.1 = 0 then ((spec_l71Spoil.f k c G.2 t.1 t.2.1).bind fun I => (some (I.1, I.2.1, I.2.2))) else (some (t.1, t.2.1, G.2))))) = some (B, D, E) := h
 clear h; obtain ⟨⟨u, x, m⟩, U, H⟩ := bi_ H; (try dsimp only at H); obtain ⟨⟨p, y⟩, W, H⟩ := bi_ H; (try dsimp only at H); by_cases q : p = 0
 ·rw [if_pos q] at H; have aa : (p == 0) = true := beq_iff_eq.mpr q; have ab : (p != 0) = false := bne_eq_false_iff_eq.mpr q; clear q; obtain ⟨⟨X, Y, ad⟩, A5, H⟩ := bi_ H; (try dsimp only at H); simp only [Option.some.injEq, Prod.mk.injEq] at H; obtain ⟨rfl, rfl, rfl⟩ := H; go_enter Try.func34, Try.ntmps34
  go_wp2_with (first | ((with_reducible refine gate_dst (N := 2) rfl ?_); refine be_ 2 #[.int .i64 0, .slice none 0 0] 25 ?_; intro z hg w6 hbox hb; replace HB := bs HB hb; have b := bm hbox; have ae := am (gk_ hg HK); have af := am (Nat.le_trans A.out (gk_ hg HK) : a.heap.size ≤ z); replace HK := am (KeepBut.trans (kn HK) (KeepBut.of_below hb g none) (.inl rfl)); obtain ⟨J, n⟩ := ns_ hg (IsS88.lt (show IsS88 a _ g c o from IsS88.now)); replace j := am (IsS88.below (IsS88.now) hb); clear hb hbox hg) | ((with_reducible refine gate_callee (f := 67) rfl ?_); refine gl_ (some 5) Try.func67 #[.pointer (some ⟨g, 0, none⟩)] ?_; (with_reducible refine (spec_l71Net.calls k g c o u x m a _ ?z_1 ?z_2 U.out).mono ?_); (case z_1 => exact IsS88.now); (case z_2 => exact bn HB); rintro e w7 ⟨ag, rfl, l, hi, hb, hk⟩; refine ⟨_, rfl, ?_⟩; replace b := kb hk b n; have d := am (Kd.R_lower l (keep_size (w := w) (g := g) (row := none) (kn HK))); replace HK := am (KeepBut.trans (kn HK) hk (.inl rfl)); replace HB := am hb; replace j := am hi; (try clear hb hk hi l)) | ((with_reducible refine gate_dst (N := 3) rfl ?_); refine be_ 3 #[.int .i64 0, .slice none 0 0] 25 ?_; intro K hg w8 hbox hb; replace d := am (Kd.R_below (onR d) hb); replace HB := bs HB hb; have i := bm hbox; have ah := am (gk_ hg HK); have ai := am (Nat.le_trans A.out (gk_ hg HK) : a.heap.size ≤ K); replace HK := am (KeepBut.trans (kn HK) (KeepBut.of_below hb g none) (.inl rfl)); obtain ⟨L, M⟩ := nb_ hg b; replace b := bb b hb; obtain ⟨O, s⟩ := ns_ hg (IsS88.lt (show IsS88 a _ g c m from IsS88.now)); replace j := am (IsS88.below (IsS88.now) hb); clear hb hbox hg; have ax := n2 M L; have ay := n2 s O; have az := c2 i; obtain ⟨aj, ak, al⟩ := Kd.R_slice d.out; subst al) | ((with_reducible refine gate_callee (f := 47) rfl ?_); refine gl_ (some 7) Try.func47 #[.pointer (some ⟨g, 0, none⟩), .int .i64 12] ?_; (with_reducible refine (spec_l6Rd_pick.calls k g c m 12 p y a _ ?z_1 ?z_2 W.out).mono ?_); (case z_1 => exact IsS88.now); (case z_2 => exact bn HB); rintro e w13 ⟨rfl, hi, hb, hk⟩; refine ⟨_, rfl, ?_⟩; replace b := kb hk b n; replace d := kR_ hk (IsS88.apart (show IsS88 a _ g c m from IsS88.now) (onR d) (by decide)); replace i := kb hk i s; replace HK := am (KeepBut.trans (kn HK) hk (.inl rfl)); replace HB := am hb; replace j := am hi; (try clear hb hk hi); have aA := c2 i) | ((with_reducible refine gate_callee (f := 68) rfl ?_); refine gl_ (some 11) Try.func68 #[.pointer (some ⟨g, 0, none⟩), .agg #[.int .i64 u, .slice aj x.length ak]] ?_; (with_reducible refine (spec_l71Spoil.calls k g c y u _ _ x X Y ad a _ ?z_1 ?z_2 ?z_3 ?z_4 A5.out).mono ?_); (case z_1 => exact IsS88.now); (case z_2 => exact bn HB); (case z_3 => exact Kd.C_foot_own (IsS88.apart (show IsS88 a _ g c y from IsS88.now) (onR d) (by decide)) (fun _ P => P.2)); (case z_4 => exact (Kd.R_reads' d.out).2.1); rintro e w15 ⟨aB, rfl, l, hi, hb, hk⟩; refine ⟨_, rfl, ?_⟩; replace b := kb hk b n; replace i := kb hk i s; have Z := am (Kd.R_lower (Kd.R_new' l (Kd.R_lt (onR d))) (keep_size (w := w) (g := g) (row := none) (kn HK))); replace d := am (Kd.R_mono (Kd.R_told (Kd.R_oldK (IsS88.apart (show IsS88 a _ g c y from IsS88.now) (onR d) (by decide)) hk) (Kd.R_base l)) (fun _ P => P.1)); replace HK := am (KeepBut.trans (kn HK) hk (.inl rfl)); replace HB := am hb; replace j := am hi; (try clear hb hk hi l); have aC := n2 n J; have aD := c2 b; obtain ⟨an, ap, aq⟩ := Kd.R_slice Z.out; subst aq))
  refine bodyPost_ret (results_cell_row rfl _ _ z 25 #[.int .i64 X, .slice an Y.length ap] (0, 0) _ rfl (bkn b) Try.underlying25 rfl (by kernel_rfl)) rfl ?_; exact ⟨_, er_, Kd.R_mono (onR Z) (fun _ hk => trivial), IsS88.now, bn HB, kn HK⟩
 ·rw [if_neg q] at H; have aa : (p == 0) = false := beq_eq_false_iff_ne.mpr q; have ab : (p != 0) = true := bne_iff_ne.mpr q; simp only [Option.some.injEq, Prod.mk.injEq] at H; obtain ⟨rfl, rfl, rfl⟩ := H; go_enter Try.func34, Try.ntmps34
  go_wp2_with (first | ((with_reducible refine gate_dst (N := 2) rfl ?_); refine be_ 2 #[.int .i64 0, .slice none 0 0] 25 ?_; intro z hg w19 hbox hb; replace HB := bs HB hb; have b := bm hbox; have ae := am (gk_ hg HK); have af := am (Nat.le_trans A.out (gk_ hg HK) : a.heap.size ≤ z); replace HK := am (KeepBut.trans (kn HK) (KeepBut.of_below hb g none) (.inl rfl)); obtain ⟨J, n⟩ := ns_ hg (IsS88.lt (show IsS88 a _ g c o from IsS88.now)); replace j := am (IsS88.below (IsS88.now) hb); clear hb hbox hg) | ((with_reducible refine gate_callee (f := 67) rfl ?_); refine gl_ (some 5) Try.func67 #[.pointer (some ⟨g, 0, none⟩)] ?_; (with_reducible refine (spec_l71Net.calls k g c o u x m a _ ?z_1 ?z_2 U.out).mono ?_); (case z_1 => exact IsS88.now); (case z_2 => exact bn HB); rintro e w20 ⟨ag, rfl, l, hi, hb, hk⟩; refine ⟨_, rfl, ?_⟩; replace b := kb hk b n; have d := am (Kd.R_lower l (keep_size (w := w) (g := g) (row := none) (kn HK))); replace HK := am (KeepBut.trans (kn HK) hk (.inl rfl)); replace HB := am hb; replace j := am hi; (try clear hb hk hi l)) | ((with_reducible refine gate_dst (N := 3) rfl ?_); refine be_ 3 #[.int .i64 0, .slice none 0 0] 25 ?_; intro K hg w21 hbox hb; replace d := am (Kd.R_below (onR d) hb); replace HB := bs HB hb; have i := bm hbox; have ah := am (gk_ hg HK); have ai := am (Nat.le_trans A.out (gk_ hg HK) : a.heap.size ≤ K); replace HK := am (KeepBut.trans (kn HK) (KeepBut.of_below hb g none) (.inl rfl)); obtain ⟨L, M⟩ := nb_ hg b; replace b := bb b hb; obtain ⟨O, s⟩ := ns_ hg (IsS88.lt (show IsS88 a _ g c m from IsS88.now)); replace j := am (IsS88.below (IsS88.now) hb); clear hb hbox hg; have aE := n2 M L; have aF := n2 s O; have aG := c2 i; obtain ⟨ar, au, av⟩ := Kd.R_slice d.out; subst av) | ((with_reducible refine gate_callee (f := 47) rfl ?_); refine gl_ (some 7) Try.func47 #[.pointer (some ⟨g, 0, none⟩), .int .i64 12] ?_; (with_reducible refine (spec_l6Rd_pick.calls k g c m 12 p y a _ ?z_1 ?z_2 W.out).mono ?_); (case z_1 => exact IsS88.now); (case z_2 => exact bn HB); rintro e w26 ⟨rfl, hi, hb, hk⟩; refine ⟨_, rfl, ?_⟩; replace b := kb hk b n; replace d := kR_ hk (IsS88.apart (show IsS88 a _ g c m from IsS88.now) (onR d) (by decide)); replace i := kb hk i s; replace HK := am (KeepBut.trans (kn HK) hk (.inl rfl)); replace HB := am hb; replace j := am hi; (try clear hb hk hi); have aH := c2 i; have aI := n2 n J; have aJ := c2 b))
  refine bodyPost_ret (results_cell_row rfl _ _ z 25 #[.int .i64 u, .slice ar x.length au] (0, 0) _ rfl (bkn b) Try.underlying25 rfl (by kernel_rfl)) rfl ?_; exact ⟨_, er_, Kd.R_mono (onR d) (fun _ hk => trivial), IsS88.now, bn HB, kn HK⟩

/-! ### spec_l6Open: function 35 -/
def spec_l6Open.f (l0 : List Int) : Option (List Int × Int) := if (l0.length : Int) > 2000 then (if 2000 ≤ (l0.length : Int) then (some (l0.take 2000, 0)) else (none)) else (some (l0, 0))
set_option maxHeartbeats 8000000 in
set_option maxRecDepth 100000 in
theorem spec_l6Open.calls (c : Option Addr) (d : Nat) (a : List Int) (j : List Int) (l : Int) (b w : World) (hB : Below b.heap.size b w) (n : Kd.C (Kd.int .u8) b c a.length a) (o : a.length ≤ d) (h : spec_l6Open.f a = some (j, l)) :
  Calls Try.prog 35 #[.slice c a.length d] w fun e w' => ∃ g_ : Nat, e = .returned (.pointer (some ⟨g_, 0, none⟩)) ∧ IsS88 b w' g_ j l ∧ Below b.heap.size b w' ∧ Below w.heap.size w w' := by
 have L := Try.underlying88; have p := am n; have y := am o; clear n o; have HBW := am (Below.refl w.heap.size w); have q := am hB.size; have HB := am hB; clear hB
 have H : (if (a.length : Int) > 2000 then (if 2000 ≤ (a.length : Int) then (some (a.take 2000, 0)) else (none)) else (some (a, 0))) = some (j, l) := h
 clear h; by_cases c2 : (a.length : Int) > 2000
 ·rw [if_pos c2] at H; have z := decide_eq_true c2; have A : decide (2000 < a.length) = true := decide_eq_true (by omega); clear c2; obtain ⟨m, H⟩ := ig_ H; have M := eq_true m; have O := decide_eq_true m; clear m; simp only [Option.some.injEq, Prod.mk.injEq] at H; obtain ⟨rfl, rfl⟩ := H; obtain ⟨i04, s, _, t, _⟩ := info_parts info5; obtain ⟨T, u, x⟩ := print_take_of (P := Try.prog) (Value.int .u8) 0 22 5 .i64 Try.underlying22 s t c d a 2000 (by omega) (oa) y.out; have B := am (Kd.C_of_reads (h1 := fun _ => rfl) (u _ (Kd.reads_of_C p.out))); have U := am x; clear u x s t; go_enter Try.func35, Try.ntmps35
  go_wp2_with (first | ((with_reducible refine gate_dst (N := 10) rfl ?_); refine be_ 10 #[.slice c (a.take 2000).length d, .int .i64 0] 88 ?_; intro g hg w5 hbox hb; replace HB := bs HB hb; have D := bm hbox; have E := am ((by rw [hg]; exact (below_size (by repeat (first | (with_reducible first | exact HBW.out | apply below_alloc | apply pw_below_drewN | apply below_drew1) | exact HBW.out))) : w.heap.size ≤ g)); have G := am ((Nat.le_trans q.out (by rw [hg]; exact (below_size (by repeat (first | (with_reducible first | exact HBW.out | apply below_alloc | apply pw_below_drewN | apply below_drew1) | exact HBW.out))) : w.heap.size ≤ g) : b.heap.size ≤ g)); replace HBW := am (below_step HBW.out hb); clear hb hbox hg))
  go_ret
  exact ⟨_, rfl, (show IsS88 b _ g (a.take 2000) 0 from ⟨_, _, bkn D, G.out, B.out⟩), bn HB, by repeat (first | (with_reducible first | exact HBW.out | apply below_alloc | apply pw_below_drewN | apply below_drew1 | refine below_set ?_ E.out) | exact HBW.out)⟩
 ·rw [if_neg c2] at H; have z := decide_eq_false c2; have A : decide (2000 < a.length) = false := decide_eq_false (by omega); clear c2; simp only [Option.some.injEq, Prod.mk.injEq] at H; obtain ⟨rfl, rfl⟩ := H; go_enter Try.func35, Try.ntmps35
  go_wp2_with (first | ((with_reducible refine gate_dst (N := 10) rfl ?_); refine be_ 10 #[.slice c a.length d, .int .i64 0] 88 ?_; intro i hg w6 hbox hb; replace HB := bs HB hb; have I := bm hbox; have J := am ((by rw [hg]; exact (below_size (by repeat (first | (with_reducible first | exact HBW.out | apply below_alloc | apply pw_below_drewN | apply below_drew1) | exact HBW.out))) : w.heap.size ≤ i)); have K := am ((Nat.le_trans q.out (by rw [hg]; exact (below_size (by repeat (first | (with_reducible first | exact HBW.out | apply below_alloc | apply pw_below_drewN | apply below_drew1) | exact HBW.out))) : w.heap.size ≤ i) : b.heap.size ≤ i)); replace HBW := am (below_step HBW.out hb); clear hb hbox hg))
  go_ret
  exact ⟨_, rfl, (show IsS88 b _ i a 0 from ⟨_, _, bkn I, K.out, p.out⟩), bn HB, by repeat (first | (with_reducible first | exact HBW.out | apply below_alloc | apply pw_below_drewN | apply below_drew1 | refine below_set ?_ J.out) | exact HBW.out)⟩

/-! ### cmp_Or_int: function 94 -/
def cmp_Or_int.l0 : Nat → Int → List Int → Int → Int → Option (Int)
 | 0, _, _, _, _ => none
 | k + 1, x3, x6, x7, x8 => if x8 < x7 then (if 0 ≤ x8 then (if x8 < (x6.length : Int) then (if (rd x6 x8) = x3 then (cmp_Or_int.l0 k x3 x6 x7 (wrap64 (x8 + 1))) else (some (rd x6 x8))) else (none)) else (none)) else (some x3)
def cmp_Or_int.f (k : Nat) (l0 : List Int) : Option (Int) := cmp_Or_int.l0 k 0 l0 (l0.length : Int) 0
theorem cmp_Or_int.mono_l : ∀ k, (∀ a b c d, LeO (cmp_Or_int.l0 k a b c d) (cmp_Or_int.l0 (k + 1) a b c d))
 | 0 => fun _ _ _ _ r h => by simp [cmp_Or_int.l0] at h
 | k + 1 => by
  have ih0 := cmp_Or_int.mono_l k
  ·intro a b c d; unfold cmp_Or_int.l0; exact mo_
theorem cmp_Or_int.mono : ∀ a k, LeO (cmp_Or_int.f k a) (cmp_Or_int.f (k + 1) a) := by
 intro a k; have ih0 := cmp_Or_int.mono_l k; unfold cmp_Or_int.f; exact mo_
set_option maxHeartbeats 8000000 in
set_option maxRecDepth 100000 in
theorem cmp_Or_int.calls (k : Nat) (i : Option Addr) (j : Nat) (l0 : List Int) (r : Int) (w : World) (l : Kd.C (Kd.int .i64) w i l0.length l0) (m : l0.length ≤ j) (h : cmp_Or_int.f k l0 = some r) :
  Calls Try.prog 94 #[.slice i l0.length j] w fun e w' => e = .returned (.int .i64 r) ∧ Drawn0 w w' := by
 have n := am l; have HC0 := am m; clear l m
 have H : (cmp_Or_int.l0 k 0 l0 (l0.length : Int) 0) = some r := h
 clear h; have H' := am H; clear H; go_enter Try.func94, Try.ntmps94; go_wp2
 go_loopg [8] k (fun kq p w' => ∃ (a : Int), p = .int .i64 a ∧ Aside0 (cmp_Or_int.l0 kq 0 l0 (l0.length : Int) a = some r) ∧ Aside0 (kq ≤ k) ∧ Drawn0 w w')
 case atStart => exact ⟨(0), rs_, H', ⟨Nat.le_refl _⟩, by repeat (first | exact Drawn0.refl _ | apply Drawn0.step)⟩
 case round =>
  clear H'; obtain ⟨a, rfl, HA, o, ⟨m1, rfl⟩⟩ := hrel; cases gk with
  | zero => exact absurd HA.out (by simp [cmp_Or_int.l0])
  | succ k1 =>
   have H := HA.out; clear HA; simp only [cmp_Or_int.l0] at H; by_cases c2 : a < (l0.length : Int)
   ·rw [if_pos c2] at H; have q := decide_eq_true c2; clear c2; obtain ⟨y, H⟩ := id_ H; obtain ⟨z, H⟩ := id_ H; by_cases b : (rd l0 a) = 0
    ·rw [if_pos b] at H; have s : ((rd l0 a) == 0) = true := beq_iff_eq.mpr b; have t : ((rd l0 a) != 0) = false := bne_eq_false_iff_eq.mpr b; clear b; have H' := am H; clear H; have c : 0 ≤ (a : Int) := oa; have d : a < (l0.length : Int) := oa; obtain ⟨u, g, x⟩ := Kd.at_int n.out a c d; cases g; obtain ⟨c, d⟩ := e2_ c d; go_wp2
     go_roundg k1
     case measure => have := o.out; omega
     case rel => exact ⟨(wrap64 (a + 1)), rs_, H', ⟨by have := o.out; omega⟩, by repeat (first | exact Drawn0.refl _ | apply Drawn0.step)⟩
    ·rw [if_neg b] at H; have s : ((rd l0 a) == 0) = false := beq_eq_false_iff_ne.mpr b; have t : ((rd l0 a) != 0) = true := bne_iff_ne.mpr b; obtain rfl := Option.some.inj H; have c : 0 ≤ (a : Int) := oa; have d : a < (l0.length : Int) := oa; obtain ⟨u, g, x⟩ := Kd.at_int n.out a c d; cases g; obtain ⟨c, d⟩ := e2_ c d; go_wp2
     go_ret
     exact ⟨rs_, by repeat (first | exact Drawn0.refl _ | apply Drawn0.step)⟩
   ·rw [if_neg c2] at H; have q := decide_eq_false c2; clear c2; obtain rfl := Option.some.inj H; go_wp2
    go_ret
    exact ⟨rs_, by repeat (first | exact Drawn0.refl _ | apply Drawn0.step)⟩

/-! ### cmp_isNaN_int: function 113 -/
def cmp_isNaN_int.f (a0 : Int) : Option (Bool) := some (a0 != a0)
set_option maxHeartbeats 8000000 in
set_option maxRecDepth 100000 in
theorem cmp_isNaN_int.calls (a : Int) (r : Bool) (w : World) (h : cmp_isNaN_int.f a = some r) :
  Calls Try.prog 113 #[.int .i64 a] w fun e w' => e = .returned (.bool r) ∧ Drawn0 w w' := by
 have H : (some (a != a)) = some r := h
 clear h; obtain rfl := Option.some.inj H; go_enter Try.func113, Try.ntmps113; go_wp2
 go_ret
 exact ⟨rs_, by repeat (first | exact Drawn0.refl _ | apply Drawn0.step)⟩

/-! ### cmp_Compare_int: function 95 -/
def cmp_Compare_int.f (a0 : Int) (a1 : Int) : Option (Int) := (cmp_isNaN_int.f a0).bind fun t258 => ((cmp_isNaN_int.f a1).bind fun t259 => (if t258 = true then (if t259 = true then (some 0) else (some (-1))) else (if t259 = true then (some 1) else (if a0 < a1 then (some (-1)) else (if a0 > a1 then (some 1) else (some 0))))))
set_option maxHeartbeats 8000000 in
set_option maxRecDepth 100000 in
theorem cmp_Compare_int.calls (a : Int) (b : Int) (r : Int) (w : World) (h : cmp_Compare_int.f a b = some r) :
  Calls Try.prog 95 #[.int .i64 a, .int .i64 b] w fun e w' => e = .returned (.int .i64 r) ∧ Drawn0 w w' := by
 have H : ((cmp_isNaN_int.f a).bind fun l => ((cmp_isNaN_int.f b).bind fun j => (if l = true then (if j = true then (some 0) else (some (-1))) else (if j = true then (some 1) else (if a < b then (some (-1)) else (if a > b then (some 1) else (some 0))))))) = some r := h
 clear h; obtain ⟨l, c, H⟩ := bi_ H; obtain ⟨j, d, H⟩ := bi_ H; by_cases m : l = true
 ·subst m; rw [if_pos rfl] at H; by_cases n : j = true
  ·subst n; rw [if_pos rfl] at H; obtain rfl := Option.some.inj H; go_enter Try.func95, Try.ntmps95
   go_wp2_with (first | ((with_reducible refine gate_callee (f := 113) rfl ?_); refine gl_ (some 8) Try.func113 #[.int .i64 a] ?_; (with_reducible refine (cmp_isNaN_int.calls a true _ c.out).mono ?_); rintro e w' ⟨rfl, ⟨nd, rfl⟩⟩; refine ⟨_, rfl, ?_⟩) | ((with_reducible refine gate_callee (f := 113) rfl ?_); refine gl_ (some 10) Try.func113 #[.int .i64 b] ?_; (with_reducible refine (cmp_isNaN_int.calls b true _ d.out).mono ?_); rintro e w' ⟨rfl, ⟨nd, rfl⟩⟩; refine ⟨_, rfl, ?_⟩))
   go_ret
   exact ⟨rs_, by repeat (first | exact Drawn0.refl _ | apply Drawn0.step)⟩
  ·obtain rfl := nt_ n; rw [if_neg nf_] at H; obtain rfl := Option.some.inj H; go_enter Try.func95, Try.ntmps95
   go_wp2_with (first | ((with_reducible refine gate_callee (f := 113) rfl ?_); refine gl_ (some 8) Try.func113 #[.int .i64 a] ?_; (with_reducible refine (cmp_isNaN_int.calls a true _ c.out).mono ?_); rintro e w' ⟨rfl, ⟨nd, rfl⟩⟩; refine ⟨_, rfl, ?_⟩) | ((with_reducible refine gate_callee (f := 113) rfl ?_); refine gl_ (some 10) Try.func113 #[.int .i64 b] ?_; (with_reducible refine (cmp_isNaN_int.calls b false _ d.out).mono ?_); rintro e w' ⟨rfl, ⟨nd, rfl⟩⟩; refine ⟨_, rfl, ?_⟩))
   go_ret
   exact ⟨rs_, by repeat (first | exact Drawn0.refl _ | apply Drawn0.step)⟩
 ·obtain rfl := nt_ m; rw [if_neg nf_] at H; by_cases o : j = true
  ·subst o; rw [if_pos rfl] at H; obtain rfl := Option.some.inj H; go_enter Try.func95, Try.ntmps95
   go_wp2_with (first | ((with_reducible refine gate_callee (f := 113) rfl ?_); refine gl_ (some 8) Try.func113 #[.int .i64 a] ?_; (with_reducible refine (cmp_isNaN_int.calls a false _ c.out).mono ?_); rintro e w' ⟨rfl, ⟨nd, rfl⟩⟩; refine ⟨_, rfl, ?_⟩) | ((with_reducible refine gate_callee (f := 113) rfl ?_); refine gl_ (some 10) Try.func113 #[.int .i64 b] ?_; (with_reducible refine (cmp_isNaN_int.calls b true _ d.out).mono ?_); rintro e w' ⟨rfl, ⟨nd, rfl⟩⟩; refine ⟨_, rfl, ?_⟩))
   go_ret
   exact ⟨rs_, by repeat (first | exact Drawn0.refl _ | apply Drawn0.step)⟩
  ·obtain rfl := nt_ o; rw [if_neg nf_] at H; by_cases g : a < b
   ·rw [if_pos g] at H; have p := decide_eq_true g; clear g; obtain rfl := Option.some.inj H; go_enter Try.func95, Try.ntmps95
    go_wp2_with (first | ((with_reducible refine gate_callee (f := 113) rfl ?_); refine gl_ (some 8) Try.func113 #[.int .i64 a] ?_; (with_reducible refine (cmp_isNaN_int.calls a false _ c.out).mono ?_); rintro e w' ⟨rfl, ⟨nd, rfl⟩⟩; refine ⟨_, rfl, ?_⟩) | ((with_reducible refine gate_callee (f := 113) rfl ?_); refine gl_ (some 10) Try.func113 #[.int .i64 b] ?_; (with_reducible refine (cmp_isNaN_int.calls b false _ d.out).mono ?_); rintro e w' ⟨rfl, ⟨nd, rfl⟩⟩; refine ⟨_, rfl, ?_⟩))
    go_ret
    exact ⟨rs_, by repeat (first | exact Drawn0.refl _ | apply Drawn0.step)⟩
   ·rw [if_neg g] at H; have p := decide_eq_false g; clear g; by_cases i : a > b
    ·rw [if_pos i] at H; have q := decide_eq_true i; clear i; obtain rfl := Option.some.inj H; go_enter Try.func95, Try.ntmps95
     go_wp2_with (first | ((with_reducible refine gate_callee (f := 113) rfl ?_); refine gl_ (some 8) Try.func113 #[.int .i64 a] ?_; (with_reducible refine (cmp_isNaN_int.calls a false _ c.out).mono ?_); rintro e w' ⟨rfl, ⟨nd, rfl⟩⟩; refine ⟨_, rfl, ?_⟩) | ((with_reducible refine gate_callee (f := 113) rfl ?_); refine gl_ (some 10) Try.func113 #[.int .i64 b] ?_; (with_reducible refine (cmp_isNaN_int.calls b false _ d.out).mono ?_); rintro e w' ⟨rfl, ⟨nd, rfl⟩⟩; refine ⟨_, rfl, ?_⟩))
     go_ret
     exact ⟨rs_, by repeat (first | exact Drawn0.refl _ | apply Drawn0.step)⟩
    ·rw [if_neg i] at H; have q := decide_eq_false i; clear i; obtain rfl := Option.some.inj H; go_enter Try.func95, Try.ntmps95
     go_wp2_with (first | ((with_reducible refine gate_callee (f := 113) rfl ?_); refine gl_ (some 8) Try.func113 #[.int .i64 a] ?_; (with_reducible refine (cmp_isNaN_int.calls a false _ c.out).mono ?_); rintro e w' ⟨rfl, ⟨nd, rfl⟩⟩; refine ⟨_, rfl, ?_⟩) | ((with_reducible refine gate_callee (f := 113) rfl ?_); refine gl_ (some 10) Try.func113 #[.int .i64 b] ?_; (with_reducible refine (cmp_isNaN_int.calls b false _ d.out).mono ?_); rintro e w' ⟨rfl, ⟨nd, rfl⟩⟩; refine ⟨_, rfl, ?_⟩))
     go_ret
     exact ⟨rs_, by repeat (first | exact Drawn0.refl _ | apply Drawn0.step)⟩

/-! ### impl_tieOrder: function 90 -/
def impl_tieOrder.f (k : Nat) (a0_0 : Int) (a0_1 : Int) (a1_0 : Int) (a1_1 : Int) : Option (Int) := (cmp_Compare_int.f a0_0 a1_0).bind fun t262 => ((cmp_Compare_int.f a0_1 a1_1).bind fun t263 => ((cmp_Or_int.f k (([t262, t263] : List Int))).bind fun t267 => (some t267)))
theorem impl_tieOrder.mono : ∀ a b c d k, LeO (impl_tieOrder.f k a b c d) (impl_tieOrder.f (k + 1) a b c d) := by
 intro a b c d k; unfold impl_tieOrder.f; have m0_ := @cmp_Or_int.mono; exact mo_
def impl_tieOrder.T1 : Bool × List (List Nat × List Nat) := (true, [([], []), ([0], [0]), ([], []), ([2], [2]), ([1, 3], [1, 3]), ([], []), ([5], [5]), ([], []), ([7], [7]), ([6, 8, 4], [6, 8]), ([4, 9], [4, 9]), ([10, 9], [10]), ([11, 11, 0, 1, 2, 3, 4, 5, 6, 7, 8, 9, 10, 11], [11])])
def impl_tieOrder.B1 : List Nat := [0, 1, 0, 4, 15, 0, 32, 0, 128, 511, 1023, 2047, 4095]
theorem impl_tieOrder.tab1 : rtab .any (opsOf Try.f90 1) = impl_tieOrder.T1 := by kernel_rfl
theorem impl_tieOrder.bits1 : waitsOk impl_tieOrder.T1.2 impl_tieOrder.B1 = true := by kernel_rfl
set_option maxHeartbeats 8000000 in
set_option maxRecDepth 100000 in
theorem impl_tieOrder.calls (k : Nat) (j : Int) (l : Int) (m : Int) (n : Int) (r : Int) (w : World) (h : impl_tieOrder.f k j l m n = some r) :
  Calls Try.prog 90 #[.agg #[.int .i64 j, .int .i64 l], .agg #[.int .i64 m, .int .i64 n]] w fun e w' => e = .returned (.int .i64 r) ∧ Below w.heap.size w w' := by
 have X := Try.underlying35; have HB := am (Below.refl w.heap.size w)
 have H : ((cmp_Compare_int.f j m).bind fun g => ((cmp_Compare_int.f l n).bind fun i => ((cmp_Or_int.f k (([g, i] : List Int))).bind fun o => (some o)))) = some r := h
 clear h; obtain ⟨g, E, H⟩ := bi_ H; obtain ⟨i, G, H⟩ := bi_ H; obtain ⟨s, t⟩ : ∃ y_ : List Int, y_ = (([g, i] : List Int)) := ⟨_, rfl⟩; replace H : ((cmp_Or_int.f k s).bind fun o => (some o)) = some r := nh_ t H; have x := am t; clear t; obtain ⟨o, I, H⟩ := bi_ H; obtain rfl := Option.some.inj H; go_enter Try.func90, Try.ntmps90
 try go_wp2_with (first | ((with_reducible refine gate_dst (N := 2) rfl ?_); refine bx_ 2 #[.int .i64 j, .int .i64 l] 35 HB ?_; clear HB; intro Y hg w6 hb a Z HB; clear hb hg) | ((with_reducible refine gate_dst (N := 3) rfl ?_); refine bx_ 3 #[.int .i64 m, .int .i64 n] 35 HB ?_; clear HB; intro aa hg J hb b ab HB; obtain ⟨ad, ae⟩ := nb_ hg a; replace a := bb a hb; clear hb hg))
 replace a := dB a; replace b := dB b; replace HB := dL HB; refine s4_ 13 [] (bq a 0) (bq a 1) (bq b 0) (bq b 1) (fun d => ?_); refine with_tabW impl_tieOrder.tab1 impl_tieOrder.bits1 (fun c q => ?_); generalize J.drew = w8 at a b HB d ⊢; refine pz_ 0 c ?_; refine pz_ 2 c ?_; refine pz_ 5 c ?_; refine pz_ 7 c ?_; refine tz_ 1 c q d ?_; refine tz_ 3 c q d ?_; refine tz_ 6 c q d ?_; refine tz_ 8 c q d ?_; refine on_ 4 c (fun K hK => ?_); refine gg_ Try.func95 #[.int .i64 j, .int .i64 m] ?_
 with_reducible refine (cmp_Compare_int.calls j m g _ E.out).mono ?_
 rintro e w' ⟨rfl, ⟨nd, rfl⟩⟩; refine ⟨_, rfl, ?_⟩; refine hK.out _ _ ⟨(bc a 0), (bc a 1), (bc b 0), (bc b 1)⟩ (fun d => ?_); clear hK K; refine nz_ 9 ?_; refine on_ 9 c (fun K hK => ?_); refine gg_ Try.func95 #[.int .i64 l, .int .i64 n] ?_
 with_reducible refine (cmp_Compare_int.calls l n i _ G.out).mono ?_
 rintro e w' ⟨rfl, ⟨nd, rfl⟩⟩; refine ⟨_, rfl, ?_⟩; refine hK.out _ _ ⟨(bc a 0), (bc a 1), (bc b 0), (bc b 1)⟩ (fun d => ?_); clear hK K; refine nz_ 14 ?_; refine on_ 10 c (fun K hK => ?_); refine Kd.R_lit_step (Kd.int .i64) _ 3 ?hg (N := 15) ?hd (xs := ([g, i] : List Int)) (inner := [.int .i64 g, .int .i64 i]) (ok := fun _ => True) (okp := fun _ => True) ?hr ?hp (fun _ hk => hk) trivial (Below.refl _ _) (Nat.le_refl _) (by simp) ?_; (case hd => rfl); (case hg => rfl); (case hr => first | (go_simp; done) | (go_simp; rfl)); (case hp => exact (Reps.one (show Kd.M (Kd.int .i64) _ _ _ g [.int .i64 g] from rfl) (Reps.one (show Kd.M (Kd.int .i64) _ _ _ i [.int .i64 i] from rfl) (Reps.none _ _)))); intro af w9 p hb L O; clear L O; (first | rw [← x.out] at p | (simp only [Int.reduceToNat] at p; rw [← x.out] at p)); have y := am (Kd.R_lower p (below_size (bn HB))); have z := bb a hb; have A := bb b hb; have B := bs HB hb; clear a b HB; have u := y; have a := z; have b := A; have HB := B; clear y z A B hb p; obtain ⟨P, T, D⟩ := Kd.R_slice u.out; (first | subst D | (injection D with f1_ f2_ f3_; have U := f1_.symm; have W := f3_.symm; clear f1_ f2_ f3_; subst U; subst W)); refine hK.out _ _ ⟨(bc a 0), (bc a 1), (bc b 0), (bc b 1)⟩ (fun d => ?_); clear hK K; refine nz_ 15 ?_; refine on_ 11 c (fun K hK => ?_); refine gg_ Try.func94 #[.slice P s.length T] ?_
 with_reducible refine (cmp_Or_int.calls k _ _ s o _ ?z_1 ?z_2 I.out).mono ?_
 (case z_1 => exact (Kd.R_reads' (onR u)).2.2); (case z_2 => exact (Kd.R_reads' u.out).2.1); rintro e w' ⟨rfl, ⟨nd, rfl⟩⟩; refine ⟨_, rfl, ?_⟩; refine hK.out _ _ ⟨(bc a 0), (bc a 1), (bc b 0), (bc b 1)⟩ (fun d => ?_); clear hK K; refine nz_ 16 ?_; refine pz_ 12 c ?_; refine done_ (done_of c.out (by kernel_rfl)) ?_; try go_wp2
 go_ret
 exact ⟨er_, bn HB⟩

/-! ### impl_ascending: function 69 -/
def impl_ascending.l0 : Nat → List (S35) → Int → Option (Bool)
 | 0, _, _ => none
 | k + 1, x0, x3 => if x3 < (x0.length : Int) then (if 0 ≤ (wrap64 (x3 - 1)) then (if (wrap64 (x3 - 1)) < (x0.length : Int) then (if 0 ≤ x3 then ((impl_tieOrder.f k ((rd_T35 x0 (wrap64 (x3 - 1))).f0) ((rd_T35 x0 (wrap64 (x3 - 1))).f1) ((rd_T35 x0 x3).f0) ((rd_T35 x0 x3).f1)).bind fun t270 => (if t270 ≥ 0 then (some false) else (impl_ascending.l0 k x0 (wrap64 (x3 + 1))))) else (none)) else (none)) else (none)) else (some true)
def impl_ascending.f (k : Nat) (l0 : List (S35)) : Option (Bool) := impl_ascending.l0 k l0 1
theorem impl_ascending.mono_l : ∀ k, (∀ a b, LeO (impl_ascending.l0 k a b) (impl_ascending.l0 (k + 1) a b))
 | 0 => fun _ _ r h => by simp [impl_ascending.l0] at h
 | k + 1 => by
  have ih0 := impl_ascending.mono_l k
  ·intro a b; unfold impl_ascending.l0; have m0_ := @impl_tieOrder.mono; exact mo_
theorem impl_ascending.mono : ∀ a k, LeO (impl_ascending.f k a) (impl_ascending.f (k + 1) a) := by
 intro a k; have ih0 := impl_ascending.mono_l k; unfold impl_ascending.f; have m0_ := @impl_tieOrder.mono; exact mo_
def impl_ascending.T4 : Bool × List (List Nat × List Nat) := (true, [([], []), ([], []), ([1], [1]), ([0, 2], [0, 2]), ([3], [3]), ([], []), ([], []), ([5, 6], [5, 6]), ([7], [7]), ([4, 8], [4, 8]), ([9], [9])])
def impl_ascending.B4 : List Nat := [0, 0, 2, 7, 15, 0, 0, 96, 224, 511, 1023]
theorem impl_ascending.tab4 : rtab .any (opsOf Try.f69 4) = impl_ascending.T4 := by kernel_rfl
theorem impl_ascending.bits4 : waitsOk impl_ascending.T4.2 impl_ascending.B4 = true := by kernel_rfl
set_option maxHeartbeats 8000000 in
set_option maxRecDepth 100000 in
theorem impl_ascending.calls (k : Nat) (J : Option Addr) (L : Nat) (l0 : List (S35)) (r : Bool) (w : World) (M : Kd.C k35 w J l0.length l0) (O : l0.length ≤ L) (h : impl_ascending.f k l0 = some r) :
  Calls Try.prog 69 #[.slice J l0.length L] w fun e w' => e = .returned (.bool r) ∧ Below w.heap.size w w' := by
 have Y := Try.underlying35; have B := am M; have HC0 := am O; clear M O; have HB := am (Below.refl w.heap.size w)
 have H : (impl_ascending.l0 k l0 1) = some r := h
 clear h; have H' := am H; clear H; go_enter Try.func69, Try.ntmps69; go_wp2
 go_loopg [3] k (fun kq U w' => ∃ (a : Int), U = .int .i64 a ∧ Aside0 (impl_ascending.l0 kq l0 a = some r) ∧ Aside0 (kq ≤ k) ∧ Aside0 (Below w.heap.size w w'))
 case atStart => exact ⟨(1), rs_, H', ⟨Nat.le_refl _⟩, ⟨bn HB⟩⟩
 case round =>
  clear H'; obtain ⟨a, rfl, HA, P, HB⟩ := hrel; cases gk with
  | zero => exact absurd HA.out (by simp [impl_ascending.l0])
  | succ k1 =>
   have H := HA.out; clear HA; simp only [impl_ascending.l0] at H; by_cases c2 : a < (l0.length : Int)
   ·rw [if_pos c2] at H; have W := decide_eq_true c2; clear c2; obtain ⟨c, q⟩ : ∃ j_ : Int, (wrap64 (a - 1)) = j_ := ⟨_, rfl⟩; replace H : (if 0 ≤ (c) then (if (c) < (l0.length : Int) then (if 0 ≤ a then ((impl_tieOrder.f k1 ((rd_T35 l0 (c)).f0) ((rd_T35 l0 (c)).f1) ((rd_T35 l0 a).f0) ((rd_T35 l0 a).f1)).bind fun t => (if t ≥ 0 then (some false) else (impl_ascending.l0 k1 l0 (wrap64 (a + 1))))) else (none)) else (none)) else (none)) = some r := by first | (rw [q] at H; exact H) | (simp only [q] at H ⊢; exact H)
    have hji3w : (IntKind.i64.wrap (a - 1)) = c := (i64_w _).trans q; obtain ⟨Z, H⟩ := id_ H; obtain ⟨aa, H⟩ := id_ H; obtain ⟨ab, H⟩ := id_ H; obtain ⟨t, T, H⟩ := bi_ H; by_cases s : t ≥ 0
    ·rw [if_pos s] at H; have X := decide_eq_true s; clear s; obtain rfl := Option.some.inj H; try go_wp2
     replace HB := dL HB; have m : 0 ≤ ((c) : Int) := oa; have n : (c) < (l0.length : Int) := oa; obtain ⟨D, E, d, g⟩ := at_T35 B.out (c) m n; have u := g; have x := d; cases E; replace d := hc_ HB d; replace g := hc_ HB g; obtain ⟨m, n⟩ := e2_ m n; have o : 0 ≤ (a : Int) := oa; have p : a < (l0.length : Int) := oa; obtain ⟨G, I, i, j⟩ := at_T35 B.out a o p; have y := j; have z := i; obtain rfl : D = G := (by injection I); replace i := hc_ HB i; replace j := hc_ HB j; obtain ⟨o, p⟩ := e2_ o p; refine s4_ 11 [] (hb_ HB x) (hb_ HB u) (hb_ HB z) (hb_ HB y) (fun l => ?_); refine with_tabW impl_ascending.tab4 impl_ascending.bits4 (fun b A => ?_); generalize wr.drew = w9 at HB d g i j l ⊢; refine pz_ 0 b ?_; refine pz_ 1 b ?_; refine pz_ 2 b ?_; refine pz_ 3 b ?_; refine pz_ 5 b ?_; refine pz_ 6 b ?_; refine pz_ 7 b ?_; refine tz_ 4 b A l ?_; refine tz_ 8 b A l ?_; refine on_ 9 b (fun K hK => ?_); refine goes_ Try.func90 (by kernel_rfl) rfl #[.agg #[.int .i64 ((rd_T35 l0 (c)).f0), .int .i64 ((rd_T35 l0 (c)).f1)], .agg #[.int .i64 ((rd_T35 l0 a).f0), .int .i64 ((rd_T35 l0 a).f1)]] (by rfl) rfl rfl (by (try simp only [List.map_toArray, List.map_cons, List.map_nil]); first | done | (simp only [q]; rfl) | rfl | (simp only [List.length_drop, List.length_take]; rfl)) ?_
     with_reducible refine (impl_tieOrder.calls k1 ((rd_T35 l0 (c)).f0) ((rd_T35 l0 (c)).f1) ((rd_T35 l0 a).f0) ((rd_T35 l0 a).f1) t _ T.out).mono ?_
     rintro e w10 ⟨rfl, hb⟩; refine ⟨_, rfl, ?_⟩; replace HB := bs HB hb; (try clear hb); refine hK.out _ _ ⟨(hb_ HB x), (hb_ HB u), (hb_ HB z), (hb_ HB y)⟩ (fun l => ?_); clear hK K; refine nz_ 19 ?_; refine pz_ 10 b ?_; refine done_ (done_of b.out (by kernel_rfl)) ?_; try go_wp2
     go_ret
     exact ⟨by first | rfl | (simp [errW_none, errW_some] <;> rfl) | (simp only [← q]; first | rfl | (simp [errW_none, errW_some] <;> rfl)) | (simp [*, errW_none, errW_some] <;> rfl), bn HB⟩
    ·rw [if_neg s] at H; have X := decide_eq_false s; clear s; have H' := am H; clear H; try go_wp2
     replace HB := dL HB; have m : 0 ≤ ((c) : Int) := oa; have n : (c) < (l0.length : Int) := oa; obtain ⟨D, E, d, g⟩ := at_T35 B.out (c) m n; have u := g; have x := d; cases E; replace d := hc_ HB d; replace g := hc_ HB g; obtain ⟨m, n⟩ := e2_ m n; have o : 0 ≤ (a : Int) := oa; have p : a < (l0.length : Int) := oa; obtain ⟨G, I, i, j⟩ := at_T35 B.out a o p; have y := j; have z := i; obtain rfl : D = G := (by injection I); replace i := hc_ HB i; replace j := hc_ HB j; obtain ⟨o, p⟩ := e2_ o p; refine s4_ 11 [] (hb_ HB x) (hb_ HB u) (hb_ HB z) (hb_ HB y) (fun l => ?_); refine with_tabW impl_ascending.tab4 impl_ascending.bits4 (fun b A => ?_); generalize wr.drew = w11 at HB d g i j l ⊢; refine pz_ 0 b ?_; refine pz_ 1 b ?_; refine pz_ 2 b ?_; refine pz_ 3 b ?_; refine pz_ 5 b ?_; refine pz_ 6 b ?_; refine pz_ 7 b ?_; refine tz_ 4 b A l ?_; refine tz_ 8 b A l ?_; refine on_ 9 b (fun K hK => ?_); refine goes_ Try.func90 (by kernel_rfl) rfl #[.agg #[.int .i64 ((rd_T35 l0 (c)).f0), .int .i64 ((rd_T35 l0 (c)).f1)], .agg #[.int .i64 ((rd_T35 l0 a).f0), .int .i64 ((rd_T35 l0 a).f1)]] (by rfl) rfl rfl (by (try simp only [List.map_toArray, List.map_cons, List.map_nil]); first | done | (simp only [q]; rfl) | rfl | (simp only [List.length_drop, List.length_take]; rfl)) ?_
     with_reducible refine (impl_tieOrder.calls k1 ((rd_T35 l0 (c)).f0) ((rd_T35 l0 (c)).f1) ((rd_T35 l0 a).f0) ((rd_T35 l0 a).f1) t _ T.out).mono ?_
     rintro e w12 ⟨rfl, hb⟩; refine ⟨_, rfl, ?_⟩; replace HB := bs HB hb; (try clear hb); refine hK.out _ _ ⟨(hb_ HB x), (hb_ HB u), (hb_ HB z), (hb_ HB y)⟩ (fun l => ?_); clear hK K; refine nz_ 19 ?_; refine pz_ 10 b ?_; refine done_ (done_of b.out (by kernel_rfl)) ?_; try go_wp2
     go_roundg k1
     case measure => have := P.out; omega
     case rel => exact ⟨(wrap64 (a + 1)), rs_, H', ⟨by have := P.out; omega⟩, ⟨bn HB⟩⟩
   ·rw [if_neg c2] at H; have W := decide_eq_false c2; clear c2; obtain rfl := Option.some.inj H; go_wp2
    go_ret
    exact ⟨er_, bn HB⟩

/-! ### impl_NetOk: function 36 -/
mutual
def impl_NetOk.j0 : Nat → Bool → Int → List (S35) → Option (Bool)
 | 0, _, _, _ => none
 | k + 1, x12, x272000, x272001 => if x12 = true then (some false) else (impl_NetOk.l0 k x272001 (x272001.length : Int) 0 x272000 x272001)
def impl_NetOk.l0 : Nat → List (S35) → Int → Int → Int → List (S35) → Option (Bool)
 | 0, _, _, _, _, _ => none
 | k + 1, x14, x15, x16, x272000, x272001 => if x16 < x15 then (if 0 ≤ x16 then (if x16 < (x14.length : Int) then (if ((rd_T35 x14 x16).f0) < 0 then (some false) else (if ((rd_T35 x14 x16).f0) ≥ ((rd_T35 x14 x16).f1) then (some false) else (if ((rd_T35 x14 x16).f1) ≥ x272000 then (some false) else (impl_NetOk.l0 k x14 x15 (wrap64 (x16 + 1)) x272000 x272001)))) else (none)) else (none)) else ((impl_ascending.f k x272001).bind fun t274 => (some t274))
end
def impl_NetOk.f (k : Nat) (a0_0 : Int) (l0_1 : List (S35)) : Option (Bool) := if a0_0 < 0 then (impl_NetOk.j0 k true a0_0 l0_1) else (impl_NetOk.j0 k (decide (a0_0 > 8)) a0_0 l0_1)
theorem impl_NetOk.mono_l : ∀ k, (∀ a b c, LeO (impl_NetOk.j0 k a b c) (impl_NetOk.j0 (k + 1) a b c)) ∧ (∀ a b c d e, LeO (impl_NetOk.l0 k a b c d e) (impl_NetOk.l0 (k + 1) a b c d e))
 | 0 => ⟨fun _ _ _ r h => by simp [impl_NetOk.j0] at h, fun _ _ _ _ _ r h => by simp [impl_NetOk.l0] at h⟩
 | k + 1 => by
  obtain ⟨ih0, ih1⟩ := impl_NetOk.mono_l k; refine ⟨?_, ?_⟩
  ·intro a b c; unfold impl_NetOk.j0; have f := @impl_ascending.mono; exact mo_
  ·intro a b c d e; unfold impl_NetOk.l0; have f := @impl_ascending.mono; exact mo_
theorem impl_NetOk.mono : ∀ a b k, LeO (impl_NetOk.f k a b) (impl_NetOk.f (k + 1) a b) := by
 intro a b k; obtain ⟨ih0, ih1⟩ := impl_NetOk.mono_l k; unfold impl_NetOk.f; have m0_ := @impl_ascending.mono; exact mo_
set_option maxHeartbeats 8000000 in
set_option maxRecDepth 100000 in
theorem impl_NetOk.calls (k : Nat) (i : Int) (t : Option Addr) (u : Nat) (b : List (S35)) (r : Bool) (w : World) (L : Kd.C k35 w t b.length b) (M : b.length ≤ u) (h : impl_NetOk.f k i b = some r) :
  Calls Try.prog 36 #[.agg #[.int .i64 i, .slice t b.length u]] w fun e w' => e = .returned (.bool r) ∧ Below w.heap.size w w' := by
 have ai := Try.underlying25; have aj := Try.underlying35; have B := am L; have X := am M; clear L M; have HB := am (Below.refl w.heap.size w)
 have H : (if i < 0 then (impl_NetOk.j0 k true i b) else (impl_NetOk.j0 k (decide (i > 8)) i b)) = some r := h
 clear h; have E := am H; clear H; go_enter Try.func36, Try.ntmps36
 go_upto_region 1 with (first | ((with_reducible refine gate_dst (N := 1) rfl ?_); refine bx_ 1 #[.int .i64 i, .slice t b.length u] 25 HB ?_; clear HB; intro O hg w3 hb a ak HB; clear hb hg))
 (try simp only [Act.put, List.setIfInBounds_toArray, List.set_cons_zero, List.set_cons_succ])
 go_cut [12] (fun Y wc => ∃ (kq : Nat) (D : Bool), Y = .bool D ∧ Aside0 (impl_NetOk.j0 kq D i b = some r) ∧ Aside0 (kq ≤ k) ∧ Bk wc O (.cells #[.int .i64 i, (.slice t b.length u)] 25 (0, 0)) ∧ Aside0 (Below w.heap.size w wc))
 case first =>
  have H := E.out; clear E; by_cases m : i < 0
  ·rw [if_pos m] at H; have n := decide_eq_true m; clear m; (first | rw [n] | (simp only [i64_w, i32_w]; rw [n]) | skip); have H' := am H; clear H; have P := c2 a; go_wp2
   go_meet
   case rel => exact ⟨_, (true), rs_, H', ⟨by first | omega | exact Nat.le_refl _⟩, ⟨bkn a⟩, ⟨bn HB⟩⟩
  ·rw [if_neg m] at H; have n := decide_eq_false m; clear m; (first | rw [n] | (simp only [i64_w, i32_w]; rw [n]) | skip); have H' := am H; clear H; have T := c2 a; go_wp2
   go_meet
   case rel => exact ⟨_, (decide (i > 8)), rs_, H', ⟨by first | omega | exact Nat.le_refl _⟩, ⟨bkn a⟩, ⟨bn HB⟩⟩
 case rest =>
  clear E; (try clear m n P T); obtain ⟨kq, D, rfl, HA, U, a, HB⟩ := hcut; cases kq with
  | zero => exact absurd HA.out (by simp [impl_NetOk.j0])
  | succ kj1 =>
   have H := HA.out; clear HA; simp only [impl_NetOk.j0] at H; by_cases G : D = true
   ·subst G; rw [if_pos rfl] at H; obtain rfl := Option.some.inj H; go_wp2
    go_ret
    exact ⟨er_, bn HB⟩
   ·obtain rfl := nt_ G; rw [if_neg nf_] at H; have H' := am H; clear H; have Z := c2 a; go_wp2
    go_loopg [16] kj1 (fun kq aa w' => ∃ (c : Int), aa = .int .i64 c ∧ Aside0 (impl_NetOk.l0 kq b (b.length : Int) c i b = some r) ∧ Aside0 (kq ≤ kj1) ∧ Bk w' O (.cells #[.int .i64 i, (.slice t b.length u)] 25 (0, 0)) ∧ Aside0 (Below w.heap.size w w'))
    case atStart => exact ⟨(0), rs_, H', ⟨Nat.le_refl _⟩, ⟨bkn a⟩, ⟨bn HB⟩⟩
    case round =>
     clear H'; (try clear m n G P T Z); obtain ⟨c, rfl, HA, W, a, HB⟩ := hrel; cases gk with
     | zero => exact absurd HA.out (by simp [impl_NetOk.l0])
     | succ k2 =>
      have H := HA.out; clear HA; simp only [impl_NetOk.l0] at H; by_cases x : c < (b.length : Int)
      ·rw [if_pos x] at H; have ab := decide_eq_true x; clear x; obtain ⟨al, H⟩ := id_ H; obtain ⟨an, H⟩ := id_ H; by_cases y : ((rd_T35 b c).f0) < 0
       ·rw [if_pos y] at H; have ad := decide_eq_true y; clear y; obtain rfl := Option.some.inj H; have d : 0 ≤ (c : Int) := oa; have g : c < (b.length : Int) := oa; obtain ⟨I, o, j, l⟩ := at_T35 B.out c d g; cases o; replace j := hc_ HB j; replace l := hc_ HB l; obtain ⟨d, g⟩ := e2_ d g
        go_wp2_with (first | ((with_reducible refine gate_dst (N := 4) rfl ?_); refine bx_ 4 #[.int .i64 0, .int .i64 0] 35 HB ?_; clear HB; intro J hg w13 hb p K HB; obtain ⟨q, s⟩ := nb_ hg a; replace a := bb a hb; clear hb hg; have ap := n2 s q; have aq := c2 p))
        go_ret
        exact ⟨er_, bn HB⟩
       ·rw [if_neg y] at H; have ad := decide_eq_false y; clear y; by_cases z : ((rd_T35 b c).f0) ≥ ((rd_T35 b c).f1)
        ·rw [if_pos z] at H; have ae := decide_eq_true z; clear z; obtain rfl := Option.some.inj H; have d : 0 ≤ (c : Int) := oa; have g : c < (b.length : Int) := oa; obtain ⟨I, o, j, l⟩ := at_T35 B.out c d g; cases o; replace j := hc_ HB j; replace l := hc_ HB l; obtain ⟨d, g⟩ := e2_ d g
         go_wp2_with (first | ((with_reducible refine gate_dst (N := 4) rfl ?_); refine bx_ 4 #[.int .i64 0, .int .i64 0] 35 HB ?_; clear HB; intro J hg w17 hb p K HB; obtain ⟨q, s⟩ := nb_ hg a; replace a := bb a hb; clear hb hg; have ar := n2 s q; have au := c2 p))
         go_ret
         exact ⟨er_, bn HB⟩
        ·rw [if_neg z] at H; have ae := decide_eq_false z; clear z; by_cases A : ((rd_T35 b c).f1) ≥ i
         ·rw [if_pos A] at H; have af := decide_eq_true A; clear A; obtain rfl := Option.some.inj H; have d : 0 ≤ (c : Int) := oa; have g : c < (b.length : Int) := oa; obtain ⟨I, o, j, l⟩ := at_T35 B.out c d g; cases o; replace j := hc_ HB j; replace l := hc_ HB l; obtain ⟨d, g⟩ := e2_ d g
          go_wp2_with (first | ((with_reducible refine gate_dst (N := 4) rfl ?_); refine bx_ 4 #[.int .i64 0, .int .i64 0] 35 HB ?_; clear HB; intro J hg w21 hb p K HB; obtain ⟨q, s⟩ := nb_ hg a; replace a := bb a hb; clear hb hg; have av := n2 s q; have aw := c2 p; have ax := c2 a))
          go_ret
          exact ⟨er_, bn HB⟩
         ·rw [if_neg A] at H; have af := decide_eq_false A; clear A; have H' := am H; clear H; have d : 0 ≤ (c : Int) := oa; have g : c < (b.length : Int) := oa; obtain ⟨I, o, j, l⟩ := at_T35 B.out c d g; cases o; replace j := hc_ HB j; replace l := hc_ HB l; obtain ⟨d, g⟩ := e2_ d g
          go_wp2_with (first | ((with_reducible refine gate_dst (N := 4) rfl ?_); refine bx_ 4 #[.int .i64 0, .int .i64 0] 35 HB ?_; clear HB; intro J hg w25 hb p K HB; obtain ⟨q, s⟩ := nb_ hg a; replace a := bb a hb; clear hb hg; have ay := n2 s q; have az := c2 p; have aA := c2 a))
          go_roundg k2
          case measure => have := U.out; have := W.out; omega
          case rel => exact ⟨(wrap64 (c + 1)), rs_, H', ⟨by have := U.out; have := W.out; omega⟩, ⟨bkn a⟩, ⟨bn HB⟩⟩
      ·rw [if_neg x] at H; have ab := decide_eq_false x; clear x; obtain ⟨ag, ah, H⟩ := bi_ H; obtain rfl := Option.some.inj H; have aB := c2 a
       go_wp2_with (first | ((with_reducible refine gate_callee (f := 69) rfl ?_); refine gl_ (some 40) Try.func69 #[.slice t b.length u] ?_; (with_reducible refine (impl_ascending.calls k2 _ _ b ag _ ?z_1 ?z_2 ah.out).mono ?_); (case z_1 => exact cb B HB); (case z_2 => exact X.out); rintro e w31 ⟨rfl, hb⟩; refine ⟨_, rfl, ?_⟩; replace a := bb a hb; replace HB := bs HB hb; (try clear hb)))
       go_ret
       exact ⟨er_, bn HB⟩

/-! ### slices_Index_impl_Tie_impl_Tie: function 71 -/
def slices_Index_impl_Tie_impl_Tie.l0 : Nat → List (S35) → Int → Int → Int → Int → Option (Int)
 | 0, _, _, _, _, _ => none
 | k + 1, x0, x7, x8, x370000, x370001 => if x8 < x7 then (if 0 ≤ x8 then (if x8 < (x0.length : Int) then (if (x370000 == ((rd_T35 x0 x8).f0) && (x370001 == ((rd_T35 x0 x8).f1))) = true then (some x8) else (slices_Index_impl_Tie_impl_Tie.l0 k x0 x7 (wrap64 (x8 + 1)) x370000 x370001)) else (none)) else (none)) else (some (-1))
def slices_Index_impl_Tie_impl_Tie.f (k : Nat) (l0 : List (S35)) (a1_0 : Int) (a1_1 : Int) : Option (Int) := slices_Index_impl_Tie_impl_Tie.l0 k l0 (l0.length : Int) 0 a1_0 a1_1
theorem slices_Index_impl_Tie_impl_Tie.mono_l : ∀ k, (∀ a b c d e, LeO (slices_Index_impl_Tie_impl_Tie.l0 k a b c d e) (slices_Index_impl_Tie_impl_Tie.l0 (k + 1) a b c d e))
 | 0 => fun _ _ _ _ _ r h => by simp [slices_Index_impl_Tie_impl_Tie.l0] at h
 | k + 1 => by
  have ih0 := slices_Index_impl_Tie_impl_Tie.mono_l k
  ·intro a b c d e; unfold slices_Index_impl_Tie_impl_Tie.l0; exact mo_
theorem slices_Index_impl_Tie_impl_Tie.mono : ∀ a b c k, LeO (slices_Index_impl_Tie_impl_Tie.f k a b c) (slices_Index_impl_Tie_impl_Tie.f (k + 1) a b c) := by
 intro a b c k; have ih0 := slices_Index_impl_Tie_impl_Tie.mono_l k; unfold slices_Index_impl_Tie_impl_Tie.f; exact mo_
set_option maxHeartbeats 8000000 in
set_option maxRecDepth 100000 in
theorem slices_Index_impl_Tie_impl_Tie.calls (k : Nat) (q : Option Addr) (s : Nat) (l0 : List (S35)) (b : Int) (c : Int) (r : Int) (w : World) (t : Kd.C k35 w q l0.length l0) (u : l0.length ≤ s) (h : slices_Index_impl_Tie_impl_Tie.f k l0 b c = some r) :
  Calls Try.prog 71 #[.slice q l0.length s, .agg #[.int .i64 b, .int .i64 c]] w fun e w' => e = .returned (.int .i64 r) ∧ Below w.heap.size w w' := by
 have K := Try.underlying35; have x := am t; have HC0 := am u; clear t u; have HB := am (Below.refl w.heap.size w)
 have H : (slices_Index_impl_Tie_impl_Tie.l0 k l0 (l0.length : Int) 0 b c) = some r := h
 clear h; have H' := am H; clear H; go_enter Try.func71, Try.ntmps71
 go_wp2_with (first | ((with_reducible refine gate_dst (N := 3) rfl ?_); refine bx_ 3 #[.int .i64 b, .int .i64 c] 35 HB ?_; clear HB; intro o hg y hb g z HB; clear hb hg))
 repeat (go_quiet (first | ((with_reducible refine gate_dst (N := 3) rfl ?_); refine bx_ 3 #[.int .i64 b, .int .i64 c] 35 HB ?_; clear HB; intro o hg y hb g z HB; clear hb hg)); try go_wp2_with (first | ((with_reducible refine gate_dst (N := 3) rfl ?_); refine bx_ 3 #[.int .i64 b, .int .i64 c] 35 HB ?_; clear HB; intro o hg y hb g z HB; clear hb hg)))
 go_loopg [8] k (fun kq B w' => ∃ (a : Int), B = .int .i64 a ∧ Aside0 (slices_Index_impl_Tie_impl_Tie.l0 kq l0 (l0.length : Int) a b c = some r) ∧ Aside0 (kq ≤ k) ∧ Bk w' o (.cells #[.int .i64 b, .int .i64 c] 35 (0, 0)) ∧ Aside0 (Below w.heap.size w w'))
 case atStart => exact ⟨(0), rs_, H', ⟨Nat.le_refl _⟩, ⟨bkn g⟩, ⟨bn HB⟩⟩
 case round =>
  clear H'; obtain ⟨a, rfl, HA, A, g, HB⟩ := hrel; cases gk with
  | zero => exact absurd HA.out (by simp [slices_Index_impl_Tie_impl_Tie.l0])
  | succ k1 =>
   have H := HA.out; clear HA; simp only [slices_Index_impl_Tie_impl_Tie.l0] at H; by_cases l : a < (l0.length : Int)
   ·rw [if_pos l] at H; have D := decide_eq_true l; clear l; obtain ⟨L, H⟩ := id_ H; obtain ⟨M, H⟩ := id_ H; by_cases d : (b == ((rd_T35 l0 a).f0) && (c == ((rd_T35 l0 a).f1))) = true
    ·rw [if_pos d] at H; have E : (b == ((rd_T35 l0 a).f0) && (c == ((rd_T35 l0 a).f1))) = true := d; (try (have G : decide (b = ((rd_T35 l0 a).f0) && (c == ((rd_T35 l0 a).f1))) = true := by simpa using d)); (try (have I : (b == ((rd_T35 l0 a).f0) && (c == ((rd_T35 l0 a).f1))) = true := by simpa using d)); clear d; obtain rfl := Option.some.inj H; have O := c2 g; have i : 0 ≤ (a : Int) := oa; have j : a < (l0.length : Int) := oa; obtain ⟨J, p, m, n⟩ := at_T35 x.out a i j; cases p; replace m := hc_ HB m; replace n := hc_ HB n; obtain ⟨i, j⟩ := e2_ i j; go_wp2
     repeat (go_quiet (fail); try go_wp2)
     go_ret
     exact ⟨er_, bn HB⟩
    ·rw [if_neg d] at H; have E : (b == ((rd_T35 l0 a).f0) && (c == ((rd_T35 l0 a).f1))) = false := by simpa using d
     (try (have G : decide (b = ((rd_T35 l0 a).f0) && (c == ((rd_T35 l0 a).f1))) = false := by simpa using d)); (try (have I : (b == ((rd_T35 l0 a).f0) && (c == ((rd_T35 l0 a).f1))) = false := by simpa using d)); (try (have P : ¬ (b = ((rd_T35 l0 a).f0) && (c == ((rd_T35 l0 a).f1))) := by simpa using d)); clear d; have H' := am H; clear H; have T := c2 g; have i : 0 ≤ (a : Int) := oa; have j : a < (l0.length : Int) := oa; obtain ⟨J, p, m, n⟩ := at_T35 x.out a i j; cases p; replace m := hc_ HB m; replace n := hc_ HB n; obtain ⟨i, j⟩ := e2_ i j; go_wp2
     repeat (go_quiet (fail); try go_wp2)
     go_roundg k1
     case measure => have := A.out; omega
     case rel => exact ⟨(wrap64 (a + 1)), rs_, H', ⟨by have := A.out; omega⟩, ⟨bkn g⟩, ⟨bn HB⟩⟩
   ·rw [if_neg l] at H; have D := decide_eq_false l; clear l; obtain rfl := Option.some.inj H; go_wp2
    repeat (go_quiet (fail); try go_wp2)
    go_ret
    exact ⟨er_, bn HB⟩

end Go.Proofs.Ytiamiahkjdipkaa.F
