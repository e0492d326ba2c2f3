-- By oprint.py.
import Derived.Test.YtikmhohgjmandaaF0
import Derived.Test.YtikmhohgjmandaaF1
import Derived.Test.YtikmhohgjmandaaF2
import Derived.Test.YtikmhohgjmandaaF3
namespace Go.Proofs.Ytikmhohgjmandaa.F
open Go.RowKit Go.Proofs.YtikmhohgjmandaaW.PrintWords Go.Proofs.YtikmhohgjmandaaW.PrintLast Go.Proofs.YtikmhohgjmandaaW.PrintMore
attribute [local go_sem] max2_int min2_int max_two min_two max_three min_three max_four min_four
set_option linter.unusedVariables false
set_option linter.unusedSimpArgs false

attribute [local go_sem high] eqA45
/-! ### spec_l1Knot: function 33 -/
def spec_l1Knot.f (k : Nat) (a0_0 : Int) (l0_1 : List (S45)) (a1 : Int) : Option (Bool) := (spec_NetOk.f k a0_0 l0_1).bind fun t112 => (if t112 = true then ((spec_l6In.f a1 0 (wrap64 (a0_0 - 1))).bind fun t113 => (some t113)) else (some false))
theorem spec_l1Knot.mono : ∀ a b c k, LeO (spec_l1Knot.f k a b c) (spec_l1Knot.f (k + 1) a b c) := by
 intro a b c k; unfold spec_l1Knot.f; have m0_ := @spec_NetOk.mono; exact mo_
set_option maxHeartbeats 8000000 in
set_option maxRecDepth 100000 in
theorem spec_l1Knot.calls (k : Nat) (b : Int) (d : Option Addr) (g : Nat) (a : List (S45)) (i : Int) (r : Bool) (w : World) (m : Kd.C k45 w d a.length a) (n : a.length ≤ g) (h : spec_l1Knot.f k b a i = some r) :
  Calls Try.prog 33 #[.agg #[.int .i64 b, .slice d a.length g], .int .i64 i] w fun e w' => e = .returned (.bool r) ∧ Below w.heap.size w w' := by
 have y := Try.underlying25; have o := am m; have p := am n; clear m n; have HB := am (Below.refl w.heap.size w)
 have H : ((spec_NetOk.f k b a).bind fun j => (if j = true then ((spec_l6In.f i 0 (wrap64 (b - 1))).bind fun l => (some l)) else (some false))) = some r := h
 clear h; obtain ⟨j, q, H⟩ := bi_ H; by_cases s : j = true
 ·subst s; rw [if_pos rfl] at H; obtain ⟨l, t, H⟩ := bi_ H; obtain rfl := Option.some.inj H; go_enter Try.func33, Try.ntmps33
  go_wp2_with (first | ((with_reducible refine gate_dst (N := 2) rfl ?_); refine bx_ 2 #[.int .i64 b, .slice d a.length g] 25 HB ?_; clear HB; intro u hg w6 hb c x HB; clear hb hg; have z := c2 c) | ((with_reducible refine gate_callee (f := 49) rfl ?_); refine gl_ (some 6) Try.func49 #[.agg #[.int .i64 b, .slice d a.length g]] ?_; (with_reducible refine (spec_NetOk.calls k b _ _ a true _ ?z_1 ?z_2 q.out).mono ?_); (case z_1 => exact cb o HB); (case z_2 => exact p.out); rintro e w8 ⟨rfl, hb⟩; refine ⟨_, rfl, ?_⟩; replace c := bb c hb; replace HB := bs HB hb; (try clear hb); have A := c2 c) | (go_at_call 58; (with_reducible refine (spec_l6In.calls i 0 (wrap64 (b - 1)) l _ t.out).mono ?_); rintro e w' ⟨rfl, ⟨nd, rfl⟩⟩))
  go_ret
  exact ⟨er_, bn HB⟩
 ·obtain rfl := nt_ s; rw [if_neg nf_] at H; obtain rfl := Option.some.inj H; go_enter Try.func33, Try.ntmps33
  go_wp2_with (first | ((with_reducible refine gate_dst (N := 2) rfl ?_); refine bx_ 2 #[.int .i64 b, .slice d a.length g] 25 HB ?_; clear HB; intro u hg w10 hb c x HB; clear hb hg; have B := c2 c) | ((with_reducible refine gate_callee (f := 49) rfl ?_); refine gl_ (some 6) Try.func49 #[.agg #[.int .i64 b, .slice d a.length g]] ?_; (with_reducible refine (spec_NetOk.calls k b _ _ a false _ ?z_1 ?z_2 q.out).mono ?_); (case z_1 => exact cb o HB); (case z_2 => exact p.out); rintro e w12 ⟨rfl, hb⟩; refine ⟨_, rfl, ?_⟩; replace c := bb c hb; replace HB := bs HB hb; (try clear hb)))
  go_ret
  exact ⟨er_, bn HB⟩

/-! ### spec_l1Tie: function 60 -/
def spec_l1Tie.f (a0 : Int) (a1 : Int) : Option (Int × Int) := if a0 < a1 then (some (a0, a1)) else (some (a1, a0))
set_option maxHeartbeats 8000000 in
set_option maxRecDepth 100000 in
theorem spec_l1Tie.calls (a : Int) (b : Int) (g : Int) (i : Int) (w : World) (h : spec_l1Tie.f a b = some (g, i)) :
  Calls Try.prog 60 #[.int .i64 a, .int .i64 b] w fun e w' => e = .returned (.agg #[.int .i64 g, .int .i64 i]) ∧ Below w.heap.size w w' := by
 have n := Try.underlying45; have HB := am (Below.refl w.heap.size w)
 have H : (if a < b then (some (a, b)) else (some (b, a))) = some (g, i) := h
 clear h; by_cases c : a < b
 ·rw [if_pos c] at H; have l := decide_eq_true c; clear c; simp only [Option.some.injEq, Prod.mk.injEq] at H; obtain ⟨rfl, rfl⟩ := H; go_enter Try.func60, Try.ntmps60
  go_wp2_with (first | ((with_reducible refine gate_dst (N := 4) rfl ?_); refine bx_ 4 #[.int .i64 0, .int .i64 0] 45 HB ?_; clear HB; intro j hg w4 hb d m HB; clear hb hg; have o := c2 d))
  refine bodyPost_ret (results_cell_row rfl _ _ j 45 #[.int .i64 a, .int .i64 b] (0, 0) _ rfl (bkn d) Try.underlying45 rfl (by kernel_rfl)) rfl ?_; exact ⟨er_, bn HB⟩
 ·rw [if_neg c] at H; have l := decide_eq_false c; clear c; simp only [Option.some.injEq, Prod.mk.injEq] at H; obtain ⟨rfl, rfl⟩ := H; go_enter Try.func60, Try.ntmps60
  go_wp2_with (first | ((with_reducible refine gate_dst (N := 4) rfl ?_); refine bx_ 4 #[.int .i64 0, .int .i64 0] 45 HB ?_; clear HB; intro j hg w6 hb d m HB; clear hb hg; have p := c2 d))
  refine bodyPost_ret (results_cell_row rfl _ _ j 45 #[.int .i64 b, .int .i64 a] (0, 0) _ rfl (bkn d) Try.underlying45 rfl (by kernel_rfl)) rfl ?_; exact ⟨er_, bn HB⟩

/-! ### spec_l1Has: function 68 -/
def spec_l1Has.l0 : Nat → Int → Int → Int → Int → List (S45) → Option (Bool)
 | 0, _, _, _, _, _ => none
 | k + 1, x1, x2, x7, x117000, x117001 => if x7 < (x117001.length : Int) then (if 0 ≤ x7 then ((spec_l1Tie.f x1 x2).bind fun bt118 => (if (((rd_T45 x117001 x7).f0) == bt118.1 && (((rd_T45 x117001 x7).f1) == bt118.2)) = true then (some true) else (spec_l1Has.l0 k x1 x2 (wrap64 (x7 + 1)) x117000 x117001))) else (none)) else (some false)
def spec_l1Has.f (k : Nat) (a0_0 : Int) (l0_1 : List (S45)) (a1 : Int) (a2 : Int) : Option (Bool) := spec_l1Has.l0 k a1 a2 0 a0_0 l0_1
theorem spec_l1Has.mono_l : ∀ k, (∀ a b c d e, LeO (spec_l1Has.l0 k a b c d e) (spec_l1Has.l0 (k + 1) a b c d e))
 | 0 => fun _ _ _ _ _ r h => by simp [spec_l1Has.l0] at h
 | k + 1 => by
  have ih0 := spec_l1Has.mono_l k
  ·intro a b c d e; unfold spec_l1Has.l0; exact mo_
theorem spec_l1Has.mono : ∀ a b c d k, LeO (spec_l1Has.f k a b c d) (spec_l1Has.f (k + 1) a b c d) := by
 intro a b c d k; have ih0 := spec_l1Has.mono_l k; unfold spec_l1Has.f; exact mo_
def spec_l1Has.T4 : Bool × List (List Nat × List Nat) := (true, [([], []), ([0], [0]), ([], []), ([1, 2], [1, 2]), ([3], [3]), ([], []), ([], []), ([5, 6], [5, 6]), ([4, 7], [4, 7])])
def spec_l1Has.B4 : List Nat := [0, 1, 0, 7, 15, 0, 0, 96, 255]
theorem spec_l1Has.tab4 : rtab .any (opsOf Try.f68 4) = spec_l1Has.T4 := by kernel_rfl
theorem spec_l1Has.bits4 : waitsOk spec_l1Has.T4.2 spec_l1Has.B4 = true := by kernel_rfl
set_option maxHeartbeats 8000000 in
set_option maxRecDepth 100000 in
theorem spec_l1Has.calls (k : Nat) (t : Int) (A : Option Addr) (B : Nat) (a : List (S45)) (o : Int) (p : Int) (r : Bool) (w : World) (E : Kd.C k45 w A a.length a) (G : a.length ≤ B) (h : spec_l1Has.f k t a o p = some r) :
  Calls Try.prog 68 #[.agg #[.int .i64 t, .slice A a.length B], .int .i64 o, .int .i64 p] w fun e w' => e = .returned (.bool r) ∧ Below w.heap.size w w' := by
 have Y := Try.underlying25; have Z := Try.underlying45; have I := am E; have aa := am G; clear E G; have HB := am (Below.refl w.heap.size w)
 have H : (spec_l1Has.l0 k o p 0 t a) = some r := h
 clear h; have H' := am H; clear H; go_enter Try.func68, Try.ntmps68
 go_wp2_with (first | ((with_reducible refine gate_dst (N := 3) rfl ?_); refine bx_ 3 #[.int .i64 t, .slice A a.length B] 25 HB ?_; clear HB; intro M hg w4 hb c ab HB; clear hb hg))
 go_loopg [7] k (fun kq O w' => ∃ (b : Int), O = .int .i64 b ∧ Aside0 (spec_l1Has.l0 kq o p b t a = some r) ∧ Aside0 (kq ≤ k) ∧ Bk w' M (.cells #[.int .i64 t, (.slice A a.length B)] 25 (0, 0)) ∧ Aside0 (Below w.heap.size w w'))
 case atStart => exact ⟨(0), rs_, H', ⟨Nat.le_refl _⟩, ⟨bkn c⟩, ⟨bn HB⟩⟩
 case round =>
  clear H'; obtain ⟨b, rfl, HA, J, c, HB⟩ := hrel; cases gk with
  | zero => exact absurd HA.out (by simp [spec_l1Has.l0])
  | succ k1 =>
   have H := HA.out; clear HA; simp only [spec_l1Has.l0] at H; by_cases u : b < (a.length : Int)
   ·rw [if_pos u] at H; have P := decide_eq_true u; clear u; obtain ⟨ad, H⟩ := id_ H; obtain ⟨⟨i, j⟩, L, H⟩ := bi_ H; (try dsimp only at H); by_cases g : (((rd_T45 a b).f0) == i && (((rd_T45 a b).f1) == j)) = true
    ·rw [if_pos g] at H; have T : (((rd_T45 a b).f0) == i && (((rd_T45 a b).f1) == j)) = true := g; (try (have U : decide (((rd_T45 a b).f0) = i && (((rd_T45 a b).f1) == j)) = true := by simpa using g)); (try (have W : (((rd_T45 a b).f0) == i && (((rd_T45 a b).f1) == j)) = true := by simpa using g)); clear g; obtain rfl := Option.some.inj H; have ae := c2 c; try go_wp2
     replace c := dB c; replace HB := dL HB; have q : 0 ≤ (b : Int) := oa; have s : b < (a.length : Int) := oa; obtain ⟨X, D, l, m⟩ := at_T45 I.out b q s; have x := m; have y := l; cases D; replace l := hc_ HB l; replace m := hc_ HB m; obtain ⟨q, s⟩ := e2_ q s; refine s4_ 9 [] (bq c 0) (bq c 1) (hb_ HB y) (hb_ HB x) (fun n => ?_); refine with_tabW spec_l1Has.tab4 spec_l1Has.bits4 (fun d z => ?_); generalize wr.drew = w10 at c HB l m n ⊢; refine pz_ 0 d ?_; refine pz_ 2 d ?_; refine pz_ 5 d ?_; refine pz_ 6 d ?_; refine tz_ 1 d z n ?_; refine pz_ 3 d ?_; refine tz_ 4 d z n ?_; refine on_ 7 d (fun K hK => ?_); refine gg_ Try.func60 #[.int .i64 o, .int .i64 p] ?_
     with_reducible refine (spec_l1Tie.calls o p i j _ L.out).mono ?_
     rintro e w11 ⟨rfl, hb⟩; refine ⟨_, rfl, ?_⟩; replace c := bb c hb; replace HB := bs HB hb; (try clear hb); refine hK.out _ _ ⟨(bc c 0), (bc c 1), (hb_ HB y), (hb_ HB x)⟩ (fun n => ?_); clear hK K; refine nz_ 22 ?_; refine pz_ 8 d ?_; refine done_ (done_of d.out (by kernel_rfl)) ?_; try go_wp2
     go_ret
     exact ⟨er_, bn HB⟩
    ·rw [if_neg g] at H; have T : (((rd_T45 a b).f0) == i && (((rd_T45 a b).f1) == j)) = false := by simpa using g
     (try (have U : decide (((rd_T45 a b).f0) = i && (((rd_T45 a b).f1) == j)) = false := by simpa using g)); (try (have W : (((rd_T45 a b).f0) == i && (((rd_T45 a b).f1) == j)) = false := by simpa using g)); (try (have af : ¬ (((rd_T45 a b).f0) = i && (((rd_T45 a b).f1) == j)) := by simpa using g)); clear g; have H' := am H; clear H; have ag := c2 c; try go_wp2
     replace c := dB c; replace HB := dL HB; have q : 0 ≤ (b : Int) := oa; have s : b < (a.length : Int) := oa; obtain ⟨X, D, l, m⟩ := at_T45 I.out b q s; have x := m; have y := l; cases D; replace l := hc_ HB l; replace m := hc_ HB m; obtain ⟨q, s⟩ := e2_ q s; refine s4_ 9 [] (bq c 0) (bq c 1) (hb_ HB y) (hb_ HB x) (fun n => ?_); refine with_tabW spec_l1Has.tab4 spec_l1Has.bits4 (fun d z => ?_); generalize wr.drew = w13 at c HB l m n ⊢; refine pz_ 0 d ?_; refine pz_ 2 d ?_; refine pz_ 5 d ?_; refine pz_ 6 d ?_; refine tz_ 1 d z n ?_; refine pz_ 3 d ?_; refine tz_ 4 d z n ?_; refine on_ 7 d (fun K hK => ?_); refine gg_ Try.func60 #[.int .i64 o, .int .i64 p] ?_
     with_reducible refine (spec_l1Tie.calls o p i j _ L.out).mono ?_
     rintro e w14 ⟨rfl, hb⟩; refine ⟨_, rfl, ?_⟩; replace c := bb c hb; replace HB := bs HB hb; (try clear hb); refine hK.out _ _ ⟨(bc c 0), (bc c 1), (hb_ HB y), (hb_ HB x)⟩ (fun n => ?_); clear hK K; refine nz_ 22 ?_; refine pz_ 8 d ?_; refine done_ (done_of d.out (by kernel_rfl)) ?_; try go_wp2
     go_roundg k1
     case measure => have := J.out; omega
     case rel => exact ⟨(wrap64 (b + 1)), rs_, H', ⟨by have := J.out; omega⟩, ⟨bkn c⟩, ⟨bn HB⟩⟩
   ·rw [if_neg u] at H; have P := decide_eq_false u; clear u; obtain rfl := Option.some.inj H; have ah := c2 c; go_wp2
    go_ret
    exact ⟨er_, bn HB⟩

/-! ### spec_NetHas: function 62 -/
def spec_NetHas.f (k : Nat) (a0_0 : Int) (l0_1 : List (S45)) (a1 : Int) (a2 : Int) : Option (Bool) := (spec_NetOk.f k a0_0 l0_1).bind fun t121 => (if t121 = true then ((spec_l1Has.f k a0_0 l0_1 a1 a2).bind fun t122 => (some t122)) else (some false))
theorem spec_NetHas.mono : ∀ a b c d k, LeO (spec_NetHas.f k a b c d) (spec_NetHas.f (k + 1) a b c d) := by
 intro a b c d k; unfold spec_NetHas.f; have m0_ := @spec_NetOk.mono; have m1_ := @spec_l1Has.mono; exact mo_
set_option maxHeartbeats 8000000 in
set_option maxRecDepth 100000 in
theorem spec_NetHas.calls (k : Nat) (b : Int) (d : Option Addr) (i : Nat) (a : List (S45)) (j : Int) (l : Int) (r : Bool) (w : World) (q : Kd.C k45 w d a.length a) (s : a.length ≤ i) (h : spec_NetHas.f k b a j l = some r) :
  Calls Try.prog 62 #[.agg #[.int .i64 b, .slice d a.length i], .int .i64 j, .int .i64 l] w fun e w' => e = .returned (.bool r) ∧ Below w.heap.size w w' := by
 have B := Try.underlying25; have m := am q; have n := am s; clear q s; have HB := am (Below.refl w.heap.size w)
 have H : ((spec_NetOk.f k b a).bind fun o => (if o = true then ((spec_l1Has.f k b a j l).bind fun p => (some p)) else (some false))) = some r := h
 clear h; obtain ⟨o, t, H⟩ := bi_ H; by_cases u : o = true
 ·subst u; rw [if_pos rfl] at H; obtain ⟨p, x, H⟩ := bi_ H; obtain rfl := Option.some.inj H; go_enter Try.func62, Try.ntmps62
  go_wp2_with (first | ((with_reducible refine gate_dst (N := 3) rfl ?_); refine bx_ 3 #[.int .i64 b, .slice d a.length i] 25 HB ?_; clear HB; intro y hg w7 hb c z HB; clear hb hg; have D := c2 c) | ((with_reducible refine gate_callee (f := 49) rfl ?_); refine gl_ (some 8) Try.func49 #[.agg #[.int .i64 b, .slice d a.length i]] ?_; (with_reducible refine (spec_NetOk.calls k b _ _ a true _ ?z_1 ?z_2 t.out).mono ?_); (case z_1 => exact cb m HB); (case z_2 => exact n.out); rintro e w9 ⟨rfl, hb⟩; refine ⟨_, rfl, ?_⟩; replace c := bb c hb; replace HB := bs HB hb; (try clear hb); have E := c2 c) | (go_at_call 68; (with_reducible refine (spec_l1Has.calls k b _ _ a j l p _ ?z_1 ?z_2 x.out).mono ?_); (case z_1 => exact cb m HB); (case z_2 => exact n.out); rintro e w11 ⟨rfl, hb⟩; replace c := bb c hb; replace HB := bs HB hb; (try clear hb)))
  go_ret
  exact ⟨er_, bn HB⟩
 ·obtain rfl := nt_ u; rw [if_neg nf_] at H; obtain rfl := Option.some.inj H; go_enter Try.func62, Try.ntmps62
  go_wp2_with (first | ((with_reducible refine gate_dst (N := 3) rfl ?_); refine bx_ 3 #[.int .i64 b, .slice d a.length i] 25 HB ?_; clear HB; intro y hg w12 hb c z HB; clear hb hg; have G := c2 c) | ((with_reducible refine gate_callee (f := 49) rfl ?_); refine gl_ (some 8) Try.func49 #[.agg #[.int .i64 b, .slice d a.length i]] ?_; (with_reducible refine (spec_NetOk.calls k b _ _ a false _ ?z_1 ?z_2 t.out).mono ?_); (case z_1 => exact cb m HB); (case z_2 => exact n.out); rintro e w14 ⟨rfl, hb⟩; refine ⟨_, rfl, ?_⟩; replace c := bb c hb; replace HB := bs HB hb; (try clear hb)))
  go_ret
  exact ⟨er_, bn HB⟩

/-- A state of type 77 at block g of W; what its slices lead to came in by w0. -/
def IsS77 (w0 W : World) (g : Nat) (f0 : List Int) (f1 : Int) : Prop := ∃ A0 c0, W.heap[g]? = some (.cells #[.slice A0 f0.length c0, .int .i64 f1] 77 (0, 0)) ∧ w0.heap.size ≤ g ∧ Kd.C (Kd.int .u8) w0 A0 f0.length f0
theorem IsS77.grown {w0 W : World} {g : Nat} {f0 : List Int} {f1 : Int} {W1 : World} {row : Option Nat} (h : IsS77 w0 W g f0 f1) (hw : W.grownBy W1 row) (hne : some g ≠ row) : IsS77 w0 W1 g f0 f1 := by
 obtain ⟨A0, c0, hb, hg, hr0⟩ := h; exact ⟨A0, c0, blk_grown hb hw hne, hg, hr0⟩
theorem IsS77.own_neN {w0 W : World} {g : Nat} {f0 : List Int} {f1 : Int} {α : Type} {d : Kd α} {e : Nat} {base : Nat} {ok : Nat → Prop} {v : Value} {xs : List α} (h : IsS77 w0 W g f0 f1) (ho : Kd.N d e W base ok v xs) (ht : e ≠ 77) : some g ≠ v.ownBlock := by
 obtain ⟨A0, c0, hb, hg, hr0⟩ := h; exact Kd.N_ne ho hb ht
theorem IsS77.fresh {w0 W : World} {g : Nat} {f0 : List Int} {f1 : Int} (h : IsS77 w0 W g f0 f1) : ∀ k, W.heap.size ≤ k → k ≠ g := by
 obtain ⟨A0, c0, hb, hg, hr0⟩ := h; exact Kd.freshB hb
theorem IsS77.kept {w0 W : World} {g : Nat} {f0 : List Int} {f1 : Int} {W1 : World} {S : Nat → Prop} (h : IsS77 w0 W g f0 f1) (hk : Kept W W1 S) (hne : ¬ S g) : IsS77 w0 W1 g f0 f1 := by
 obtain ⟨A0, c0, hb, hg, hr0⟩ := h; exact ⟨A0, c0, blk_kept hb hk hne, hg, hr0⟩
theorem IsS77.below {w0 W : World} {g : Nat} {f0 : List Int} {f1 : Int} {W1 : World} (h : IsS77 w0 W g f0 f1) (hw : Below W.heap.size W W1) : IsS77 w0 W1 g f0 f1 := h.grown (grown_of_below hw none) (by simp)
theorem IsS77.alloc {w0 W : World} {g : Nat} {f0 : List Int} {f1 : Int} (h : IsS77 w0 W g f0 f1) (o : Obj) : IsS77 w0 (W.alloc o) g f0 f1 := h.below (below_alloc (Below.refl _ _) o)
theorem IsS77.drewN {w0 W : World} {g : Nat} {f0 : List Int} {f1 : Int} (h : IsS77 w0 W g f0 f1) (m : Nat) : IsS77 w0 (W.drewN m) g f0 f1 := h
theorem IsS77.drew {w0 W : World} {g : Nat} {f0 : List Int} {f1 : Int} (h : IsS77 w0 W g f0 f1) : IsS77 w0 W.drew g f0 f1 := h
theorem IsS77.at_ {w0 W : World} {g : Nat} {f0 : List Int} {f1 : Int} {w' : World} {m : Nat} (hq : W.drewN m = w') (h : IsS77 w0 W g f0 f1) : IsS77 w0 w' g f0 f1 := by subst hq; exact IsS77.drewN h m
theorem IsS77.apart {w0 W : World} {g : Nat} {f0 : List Int} {f1 : Int} {α : Type} {d : Kd α} {e : Nat} {base : Nat} {ok : Nat → Prop} {v : Value} {xs : List α} (h : IsS77 w0 W g f0 f1) (ho : d.R e W base ok v xs) (ht : ∀ q, q ∈ e :: d.E → q ≠ 77) : d.R e W base (fun k => ok k ∧ k ≠ g) v xs := by
 obtain ⟨A0, c0, hb, hg, hr0⟩ := h; exact Kd.R_types ho hb ht
theorem IsS77.own_ne {w0 W : World} {g : Nat} {f0 : List Int} {f1 : Int} {α : Type} {d : Kd α} {e : Nat} {base : Nat} {ok : Nat → Prop} {v : Value} {xs : List α} (h : IsS77 w0 W g f0 f1) (ho : d.R e W base ok v xs) (ht : e ≠ 77) : some g ≠ v.ownBlock := by
 obtain ⟨A0, c0, hb, hg, hr0⟩ := h; exact Kd.R_ne ho hb ht
theorem IsS77.apartQ {w0 W : World} {g : Nat} {f0 : List Int} {f1 : Int} {α : Type} {d : Kd α} {e : Nat} {base : Nat} {ok : Nat → Prop} {v : Value} {xs : List α} (h : IsS77 w0 W g f0 f1) (ho : d.Q e W base ok v xs) (ht : ∀ q, q ∈ e :: d.E → q ≠ 77) : d.Q e W base (fun k => ok k ∧ k ≠ g) v xs := by
 obtain ⟨A0, c0, hb, hg, hr0⟩ := h; exact Kd.Q_types ho hb ht
theorem IsS77.own_neQ {w0 W : World} {g : Nat} {f0 : List Int} {f1 : Int} {α : Type} {d : Kd α} {e : Nat} {base : Nat} {ok : Nat → Prop} {v : Value} {xs : List α} (h : IsS77 w0 W g f0 f1) (ho : d.Q e W base ok v xs) (ht : e ≠ 77) : some g ≠ v.ownBlock := by
 obtain ⟨A0, c0, hb, hg, hr0⟩ := h; exact Kd.Q_ne ho hb ht
theorem IsS77.apartS {w0 W : World} {g : Nat} {f0 : List Int} {f1 : Int} {α : Type} {d : Kd α} {e : Nat} {base : Nat} {ok : Nat → Prop} {v : Value} {xs : List α} (h : IsS77 w0 W g f0 f1) (ho : d.S e W base ok v xs) (ht : ∀ q, q ∈ e :: d.E → q ≠ 77) : d.S e W base (fun k => ok k ∧ k ≠ g) v xs := by
 obtain ⟨A0, c0, hb, hg, hr0⟩ := h; exact Kd.S_types ho hb ht
theorem IsS77.own_neS {w0 W : World} {g : Nat} {f0 : List Int} {f1 : Int} {α : Type} {d : Kd α} {e : Nat} {base : Nat} {ok : Nat → Prop} {v : Value} {xs : List α} (h : IsS77 w0 W g f0 f1) (ho : d.S e W base ok v xs) (ht : e ≠ 77) : some g ≠ v.ownBlock := by
 obtain ⟨A0, c0, hb, hg, hr0⟩ := h; exact Kd.S_ne ho hb ht
theorem IsS77.lt {w0 W : World} {g : Nat} {f0 : List Int} {f1 : Int} (h : IsS77 w0 W g f0 f1) : g < W.heap.size := by
 obtain ⟨A0, c0, hb, hg, hr0⟩ := h; exact blk_lt hb
theorem IsS77.ge {w0 W : World} {g : Nat} {f0 : List Int} {f1 : Int} (h : IsS77 w0 W g f0 f1) : w0.heap.size ≤ g := by
 obtain ⟨A0, c0, hb, hg, hr0⟩ := h; exact hg
theorem IsS77.ne_blk {w0 W : World} {g : Nat} {f0 : List Int} {f1 : Int} {a : Nat} {cs : Array Value} {t : TypeId} {fr : Nat × Nat} (h : IsS77 w0 W g f0 f1) (hb2 : W.heap[a]? = some (.cells cs t fr)) (ht : t ≠ 77) : g ≠ a := by
 obtain ⟨A0, c0, hb, hg, hr0⟩ := h; rintro rfl; rw [hb] at hb2; injection hb2 with hb2
 injection hb2 with _ ht2
 exact ht ht2.symm
theorem IsS77.far {w0 W : World} {g : Nat} {f0 : List Int} {f1 : Int} {p : Addr} (h : IsS77 w0 W g f0 f1) (hne : g ≠ p.block) (u : Value) : IsS77 w0 (W.setCell p u) g f0 f1 := by
 obtain ⟨A0, c0, hb, hg, hr0⟩ := h; exact ⟨A0, c0, blk_far hb hne u, hg, hr0⟩
theorem cellS77_0 {W : World} {g : Nat} {A0 : Option Addr} {c0 : Nat} {f0 : List Int} {f1 : Int} (h : W.heap[g]? = some (.cells #[.slice A0 f0.length c0, .int .i64 f1] 77 (0, 0))) : W.cell? ⟨g, 0, none⟩ = some (.slice A0 f0.length c0) := (blk_cell h 0).trans rfl
theorem cellS77_1 {W : World} {g : Nat} {A0 : Option Addr} {c0 : Nat} {f0 : List Int} {f1 : Int} (h : W.heap[g]? = some (.cells #[.slice A0 f0.length c0, .int .i64 f1] 77 (0, 0))) : W.cell? ⟨g, 1, none⟩ = some (.int .i64 f1) := (blk_cell h 1).trans rfl
theorem IsS77.set_1 {w0 W : World} {g : Nat} {f0 : List Int} {f1 : Int} (h : IsS77 w0 W g f0 f1) (x : Int) : IsS77 w0 (W.setCell ⟨g, 1, none⟩ (.int .i64 x)) g f0 x := by
 obtain ⟨A0, c0, hb, hg, hr0⟩ := h; exact ⟨A0, c0, by simpa using blk_set hb 1 (.int .i64 x), hg, hr0⟩
theorem IsS77.new (w0 W : World) (A0 : Option Addr) (c0 : Nat) (f0 : List Int) (f1 : Int) (hB : Below w0.heap.size w0 W) (hr0 : Kd.C (Kd.int .u8) w0 A0 f0.length f0) : IsS77 w0 (W.alloc (.cells #[.slice A0 f0.length c0, .int .i64 f1] 77)) W.heap.size f0 f1 := ⟨A0, c0, by simpa using heap_alloc_new W _, hB.size, hr0⟩
/-- as it now stands -/
theorem IsS77.now {w0 W : World} {g : Nat} {f0 : List Int} {f1 : Int} (h : IsS77 w0 W g f0 f1 := by repeat (first | (with_reducible first | exact Aside0.out (self := by assumption) | apply IsS77.alloc | apply IsS77.drewN | apply IsS77.drew | apply IsS77.set_1 | refine IsS77.far ?_ ao _) | exact Aside0.out (self := by assumption))) : IsS77 w0 W g f0 f1 := h

/-! ### spec_l6Open: function 25 -/
def spec_l6Open.f (l0 : List Int) : Option (List Int × Int) := if (l0.length : Int) > 2000 then (if 2000 ≤ (l0.length : Int) then (some (l0.take 2000, 0)) else (none)) else (some (l0, 0))
set_option maxHeartbeats 8000000 in
set_option maxRecDepth 100000 in
theorem spec_l6Open.calls (c : Option Addr) (d : Nat) (a : List Int) (j : List Int) (l : Int) (b w : World) (hB : Below b.heap.size b w) (n : Kd.C (Kd.int .u8) b c a.length a) (o : a.length ≤ d) (h : spec_l6Open.f a = some (j, l)) :
  Calls Try.prog 25 #[.slice c a.length d] w fun e w' => ∃ g_ : Nat, e = .returned (.pointer (some ⟨g_, 0, none⟩)) ∧ IsS77 b w' g_ j l ∧ Below b.heap.size b w' ∧ Below w.heap.size w w' := by
 have L := Try.underlying77; have p := am n; have y := am o; clear n o; have HBW := am (Below.refl w.heap.size w); have q := am hB.size; have HB := am hB; clear hB
 have H : (if (a.length : Int) > 2000 then (if 2000 ≤ (a.length : Int) then (some (a.take 2000, 0)) else (none)) else (some (a, 0))) = some (j, l) := h
 clear h; by_cases c2 : (a.length : Int) > 2000
 ·rw [if_pos c2] at H; have z := decide_eq_true c2; have A : decide (2000 < a.length) = true := decide_eq_true (by omega); clear c2; obtain ⟨m, H⟩ := ig_ H; have M := eq_true m; have O := decide_eq_true m; clear m; simp only [Option.some.injEq, Prod.mk.injEq] at H; obtain ⟨rfl, rfl⟩ := H; obtain ⟨i04, s, _, t, _⟩ := info_parts info5; obtain ⟨T, u, x⟩ := print_take_of (P := Try.prog) (Value.int .u8) 0 22 5 .i64 Try.underlying22 s t c d a 2000 (by omega) (oa) y.out; have B := am (Kd.C_of_reads (h1 := fun _ => rfl) (u _ (Kd.reads_of_C p.out))); have U := am x; clear u x s t; go_enter Try.func25, Try.ntmps25
  go_wp2_with (first | ((with_reducible refine gate_dst (N := 10) rfl ?_); refine be_ 10 #[.slice c (a.take 2000).length d, .int .i64 0] 77 ?_; intro g hg w5 hbox hb; replace HB := bs HB hb; have D := bm hbox; have E := am ((by rw [hg]; exact (below_size (by repeat (first | (with_reducible first | exact HBW.out | apply below_alloc | apply pw_below_drewN | apply below_drew1) | exact HBW.out))) : w.heap.size ≤ g)); have G := am ((Nat.le_trans q.out (by rw [hg]; exact (below_size (by repeat (first | (with_reducible first | exact HBW.out | apply below_alloc | apply pw_below_drewN | apply below_drew1) | exact HBW.out))) : w.heap.size ≤ g) : b.heap.size ≤ g)); replace HBW := am (below_step HBW.out hb); clear hb hbox hg))
  go_ret
  exact ⟨_, rfl, (show IsS77 b _ g (a.take 2000) 0 from ⟨_, _, bkn D, G.out, B.out⟩), bn HB, by repeat (first | (with_reducible first | exact HBW.out | apply below_alloc | apply pw_below_drewN | apply below_drew1 | refine below_set ?_ E.out) | exact HBW.out)⟩
 ·rw [if_neg c2] at H; have z := decide_eq_false c2; have A : decide (2000 < a.length) = false := decide_eq_false (by omega); clear c2; simp only [Option.some.injEq, Prod.mk.injEq] at H; obtain ⟨rfl, rfl⟩ := H; go_enter Try.func25, Try.ntmps25
  go_wp2_with (first | ((with_reducible refine gate_dst (N := 10) rfl ?_); refine be_ 10 #[.slice c a.length d, .int .i64 0] 77 ?_; intro i hg w6 hbox hb; replace HB := bs HB hb; have I := bm hbox; have J := am ((by rw [hg]; exact (below_size (by repeat (first | (with_reducible first | exact HBW.out | apply below_alloc | apply pw_below_drewN | apply below_drew1) | exact HBW.out))) : w.heap.size ≤ i)); have K := am ((Nat.le_trans q.out (by rw [hg]; exact (below_size (by repeat (first | (with_reducible first | exact HBW.out | apply below_alloc | apply pw_below_drewN | apply below_drew1) | exact HBW.out))) : w.heap.size ≤ i) : b.heap.size ≤ i)); replace HBW := am (below_step HBW.out hb); clear hb hbox hg))
  go_ret
  exact ⟨_, rfl, (show IsS77 b _ i a 0 from ⟨_, _, bkn I, K.out, p.out⟩), bn HB, by repeat (first | (with_reducible first | exact HBW.out | apply below_alloc | apply pw_below_drewN | apply below_drew1 | refine below_set ?_ J.out) | exact HBW.out)⟩

/-! ### spec_l6Rd_pick: function 28 -/
def spec_l6Rd_pick.j0 : Nat → Int → Bool → List Int → Int → Option (Int × Int)
 | 0, _, _, _, _ => none
 | k + 1, x1, x24, x1000, x1001 => if x24 = true then (some (0, x1001)) else (if (wrap64 (x1001 - 1)) < (x1000.length : Int) then (if 0 ≤ (wrap64 (x1001 - 1)) then (if x1 = 0 then (none) else (some (Int.tmod (wrap64 (rd x1000 (wrap64 (x1001 - 1)))) x1, x1001))) else (none)) else (if (x1000.length : Int) = 0 then (none) else (if 0 ≤ (Int.tmod (wrap64 (x1001 - 1)) (x1000.length : Int)) then (if (Int.tmod (wrap64 (x1001 - 1)) (x1000.length : Int)) < (x1000.length : Int) then (if 0 ≤ (Int.tmod (wrap64 ((wrap64 ((wrap64 (x1001 - 1)) * 7)) + 3)) (x1000.length : Int)) then (if (Int.tmod (wrap64 ((wrap64 ((wrap64 (x1001 - 1)) * 7)) + 3)) (x1000.length : Int)) < (x1000.length : Int) then (if x1 = 0 then (none) else (some (Int.tmod (Go.bits .xor .i64 (wrap64 ((wrap64 ((wrap64 ((wrap64 ((wrap64 (rd x1000 (Int.tmod (wrap64 (x1001 - 1)) (x1000.length : Int)))) * 131)) + (wrap64 ((wrap64 (rd x1000 (Int.tmod (wrap64 ((wrap64 ((wrap64 (x1001 - 1)) * 7)) + 3)) (x1000.length : Int)))) * 1117)))) + (wrap64 ((wrap64 (x1001 - 1)) * 29)))) + (wrap64 ((wrap64 (Int.tdiv (wrap64 (x1001 - 1)) (x1000.length : Int))) * 53)))) (wrap64 (Int.tdiv (wrap64 ((wrap64 ((wrap64 ((wrap64 ((wrap64 (rd x1000 (Int.tmod (wrap64 (x1001 - 1)) (x1000.length : Int)))) * 131)) + (wrap64 ((wrap64 (rd x1000 (Int.tmod (wrap64 ((wrap64 ((wrap64 (x1001 - 1)) * 7)) + 3)) (x1000.length : Int)))) * 1117)))) + (wrap64 ((wrap64 (x1001 - 1)) * 29)))) + (wrap64 ((wrap64 (Int.tdiv (wrap64 (x1001 - 1)) (x1000.length : Int))) * 53)))) 64))) x1, x1001))) else (none)) else (none)) else (none)) else (none))))
def spec_l6Rd_pick.f (k : Nat) (s0_0 : List Int) (s0_1 : Int) (a1 : Int) : Option (Int × Int) := if a1 < 1 then (spec_l6Rd_pick.j0 k a1 true s0_0 (wrap64 (s0_1 + 1))) else (spec_l6Rd_pick.j0 k a1 ((s0_0.length : Int) == 0) s0_0 (wrap64 (s0_1 + 1)))
theorem spec_l6Rd_pick.mono_l : ∀ k, (∀ a b c d, LeO (spec_l6Rd_pick.j0 k a b c d) (spec_l6Rd_pick.j0 (k + 1) a b c d))
 | 0 => fun _ _ _ _ r h => by simp [spec_l6Rd_pick.j0] at h
 | k + 1 => by
  have ih0 := spec_l6Rd_pick.mono_l k
  ·intro a b c d; unfold spec_l6Rd_pick.j0; exact mo_
theorem spec_l6Rd_pick.mono : ∀ a b c k, LeO (spec_l6Rd_pick.f k a b c) (spec_l6Rd_pick.f (k + 1) a b c) := by
 intro a b c k; have ih0 := spec_l6Rd_pick.mono_l k; unfold spec_l6Rd_pick.f; exact mo_
set_option maxHeartbeats 8000000 in
set_option maxRecDepth 100000 in
theorem spec_l6Rd_pick.calls (k : Nat) (g : Nat) (a : List Int) (b : Int) (c : Int) (j : Int) (l : Int) (d w : World) (hI : IsS77 d w g a b) (hB : Below d.heap.size d w) (h : spec_l6Rd_pick.f k a b c = some (j, l)) :
  Calls Try.prog 28 #[.pointer (some ⟨g, 0, none⟩), .int .i64 c] w fun e w' => e = .returned (.int .i64 j) ∧ IsS77 d w' g a l ∧ Below d.heap.size d w' ∧ KeepBut w w' g none := by
 have GEs_ := am (IsS77.ge hI); have s := am hI; have HK := am (KeepBut.refl w g none); have HL := am hB.size; clear hI; have HW0 := am hB.size; have HB := am hB; clear hB
 have H : (if c < 1 then (spec_l6Rd_pick.j0 k c true a (wrap64 (b + 1))) else (spec_l6Rd_pick.j0 k c ((a.length : Int) == 0) a (wrap64 (b + 1)))) = some (j, l) := h
 clear h; have G := am H; clear H; obtain ⟨ax, ay, x, ab, az⟩ := s.out; have ad := cellS77_0 x; have ae := cellS77_1 x; have af := blk_frozen x 1; clear x ab; go_enter Try.func28, Try.ntmps28
 go_upto_region 2 with (fail)
 repeat (go_quiet (fail); go_upto_region 2 with (fail))
 go_cut [24] (fun ag wc => ∃ (kq : Nat) (y : Bool), ag = .bool y ∧ Aside0 (spec_l6Rd_pick.j0 kq c y a (wrap64 (b + 1)) = some (j, l)) ∧ Aside0 (kq ≤ k) ∧ Aside0 (IsS77 d wc g a (wrap64 (b + 1))) ∧ Aside0 (KeepBut w wc g none) ∧ Aside0 (Below d.heap.size d wc))
 case first =>
  have H := G.out; clear G; by_cases m : c < 1
  ·rw [if_pos m] at H; have o := decide_eq_true m; clear m; (first | rw [o] | (simp only [i64_w, i32_w]; rw [o]) | skip); have H' := am H; clear H; go_wp2
   repeat (go_quiet (fail); try go_wp2)
   go_meet
   case rel => exact ⟨_, (true), rs_, H', ⟨by first | omega | exact Nat.le_refl _⟩, ⟨IsS77.now⟩, ⟨kn HK⟩, ⟨bn HB⟩⟩
  ·rw [if_neg m] at H; have o := decide_eq_false m; clear m; (first | rw [o] | (simp only [i64_w, i32_w]; rw [o]) | skip); have H' := am H; clear H; obtain ⟨aA, aB, z, ah, aC⟩ := s.out; have ai := cellS77_0 z; have aj := cellS77_1 z; have ak := blk_frozen z 1; clear z ah; go_wp2
   repeat (go_quiet (fail); try go_wp2)
   go_meet
   case rel => exact ⟨_, (((a.length : Int) == 0)), rs_, H', ⟨by first | omega | exact Nat.le_refl _⟩, ⟨IsS77.now⟩, ⟨kn HK⟩, ⟨bn HB⟩⟩
 case rest =>
  clear G; (try clear m o ad ae ai aj af ak); obtain ⟨kq, y, rfl, HA, HJ2, s, HK, HB⟩ := hcut; cases kq with
  | zero => exact absurd HA.out (by simp [spec_l6Rd_pick.j0])
  | succ kj2 =>
   have H := HA.out; clear HA; simp only [spec_l6Rd_pick.j0] at H; by_cases U : y = true
   ·subst U; rw [if_pos rfl] at H; simp only [Option.some.injEq, Prod.mk.injEq] at H; obtain ⟨rfl, rfl⟩ := H; go_wp2
    repeat (go_quiet (fail); try go_wp2)
    go_ret
    exact ⟨er_, IsS77.now, bn HB, kn HK⟩
   ·obtain rfl := nt_ U; rw [if_neg nf_] at H; by_cases p : (wrap64 ((wrap64 (b + 1)) - 1)) < (a.length : Int)
    ·rw [if_pos p] at H; have W := decide_eq_true p; clear p; obtain ⟨q, t⟩ : ∃ j_ : Int, (wrap64 ((wrap64 (b + 1)) - 1)) = j_ := ⟨_, rfl⟩; replace H : (if 0 ≤ (q) then (if c = 0 then (none) else (some (Int.tmod (wrap64 (rd a (q))) c, (wrap64 (b + 1))))) else (none)) = some (j, l) := by first | (rw [t] at H; exact H) | (simp only [t] at H ⊢; exact H)
     (try rw [t] at W); have hji9w : (IntKind.i64.wrap ((wrap64 (b + 1)) - 1)) = q := (i64_w _).trans t; obtain ⟨aD, H⟩ := id_ H; by_cases A : c = 0
     ·rw [if_pos A] at H; exact absurd H (by simp)
     ·rw [if_neg A] at H; have aE : (c == 0) = false := beq_eq_false_iff_ne.mpr A; have aF : (c != 0) = true := bne_iff_ne.mpr A; simp only [Option.some.injEq, Prod.mk.injEq] at H; obtain ⟨rfl, rfl⟩ := H; obtain ⟨aG, aH, B, al, an⟩ := s.out; have aI := cellS77_0 B; have aJ := cellS77_1 B; have aK := blk_frozen B 1; clear B al; have I : 0 ≤ ((q) : Int) := oa; have J : (q) < (a.length : Int) := oa; obtain ⟨aL, ap, X⟩ := Kd.at_int an (q) I J; cases ap; replace X := pw_cell_below HB.out X; obtain ⟨I, J⟩ := e2_ I J; go_wp2
      repeat (go_quiet (fail); try go_wp2)
      go_ret
      exact ⟨by first | rfl | (simp [errW_none, errW_some] <;> rfl) | (simp only [← t]; first | rfl | (simp [errW_none, errW_some] <;> rfl)) | (simp [*, errW_none, errW_some] <;> rfl), IsS77.now, bn HB, kn HK⟩
    ·rw [if_neg p] at H; have W := decide_eq_false p; clear p; by_cases u : (a.length : Int) = 0
     ·rw [if_pos u] at H; exact absurd H (by simp)
     ·rw [if_neg u] at H; have aM : ((a.length : Int) == 0) = false := beq_eq_false_iff_ne.mpr u; have aN : ((a.length : Int) != 0) = true := bne_iff_ne.mpr u; have aO : ¬ (a = []) := fun h_ => u (by rw [h_]; rfl)
      obtain ⟨i, K⟩ : ∃ j_ : Int, (Int.tmod (wrap64 ((wrap64 (b + 1)) - 1)) (a.length : Int)) = j_ := ⟨_, rfl⟩; replace H : (if 0 ≤ (i) then (if (i) < (a.length : Int) then (if 0 ≤ (Int.tmod (wrap64 ((wrap64 ((wrap64 ((wrap64 (b + 1)) - 1)) * 7)) + 3)) (a.length : Int)) then (if (Int.tmod (wrap64 ((wrap64 ((wrap64 ((wrap64 (b + 1)) - 1)) * 7)) + 3)) (a.length : Int)) < (a.length : Int) then (if c = 0 then (none) else (some (Int.tmod (Go.bits .xor .i64 (wrap64 ((wrap64 ((wrap64 ((wrap64 ((wrap64 (rd a (i))) * 131)) + (wrap64 ((wrap64 (rd a (Int.tmod (wrap64 ((wrap64 ((wrap64 ((wrap64 (b + 1)) - 1)) * 7)) + 3)) (a.length : Int)))) * 1117)))) + (wrap64 ((wrap64 ((wrap64 (b + 1)) - 1)) * 29)))) + (wrap64 ((wrap64 (Int.tdiv (wrap64 ((wrap64 (b + 1)) - 1)) (a.length : Int))) * 53)))) (wrap64 (Int.tdiv (wrap64 ((wrap64 ((wrap64 ((wrap64 ((wrap64 (rd a (i))) * 131)) + (wrap64 ((wrap64 (rd a (Int.tmod (wrap64 ((wrap64 ((wrap64 ((wrap64 (b + 1)) - 1)) * 7)) + 3)) (a.length : Int)))) * 1117)))) + (wrap64 ((wrap64 ((wrap64 (b + 1)) - 1)) * 29)))) + (wrap64 ((wrap64 (Int.tdiv (wrap64 ((wrap64 (b + 1)) - 1)) (a.length : Int))) * 53)))) 64))) c, (wrap64 (b + 1))))) else (none)) else (none)) else (none)) else (none)) = some (j, l) := by first | (rw [K] at H; exact H) | (simp only [K] at H ⊢; exact H)
      obtain ⟨aP, H⟩ := id_ H; obtain ⟨aQ, H⟩ := id_ H; obtain ⟨n, L⟩ : ∃ j_ : Int, (Int.tmod (wrap64 ((wrap64 ((wrap64 ((wrap64 (b + 1)) - 1)) * 7)) + 3)) (a.length : Int)) = j_ := ⟨_, rfl⟩; replace H : (if 0 ≤ (n) then (if (n) < (a.length : Int) then (if c = 0 then (none) else (some (Int.tmod (Go.bits .xor .i64 (wrap64 ((wrap64 ((wrap64 ((wrap64 ((wrap64 (rd a (i))) * 131)) + (wrap64 ((wrap64 (rd a (n))) * 1117)))) + (wrap64 ((wrap64 ((wrap64 (b + 1)) - 1)) * 29)))) + (wrap64 ((wrap64 (Int.tdiv (wrap64 ((wrap64 (b + 1)) - 1)) (a.length : Int))) * 53)))) (wrap64 (Int.tdiv (wrap64 ((wrap64 ((wrap64 ((wrap64 ((wrap64 (rd a (i))) * 131)) + (wrap64 ((wrap64 (rd a (n))) * 1117)))) + (wrap64 ((wrap64 ((wrap64 (b + 1)) - 1)) * 29)))) + (wrap64 ((wrap64 (Int.tdiv (wrap64 ((wrap64 (b + 1)) - 1)) (a.length : Int))) * 53)))) 64))) c, (wrap64 (b + 1))))) else (none)) else (none)) = some (j, l) := by first | (rw [L] at H; exact H) | (simp only [L] at H ⊢; exact H)
      obtain ⟨aR, H⟩ := id_ H; obtain ⟨aS, H⟩ := id_ H; by_cases D : c = 0
      ·rw [if_pos D] at H; exact absurd H (by simp)
      ·rw [if_neg D] at H; have aT : (c == 0) = false := beq_eq_false_iff_ne.mpr D; have aU : (c != 0) = true := bne_iff_ne.mpr D; simp only [Option.some.injEq, Prod.mk.injEq] at H; obtain ⟨rfl, rfl⟩ := H; obtain ⟨aV, aW, E, aq, Y⟩ := s.out; have aX := cellS77_0 E; have aY := cellS77_1 E; have aZ := blk_frozen E 1; clear E aq; have M : 0 ≤ ((i) : Int) := oa; have O : (i) < (a.length : Int) := oa; obtain ⟨ar, au, Z⟩ := Kd.at_int Y (i) M O; cases au; replace Z := pw_cell_below HB.out Z; obtain ⟨M, O⟩ := e2_ M O; have P : 0 ≤ ((n) : Int) := oa; have T : (n) < (a.length : Int) := oa; obtain ⟨av, aw, aa⟩ := Kd.at_int Y (n) P T; obtain rfl : ar = av := (by injection aw); replace aa := pw_cell_below HB.out aa; obtain ⟨P, T⟩ := e2_ P T; go_wp2
       repeat (go_quiet (fail); try go_wp2)
       go_ret
       exact ⟨by first | rfl | (simp [errW_none, errW_some] <;> rfl) | (simp only [← K, ← L]; first | rfl | (simp [errW_none, errW_some] <;> rfl)) | (simp [*, errW_none, errW_some] <;> rfl), IsS77.now, bn HB, kn HK⟩

end Go.Proofs.Ytikmhohgjmandaa.F
