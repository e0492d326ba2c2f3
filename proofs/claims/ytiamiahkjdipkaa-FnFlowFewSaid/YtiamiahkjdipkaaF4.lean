-- By oprint.py.
import Derived.Test.YtiamiahkjdipkaaF0
import Derived.Test.YtiamiahkjdipkaaF1
import Derived.Test.YtiamiahkjdipkaaF2
import Derived.Test.YtiamiahkjdipkaaF3
namespace Go.Proofs.Ytiamiahkjdipkaa.F
open Go.RowKit Go.Proofs.YtiamiahkjdipkaaW.PrintWords Go.Proofs.YtiamiahkjdipkaaW.PrintLast Go.Proofs.YtiamiahkjdipkaaW.PrintMore
attribute [local go_sem] max2_int min2_int max_two min_two max_three min_three max_four min_four
set_option linter.unusedVariables false
set_option linter.unusedSimpArgs false

attribute [local go_sem high] eqA35
/-! ### spec_l1Knot: function 52 -/
def spec_l1Knot.f (k : Nat) (a0_0 : Int) (l0_1 : List (S35)) (a1 : Int) : Option (Bool) := (spec_NetOk.f k a0_0 l0_1).bind fun t115 => (if t115 = true then ((spec_l6In.f a1 0 (wrap64 (a0_0 - 1))).bind fun t116 => (some t116)) else (some false))
theorem spec_l1Knot.mono : ∀ a b c k, LeO (spec_l1Knot.f k a b c) (spec_l1Knot.f (k + 1) a b c) := by
 intro a b c k; unfold spec_l1Knot.f; have m0_ := @spec_NetOk.mono; exact mo_
set_option maxHeartbeats 8000000 in
set_option maxRecDepth 100000 in
theorem spec_l1Knot.calls (k : Nat) (b : Int) (d : Option Addr) (g : Nat) (a : List (S35)) (i : Int) (r : Bool) (w : World) (m : Kd.C k35 w d a.length a) (n : a.length ≤ g) (h : spec_l1Knot.f k b a i = some r) :
  Calls Try.prog 52 #[.agg #[.int .i64 b, .slice d a.length g], .int .i64 i] w fun e w' => e = .returned (.bool r) ∧ Below w.heap.size w w' := by
 have y := Try.underlying25; have o := am m; have p := am n; clear m n; have HB := am (Below.refl w.heap.size w)
 have H : ((spec_NetOk.f k b a).bind fun j => (if j = true then ((spec_l6In.f i 0 (wrap64 (b - 1))).bind fun l => (some l)) else (some false))) = some r := h
 clear h; obtain ⟨j, q, H⟩ := bi_ H; by_cases s : j = true
 ·subst s; rw [if_pos rfl] at H; obtain ⟨l, t, H⟩ := bi_ H; obtain rfl := Option.some.inj H; go_enter Try.func52, Try.ntmps52
  go_wp2_with (first | ((with_reducible refine gate_dst (N := 2) rfl ?_); refine bx_ 2 #[.int .i64 b, .slice d a.length g] 25 HB ?_; clear HB; intro u hg w6 hb c x HB; clear hb hg; have z := c2 c) | ((with_reducible refine gate_callee (f := 13) rfl ?_); refine gl_ (some 6) Try.func13 #[.agg #[.int .i64 b, .slice d a.length g]] ?_; (with_reducible refine (spec_NetOk.calls k b _ _ a true _ ?z_1 ?z_2 q.out).mono ?_); (case z_1 => exact cb o HB); (case z_2 => exact p.out); rintro e w8 ⟨rfl, hb⟩; refine ⟨_, rfl, ?_⟩; replace c := bb c hb; replace HB := bs HB hb; (try clear hb); have A := c2 c) | (go_at_call 39; (with_reducible refine (spec_l6In.calls i 0 (wrap64 (b - 1)) l _ t.out).mono ?_); rintro e w' ⟨rfl, ⟨nd, rfl⟩⟩))
  go_ret
  exact ⟨er_, bn HB⟩
 ·obtain rfl := nt_ s; rw [if_neg nf_] at H; obtain rfl := Option.some.inj H; go_enter Try.func52, Try.ntmps52
  go_wp2_with (first | ((with_reducible refine gate_dst (N := 2) rfl ?_); refine bx_ 2 #[.int .i64 b, .slice d a.length g] 25 HB ?_; clear HB; intro u hg w10 hb c x HB; clear hb hg; have B := c2 c) | ((with_reducible refine gate_callee (f := 13) rfl ?_); refine gl_ (some 6) Try.func13 #[.agg #[.int .i64 b, .slice d a.length g]] ?_; (with_reducible refine (spec_NetOk.calls k b _ _ a false _ ?z_1 ?z_2 q.out).mono ?_); (case z_1 => exact cb o HB); (case z_2 => exact p.out); rintro e w12 ⟨rfl, hb⟩; refine ⟨_, rfl, ?_⟩; replace c := bb c hb; replace HB := bs HB hb; (try clear hb)))
  go_ret
  exact ⟨er_, bn HB⟩

/-! ### spec_l1Tie: function 81 -/
def spec_l1Tie.f (a0 : Int) (a1 : Int) : Option (Int × Int) := if a0 < a1 then (some (a0, a1)) else (some (a1, a0))
set_option maxHeartbeats 8000000 in
set_option maxRecDepth 100000 in
theorem spec_l1Tie.calls (a : Int) (b : Int) (g : Int) (i : Int) (w : World) (h : spec_l1Tie.f a b = some (g, i)) :
  Calls Try.prog 81 #[.int .i64 a, .int .i64 b] w fun e w' => e = .returned (.agg #[.int .i64 g, .int .i64 i]) ∧ Below w.heap.size w w' := by
 have n := Try.underlying35; have HB := am (Below.refl w.heap.size w)
 have H : (if a < b then (some (a, b)) else (some (b, a))) = some (g, i) := h
 clear h; by_cases c : a < b
 ·rw [if_pos c] at H; have l := decide_eq_true c; clear c; simp only [Option.some.injEq, Prod.mk.injEq] at H; obtain ⟨rfl, rfl⟩ := H; go_enter Try.func81, Try.ntmps81
  go_wp2_with (first | ((with_reducible refine gate_dst (N := 4) rfl ?_); refine bx_ 4 #[.int .i64 0, .int .i64 0] 35 HB ?_; clear HB; intro j hg w4 hb d m HB; clear hb hg; have o := c2 d))
  refine bodyPost_ret (results_cell_row rfl _ _ j 35 #[.int .i64 a, .int .i64 b] (0, 0) _ rfl (bkn d) Try.underlying35 rfl (by kernel_rfl)) rfl ?_; exact ⟨er_, bn HB⟩
 ·rw [if_neg c] at H; have l := decide_eq_false c; clear c; simp only [Option.some.injEq, Prod.mk.injEq] at H; obtain ⟨rfl, rfl⟩ := H; go_enter Try.func81, Try.ntmps81
  go_wp2_with (first | ((with_reducible refine gate_dst (N := 4) rfl ?_); refine bx_ 4 #[.int .i64 0, .int .i64 0] 35 HB ?_; clear HB; intro j hg w6 hb d m HB; clear hb hg; have p := c2 d))
  refine bodyPost_ret (results_cell_row rfl _ _ j 35 #[.int .i64 b, .int .i64 a] (0, 0) _ rfl (bkn d) Try.underlying35 rfl (by kernel_rfl)) rfl ?_; exact ⟨er_, bn HB⟩

/-! ### spec_l1Has: function 84 -/
def spec_l1Has.l0 : Nat → Int → Int → Int → Int → List (S35) → Option (Bool)
 | 0, _, _, _, _, _ => none
 | k + 1, x1, x2, x7, x119000, x119001 => if x7 < (x119001.length : Int) then (if 0 ≤ x7 then ((spec_l1Tie.f x1 x2).bind fun bt120 => (if (((rd_T35 x119001 x7).f0) == bt120.1 && (((rd_T35 x119001 x7).f1) == bt120.2)) = true then (some true) else (spec_l1Has.l0 k x1 x2 (wrap64 (x7 + 1)) x119000 x119001))) else (none)) else (some false)
def spec_l1Has.f (k : Nat) (a0_0 : Int) (l0_1 : List (S35)) (a1 : Int) (a2 : Int) : Option (Bool) := spec_l1Has.l0 k a1 a2 0 a0_0 l0_1
theorem spec_l1Has.mono_l : ∀ k, (∀ a b c d e, LeO (spec_l1Has.l0 k a b c d e) (spec_l1Has.l0 (k + 1) a b c d e))
 | 0 => fun _ _ _ _ _ r h => by simp [spec_l1Has.l0] at h
 | k + 1 => by
  have ih0 := spec_l1Has.mono_l k
  ·intro a b c d e; unfold spec_l1Has.l0; exact mo_
theorem spec_l1Has.mono : ∀ a b c d k, LeO (spec_l1Has.f k a b c d) (spec_l1Has.f (k + 1) a b c d) := by
 intro a b c d k; have ih0 := spec_l1Has.mono_l k; unfold spec_l1Has.f; exact mo_
def spec_l1Has.T4 : Bool × List (List Nat × List Nat) := (true, [([], []), ([0], [0]), ([], []), ([1, 2], [1, 2]), ([3], [3]), ([], []), ([], []), ([5, 6], [5, 6]), ([4, 7], [4, 7])])
def spec_l1Has.B4 : List Nat := [0, 1, 0, 7, 15, 0, 0, 96, 255]
theorem spec_l1Has.tab4 : rtab .any (opsOf Try.f84 4) = spec_l1Has.T4 := by kernel_rfl
theorem spec_l1Has.bits4 : waitsOk spec_l1Has.T4.2 spec_l1Has.B4 = true := by kernel_rfl
set_option maxHeartbeats 8000000 in
set_option maxRecDepth 100000 in
theorem spec_l1Has.calls (k : Nat) (t : Int) (A : Option Addr) (B : Nat) (a : List (S35)) (o : Int) (p : Int) (r : Bool) (w : World) (E : Kd.C k35 w A a.length a) (G : a.length ≤ B) (h : spec_l1Has.f k t a o p = some r) :
  Calls Try.prog 84 #[.agg #[.int .i64 t, .slice A a.length B], .int .i64 o, .int .i64 p] w fun e w' => e = .returned (.bool r) ∧ Below w.heap.size w w' := by
 have Y := Try.underlying25; have Z := Try.underlying35; have I := am E; have aa := am G; clear E G; have HB := am (Below.refl w.heap.size w)
 have H : (spec_l1Has.l0 k o p 0 t a) = some r := h
 clear h; have H' := am H; clear H; go_enter Try.func84, Try.ntmps84
 go_wp2_with (first | ((with_reducible refine gate_dst (N := 3) rfl ?_); refine bx_ 3 #[.int .i64 t, .slice A a.length B] 25 HB ?_; clear HB; intro M hg w4 hb c ab HB; clear hb hg))
 go_loopg [7] k (fun kq O w' => ∃ (b : Int), O = .int .i64 b ∧ Aside0 (spec_l1Has.l0 kq o p b t a = some r) ∧ Aside0 (kq ≤ k) ∧ Bk w' M (.cells #[.int .i64 t, (.slice A a.length B)] 25 (0, 0)) ∧ Aside0 (Below w.heap.size w w'))
 case atStart => exact ⟨(0), rs_, H', ⟨Nat.le_refl _⟩, ⟨bkn c⟩, ⟨bn HB⟩⟩
 case round =>
  clear H'; obtain ⟨b, rfl, HA, J, c, HB⟩ := hrel; cases gk with
  | zero => exact absurd HA.out (by simp [spec_l1Has.l0])
  | succ k1 =>
   have H := HA.out; clear HA; simp only [spec_l1Has.l0] at H; by_cases u : b < (a.length : Int)
   ·rw [if_pos u] at H; have P := decide_eq_true u; clear u; obtain ⟨ad, H⟩ := id_ H; obtain ⟨⟨i, j⟩, L, H⟩ := bi_ H; (try dsimp only at H); by_cases g : (((rd_T35 a b).f0) == i && (((rd_T35 a b).f1) == j)) = true
    ·rw [if_pos g] at H; have T : (((rd_T35 a b).f0) == i && (((rd_T35 a b).f1) == j)) = true := g; (try (have U : decide (((rd_T35 a b).f0) = i && (((rd_T35 a b).f1) == j)) = true := by simpa using g)); (try (have W : (((rd_T35 a b).f0) == i && (((rd_T35 a b).f1) == j)) = true := by simpa using g)); clear g; obtain rfl := Option.some.inj H; have ae := c2 c; try go_wp2
     replace c := dB c; replace HB := dL HB; have q : 0 ≤ (b : Int) := oa; have s : b < (a.length : Int) := oa; obtain ⟨X, D, l, m⟩ := at_T35 I.out b q s; have x := m; have y := l; cases D; replace l := hc_ HB l; replace m := hc_ HB m; obtain ⟨q, s⟩ := e2_ q s; refine s4_ 9 [] (bq c 0) (bq c 1) (hb_ HB y) (hb_ HB x) (fun n => ?_); refine with_tabW spec_l1Has.tab4 spec_l1Has.bits4 (fun d z => ?_); generalize wr.drew = w10 at c HB l m n ⊢; refine pz_ 0 d ?_; refine pz_ 2 d ?_; refine pz_ 5 d ?_; refine pz_ 6 d ?_; refine tz_ 1 d z n ?_; refine pz_ 3 d ?_; refine tz_ 4 d z n ?_; refine on_ 7 d (fun K hK => ?_); refine gg_ Try.func81 #[.int .i64 o, .int .i64 p] ?_
     with_reducible refine (spec_l1Tie.calls o p i j _ L.out).mono ?_
     rintro e w11 ⟨rfl, hb⟩; refine ⟨_, rfl, ?_⟩; replace c := bb c hb; replace HB := bs HB hb; (try clear hb); refine hK.out _ _ ⟨(bc c 0), (bc c 1), (hb_ HB y), (hb_ HB x)⟩ (fun n => ?_); clear hK K; refine nz_ 22 ?_; refine pz_ 8 d ?_; refine done_ (done_of d.out (by kernel_rfl)) ?_; try go_wp2
     go_ret
     exact ⟨er_, bn HB⟩
    ·rw [if_neg g] at H; have T : (((rd_T35 a b).f0) == i && (((rd_T35 a b).f1) == j)) = false := by simpa using g
     (try (have U : decide (((rd_T35 a b).f0) = i && (((rd_T35 a b).f1) == j)) = false := by simpa using g)); (try (have W : (((rd_T35 a b).f0) == i && (((rd_T35 a b).f1) == j)) = false := by simpa using g)); (try (have af : ¬ (((rd_T35 a b).f0) = i && (((rd_T35 a b).f1) == j)) := by simpa using g)); clear g; have H' := am H; clear H; have ag := c2 c; try go_wp2
     replace c := dB c; replace HB := dL HB; have q : 0 ≤ (b : Int) := oa; have s : b < (a.length : Int) := oa; obtain ⟨X, D, l, m⟩ := at_T35 I.out b q s; have x := m; have y := l; cases D; replace l := hc_ HB l; replace m := hc_ HB m; obtain ⟨q, s⟩ := e2_ q s; refine s4_ 9 [] (bq c 0) (bq c 1) (hb_ HB y) (hb_ HB x) (fun n => ?_); refine with_tabW spec_l1Has.tab4 spec_l1Has.bits4 (fun d z => ?_); generalize wr.drew = w13 at c HB l m n ⊢; refine pz_ 0 d ?_; refine pz_ 2 d ?_; refine pz_ 5 d ?_; refine pz_ 6 d ?_; refine tz_ 1 d z n ?_; refine pz_ 3 d ?_; refine tz_ 4 d z n ?_; refine on_ 7 d (fun K hK => ?_); refine gg_ Try.func81 #[.int .i64 o, .int .i64 p] ?_
     with_reducible refine (spec_l1Tie.calls o p i j _ L.out).mono ?_
     rintro e w14 ⟨rfl, hb⟩; refine ⟨_, rfl, ?_⟩; replace c := bb c hb; replace HB := bs HB hb; (try clear hb); refine hK.out _ _ ⟨(bc c 0), (bc c 1), (hb_ HB y), (hb_ HB x)⟩ (fun n => ?_); clear hK K; refine nz_ 22 ?_; refine pz_ 8 d ?_; refine done_ (done_of d.out (by kernel_rfl)) ?_; try go_wp2
     go_roundg k1
     case measure => have := J.out; omega
     case rel => exact ⟨(wrap64 (b + 1)), rs_, H', ⟨by have := J.out; omega⟩, ⟨bkn c⟩, ⟨bn HB⟩⟩
   ·rw [if_neg u] at H; have P := decide_eq_false u; clear u; obtain rfl := Option.some.inj H; have ah := c2 c; go_wp2
    go_ret
    exact ⟨er_, bn HB⟩

/-! ### spec_NetHas: function 82 -/
def spec_NetHas.f (k : Nat) (a0_0 : Int) (l0_1 : List (S35)) (a1 : Int) (a2 : Int) : Option (Bool) := (spec_NetOk.f k a0_0 l0_1).bind fun t123 => (if t123 = true then ((spec_l1Has.f k a0_0 l0_1 a1 a2).bind fun t124 => (some t124)) else (some false))
theorem spec_NetHas.mono : ∀ a b c d k, LeO (spec_NetHas.f k a b c d) (spec_NetHas.f (k + 1) a b c d) := by
 intro a b c d k; unfold spec_NetHas.f; have m0_ := @spec_NetOk.mono; have m1_ := @spec_l1Has.mono; exact mo_
set_option maxHeartbeats 8000000 in
set_option maxRecDepth 100000 in
theorem spec_NetHas.calls (k : Nat) (b : Int) (d : Option Addr) (g : Nat) (a : List (S35)) (i : Int) (j : Int) (r : Bool) (w : World) (p : Kd.C k35 w d a.length a) (q : a.length ≤ g) (h : spec_NetHas.f k b a i j = some r) :
  Calls Try.prog 82 #[.agg #[.int .i64 b, .slice d a.length g], .int .i64 i, .int .i64 j] w fun e w' => e = .returned (.bool r) ∧ Below w.heap.size w w' := by
 have z := Try.underlying25; have l := am p; have m := am q; clear p q; have HB := am (Below.refl w.heap.size w)
 have H : ((spec_NetOk.f k b a).bind fun n => (if n = true then ((spec_l1Has.f k b a i j).bind fun o => (some o)) else (some false))) = some r := h
 clear h; obtain ⟨n, s, H⟩ := bi_ H; by_cases t : n = true
 ·subst t; rw [if_pos rfl] at H; obtain ⟨o, u, H⟩ := bi_ H; obtain rfl := Option.some.inj H; go_enter Try.func82, Try.ntmps82
  go_wp2_with (first | ((with_reducible refine gate_dst (N := 3) rfl ?_); refine bx_ 3 #[.int .i64 b, .slice d a.length g] 25 HB ?_; clear HB; intro x hg w7 hb c y HB; clear hb hg; have A := c2 c) | ((with_reducible refine gate_callee (f := 13) rfl ?_); refine gl_ (some 8) Try.func13 #[.agg #[.int .i64 b, .slice d a.length g]] ?_; (with_reducible refine (spec_NetOk.calls k b _ _ a true _ ?z_1 ?z_2 s.out).mono ?_); (case z_1 => exact cb l HB); (case z_2 => exact m.out); rintro e w9 ⟨rfl, hb⟩; refine ⟨_, rfl, ?_⟩; replace c := bb c hb; replace HB := bs HB hb; (try clear hb); have B := c2 c) | (go_at_call 84; (with_reducible refine (spec_l1Has.calls k b _ _ a i j o _ ?z_1 ?z_2 u.out).mono ?_); (case z_1 => exact cb l HB); (case z_2 => exact m.out); rintro e w11 ⟨rfl, hb⟩; replace c := bb c hb; replace HB := bs HB hb; (try clear hb)))
  go_ret
  exact ⟨er_, bn HB⟩
 ·obtain rfl := nt_ t; rw [if_neg nf_] at H; obtain rfl := Option.some.inj H; go_enter Try.func82, Try.ntmps82
  go_wp2_with (first | ((with_reducible refine gate_dst (N := 3) rfl ?_); refine bx_ 3 #[.int .i64 b, .slice d a.length g] 25 HB ?_; clear HB; intro x hg w12 hb c y HB; clear hb hg; have D := c2 c) | ((with_reducible refine gate_callee (f := 13) rfl ?_); refine gl_ (some 8) Try.func13 #[.agg #[.int .i64 b, .slice d a.length g]] ?_; (with_reducible refine (spec_NetOk.calls k b _ _ a false _ ?z_1 ?z_2 s.out).mono ?_); (case z_1 => exact cb l HB); (case z_2 => exact m.out); rintro e w14 ⟨rfl, hb⟩; refine ⟨_, rfl, ?_⟩; replace c := bb c hb; replace HB := bs HB hb; (try clear hb)))
  go_ret
  exact ⟨er_, bn HB⟩

end Go.Proofs.Ytiamiahkjdipkaa.F
