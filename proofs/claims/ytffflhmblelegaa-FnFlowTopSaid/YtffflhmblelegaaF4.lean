-- By oprint.py.
import Derived.Test.YtffflhmblelegaaF0
import Derived.Test.YtffflhmblelegaaF1
import Derived.Test.YtffflhmblelegaaF2
import Derived.Test.YtffflhmblelegaaF3
namespace Go.Proofs.Ytffflhmblelegaa.F
open Go.RowKit Go.Proofs.YtffflhmblelegaaW.PrintWords Go.Proofs.YtffflhmblelegaaW.PrintLast Go.Proofs.YtffflhmblelegaaW.PrintMore
attribute [local go_sem] max2_int min2_int max_two min_two max_three min_three max_four min_four
set_option linter.unusedVariables false
set_option linter.unusedSimpArgs false
attribute [local go_sem high] eqA52
/-! ### spec_l1Knot: function 54 -/
def spec_l1Knot.f (k : Nat) (a0_0 : Int) (l0_1 : List (S52)) (a1 : Int) : Option (Bool) := (spec_NetOk.f k a0_0 l0_1).bind fun t112 => (if t112 = true then ((spec_l6In.f a1 0 (wrap64 (a0_0 - 1))).bind fun t113 => (some t113)) else (some false))
set_option maxHeartbeats 8000000 in
set_option maxRecDepth 100000 in
theorem spec_l1Knot.calls (k : Nat) (b : Int) (d : Option Addr) (g : Nat) (a : List (S52)) (i : Int) (r : Bool) (w : World) (m : Kd.C k52 w d a.length a) (n : a.length ≤ g) (h : spec_l1Knot.f k b a i = some r) :
  Calls Try.prog 54 #[.agg #[.int .i64 b, .slice d a.length g], .int .i64 i] w fun e w' => e = .returned (.bool r) ∧ Below w.heap.size w w' := by
 have y := Try.underlying25; have o := am m; have p := am n; clear m n; have HB := am (Below.refl w.heap.size w)
 have H : ((spec_NetOk.f k b a).bind fun j => (if j = true then ((spec_l6In.f i 0 (wrap64 (b - 1))).bind fun l => (some l)) else (some false))) = some r := h
 clear h; obtain ⟨j, q, H⟩ := bi_ H; by_cases s : j = true
 ·subst s; rw [if_pos rfl] at H; obtain ⟨l, t, H⟩ := bi_ H; obtain rfl := Option.some.inj H; go_enter Try.func54, Try.ntmps54
  go_wp2_with (first | ((with_reducible refine gate_dst (N := 2) rfl ?_); refine bx_ 2 #[.int .i64 b, .slice d a.length g] 25 HB ?_; clear HB; intro u hg w6 hb c x HB; clear hb hg; have z := c2 c) | ((with_reducible refine gate_callee (f := 31) rfl ?_); refine gl_ (some 6) Try.func31 #[.agg #[.int .i64 b, .slice d a.length g]] ?_; (with_reducible refine (spec_NetOk.calls k b _ _ a true _ ?z_1 ?z_2 q.out).mono ?_); (case z_1 => exact cb o HB); (case z_2 => exact p.out); rintro e w8 ⟨rfl, hb⟩; refine ⟨_, rfl, ?_⟩; replace c := bb c hb; replace HB := bs HB hb; (try clear hb); have A := c2 c) | (go_at_call 74; (with_reducible refine (spec_l6In.calls i 0 (wrap64 (b - 1)) l _ t.out).mono ?_); rintro e w' ⟨rfl, ⟨nd, rfl⟩⟩))
  go_ret
  exact ⟨er_, bn HB⟩
 ·obtain rfl := nt_ s; rw [if_neg nf_] at H; obtain rfl := Option.some.inj H; go_enter Try.func54, Try.ntmps54
  go_wp2_with (first | ((with_reducible refine gate_dst (N := 2) rfl ?_); refine bx_ 2 #[.int .i64 b, .slice d a.length g] 25 HB ?_; clear HB; intro u hg w10 hb c x HB; clear hb hg; have B := c2 c) | ((with_reducible refine gate_callee (f := 31) rfl ?_); refine gl_ (some 6) Try.func31 #[.agg #[.int .i64 b, .slice d a.length g]] ?_; (with_reducible refine (spec_NetOk.calls k b _ _ a false _ ?z_1 ?z_2 q.out).mono ?_); (case z_1 => exact cb o HB); (case z_2 => exact p.out); rintro e w12 ⟨rfl, hb⟩; refine ⟨_, rfl, ?_⟩; replace c := bb c hb; replace HB := bs HB hb; (try clear hb)))
  go_ret
  exact ⟨er_, bn HB⟩
/-! ### spec_l1Tie: function 97 -/
def spec_l1Tie.f (a0 : Int) (a1 : Int) : Option (Int × Int) := if a0 < a1 then (some (a0, a1)) else (some (a1, a0))
set_option maxHeartbeats 8000000 in
set_option maxRecDepth 100000 in
theorem spec_l1Tie.calls (a : Int) (b : Int) (g : Int) (i : Int) (w : World) (h : spec_l1Tie.f a b = some (g, i)) :
  Calls Try.prog 97 #[.int .i64 a, .int .i64 b] w fun e w' => e = .returned (.agg #[.int .i64 g, .int .i64 i]) ∧ Below w.heap.size w w' := by
 have n := Try.underlying52; have HB := am (Below.refl w.heap.size w)
 have H : (if a < b then (some (a, b)) else (some (b, a))) = some (g, i) := h
 clear h; by_cases c : a < b
 ·rw [if_pos c] at H; have l := decide_eq_true c; clear c; simp only [Option.some.injEq, Prod.mk.injEq] at H; obtain ⟨rfl, rfl⟩ := H; go_enter Try.func97, Try.ntmps97
  go_wp2_with (first | ((with_reducible refine gate_dst (N := 4) rfl ?_); refine bx_ 4 #[.int .i64 0, .int .i64 0] 52 HB ?_; clear HB; intro j hg w4 hb d m HB; clear hb hg; have o := c2 d))
  refine bodyPost_ret (results_cell_row rfl _ _ j 52 #[.int .i64 a, .int .i64 b] (0, 0) _ rfl (bkn d) Try.underlying52 rfl (by kernel_rfl)) rfl ?_; exact ⟨er_, bn HB⟩
 ·rw [if_neg c] at H; have l := decide_eq_false c; clear c; simp only [Option.some.injEq, Prod.mk.injEq] at H; obtain ⟨rfl, rfl⟩ := H; go_enter Try.func97, Try.ntmps97
  go_wp2_with (first | ((with_reducible refine gate_dst (N := 4) rfl ?_); refine bx_ 4 #[.int .i64 0, .int .i64 0] 52 HB ?_; clear HB; intro j hg w6 hb d m HB; clear hb hg; have p := c2 d))
  refine bodyPost_ret (results_cell_row rfl _ _ j 52 #[.int .i64 b, .int .i64 a] (0, 0) _ rfl (bkn d) Try.underlying52 rfl (by kernel_rfl)) rfl ?_; exact ⟨er_, bn HB⟩
/-! ### spec_l1Has: function 120 -/
def spec_l1Has.l0 : Nat → Int → Int → Int → Int → List (S52) → Option (Bool)
 | 0, _, _, _, _, _ => none
 | k + 1, x1, x2, x7, x117000, x117001 => if x7 < (x117001.length : Int) then (if 0 ≤ x7 then ((spec_l1Tie.f x1 x2).bind fun bt118 => (if (((rd_T52 x117001 x7).f0) == bt118.1 && (((rd_T52 x117001 x7).f1) == bt118.2)) = true then (some true) else (spec_l1Has.l0 k x1 x2 (wrap64 (x7 + 1)) x117000 x117001))) else (none)) else (some false)
def spec_l1Has.f (k : Nat) (a0_0 : Int) (l0_1 : List (S52)) (a1 : Int) (a2 : Int) : Option (Bool) := spec_l1Has.l0 k a1 a2 0 a0_0 l0_1
def spec_l1Has.T4 : Bool × List (List Nat × List Nat) := (true, [([], []), ([0], [0]), ([], []), ([1, 2], [1, 2]), ([3], [3]), ([], []), ([], []), ([5, 6], [5, 6]), ([4, 7], [4, 7])])
def spec_l1Has.B4 : List Nat := [0, 1, 0, 7, 15, 0, 0, 96, 255]
theorem spec_l1Has.tab4 : rtab .any (opsOf Try.f120 4) = spec_l1Has.T4 := by kernel_rfl
theorem spec_l1Has.bits4 : waitsOk spec_l1Has.T4.2 spec_l1Has.B4 = true := by kernel_rfl
set_option maxHeartbeats 8000000 in
set_option maxRecDepth 100000 in
theorem spec_l1Has.calls (k : Nat) (t : Int) (A : Option Addr) (B : Nat) (a : List (S52)) (o : Int) (p : Int) (r : Bool) (w : World) (E : Kd.C k52 w A a.length a) (G : a.length ≤ B) (h : spec_l1Has.f k t a o p = some r) :
  Calls Try.prog 120 #[.agg #[.int .i64 t, .slice A a.length B], .int .i64 o, .int .i64 p] w fun e w' => e = .returned (.bool r) ∧ Below w.heap.size w w' := by
 have Y := Try.underlying25; have Z := Try.underlying52; have I := am E; have aa := am G; clear E G; have HB := am (Below.refl w.heap.size w)
 have H : (spec_l1Has.l0 k o p 0 t a) = some r := h
 clear h; have H' := am H; clear H; go_enter Try.func120, Try.ntmps120
 go_wp2_with (first | ((with_reducible refine gate_dst (N := 3) rfl ?_); refine bx_ 3 #[.int .i64 t, .slice A a.length B] 25 HB ?_; clear HB; intro M hg w4 hb c ab HB; clear hb hg))
 go_loopg [7] k (fun kq O w' => ∃ (b : Int), O = .int .i64 b ∧ Aside0 (spec_l1Has.l0 kq o p b t a = some r) ∧ Aside0 (kq ≤ k) ∧ Bk w' M (.cells #[.int .i64 t, (.slice A a.length B)] 25 (0, 0)) ∧ Aside0 (Below w.heap.size w w'))
 case atStart => exact ⟨(0), rs_, H', ⟨Nat.le_refl _⟩, ⟨bkn c⟩, ⟨bn HB⟩⟩
 case round =>
  clear H'; obtain ⟨b, rfl, HA, J, c, HB⟩ := hrel; cases gk with
  | zero => exact absurd HA.out (by simp [spec_l1Has.l0])
  | succ k1 =>
   have H := HA.out; clear HA; simp only [spec_l1Has.l0] at H; by_cases u : b < (a.length : Int)
   ·rw [if_pos u] at H; have P := decide_eq_true u; clear u; obtain ⟨ad, H⟩ := id_ H; obtain ⟨⟨i, j⟩, L, H⟩ := bi_ H; (try dsimp only at H); by_cases g : (((rd_T52 a b).f0) == i && (((rd_T52 a b).f1) == j)) = true
    ·rw [if_pos g] at H; have T : (((rd_T52 a b).f0) == i && (((rd_T52 a b).f1) == j)) = true := g; (try (have U : decide (((rd_T52 a b).f0) = i && (((rd_T52 a b).f1) == j)) = true := by simpa using g)); (try (have W : (((rd_T52 a b).f0) == i && (((rd_T52 a b).f1) == j)) = true := by simpa using g)); clear g; obtain rfl := Option.some.inj H; have ae := c2 c; try go_wp2
     replace c := dB c; replace HB := dL HB; have q : 0 ≤ (b : Int) := oa; have s : b < (a.length : Int) := oa; obtain ⟨X, D, l, m⟩ := at_T52 I.out b q s; have x := m; have y := l; cases D; replace l := hc_ HB l; replace m := hc_ HB m; obtain ⟨q, s⟩ := e2_ q s; refine s4_ 9 [] (bq c 0) (bq c 1) (hb_ HB y) (hb_ HB x) (fun n => ?_); refine with_tabW spec_l1Has.tab4 spec_l1Has.bits4 (fun d z => ?_); generalize wr.drew = w10 at c HB l m n ⊢; refine pz_ 0 d ?_; refine pz_ 2 d ?_; refine pz_ 5 d ?_; refine pz_ 6 d ?_; refine tz_ 1 d z n ?_; refine pz_ 3 d ?_; refine tz_ 4 d z n ?_; refine on_ 7 d (fun K hK => ?_); refine gg_ Try.func97 #[.int .i64 o, .int .i64 p] ?_
     with_reducible refine (spec_l1Tie.calls o p i j _ L.out).mono ?_
     rintro e w11 ⟨rfl, hb⟩; refine ⟨_, rfl, ?_⟩; replace c := bb c hb; replace HB := bs HB hb; (try clear hb); refine hK.out _ _ ⟨(bc c 0), (bc c 1), (hb_ HB y), (hb_ HB x)⟩ (fun n => ?_); clear hK K; refine nz_ 22 ?_; refine pz_ 8 d ?_; refine done_ (done_of d.out (by kernel_rfl)) ?_; try go_wp2
     go_ret
     exact ⟨er_, bn HB⟩
    ·rw [if_neg g] at H; have T : (((rd_T52 a b).f0) == i && (((rd_T52 a b).f1) == j)) = false := by simpa using g
     (try (have U : decide (((rd_T52 a b).f0) = i && (((rd_T52 a b).f1) == j)) = false := by simpa using g)); (try (have W : (((rd_T52 a b).f0) == i && (((rd_T52 a b).f1) == j)) = false := by simpa using g)); (try (have af : ¬ (((rd_T52 a b).f0) = i && (((rd_T52 a b).f1) == j)) := by simpa using g)); clear g; have H' := am H; clear H; have ag := c2 c; try go_wp2
     replace c := dB c; replace HB := dL HB; have q : 0 ≤ (b : Int) := oa; have s : b < (a.length : Int) := oa; obtain ⟨X, D, l, m⟩ := at_T52 I.out b q s; have x := m; have y := l; cases D; replace l := hc_ HB l; replace m := hc_ HB m; obtain ⟨q, s⟩ := e2_ q s; refine s4_ 9 [] (bq c 0) (bq c 1) (hb_ HB y) (hb_ HB x) (fun n => ?_); refine with_tabW spec_l1Has.tab4 spec_l1Has.bits4 (fun d z => ?_); generalize wr.drew = w13 at c HB l m n ⊢; refine pz_ 0 d ?_; refine pz_ 2 d ?_; refine pz_ 5 d ?_; refine pz_ 6 d ?_; refine tz_ 1 d z n ?_; refine pz_ 3 d ?_; refine tz_ 4 d z n ?_; refine on_ 7 d (fun K hK => ?_); refine gg_ Try.func97 #[.int .i64 o, .int .i64 p] ?_
     with_reducible refine (spec_l1Tie.calls o p i j _ L.out).mono ?_
     rintro e w14 ⟨rfl, hb⟩; refine ⟨_, rfl, ?_⟩; replace c := bb c hb; replace HB := bs HB hb; (try clear hb); refine hK.out _ _ ⟨(bc c 0), (bc c 1), (hb_ HB y), (hb_ HB x)⟩ (fun n => ?_); clear hK K; refine nz_ 22 ?_; refine pz_ 8 d ?_; refine done_ (done_of d.out (by kernel_rfl)) ?_; try go_wp2
     go_roundg k1
     case measure => have := J.out; omega
     case rel => exact ⟨(wrap64 (b + 1)), rs_, H', ⟨by have := J.out; omega⟩, ⟨bkn c⟩, ⟨bn HB⟩⟩
   ·rw [if_neg u] at H; have P := decide_eq_false u; clear u; obtain rfl := Option.some.inj H; have ah := c2 c; go_wp2
    go_ret
    exact ⟨er_, bn HB⟩
/-! ### spec_l2Next: function 94 -/
def spec_l2Next.l0 : Nat → Int → List Int → Int → Int → List (S52) → Option (List Int)
 | 0, _, _, _, _, _ => none
 | k + 1, x1, x5, x6, x301000, x301001 => if x6 < x301000 then ((spec_l1Has.f k x301000 x301001 x1 x6).bind fun t304 => (if t304 = true then (if x5.length < 17592186044416 then (spec_l2Next.l0 k x1 (x5 ++ [x6]) (wrap64 (x6 + 1)) x301000 x301001) else (none)) else (spec_l2Next.l0 k x1 x5 (wrap64 (x6 + 1)) x301000 x301001))) else (some x5)
def spec_l2Next.f (k : Nat) (a0_0 : Int) (l0_1 : List (S52)) (a1 : Int) : Option (List Int) := spec_l2Next.l0 k a1 (([] : List Int)) 0 a0_0 l0_1
set_option maxHeartbeats 8000000 in
set_option maxRecDepth 100000 in
theorem spec_l2Next.calls (k : Nat) (g : Int) (l : Option Addr) (m : Nat) (c : List (S52)) (i : Int) (r : List Int) (w : World) (u : Kd.C k52 w l c.length c) (x : c.length ≤ m) (h : spec_l2Next.f k g c i = some r) :
  Calls Try.prog 94 #[.agg #[.int .i64 g, .slice l c.length m], .int .i64 i] w fun e w' => ∃ y : Value, e = .returned (y) ∧ Kd.R (Kd.int .i64) 3 w' w.heap.size (fun _ => True) y r ∧ Below w.heap.size w w' := by
 have ab := Try.underlying25; have z := am u; have A := am x; clear u x; have HB := am (Below.refl w.heap.size w)
 have H : (spec_l2Next.l0 k i (([] : List Int)) 0 g c) = some r := h
 clear h; obtain ⟨B, s⟩ : ∃ y_ : List Int, y_ = (([] : List Int)) := ⟨_, rfl⟩; replace H : (spec_l2Next.l0 k i B 0 g c) = some r := nh_ s H; have D := am s; clear s; have H' := am H; clear H; go_enter Try.func94, Try.ntmps94
 go_wp2_with (first | ((with_reducible refine gate_dst (N := 2) rfl ?_); refine bx_ 2 #[.int .i64 g, .slice l c.length m] 25 HB ?_; clear HB; intro K hg w3 hb a ad HB; clear hb hg) | ((with_reducible refine gate_dst (N := 7) rfl ?_); refine Kd.R_lit (Kd.int .i64) _ 3 ?hg (N := 7) ?hd (xs := ([] : List Int)) (inner := []) (ok := fun _ => True) (okp := fun _ => True) ?hr ?hp (fun _ hk => hk) trivial (Below.refl _ _) (Nat.le_refl _) (by simp) ?_; (case hd => rfl); (case hg => rfl); (case hr => first | (go_simp; done) | (go_simp; rfl)); (case hp => exact (Reps.none _ _)); intro ae w4 p hb L M; clear L M; (first | rw [← D.out] at p | (simp only [Int.reduceToNat] at p; rw [← D.out] at p)); have O := am (Kd.R_lower p (below_size (bn HB))); replace a := bb a hb; replace HB := bs HB hb; clear hb p))
 go_loopg [5, 6] k (fun kq P T w' => ∃ (n : List Int) (d : Int), T = .int .i64 d ∧ Aside0 (spec_l2Next.l0 kq i n d g c = some r) ∧ Aside0 (kq ≤ k) ∧ Aside0 (Kd.R (Kd.int .i64) 3 w' w.heap.size (fun _ => True) P n) ∧ Bk w' K (.cells #[.int .i64 g, (.slice l c.length m)] 25 (0, 0)) ∧ Aside0 (Below w.heap.size w w'))
 case atStart => exact ⟨(B), (0), rs_, H', ⟨Nat.le_refl _⟩, ⟨onR O⟩, ⟨bkn a⟩, ⟨bn HB⟩⟩
 case round =>
  clear H'; obtain ⟨n, d, rfl, HA, q, j, a, HB⟩ := hrel; cases gk with
  | zero => exact absurd HA.out (by simp [spec_l2Next.l0])
  | succ k1 =>
   have H := HA.out; clear HA; simp only [spec_l2Next.l0] at H; by_cases o : d < g
   ·rw [if_pos o] at H; have U := decide_eq_true o; clear o; obtain ⟨W, E, H⟩ := bi_ H; by_cases G : W = true
    ·subst G; rw [if_pos rfl] at H; obtain ⟨I, H⟩ := ig_ H; have X := am I; clear I; obtain ⟨J, t⟩ : ∃ y_ : List Int, y_ = (n ++ [d]) := ⟨_, rfl⟩; replace H : (spec_l2Next.l0 k1 i J (wrap64 (d + 1)) g c) = some r := nh_ t H; have Y := am t; clear t; have H' := am H; clear H; have af := c2 a
     go_wp2_with (first | ((with_reducible refine gate_callee (f := 120) rfl ?_); refine gl_ (some 17) Try.func120 #[.agg #[.int .i64 g, .slice l c.length m], .int .i64 i, .int .i64 d] ?_; (with_reducible refine (spec_l1Has.calls k1 g _ _ c i d true _ ?z_1 ?z_2 E.out).mono ?_); (case z_1 => exact cb z HB); (case z_2 => exact A.out); rintro e w11 ⟨rfl, hb⟩; refine ⟨_, rfl, ?_⟩; replace j := am (Kd.R_below (onR j) hb); replace a := bb a hb; replace HB := bs HB hb; (try clear hb)) | ((with_reducible refine gate_builtin (b := .append) (xs := #[.tmp 18, .tmp 20]) rfl ?_); at_builtin; refine Kd.R_append (Kd.int .i64) (w0 := w) w.heap.size rfl (.tmp 18) (.tmp 20) 30 3 (.int .i64 0) 8 rfl Try.underlying30 info3 rfl (by decide) (by omega) u5 n d [.int .i64 d] (fun _ => True) (fun _ => False) rfl rfl ?aP (fun _ hk => hk.elim) ?aF ?aO ?aB ?aS ?aL ?_; (case aP => exact rfl); (case aB => exact (bn HB)); (case aF => exact (fun _ _ => trivial)); (case aO => exact (onR j)); (case aS => exact (below_size (bn HB))); (case aL => have := X.out; omega); intro ag w12 ho hb hg Z; rw [← Y.out] at ho; replace a := bm (blk_grown (bkn a) hg (Kd.R_ne j.out a.out (by decide))); replace HB := am hb; have aa := am ho; clear j; clear ho hb hg Z))
     go_roundg k1
     case measure => have := q.out; omega
     case rel => exact ⟨(J), (wrap64 (d + 1)), rs_, H', ⟨by have := q.out; omega⟩, ⟨onR aa⟩, ⟨bkn a⟩, ⟨bn HB⟩⟩
    ·obtain rfl := nt_ G; rw [if_neg nf_] at H; have H' := am H; clear H; have ah := c2 a
     go_wp2_with (first | ((with_reducible refine gate_callee (f := 120) rfl ?_); refine gl_ (some 17) Try.func120 #[.agg #[.int .i64 g, .slice l c.length m], .int .i64 i, .int .i64 d] ?_; (with_reducible refine (spec_l1Has.calls k1 g _ _ c i d false _ ?z_1 ?z_2 E.out).mono ?_); (case z_1 => exact cb z HB); (case z_2 => exact A.out); rintro e w14 ⟨rfl, hb⟩; refine ⟨_, rfl, ?_⟩; replace j := am (Kd.R_below (onR j) hb); replace a := bb a hb; replace HB := bs HB hb; (try clear hb)))
     go_roundg k1
     case measure => have := q.out; omega
     case rel => exact ⟨(n), (wrap64 (d + 1)), rs_, H', ⟨by have := q.out; omega⟩, ⟨onR j⟩, ⟨bkn a⟩, ⟨bn HB⟩⟩
   ·rw [if_neg o] at H; have U := decide_eq_false o; clear o; obtain rfl := Option.some.inj H; have ai := c2 a; go_wp2
    go_ret
    exact ⟨_, er_, onR j, bn HB⟩
/-! ### cmp_Or_int: function 114 -/
def cmp_Or_int.l0 : Nat → Int → List Int → Int → Int → Option (Int)
 | 0, _, _, _, _ => none
 | k + 1, x3, x6, x7, x8 => if x8 < x7 then (if 0 ≤ x8 then (if x8 < (x6.length : Int) then (if (rd x6 x8) = x3 then (cmp_Or_int.l0 k x3 x6 x7 (wrap64 (x8 + 1))) else (some (rd x6 x8))) else (none)) else (none)) else (some x3)
def cmp_Or_int.f (k : Nat) (l0 : List Int) : Option (Int) := cmp_Or_int.l0 k 0 l0 (l0.length : Int) 0
set_option maxHeartbeats 8000000 in
set_option maxRecDepth 100000 in
theorem cmp_Or_int.calls (k : Nat) (i : Option Addr) (j : Nat) (l0 : List Int) (r : Int) (w : World) (l : Kd.C (Kd.int .i64) w i l0.length l0) (m : l0.length ≤ j) (h : cmp_Or_int.f k l0 = some r) :
  Calls Try.prog 114 #[.slice i l0.length j] w fun e w' => e = .returned (.int .i64 r) ∧ Drawn0 w w' := by
 have n := am l; have HC0 := am m; clear l m
 have H : (cmp_Or_int.l0 k 0 l0 (l0.length : Int) 0) = some r := h
 clear h; have H' := am H; clear H; go_enter Try.func114, Try.ntmps114; go_wp2
 go_loopg [8] k (fun kq p w' => ∃ (a : Int), p = .int .i64 a ∧ Aside0 (cmp_Or_int.l0 kq 0 l0 (l0.length : Int) a = some r) ∧ Aside0 (kq ≤ k) ∧ Drawn0 w w')
 case atStart => exact ⟨(0), rs_, H', ⟨Nat.le_refl _⟩, by repeat (first | exact Drawn0.refl _ | apply Drawn0.step)⟩
 case round =>
  clear H'; obtain ⟨a, rfl, HA, o, ⟨m1, rfl⟩⟩ := hrel; cases gk with
  | zero => exact absurd HA.out (by simp [cmp_Or_int.l0])
  | succ k1 =>
   have H := HA.out; clear HA; simp only [cmp_Or_int.l0] at H; by_cases c2 : a < (l0.length : Int)
   ·rw [if_pos c2] at H; have q := decide_eq_true c2; clear c2; obtain ⟨y, H⟩ := id_ H; obtain ⟨z, H⟩ := id_ H; by_cases b : (rd l0 a) = 0
    ·rw [if_pos b] at H; have s : ((rd l0 a) == 0) = true := beq_iff_eq.mpr b; have t : ((rd l0 a) != 0) = false := bne_eq_false_iff_eq.mpr b; clear b; have H' := am H; clear H; have c : 0 ≤ (a : Int) := oa; have d : a < (l0.length : Int) := oa; obtain ⟨u, g, x⟩ := Kd.at_int n.out a c d; cases g; obtain ⟨c, d⟩ := e2_ c d; go_wp2
     go_roundg k1
     case measure => have := o.out; omega
     case rel => exact ⟨(wrap64 (a + 1)), rs_, H', ⟨by have := o.out; omega⟩, by repeat (first | exact Drawn0.refl _ | apply Drawn0.step)⟩
    ·rw [if_neg b] at H; have s : ((rd l0 a) == 0) = false := beq_eq_false_iff_ne.mpr b; have t : ((rd l0 a) != 0) = true := bne_iff_ne.mpr b; obtain rfl := Option.some.inj H; have c : 0 ≤ (a : Int) := oa; have d : a < (l0.length : Int) := oa; obtain ⟨u, g, x⟩ := Kd.at_int n.out a c d; cases g; obtain ⟨c, d⟩ := e2_ c d; go_wp2
     go_ret
     exact ⟨rs_, by repeat (first | exact Drawn0.refl _ | apply Drawn0.step)⟩
   ·rw [if_neg c2] at H; have q := decide_eq_false c2; clear c2; obtain rfl := Option.some.inj H; go_wp2
    go_ret
    exact ⟨rs_, by repeat (first | exact Drawn0.refl _ | apply Drawn0.step)⟩
/-! ### cmp_isNaN_int: function 140 -/
def cmp_isNaN_int.f (a0 : Int) : Option (Bool) := some (a0 != a0)
set_option maxHeartbeats 8000000 in
set_option maxRecDepth 100000 in
theorem cmp_isNaN_int.calls (a : Int) (r : Bool) (w : World) (h : cmp_isNaN_int.f a = some r) :
  Calls Try.prog 140 #[.int .i64 a] w fun e w' => e = .returned (.bool r) ∧ Drawn0 w w' := by
 have H : (some (a != a)) = some r := h
 clear h; obtain rfl := Option.some.inj H; go_enter Try.func140, Try.ntmps140; go_wp2
 go_ret
 exact ⟨rs_, by repeat (first | exact Drawn0.refl _ | apply Drawn0.step)⟩
/-! ### cmp_Compare_int: function 115 -/
def cmp_Compare_int.f (a0 : Int) (a1 : Int) : Option (Int) := (cmp_isNaN_int.f a0).bind fun t401 => ((cmp_isNaN_int.f a1).bind fun t402 => (if t401 = true then (if t402 = true then (some 0) else (some (-1))) else (if t402 = true then (some 1) else (if a0 < a1 then (some (-1)) else (if a0 > a1 then (some 1) else (some 0))))))
set_option maxHeartbeats 8000000 in
set_option maxRecDepth 100000 in
theorem cmp_Compare_int.calls (a : Int) (b : Int) (r : Int) (w : World) (h : cmp_Compare_int.f a b = some r) :
  Calls Try.prog 115 #[.int .i64 a, .int .i64 b] w fun e w' => e = .returned (.int .i64 r) ∧ Drawn0 w w' := by
 have H : ((cmp_isNaN_int.f a).bind fun l => ((cmp_isNaN_int.f b).bind fun j => (if l = true then (if j = true then (some 0) else (some (-1))) else (if j = true then (some 1) else (if a < b then (some (-1)) else (if a > b then (some 1) else (some 0))))))) = some r := h
 clear h; obtain ⟨l, c, H⟩ := bi_ H; obtain ⟨j, d, H⟩ := bi_ H; by_cases m : l = true
 ·subst m; rw [if_pos rfl] at H; by_cases n : j = true
  ·subst n; rw [if_pos rfl] at H; obtain rfl := Option.some.inj H; go_enter Try.func115, Try.ntmps115
   go_wp2_with (first | ((with_reducible refine gate_callee (f := 140) rfl ?_); refine gl_ (some 8) Try.func140 #[.int .i64 a] ?_; (with_reducible refine (cmp_isNaN_int.calls a true _ c.out).mono ?_); rintro e w' ⟨rfl, ⟨nd, rfl⟩⟩; refine ⟨_, rfl, ?_⟩) | ((with_reducible refine gate_callee (f := 140) rfl ?_); refine gl_ (some 10) Try.func140 #[.int .i64 b] ?_; (with_reducible refine (cmp_isNaN_int.calls b true _ d.out).mono ?_); rintro e w' ⟨rfl, ⟨nd, rfl⟩⟩; refine ⟨_, rfl, ?_⟩))
   go_ret
   exact ⟨rs_, by repeat (first | exact Drawn0.refl _ | apply Drawn0.step)⟩
  ·obtain rfl := nt_ n; rw [if_neg nf_] at H; obtain rfl := Option.some.inj H; go_enter Try.func115, Try.ntmps115
   go_wp2_with (first | ((with_reducible refine gate_callee (f := 140) rfl ?_); refine gl_ (some 8) Try.func140 #[.int .i64 a] ?_; (with_reducible refine (cmp_isNaN_int.calls a true _ c.out).mono ?_); rintro e w' ⟨rfl, ⟨nd, rfl⟩⟩; refine ⟨_, rfl, ?_⟩) | ((with_reducible refine gate_callee (f := 140) rfl ?_); refine gl_ (some 10) Try.func140 #[.int .i64 b] ?_; (with_reducible refine (cmp_isNaN_int.calls b false _ d.out).mono ?_); rintro e w' ⟨rfl, ⟨nd, rfl⟩⟩; refine ⟨_, rfl, ?_⟩))
   go_ret
   exact ⟨rs_, by repeat (first | exact Drawn0.refl _ | apply Drawn0.step)⟩
 ·obtain rfl := nt_ m; rw [if_neg nf_] at H; by_cases o : j = true
  ·subst o; rw [if_pos rfl] at H; obtain rfl := Option.some.inj H; go_enter Try.func115, Try.ntmps115
   go_wp2_with (first | ((with_reducible refine gate_callee (f := 140) rfl ?_); refine gl_ (some 8) Try.func140 #[.int .i64 a] ?_; (with_reducible refine (cmp_isNaN_int.calls a false _ c.out).mono ?_); rintro e w' ⟨rfl, ⟨nd, rfl⟩⟩; refine ⟨_, rfl, ?_⟩) | ((with_reducible refine gate_callee (f := 140) rfl ?_); refine gl_ (some 10) Try.func140 #[.int .i64 b] ?_; (with_reducible refine (cmp_isNaN_int.calls b true _ d.out).mono ?_); rintro e w' ⟨rfl, ⟨nd, rfl⟩⟩; refine ⟨_, rfl, ?_⟩))
   go_ret
   exact ⟨rs_, by repeat (first | exact Drawn0.refl _ | apply Drawn0.step)⟩
  ·obtain rfl := nt_ o; rw [if_neg nf_] at H; by_cases g : a < b
   ·rw [if_pos g] at H; have p := decide_eq_true g; clear g; obtain rfl := Option.some.inj H; go_enter Try.func115, Try.ntmps115
    go_wp2_with (first | ((with_reducible refine gate_callee (f := 140) rfl ?_); refine gl_ (some 8) Try.func140 #[.int .i64 a] ?_; (with_reducible refine (cmp_isNaN_int.calls a false _ c.out).mono ?_); rintro e w' ⟨rfl, ⟨nd, rfl⟩⟩; refine ⟨_, rfl, ?_⟩) | ((with_reducible refine gate_callee (f := 140) rfl ?_); refine gl_ (some 10) Try.func140 #[.int .i64 b] ?_; (with_reducible refine (cmp_isNaN_int.calls b false _ d.out).mono ?_); rintro e w' ⟨rfl, ⟨nd, rfl⟩⟩; refine ⟨_, rfl, ?_⟩))
    go_ret
    exact ⟨rs_, by repeat (first | exact Drawn0.refl _ | apply Drawn0.step)⟩
   ·rw [if_neg g] at H; have p := decide_eq_false g; clear g; by_cases i : a > b
    ·rw [if_pos i] at H; have q := decide_eq_true i; clear i; obtain rfl := Option.some.inj H; go_enter Try.func115, Try.ntmps115
     go_wp2_with (first | ((with_reducible refine gate_callee (f := 140) rfl ?_); refine gl_ (some 8) Try.func140 #[.int .i64 a] ?_; (with_reducible refine (cmp_isNaN_int.calls a false _ c.out).mono ?_); rintro e w' ⟨rfl, ⟨nd, rfl⟩⟩; refine ⟨_, rfl, ?_⟩) | ((with_reducible refine gate_callee (f := 140) rfl ?_); refine gl_ (some 10) Try.func140 #[.int .i64 b] ?_; (with_reducible refine (cmp_isNaN_int.calls b false _ d.out).mono ?_); rintro e w' ⟨rfl, ⟨nd, rfl⟩⟩; refine ⟨_, rfl, ?_⟩))
     go_ret
     exact ⟨rs_, by repeat (first | exact Drawn0.refl _ | apply Drawn0.step)⟩
    ·rw [if_neg i] at H; have q := decide_eq_false i; clear i; obtain rfl := Option.some.inj H; go_enter Try.func115, Try.ntmps115
     go_wp2_with (first | ((with_reducible refine gate_callee (f := 140) rfl ?_); refine gl_ (some 8) Try.func140 #[.int .i64 a] ?_; (with_reducible refine (cmp_isNaN_int.calls a false _ c.out).mono ?_); rintro e w' ⟨rfl, ⟨nd, rfl⟩⟩; refine ⟨_, rfl, ?_⟩) | ((with_reducible refine gate_callee (f := 140) rfl ?_); refine gl_ (some 10) Try.func140 #[.int .i64 b] ?_; (with_reducible refine (cmp_isNaN_int.calls b false _ d.out).mono ?_); rintro e w' ⟨rfl, ⟨nd, rfl⟩⟩; refine ⟨_, rfl, ?_⟩))
     go_ret
     exact ⟨rs_, by repeat (first | exact Drawn0.refl _ | apply Drawn0.step)⟩
/-! ### impl_tieOrder: function 83 -/
def impl_tieOrder.f (k : Nat) (a0_0 : Int) (a0_1 : Int) (a1_0 : Int) (a1_1 : Int) : Option (Int) := (cmp_Compare_int.f a0_0 a1_0).bind fun t405 => ((cmp_Compare_int.f a0_1 a1_1).bind fun t406 => ((cmp_Or_int.f k (([t405, t406] : List Int))).bind fun t410 => (some t410)))
def impl_tieOrder.T1 : Bool × List (List Nat × List Nat) := (true, [([], []), ([0], [0]), ([], []), ([2], [2]), ([1, 3], [1, 3]), ([], []), ([5], [5]), ([], []), ([7], [7]), ([6, 8, 4], [6, 8]), ([4, 9], [4, 9]), ([10, 9], [10]), ([11, 11, 0, 1, 2, 3, 4, 5, 6, 7, 8, 9, 10, 11], [11])])
def impl_tieOrder.B1 : List Nat := [0, 1, 0, 4, 15, 0, 32, 0, 128, 511, 1023, 2047, 4095]
theorem impl_tieOrder.tab1 : rtab .any (opsOf Try.f83 1) = impl_tieOrder.T1 := by kernel_rfl
theorem impl_tieOrder.bits1 : waitsOk impl_tieOrder.T1.2 impl_tieOrder.B1 = true := by kernel_rfl
set_option maxHeartbeats 8000000 in
set_option maxRecDepth 100000 in
theorem impl_tieOrder.calls (k : Nat) (j : Int) (l : Int) (m : Int) (n : Int) (r : Int) (w : World) (h : impl_tieOrder.f k j l m n = some r) :
  Calls Try.prog 83 #[.agg #[.int .i64 j, .int .i64 l], .agg #[.int .i64 m, .int .i64 n]] w fun e w' => e = .returned (.int .i64 r) ∧ Below w.heap.size w w' := by
 have X := Try.underlying52; have HB := am (Below.refl w.heap.size w)
 have H : ((cmp_Compare_int.f j m).bind fun g => ((cmp_Compare_int.f l n).bind fun i => ((cmp_Or_int.f k (([g, i] : List Int))).bind fun o => (some o)))) = some r := h
 clear h; obtain ⟨g, E, H⟩ := bi_ H; obtain ⟨i, G, H⟩ := bi_ H; obtain ⟨s, t⟩ : ∃ y_ : List Int, y_ = (([g, i] : List Int)) := ⟨_, rfl⟩; replace H : ((cmp_Or_int.f k s).bind fun o => (some o)) = some r := nh_ t H; have x := am t; clear t; obtain ⟨o, I, H⟩ := bi_ H; obtain rfl := Option.some.inj H; go_enter Try.func83, Try.ntmps83
 try go_wp2_with (first | ((with_reducible refine gate_dst (N := 2) rfl ?_); refine bx_ 2 #[.int .i64 j, .int .i64 l] 52 HB ?_; clear HB; intro Y hg w6 hb a Z HB; clear hb hg) | ((with_reducible refine gate_dst (N := 3) rfl ?_); refine bx_ 3 #[.int .i64 m, .int .i64 n] 52 HB ?_; clear HB; intro aa hg J hb b ab HB; obtain ⟨ad, ae⟩ := nb_ hg a; replace a := bb a hb; clear hb hg))
 replace a := dB a; replace b := dB b; replace HB := dL HB; refine s4_ 13 [] (bq a 0) (bq a 1) (bq b 0) (bq b 1) (fun d => ?_); refine with_tabW impl_tieOrder.tab1 impl_tieOrder.bits1 (fun c q => ?_); generalize J.drew = w8 at a b HB d ⊢; refine pz_ 0 c ?_; refine pz_ 2 c ?_; refine pz_ 5 c ?_; refine pz_ 7 c ?_; refine tz_ 1 c q d ?_; refine tz_ 3 c q d ?_; refine tz_ 6 c q d ?_; refine tz_ 8 c q d ?_; refine on_ 4 c (fun K hK => ?_); refine gg_ Try.func115 #[.int .i64 j, .int .i64 m] ?_
 with_reducible refine (cmp_Compare_int.calls j m g _ E.out).mono ?_
 rintro e w' ⟨rfl, ⟨nd, rfl⟩⟩; refine ⟨_, rfl, ?_⟩; refine hK.out _ _ ⟨(bc a 0), (bc a 1), (bc b 0), (bc b 1)⟩ (fun d => ?_); clear hK K; refine nz_ 9 ?_; refine on_ 9 c (fun K hK => ?_); refine gg_ Try.func115 #[.int .i64 l, .int .i64 n] ?_
 with_reducible refine (cmp_Compare_int.calls l n i _ G.out).mono ?_
 rintro e w' ⟨rfl, ⟨nd, rfl⟩⟩; refine ⟨_, rfl, ?_⟩; refine hK.out _ _ ⟨(bc a 0), (bc a 1), (bc b 0), (bc b 1)⟩ (fun d => ?_); clear hK K; refine nz_ 14 ?_; refine on_ 10 c (fun K hK => ?_); refine Kd.R_lit_step (Kd.int .i64) _ 3 ?hg (N := 15) ?hd (xs := ([g, i] : List Int)) (inner := [.int .i64 g, .int .i64 i]) (ok := fun _ => True) (okp := fun _ => True) ?hr ?hp (fun _ hk => hk) trivial (Below.refl _ _) (Nat.le_refl _) (by simp) ?_; (case hd => rfl); (case hg => rfl); (case hr => first | (go_simp; done) | (go_simp; rfl)); (case hp => exact (Reps.one (show Kd.M (Kd.int .i64) _ _ _ g [.int .i64 g] from rfl) (Reps.one (show Kd.M (Kd.int .i64) _ _ _ i [.int .i64 i] from rfl) (Reps.none _ _)))); intro af w9 p hb L O; clear L O; (first | rw [← x.out] at p | (simp only [Int.reduceToNat] at p; rw [← x.out] at p)); have y := am (Kd.R_lower p (below_size (bn HB))); have z := bb a hb; have A := bb b hb; have B := bs HB hb; clear a b HB; have u := y; have a := z; have b := A; have HB := B; clear y z A B hb p; obtain ⟨P, T, D⟩ := Kd.R_slice u.out; (first | subst D | (injection D with f1_ f2_ f3_; have U := f1_.symm; have W := f3_.symm; clear f1_ f2_ f3_; subst U; subst W)); refine hK.out _ _ ⟨(bc a 0), (bc a 1), (bc b 0), (bc b 1)⟩ (fun d => ?_); clear hK K; refine nz_ 15 ?_; refine on_ 11 c (fun K hK => ?_); refine gg_ Try.func114 #[.slice P s.length T] ?_
 with_reducible refine (cmp_Or_int.calls k _ _ s o _ ?z_1 ?z_2 I.out).mono ?_
 (case z_1 => exact (Kd.R_reads' (onR u)).2.2); (case z_2 => exact (Kd.R_reads' u.out).2.1); rintro e w' ⟨rfl, ⟨nd, rfl⟩⟩; refine ⟨_, rfl, ?_⟩; refine hK.out _ _ ⟨(bc a 0), (bc a 1), (bc b 0), (bc b 1)⟩ (fun d => ?_); clear hK K; refine nz_ 16 ?_; refine pz_ 12 c ?_; refine done_ (done_of c.out (by kernel_rfl)) ?_; try go_wp2
 go_ret
 exact ⟨er_, bn HB⟩
/-! ### impl_ascending: function 100 -/
def impl_ascending.l0 : Nat → List (S52) → Int → Option (Bool)
 | 0, _, _ => none
 | k + 1, x0, x3 => if x3 < (x0.length : Int) then (if 0 ≤ (wrap64 (x3 - 1)) then (if (wrap64 (x3 - 1)) < (x0.length : Int) then (if 0 ≤ x3 then ((impl_tieOrder.f k ((rd_T52 x0 (wrap64 (x3 - 1))).f0) ((rd_T52 x0 (wrap64 (x3 - 1))).f1) ((rd_T52 x0 x3).f0) ((rd_T52 x0 x3).f1)).bind fun t413 => (if t413 ≥ 0 then (some false) else (impl_ascending.l0 k x0 (wrap64 (x3 + 1))))) else (none)) else (none)) else (none)) else (some true)
def impl_ascending.f (k : Nat) (l0 : List (S52)) : Option (Bool) := impl_ascending.l0 k l0 1
def impl_ascending.T4 : Bool × List (List Nat × List Nat) := (true, [([], []), ([], []), ([1], [1]), ([0, 2], [0, 2]), ([3], [3]), ([], []), ([], []), ([5, 6], [5, 6]), ([7], [7]), ([4, 8], [4, 8]), ([9], [9])])
def impl_ascending.B4 : List Nat := [0, 0, 2, 7, 15, 0, 0, 96, 224, 511, 1023]
theorem impl_ascending.tab4 : rtab .any (opsOf Try.f100 4) = impl_ascending.T4 := by kernel_rfl
theorem impl_ascending.bits4 : waitsOk impl_ascending.T4.2 impl_ascending.B4 = true := by kernel_rfl
set_option maxHeartbeats 8000000 in
set_option maxRecDepth 100000 in
theorem impl_ascending.calls (k : Nat) (J : Option Addr) (L : Nat) (l0 : List (S52)) (r : Bool) (w : World) (M : Kd.C k52 w J l0.length l0) (O : l0.length ≤ L) (h : impl_ascending.f k l0 = some r) :
  Calls Try.prog 100 #[.slice J l0.length L] w fun e w' => e = .returned (.bool r) ∧ Below w.heap.size w w' := by
 have Y := Try.underlying52; have B := am M; have HC0 := am O; clear M O; have HB := am (Below.refl w.heap.size w)
 have H : (impl_ascending.l0 k l0 1) = some r := h
 clear h; have H' := am H; clear H; go_enter Try.func100, Try.ntmps100; go_wp2
 go_loopg [3] k (fun kq U w' => ∃ (a : Int), U = .int .i64 a ∧ Aside0 (impl_ascending.l0 kq l0 a = some r) ∧ Aside0 (kq ≤ k) ∧ Aside0 (Below w.heap.size w w'))
 case atStart => exact ⟨(1), rs_, H', ⟨Nat.le_refl _⟩, ⟨bn HB⟩⟩
 case round =>
  clear H'; obtain ⟨a, rfl, HA, P, HB⟩ := hrel; cases gk with
  | zero => exact absurd HA.out (by simp [impl_ascending.l0])
  | succ k1 =>
   have H := HA.out; clear HA; simp only [impl_ascending.l0] at H; by_cases c2 : a < (l0.length : Int)
   ·rw [if_pos c2] at H; have W := decide_eq_true c2; clear c2; obtain ⟨c, q⟩ : ∃ j_ : Int, (wrap64 (a - 1)) = j_ := ⟨_, rfl⟩; replace H : (if 0 ≤ (c) then (if (c) < (l0.length : Int) then (if 0 ≤ a then ((impl_tieOrder.f k1 ((rd_T52 l0 (c)).f0) ((rd_T52 l0 (c)).f1) ((rd_T52 l0 a).f0) ((rd_T52 l0 a).f1)).bind fun t => (if t ≥ 0 then (some false) else (impl_ascending.l0 k1 l0 (wrap64 (a + 1))))) else (none)) else (none)) else (none)) = some r := by first | (rw [q] at H; exact H) | (simp only [q] at H ⊢; exact H)
    have hji3w : (IntKind.i64.wrap (a - 1)) = c := (i64_w _).trans q; obtain ⟨Z, H⟩ := id_ H; obtain ⟨aa, H⟩ := id_ H; obtain ⟨ab, H⟩ := id_ H; obtain ⟨t, T, H⟩ := bi_ H; by_cases s : t ≥ 0
    ·rw [if_pos s] at H; have X := decide_eq_true s; clear s; obtain rfl := Option.some.inj H; try go_wp2
     replace HB := dL HB; have m : 0 ≤ ((c) : Int) := oa; have n : (c) < (l0.length : Int) := oa; obtain ⟨D, E, d, g⟩ := at_T52 B.out (c) m n; have u := g; have x := d; cases E; replace d := hc_ HB d; replace g := hc_ HB g; obtain ⟨m, n⟩ := e2_ m n; have o : 0 ≤ (a : Int) := oa; have p : a < (l0.length : Int) := oa; obtain ⟨G, I, i, j⟩ := at_T52 B.out a o p; have y := j; have z := i; obtain rfl : D = G := (by injection I); replace i := hc_ HB i; replace j := hc_ HB j; obtain ⟨o, p⟩ := e2_ o p; refine s4_ 11 [] (hb_ HB x) (hb_ HB u) (hb_ HB z) (hb_ HB y) (fun l => ?_); refine with_tabW impl_ascending.tab4 impl_ascending.bits4 (fun b A => ?_); generalize wr.drew = w9 at HB d g i j l ⊢; refine pz_ 0 b ?_; refine pz_ 1 b ?_; refine pz_ 2 b ?_; refine pz_ 3 b ?_; refine pz_ 5 b ?_; refine pz_ 6 b ?_; refine pz_ 7 b ?_; refine tz_ 4 b A l ?_; refine tz_ 8 b A l ?_; refine on_ 9 b (fun K hK => ?_); refine goes_ Try.func83 (by kernel_rfl) rfl #[.agg #[.int .i64 ((rd_T52 l0 (c)).f0), .int .i64 ((rd_T52 l0 (c)).f1)], .agg #[.int .i64 ((rd_T52 l0 a).f0), .int .i64 ((rd_T52 l0 a).f1)]] (by rfl) rfl rfl (by (try simp only [List.map_toArray, List.map_cons, List.map_nil]); first | done | (simp only [q]; rfl) | rfl | (simp only [List.length_drop, List.length_take]; rfl)) ?_
     with_reducible refine (impl_tieOrder.calls k1 ((rd_T52 l0 (c)).f0) ((rd_T52 l0 (c)).f1) ((rd_T52 l0 a).f0) ((rd_T52 l0 a).f1) t _ T.out).mono ?_
     rintro e w10 ⟨rfl, hb⟩; refine ⟨_, rfl, ?_⟩; replace HB := bs HB hb; (try clear hb); refine hK.out _ _ ⟨(hb_ HB x), (hb_ HB u), (hb_ HB z), (hb_ HB y)⟩ (fun l => ?_); clear hK K; refine nz_ 19 ?_; refine pz_ 10 b ?_; refine done_ (done_of b.out (by kernel_rfl)) ?_; try go_wp2
     go_ret
     exact ⟨by first | rfl | (simp [errW_none, errW_some] <;> rfl) | (simp only [← q]; first | rfl | (simp [errW_none, errW_some] <;> rfl)) | (simp [*, errW_none, errW_some] <;> rfl), bn HB⟩
    ·rw [if_neg s] at H; have X := decide_eq_false s; clear s; have H' := am H; clear H; try go_wp2
     replace HB := dL HB; have m : 0 ≤ ((c) : Int) := oa; have n : (c) < (l0.length : Int) := oa; obtain ⟨D, E, d, g⟩ := at_T52 B.out (c) m n; have u := g; have x := d; cases E; replace d := hc_ HB d; replace g := hc_ HB g; obtain ⟨m, n⟩ := e2_ m n; have o : 0 ≤ (a : Int) := oa; have p : a < (l0.length : Int) := oa; obtain ⟨G, I, i, j⟩ := at_T52 B.out a o p; have y := j; have z := i; obtain rfl : D = G := (by injection I); replace i := hc_ HB i; replace j := hc_ HB j; obtain ⟨o, p⟩ := e2_ o p; refine s4_ 11 [] (hb_ HB x) (hb_ HB u) (hb_ HB z) (hb_ HB y) (fun l => ?_); refine with_tabW impl_ascending.tab4 impl_ascending.bits4 (fun b A => ?_); generalize wr.drew = w11 at HB d g i j l ⊢; refine pz_ 0 b ?_; refine pz_ 1 b ?_; refine pz_ 2 b ?_; refine pz_ 3 b ?_; refine pz_ 5 b ?_; refine pz_ 6 b ?_; refine pz_ 7 b ?_; refine tz_ 4 b A l ?_; refine tz_ 8 b A l ?_; refine on_ 9 b (fun K hK => ?_); refine goes_ Try.func83 (by kernel_rfl) rfl #[.agg #[.int .i64 ((rd_T52 l0 (c)).f0), .int .i64 ((rd_T52 l0 (c)).f1)], .agg #[.int .i64 ((rd_T52 l0 a).f0), .int .i64 ((rd_T52 l0 a).f1)]] (by rfl) rfl rfl (by (try simp only [List.map_toArray, List.map_cons, List.map_nil]); first | done | (simp only [q]; rfl) | rfl | (simp only [List.length_drop, List.length_take]; rfl)) ?_
     with_reducible refine (impl_tieOrder.calls k1 ((rd_T52 l0 (c)).f0) ((rd_T52 l0 (c)).f1) ((rd_T52 l0 a).f0) ((rd_T52 l0 a).f1) t _ T.out).mono ?_
     rintro e w12 ⟨rfl, hb⟩; refine ⟨_, rfl, ?_⟩; replace HB := bs HB hb; (try clear hb); refine hK.out _ _ ⟨(hb_ HB x), (hb_ HB u), (hb_ HB z), (hb_ HB y)⟩ (fun l => ?_); clear hK K; refine nz_ 19 ?_; refine pz_ 10 b ?_; refine done_ (done_of b.out (by kernel_rfl)) ?_; try go_wp2
     go_roundg k1
     case measure => have := P.out; omega
     case rel => exact ⟨(wrap64 (a + 1)), rs_, H', ⟨by have := P.out; omega⟩, ⟨bn HB⟩⟩
   ·rw [if_neg c2] at H; have W := decide_eq_false c2; clear c2; obtain rfl := Option.some.inj H; go_wp2
    go_ret
    exact ⟨er_, bn HB⟩
/-! ### impl_NetOk: function 67 -/
mutual
def impl_NetOk.j0 : Nat → Bool → Int → List (S52) → Option (Bool)
 | 0, _, _, _ => none
 | k + 1, x12, x415000, x415001 => if x12 = true then (some false) else (impl_NetOk.l0 k x415001 (x415001.length : Int) 0 x415000 x415001)
def impl_NetOk.l0 : Nat → List (S52) → Int → Int → Int → List (S52) → Option (Bool)
 | 0, _, _, _, _, _ => none
 | k + 1, x14, x15, x16, x415000, x415001 => if x16 < x15 then (if 0 ≤ x16 then (if x16 < (x14.length : Int) then (if ((rd_T52 x14 x16).f0) < 0 then (some false) else (if ((rd_T52 x14 x16).f0) ≥ ((rd_T52 x14 x16).f1) then (some false) else (if ((rd_T52 x14 x16).f1) ≥ x415000 then (some false) else (impl_NetOk.l0 k x14 x15 (wrap64 (x16 + 1)) x415000 x415001)))) else (none)) else (none)) else ((impl_ascending.f k x415001).bind fun t417 => (some t417))
end
def impl_NetOk.f (k : Nat) (a0_0 : Int) (l0_1 : List (S52)) : Option (Bool) := if a0_0 < 0 then (impl_NetOk.j0 k true a0_0 l0_1) else (impl_NetOk.j0 k (decide (a0_0 > 8)) a0_0 l0_1)
set_option maxHeartbeats 8000000 in
set_option maxRecDepth 100000 in
theorem impl_NetOk.calls (k : Nat) (i : Int) (t : Option Addr) (u : Nat) (b : List (S52)) (r : Bool) (w : World) (L : Kd.C k52 w t b.length b) (M : b.length ≤ u) (h : impl_NetOk.f k i b = some r) :
  Calls Try.prog 67 #[.agg #[.int .i64 i, .slice t b.length u]] w fun e w' => e = .returned (.bool r) ∧ Below w.heap.size w w' := by
 have ai := Try.underlying25; have aj := Try.underlying52; have B := am L; have X := am M; clear L M; have HB := am (Below.refl w.heap.size w)
 have H : (if i < 0 then (impl_NetOk.j0 k true i b) else (impl_NetOk.j0 k (decide (i > 8)) i b)) = some r := h
 clear h; have E := am H; clear H; go_enter Try.func67, Try.ntmps67
 go_upto_region 1 with (first | ((with_reducible refine gate_dst (N := 1) rfl ?_); refine bx_ 1 #[.int .i64 i, .slice t b.length u] 25 HB ?_; clear HB; intro O hg w3 hb a ak HB; clear hb hg))
 (try simp only [Act.put, List.setIfInBounds_toArray, List.set_cons_zero, List.set_cons_succ])
 go_cut [12] (fun Y wc => ∃ (kq : Nat) (D : Bool), Y = .bool D ∧ Aside0 (impl_NetOk.j0 kq D i b = some r) ∧ Aside0 (kq ≤ k) ∧ Bk wc O (.cells #[.int .i64 i, (.slice t b.length u)] 25 (0, 0)) ∧ Aside0 (Below w.heap.size w wc))
 case first =>
  have H := E.out; clear E; by_cases m : i < 0
  ·rw [if_pos m] at H; have n := decide_eq_true m; clear m; (first | rw [n] | (simp only [i64_w, i32_w]; rw [n]) | skip); have H' := am H; clear H; have P := c2 a; go_wp2
   go_meet
   case rel => exact ⟨_, (true), rs_, H', ⟨by first | omega | exact Nat.le_refl _⟩, ⟨bkn a⟩, ⟨bn HB⟩⟩
  ·rw [if_neg m] at H; have n := decide_eq_false m; clear m; (first | rw [n] | (simp only [i64_w, i32_w]; rw [n]) | skip); have H' := am H; clear H; have T := c2 a; go_wp2
   go_meet
   case rel => exact ⟨_, (decide (i > 8)), rs_, H', ⟨by first | omega | exact Nat.le_refl _⟩, ⟨bkn a⟩, ⟨bn HB⟩⟩
 case rest =>
  clear E; (try clear m n P T); obtain ⟨kq, D, rfl, HA, U, a, HB⟩ := hcut; cases kq with
  | zero => exact absurd HA.out (by simp [impl_NetOk.j0])
  | succ kj1 =>
   have H := HA.out; clear HA; simp only [impl_NetOk.j0] at H; by_cases G : D = true
   ·subst G; rw [if_pos rfl] at H; obtain rfl := Option.some.inj H; go_wp2
    go_ret
    exact ⟨er_, bn HB⟩
   ·obtain rfl := nt_ G; rw [if_neg nf_] at H; have H' := am H; clear H; have Z := c2 a; go_wp2
    go_loopg [16] kj1 (fun kq aa w' => ∃ (c : Int), aa = .int .i64 c ∧ Aside0 (impl_NetOk.l0 kq b (b.length : Int) c i b = some r) ∧ Aside0 (kq ≤ kj1) ∧ Bk w' O (.cells #[.int .i64 i, (.slice t b.length u)] 25 (0, 0)) ∧ Aside0 (Below w.heap.size w w'))
    case atStart => exact ⟨(0), rs_, H', ⟨Nat.le_refl _⟩, ⟨bkn a⟩, ⟨bn HB⟩⟩
    case round =>
     clear H'; (try clear m n G P T Z); obtain ⟨c, rfl, HA, W, a, HB⟩ := hrel; cases gk with
     | zero => exact absurd HA.out (by simp [impl_NetOk.l0])
     | succ k2 =>
      have H := HA.out; clear HA; simp only [impl_NetOk.l0] at H; by_cases x : c < (b.length : Int)
      ·rw [if_pos x] at H; have ab := decide_eq_true x; clear x; obtain ⟨al, H⟩ := id_ H; obtain ⟨an, H⟩ := id_ H; by_cases y : ((rd_T52 b c).f0) < 0
       ·rw [if_pos y] at H; have ad := decide_eq_true y; clear y; obtain rfl := Option.some.inj H; have d : 0 ≤ (c : Int) := oa; have g : c < (b.length : Int) := oa; obtain ⟨I, o, j, l⟩ := at_T52 B.out c d g; cases o; replace j := hc_ HB j; replace l := hc_ HB l; obtain ⟨d, g⟩ := e2_ d g
        go_wp2_with (first | ((with_reducible refine gate_dst (N := 4) rfl ?_); refine bx_ 4 #[.int .i64 0, .int .i64 0] 52 HB ?_; clear HB; intro J hg w13 hb p K HB; obtain ⟨q, s⟩ := nb_ hg a; replace a := bb a hb; clear hb hg; have ap := n2 s q; have aq := c2 p))
        go_ret
        exact ⟨er_, bn HB⟩
       ·rw [if_neg y] at H; have ad := decide_eq_false y; clear y; by_cases z : ((rd_T52 b c).f0) ≥ ((rd_T52 b c).f1)
        ·rw [if_pos z] at H; have ae := decide_eq_true z; clear z; obtain rfl := Option.some.inj H; have d : 0 ≤ (c : Int) := oa; have g : c < (b.length : Int) := oa; obtain ⟨I, o, j, l⟩ := at_T52 B.out c d g; cases o; replace j := hc_ HB j; replace l := hc_ HB l; obtain ⟨d, g⟩ := e2_ d g
         go_wp2_with (first | ((with_reducible refine gate_dst (N := 4) rfl ?_); refine bx_ 4 #[.int .i64 0, .int .i64 0] 52 HB ?_; clear HB; intro J hg w17 hb p K HB; obtain ⟨q, s⟩ := nb_ hg a; replace a := bb a hb; clear hb hg; have ar := n2 s q; have au := c2 p))
         go_ret
         exact ⟨er_, bn HB⟩
        ·rw [if_neg z] at H; have ae := decide_eq_false z; clear z; by_cases A : ((rd_T52 b c).f1) ≥ i
         ·rw [if_pos A] at H; have af := decide_eq_true A; clear A; obtain rfl := Option.some.inj H; have d : 0 ≤ (c : Int) := oa; have g : c < (b.length : Int) := oa; obtain ⟨I, o, j, l⟩ := at_T52 B.out c d g; cases o; replace j := hc_ HB j; replace l := hc_ HB l; obtain ⟨d, g⟩ := e2_ d g
          go_wp2_with (first | ((with_reducible refine gate_dst (N := 4) rfl ?_); refine bx_ 4 #[.int .i64 0, .int .i64 0] 52 HB ?_; clear HB; intro J hg w21 hb p K HB; obtain ⟨q, s⟩ := nb_ hg a; replace a := bb a hb; clear hb hg; have av := n2 s q; have aw := c2 p; have ax := c2 a))
          go_ret
          exact ⟨er_, bn HB⟩
         ·rw [if_neg A] at H; have af := decide_eq_false A; clear A; have H' := am H; clear H; have d : 0 ≤ (c : Int) := oa; have g : c < (b.length : Int) := oa; obtain ⟨I, o, j, l⟩ := at_T52 B.out c d g; cases o; replace j := hc_ HB j; replace l := hc_ HB l; obtain ⟨d, g⟩ := e2_ d g
          go_wp2_with (first | ((with_reducible refine gate_dst (N := 4) rfl ?_); refine bx_ 4 #[.int .i64 0, .int .i64 0] 52 HB ?_; clear HB; intro J hg w25 hb p K HB; obtain ⟨q, s⟩ := nb_ hg a; replace a := bb a hb; clear hb hg; have ay := n2 s q; have az := c2 p; have aA := c2 a))
          go_roundg k2
          case measure => have := U.out; have := W.out; omega
          case rel => exact ⟨(wrap64 (c + 1)), rs_, H', ⟨by have := U.out; have := W.out; omega⟩, ⟨bkn a⟩, ⟨bn HB⟩⟩
      ·rw [if_neg x] at H; have ab := decide_eq_false x; clear x; obtain ⟨ag, ah, H⟩ := bi_ H; obtain rfl := Option.some.inj H; have aB := c2 a
       go_wp2_with (first | ((with_reducible refine gate_callee (f := 100) rfl ?_); refine gl_ (some 40) Try.func100 #[.slice t b.length u] ?_; (with_reducible refine (impl_ascending.calls k2 _ _ b ag _ ?z_1 ?z_2 ah.out).mono ?_); (case z_1 => exact cb B HB); (case z_2 => exact X.out); rintro e w31 ⟨rfl, hb⟩; refine ⟨_, rfl, ?_⟩; replace a := bb a hb; replace HB := bs HB hb; (try clear hb)))
       go_ret
       exact ⟨er_, bn HB⟩
end Go.Proofs.Ytffflhmblelegaa.F
