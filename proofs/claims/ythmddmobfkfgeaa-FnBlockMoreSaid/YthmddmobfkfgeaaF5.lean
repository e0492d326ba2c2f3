-- By oprint.py.
import Derived.Test.YthmddmobfkfgeaaF0
import Derived.Test.YthmddmobfkfgeaaF1
import Derived.Test.YthmddmobfkfgeaaF3
import Derived.Test.YthmddmobfkfgeaaF4
namespace Go.Proofs.Ythmddmobfkfgeaa.F
open Go.RowKit Go.Proofs.YthmddmobfkfgeaaW.PrintWords Go.Proofs.YthmddmobfkfgeaaW.PrintLast Go.Proofs.YthmddmobfkfgeaaW.PrintMore
attribute [local go_sem] max2_int min2_int max_two min_two max_three min_three max_four min_four
set_option linter.unusedVariables false
set_option linter.unusedSimpArgs false

attribute [local go_sem high] eqA33
/-! ### spec_l1Knot: function 116 -/
def spec_l1Knot.f (k : Nat) (a0_0 : Int) (l0_1 : List (S33)) (a1 : Int) : Option (Bool) := (spec_NetOk.f k a0_0 l0_1).bind fun t114 => (if t114 = true then ((spec_l6In.f a1 0 (wrap64 (a0_0 - 1))).bind fun t115 => (some t115)) else (some false))
theorem spec_l1Knot.mono : ∀ a b c k, LeO (spec_l1Knot.f k a b c) (spec_l1Knot.f (k + 1) a b c) := by
 intro a b c k; unfold spec_l1Knot.f; have m0_ := @spec_NetOk.mono; exact mo_
set_option maxHeartbeats 8000000 in
set_option maxRecDepth 100000 in
theorem spec_l1Knot.calls (k : Nat) (b : Int) (d : Option Addr) (g : Nat) (a : List (S33)) (i : Int) (r : Bool) (w : World) (m : Kd.C k33 w d a.length a) (n : a.length ≤ g) (h : spec_l1Knot.f k b a i = some r) :
  Calls Try.prog 116 #[.agg #[.int .i64 b, .slice d a.length g], .int .i64 i] w fun e w' => e = .returned (.bool r) ∧ Below w.heap.size w w' := by
 have y := Try.underlying31; have o := am m; have p := am n; clear m n; have HB := am (Below.refl w.heap.size w)
 have H : ((spec_NetOk.f k b a).bind fun j => (if j = true then ((spec_l6In.f i 0 (wrap64 (b - 1))).bind fun l => (some l)) else (some false))) = some r := h
 clear h; obtain ⟨j, q, H⟩ := bi_ H; by_cases s : j = true
 ·subst s; rw [if_pos rfl] at H; obtain ⟨l, t, H⟩ := bi_ H; obtain rfl := Option.some.inj H; go_enter Try.func116, Try.ntmps116
  go_wp2_with (first | ((with_reducible refine gate_dst (N := 2) rfl ?_); refine bx_ 2 #[.int .i64 b, .slice d a.length g] 31 HB ?_; clear HB; intro u hg w6 hb c x HB; clear hb hg; have z := c2 c) | ((with_reducible refine gate_callee (f := 41) rfl ?_); refine gl_ (some 6) Try.func41 #[.agg #[.int .i64 b, .slice d a.length g]] ?_; (with_reducible refine (spec_NetOk.calls k b _ _ a true _ ?z_1 ?z_2 q.out).mono ?_); (case z_1 => exact cb o HB); (case z_2 => exact p.out); rintro e w8 ⟨rfl, hb⟩; refine ⟨_, rfl, ?_⟩; replace c := bb c hb; replace HB := bs HB hb; (try clear hb); have A := c2 c) | (go_at_call 98; (with_reducible refine (spec_l6In.calls i 0 (wrap64 (b - 1)) l _ t.out).mono ?_); rintro e w' ⟨rfl, ⟨nd, rfl⟩⟩))
  go_ret
  exact ⟨er_, bn HB⟩
 ·obtain rfl := nt_ s; rw [if_neg nf_] at H; obtain rfl := Option.some.inj H; go_enter Try.func116, Try.ntmps116
  go_wp2_with (first | ((with_reducible refine gate_dst (N := 2) rfl ?_); refine bx_ 2 #[.int .i64 b, .slice d a.length g] 31 HB ?_; clear HB; intro u hg w10 hb c x HB; clear hb hg; have B := c2 c) | ((with_reducible refine gate_callee (f := 41) rfl ?_); refine gl_ (some 6) Try.func41 #[.agg #[.int .i64 b, .slice d a.length g]] ?_; (with_reducible refine (spec_NetOk.calls k b _ _ a false _ ?z_1 ?z_2 q.out).mono ?_); (case z_1 => exact cb o HB); (case z_2 => exact p.out); rintro e w12 ⟨rfl, hb⟩; refine ⟨_, rfl, ?_⟩; replace c := bb c hb; replace HB := bs HB hb; (try clear hb)))
  go_ret
  exact ⟨er_, bn HB⟩

/-! ### spec_l1Tie: function 152 -/
def spec_l1Tie.f (a0 : Int) (a1 : Int) : Option (Int × Int) := if a0 < a1 then (some (a0, a1)) else (some (a1, a0))
set_option maxHeartbeats 8000000 in
set_option maxRecDepth 100000 in
theorem spec_l1Tie.calls (a : Int) (b : Int) (g : Int) (i : Int) (w : World) (h : spec_l1Tie.f a b = some (g, i)) :
  Calls Try.prog 152 #[.int .i64 a, .int .i64 b] w fun e w' => e = .returned (.agg #[.int .i64 g, .int .i64 i]) ∧ Below w.heap.size w w' := by
 have n := Try.underlying33; have HB := am (Below.refl w.heap.size w)
 have H : (if a < b then (some (a, b)) else (some (b, a))) = some (g, i) := h
 clear h; by_cases c : a < b
 ·rw [if_pos c] at H; have l := decide_eq_true c; clear c; simp only [Option.some.injEq, Prod.mk.injEq] at H; obtain ⟨rfl, rfl⟩ := H; go_enter Try.func152, Try.ntmps152
  go_wp2_with (first | ((with_reducible refine gate_dst (N := 4) rfl ?_); refine bx_ 4 #[.int .i64 0, .int .i64 0] 33 HB ?_; clear HB; intro j hg w4 hb d m HB; clear hb hg; have o := c2 d))
  refine bodyPost_ret (results_cell_row rfl _ _ j 33 #[.int .i64 a, .int .i64 b] (0, 0) _ rfl (bkn d) Try.underlying33 rfl (by kernel_rfl)) rfl ?_; exact ⟨er_, bn HB⟩
 ·rw [if_neg c] at H; have l := decide_eq_false c; clear c; simp only [Option.some.injEq, Prod.mk.injEq] at H; obtain ⟨rfl, rfl⟩ := H; go_enter Try.func152, Try.ntmps152
  go_wp2_with (first | ((with_reducible refine gate_dst (N := 4) rfl ?_); refine bx_ 4 #[.int .i64 0, .int .i64 0] 33 HB ?_; clear HB; intro j hg w6 hb d m HB; clear hb hg; have p := c2 d))
  refine bodyPost_ret (results_cell_row rfl _ _ j 33 #[.int .i64 b, .int .i64 a] (0, 0) _ rfl (bkn d) Try.underlying33 rfl (by kernel_rfl)) rfl ?_; exact ⟨er_, bn HB⟩

/-! ### spec_l1Has: function 124 -/
def spec_l1Has.l0 : Nat → Int → Int → Int → Int → List (S33) → Option (Bool)
 | 0, _, _, _, _, _ => none
 | k + 1, x1, x2, x7, x118000, x118001 => if x7 < (x118001.length : Int) then (if 0 ≤ x7 then ((spec_l1Tie.f x1 x2).bind fun bt119 => (if (((rd_T33 x118001 x7).f0) == bt119.1 && (((rd_T33 x118001 x7).f1) == bt119.2)) = true then (some true) else (spec_l1Has.l0 k x1 x2 (wrap64 (x7 + 1)) x118000 x118001))) else (none)) else (some false)
def spec_l1Has.f (k : Nat) (a0_0 : Int) (l0_1 : List (S33)) (a1 : Int) (a2 : Int) : Option (Bool) := spec_l1Has.l0 k a1 a2 0 a0_0 l0_1
theorem spec_l1Has.mono_l : ∀ k, (∀ a b c d e, LeO (spec_l1Has.l0 k a b c d e) (spec_l1Has.l0 (k + 1) a b c d e))
 | 0 => fun _ _ _ _ _ r h => by simp [spec_l1Has.l0] at h
 | k + 1 => by
  have ih0 := spec_l1Has.mono_l k
  ·intro a b c d e; unfold spec_l1Has.l0; exact mo_
theorem spec_l1Has.mono : ∀ a b c d k, LeO (spec_l1Has.f k a b c d) (spec_l1Has.f (k + 1) a b c d) := by
 intro a b c d k; have ih0 := spec_l1Has.mono_l k; unfold spec_l1Has.f; exact mo_
def spec_l1Has.T4 : Bool × List (List Nat × List Nat) := (true, [([], []), ([0], [0]), ([], []), ([1, 2], [1, 2]), ([3], [3]), ([], []), ([], []), ([5, 6], [5, 6]), ([4, 7], [4, 7])])
def spec_l1Has.B4 : List Nat := [0, 1, 0, 7, 15, 0, 0, 96, 255]
theorem spec_l1Has.tab4 : rtab .any (opsOf Try.f124 4) = spec_l1Has.T4 := by kernel_rfl
theorem spec_l1Has.bits4 : waitsOk spec_l1Has.T4.2 spec_l1Has.B4 = true := by kernel_rfl
set_option maxHeartbeats 8000000 in
set_option maxRecDepth 100000 in
theorem spec_l1Has.calls (k : Nat) (t : Int) (A : Option Addr) (B : Nat) (a : List (S33)) (o : Int) (p : Int) (r : Bool) (w : World) (E : Kd.C k33 w A a.length a) (G : a.length ≤ B) (h : spec_l1Has.f k t a o p = some r) :
  Calls Try.prog 124 #[.agg #[.int .i64 t, .slice A a.length B], .int .i64 o, .int .i64 p] w fun e w' => e = .returned (.bool r) ∧ Below w.heap.size w w' := by
 have Y := Try.underlying31; have Z := Try.underlying33; have I := am E; have aa := am G; clear E G; have HB := am (Below.refl w.heap.size w)
 have H : (spec_l1Has.l0 k o p 0 t a) = some r := h
 clear h; have H' := am H; clear H; go_enter Try.func124, Try.ntmps124
 go_wp2_with (first | ((with_reducible refine gate_dst (N := 3) rfl ?_); refine bx_ 3 #[.int .i64 t, .slice A a.length B] 31 HB ?_; clear HB; intro M hg w4 hb c ab HB; clear hb hg))
 go_loopg [7] k (fun kq O w' => ∃ (b : Int), O = .int .i64 b ∧ Aside0 (spec_l1Has.l0 kq o p b t a = some r) ∧ Aside0 (kq ≤ k) ∧ Bk w' M (.cells #[.int .i64 t, (.slice A a.length B)] 31 (0, 0)) ∧ Aside0 (Below w.heap.size w w'))
 case atStart => exact ⟨(0), rs_, H', ⟨Nat.le_refl _⟩, ⟨bkn c⟩, ⟨bn HB⟩⟩
 case round =>
  clear H'; obtain ⟨b, rfl, HA, J, c, HB⟩ := hrel; cases gk with
  | zero => exact absurd HA.out (by simp [spec_l1Has.l0])
  | succ k1 =>
   have H := HA.out; clear HA; simp only [spec_l1Has.l0] at H; by_cases u : b < (a.length : Int)
   ·rw [if_pos u] at H; have P := decide_eq_true u; clear u; obtain ⟨ad, H⟩ := id_ H; obtain ⟨⟨i, j⟩, L, H⟩ := bi_ H; (try dsimp only at H); by_cases g : (((rd_T33 a b).f0) == i && (((rd_T33 a b).f1) == j)) = true
    ·rw [if_pos g] at H; have T : (((rd_T33 a b).f0) == i && (((rd_T33 a b).f1) == j)) = true := g; (try (have U : decide (((rd_T33 a b).f0) = i && (((rd_T33 a b).f1) == j)) = true := by simpa using g)); (try (have W : (((rd_T33 a b).f0) == i && (((rd_T33 a b).f1) == j)) = true := by simpa using g)); clear g; obtain rfl := Option.some.inj H; have ae := c2 c; try go_wp2
     replace c := dB c; replace HB := dL HB; have q : 0 ≤ (b : Int) := oa; have s : b < (a.length : Int) := oa; obtain ⟨X, D, l, m⟩ := at_T33 I.out b q s; have x := m; have y := l; cases D; replace l := hc_ HB l; replace m := hc_ HB m; obtain ⟨q, s⟩ := e2_ q s; refine s4_ 9 [] (bq c 0) (bq c 1) (hb_ HB y) (hb_ HB x) (fun n => ?_); refine with_tabW spec_l1Has.tab4 spec_l1Has.bits4 (fun d z => ?_); generalize wr.drew = w10 at c HB l m n ⊢; refine pz_ 0 d ?_; refine pz_ 2 d ?_; refine pz_ 5 d ?_; refine pz_ 6 d ?_; refine tz_ 1 d z n ?_; refine pz_ 3 d ?_; refine tz_ 4 d z n ?_; refine on_ 7 d (fun K hK => ?_); refine gg_ Try.func152 #[.int .i64 o, .int .i64 p] ?_
     with_reducible refine (spec_l1Tie.calls o p i j _ L.out).mono ?_
     rintro e w11 ⟨rfl, hb⟩; refine ⟨_, rfl, ?_⟩; replace c := bb c hb; replace HB := bs HB hb; (try clear hb); refine hK.out _ _ ⟨(bc c 0), (bc c 1), (hb_ HB y), (hb_ HB x)⟩ (fun n => ?_); clear hK K; refine nz_ 22 ?_; refine pz_ 8 d ?_; refine done_ (done_of d.out (by kernel_rfl)) ?_; try go_wp2
     go_ret
     exact ⟨er_, bn HB⟩
    ·rw [if_neg g] at H; have T : (((rd_T33 a b).f0) == i && (((rd_T33 a b).f1) == j)) = false := by simpa using g
     (try (have U : decide (((rd_T33 a b).f0) = i && (((rd_T33 a b).f1) == j)) = false := by simpa using g)); (try (have W : (((rd_T33 a b).f0) == i && (((rd_T33 a b).f1) == j)) = false := by simpa using g)); (try (have af : ¬ (((rd_T33 a b).f0) = i && (((rd_T33 a b).f1) == j)) := by simpa using g)); clear g; have H' := am H; clear H; have ag := c2 c; try go_wp2
     replace c := dB c; replace HB := dL HB; have q : 0 ≤ (b : Int) := oa; have s : b < (a.length : Int) := oa; obtain ⟨X, D, l, m⟩ := at_T33 I.out b q s; have x := m; have y := l; cases D; replace l := hc_ HB l; replace m := hc_ HB m; obtain ⟨q, s⟩ := e2_ q s; refine s4_ 9 [] (bq c 0) (bq c 1) (hb_ HB y) (hb_ HB x) (fun n => ?_); refine with_tabW spec_l1Has.tab4 spec_l1Has.bits4 (fun d z => ?_); generalize wr.drew = w13 at c HB l m n ⊢; refine pz_ 0 d ?_; refine pz_ 2 d ?_; refine pz_ 5 d ?_; refine pz_ 6 d ?_; refine tz_ 1 d z n ?_; refine pz_ 3 d ?_; refine tz_ 4 d z n ?_; refine on_ 7 d (fun K hK => ?_); refine gg_ Try.func152 #[.int .i64 o, .int .i64 p] ?_
     with_reducible refine (spec_l1Tie.calls o p i j _ L.out).mono ?_
     rintro e w14 ⟨rfl, hb⟩; refine ⟨_, rfl, ?_⟩; replace c := bb c hb; replace HB := bs HB hb; (try clear hb); refine hK.out _ _ ⟨(bc c 0), (bc c 1), (hb_ HB y), (hb_ HB x)⟩ (fun n => ?_); clear hK K; refine nz_ 22 ?_; refine pz_ 8 d ?_; refine done_ (done_of d.out (by kernel_rfl)) ?_; try go_wp2
     go_roundg k1
     case measure => have := J.out; omega
     case rel => exact ⟨(wrap64 (b + 1)), rs_, H', ⟨by have := J.out; omega⟩, ⟨bkn c⟩, ⟨bn HB⟩⟩
   ·rw [if_neg u] at H; have P := decide_eq_false u; clear u; obtain rfl := Option.some.inj H; have ah := c2 c; go_wp2
    go_ret
    exact ⟨er_, bn HB⟩

/-! ### spec_l2Next: function 123 -/
def spec_l2Next.l0 : Nat → Int → List Int → Int → Int → List (S33) → Option (List Int)
 | 0, _, _, _, _, _ => none
 | k + 1, x1, x5, x6, x122000, x122001 => if x6 < x122000 then ((spec_l1Has.f k x122000 x122001 x1 x6).bind fun t125 => (if t125 = true then (if x5.length < 17592186044416 then (spec_l2Next.l0 k x1 (x5 ++ [x6]) (wrap64 (x6 + 1)) x122000 x122001) else (none)) else (spec_l2Next.l0 k x1 x5 (wrap64 (x6 + 1)) x122000 x122001))) else (some x5)
def spec_l2Next.f (k : Nat) (a0_0 : Int) (l0_1 : List (S33)) (a1 : Int) : Option (List Int) := spec_l2Next.l0 k a1 (([] : List Int)) 0 a0_0 l0_1
theorem spec_l2Next.mono_l : ∀ k, (∀ a b c d e, LeO (spec_l2Next.l0 k a b c d e) (spec_l2Next.l0 (k + 1) a b c d e))
 | 0 => fun _ _ _ _ _ r h => by simp [spec_l2Next.l0] at h
 | k + 1 => by
  have ih0 := spec_l2Next.mono_l k
  ·intro a b c d e; unfold spec_l2Next.l0; have m0_ := @spec_l1Has.mono; exact mo_
theorem spec_l2Next.mono : ∀ a b c k, LeO (spec_l2Next.f k a b c) (spec_l2Next.f (k + 1) a b c) := by
 intro a b c k; have ih0 := spec_l2Next.mono_l k; unfold spec_l2Next.f; have m0_ := @spec_l1Has.mono; exact mo_
set_option maxHeartbeats 8000000 in
set_option maxRecDepth 100000 in
theorem spec_l2Next.calls (k : Nat) (g : Int) (l : Option Addr) (m : Nat) (c : List (S33)) (i : Int) (r : List Int) (w : World) (u : Kd.C k33 w l c.length c) (x : c.length ≤ m) (h : spec_l2Next.f k g c i = some r) :
  Calls Try.prog 123 #[.agg #[.int .i64 g, .slice l c.length m], .int .i64 i] w fun e w' => ∃ y : Value, e = .returned (y) ∧ Kd.R (Kd.int .i64) 3 w' w.heap.size (fun _ => True) y r ∧ Below w.heap.size w w' := by
 have ab := Try.underlying31; have z := am u; have A := am x; clear u x; have HB := am (Below.refl w.heap.size w)
 have H : (spec_l2Next.l0 k i (([] : List Int)) 0 g c) = some r := h
 clear h; obtain ⟨B, s⟩ : ∃ y_ : List Int, y_ = (([] : List Int)) := ⟨_, rfl⟩; replace H : (spec_l2Next.l0 k i B 0 g c) = some r := nh_ s H; have D := am s; clear s; have H' := am H; clear H; go_enter Try.func123, Try.ntmps123
 go_wp2_with (first | ((with_reducible refine gate_dst (N := 2) rfl ?_); refine bx_ 2 #[.int .i64 g, .slice l c.length m] 31 HB ?_; clear HB; intro K hg w3 hb a ad HB; clear hb hg) | ((with_reducible refine gate_dst (N := 7) rfl ?_); refine Kd.R_lit (Kd.int .i64) _ 3 ?hg (N := 7) ?hd (xs := ([] : List Int)) (inner := []) (ok := fun _ => True) (okp := fun _ => True) ?hr ?hp (fun _ hk => hk) trivial (Below.refl _ _) (Nat.le_refl _) (by simp) ?_; (case hd => rfl); (case hg => rfl); (case hr => first | (go_simp; done) | (go_simp; rfl)); (case hp => exact (Reps.none _ _)); intro ae w4 p hb L M; clear L M; (first | rw [← D.out] at p | (simp only [Int.reduceToNat] at p; rw [← D.out] at p)); have O := am (Kd.R_lower p (below_size (bn HB))); replace a := bb a hb; replace HB := bs HB hb; clear hb p))
 go_loopg [5, 6] k (fun kq P T w' => ∃ (n : List Int) (d : Int), T = .int .i64 d ∧ Aside0 (spec_l2Next.l0 kq i n d g c = some r) ∧ Aside0 (kq ≤ k) ∧ Aside0 (Kd.R (Kd.int .i64) 3 w' w.heap.size (fun _ => True) P n) ∧ Bk w' K (.cells #[.int .i64 g, (.slice l c.length m)] 31 (0, 0)) ∧ Aside0 (Below w.heap.size w w'))
 case atStart => exact ⟨(B), (0), rs_, H', ⟨Nat.le_refl _⟩, ⟨onR O⟩, ⟨bkn a⟩, ⟨bn HB⟩⟩
 case round =>
  clear H'; obtain ⟨n, d, rfl, HA, q, j, a, HB⟩ := hrel; cases gk with
  | zero => exact absurd HA.out (by simp [spec_l2Next.l0])
  | succ k1 =>
   have H := HA.out; clear HA; simp only [spec_l2Next.l0] at H; by_cases o : d < g
   ·rw [if_pos o] at H; have U := decide_eq_true o; clear o; obtain ⟨W, E, H⟩ := bi_ H; by_cases G : W = true
    ·subst G; rw [if_pos rfl] at H; obtain ⟨I, H⟩ := ig_ H; have X := am I; clear I; obtain ⟨J, t⟩ : ∃ y_ : List Int, y_ = (n ++ [d]) := ⟨_, rfl⟩; replace H : (spec_l2Next.l0 k1 i J (wrap64 (d + 1)) g c) = some r := nh_ t H; have Y := am t; clear t; have H' := am H; clear H; have af := c2 a
     go_wp2_with (first | ((with_reducible refine gate_callee (f := 124) rfl ?_); refine gl_ (some 17) Try.func124 #[.agg #[.int .i64 g, .slice l c.length m], .int .i64 i, .int .i64 d] ?_; (with_reducible refine (spec_l1Has.calls k1 g _ _ c i d true _ ?z_1 ?z_2 E.out).mono ?_); (case z_1 => exact cb z HB); (case z_2 => exact A.out); rintro e w11 ⟨rfl, hb⟩; refine ⟨_, rfl, ?_⟩; replace j := am (Kd.R_below (onR j) hb); replace a := bb a hb; replace HB := bs HB hb; (try clear hb)) | ((with_reducible refine gate_builtin (b := .append) (xs := #[.tmp 18, .tmp 20]) rfl ?_); at_builtin; refine Kd.R_append (Kd.int .i64) (w0 := w) w.heap.size rfl (.tmp 18) (.tmp 20) 57 3 (.int .i64 0) 8 rfl Try.underlying57 info3 rfl (by decide) (by omega) u5 n d [.int .i64 d] (fun _ => True) (fun _ => False) rfl rfl ?aP (fun _ hk => hk.elim) ?aF ?aO ?aB ?aS ?aL ?_; (case aP => exact rfl); (case aB => exact (bn HB)); (case aF => exact (fun _ _ => trivial)); (case aO => exact (onR j)); (case aS => exact (below_size (bn HB))); (case aL => have := X.out; omega); intro ag w12 ho hb hg Z; rw [← Y.out] at ho; replace a := bm (blk_grown (bkn a) hg (Kd.R_ne j.out a.out (by decide))); replace HB := am hb; have aa := am ho; clear j; clear ho hb hg Z))
     go_roundg k1
     case measure => have := q.out; omega
     case rel => exact ⟨(J), (wrap64 (d + 1)), rs_, H', ⟨by have := q.out; omega⟩, ⟨onR aa⟩, ⟨bkn a⟩, ⟨bn HB⟩⟩
    ·obtain rfl := nt_ G; rw [if_neg nf_] at H; have H' := am H; clear H; have ah := c2 a
     go_wp2_with (first | ((with_reducible refine gate_callee (f := 124) rfl ?_); refine gl_ (some 17) Try.func124 #[.agg #[.int .i64 g, .slice l c.length m], .int .i64 i, .int .i64 d] ?_; (with_reducible refine (spec_l1Has.calls k1 g _ _ c i d false _ ?z_1 ?z_2 E.out).mono ?_); (case z_1 => exact cb z HB); (case z_2 => exact A.out); rintro e w14 ⟨rfl, hb⟩; refine ⟨_, rfl, ?_⟩; replace j := am (Kd.R_below (onR j) hb); replace a := bb a hb; replace HB := bs HB hb; (try clear hb)))
     go_roundg k1
     case measure => have := q.out; omega
     case rel => exact ⟨(n), (wrap64 (d + 1)), rs_, H', ⟨by have := q.out; omega⟩, ⟨onR j⟩, ⟨bkn a⟩, ⟨bn HB⟩⟩
   ·rw [if_neg o] at H; have U := decide_eq_false o; clear o; obtain rfl := Option.some.inj H; have ai := c2 a; go_wp2
    go_ret
    exact ⟨_, er_, onR j, bn HB⟩

/-! ### spec_NetWithout: function 122 -/
def spec_NetWithout.l0 : Nat → Int → Int → Int → List (S33) → Int → List (S33) → Option (Int × (List (S33)))
 | 0, _, _, _, _, _, _ => none
 | k + 1, x1, x6, x157000, x157001, x160000, x160001 => if x6 < (x157001.length : Int) then (if 0 ≤ x6 then (if ((rd_T33 x157001 x6).f0) = x1 then (spec_NetWithout.l0 k x1 (wrap64 (x6 + 1)) x157000 x157001 x160000 x160001) else (if ((rd_T33 x157001 x6).f1) = x1 then (spec_NetWithout.l0 k x1 (wrap64 (x6 + 1)) x157000 x157001 x160000 x160001) else (if x160001.length < 8796093022208 then (spec_NetWithout.l0 k x1 (wrap64 (x6 + 1)) x157000 x157001 x160000 (x160001 ++ [(⟨(rd_T33 x157001 x6).f0, (rd_T33 x157001 x6).f1⟩ : S33)])) else (none)))) else (none)) else (some (x160000, x160001))
def spec_NetWithout.f (k : Nat) (a0_0 : Int) (l0_1 : List (S33)) (a1 : Int) : Option (Int × (List (S33))) := (spec_l1Knot.f k a0_0 l0_1 a1).bind fun t158 => (if t158 = true then (spec_NetWithout.l0 k a1 0 a0_0 l0_1 a0_0 ([] : List (S33))) else (some (0, ([] : List (S33)))))
theorem spec_NetWithout.mono_l : ∀ k, (∀ a b c d e f, LeO (spec_NetWithout.l0 k a b c d e f) (spec_NetWithout.l0 (k + 1) a b c d e f))
 | 0 => fun _ _ _ _ _ _ r h => by simp [spec_NetWithout.l0] at h
 | k + 1 => by
  have ih0 := spec_NetWithout.mono_l k
  ·intro a b c d e f; unfold spec_NetWithout.l0; have m0_ := @spec_l1Knot.mono; exact mo_
theorem spec_NetWithout.mono : ∀ a b c k, LeO (spec_NetWithout.f k a b c) (spec_NetWithout.f (k + 1) a b c) := by
 intro a b c k; have ih0 := spec_NetWithout.mono_l k; unfold spec_NetWithout.f; have m0_ := @spec_l1Knot.mono; exact mo_
def spec_NetWithout.T8 : Bool × List (List Nat × List Nat) := (true, [([], []), ([0], [0]), ([], []), ([2], [2]), ([], []), ([3, 4], [3, 4]), ([5], [5]), ([6], [6]), ([1, 7], [1, 7]), ([0, 1, 2, 3, 4, 5, 6, 7, 8], []), ([9, 8, 8, 0, 1, 2, 3, 4, 5, 6, 7, 8], [8, 9])])
def spec_NetWithout.B8 : List Nat := [0, 1, 0, 4, 0, 28, 60, 124, 255, 511, 1023]
theorem spec_NetWithout.tab8 : rtab .any (opsOf Try.f122 8) = spec_NetWithout.T8 := by kernel_rfl
theorem spec_NetWithout.bits8 : waitsOk spec_NetWithout.T8.2 spec_NetWithout.B8 = true := by kernel_rfl
set_option maxHeartbeats 8000000 in
set_option maxRecDepth 100000 in
theorem spec_NetWithout.calls (k : Nat) (j : Int) (x : Option Addr) (y : Nat) (b : List (S33)) (l : Int) (P : Int) (T : List (S33)) (w : World) (ar : Kd.C k33 w x b.length b) (au : b.length ≤ y) (h : spec_NetWithout.f k j b l = some (P, T)) :
  Calls Try.prog 122 #[.agg #[.int .i64 j, .slice x b.length y], .int .i64 l] w fun e w' => ∃ av : Value, e = .returned (.agg #[.int .i64 P, av]) ∧ Kd.R k33 33 w' w.heap.size (fun _ => True) av T ∧ Below w.heap.size w w' := by
 have a9 := Try.underlying31; have ba := Try.underlying33; have q := am ar; have aw := am au; clear ar au; have HB := am (Below.refl w.heap.size w)
 have H : ((spec_l1Knot.f k j b l).bind fun af => (if af = true then (spec_NetWithout.l0 k l 0 j b j ([] : List (S33))) else (some (0, ([] : List (S33)))))) = some (P, T) := h
 clear h; obtain ⟨af, A3, H⟩ := bi_ H; by_cases c4 : af = true
 ·subst c4; rw [if_pos rfl] at H; have H' := am H; clear H; go_enter Try.func122, Try.ntmps122
  go_wp2_with (first | ((with_reducible refine gate_dst (N := 2) rfl ?_); refine bx_ 2 #[.int .i64 j, .slice x b.length y] 31 HB ?_; clear HB; intro ax hg w5 hb c aI HB; clear hb hg) | ((with_reducible refine gate_dst (N := 4) rfl ?_); refine bx_ 4 #[.int .i64 0, .slice none 0 0] 31 HB ?_; clear HB; intro Z hg w6 hb d aJ HB; obtain ⟨z, A⟩ := nb_ hg c; replace c := bb c hb; clear hb hg; have bd := n2 z A; have aK := c2 c) | ((with_reducible refine gate_callee (f := 116) rfl ?_); refine gl_ (some 9) Try.func116 #[.agg #[.int .i64 j, .slice x b.length y], .int .i64 l] ?_; (with_reducible refine (spec_l1Knot.calls k j _ _ b l true _ ?z_1 ?z_2 A3.out).mono ?_); (case z_1 => exact cb q HB); (case z_2 => exact aw.out); rintro e w9 ⟨rfl, hb⟩; refine ⟨_, rfl, ?_⟩; replace c := bb c hb; replace d := bb d hb; replace HB := bs HB hb; (try clear hb); have aM := c2 c) | ((with_reducible refine gate_dst (N := 5) rfl ?_); refine bx_ 5 #[.int .i64 0, .slice none 0 0] 31 HB ?_; clear HB; intro aN hg w11 hb g be HB; obtain ⟨I, J⟩ := nb_ hg c; replace c := bb c hb; obtain ⟨ag, ah⟩ := nb_ hg d; replace d := bb d hb; clear hb hg; have bf := n2 J I; have bg := n2 ah ag; have aQ := c2 g))
  go_loopg [6] k (fun kq v6 w' => ∃ (a : Int) (s : List (S33)) (u160001 : Value), v6 = .int .i64 a ∧ Aside0 (spec_NetWithout.l0 kq l a j b j s = some (P, T)) ∧ Aside0 (kq ≤ k) ∧ Aside0 (Kd.R k33 33 w' w.heap.size (fun _ => True) u160001 s) ∧ Bk w' ax (.cells #[.int .i64 j, (.slice x b.length y)] 31 (0, 0)) ∧ Bk w' Z (.cells #[.int .i64 0, (.slice none 0 0)] 31 (0, 0)) ∧ Bk w' aN (.cells #[.int .i64 j, u160001] 31 (0, 0)) ∧ Aside0 (Below w.heap.size w w'))
  case atStart => exact ⟨(0), (([] : List (S33))), (.slice none 0 0), rs_, H', ⟨Nat.le_refl _⟩, ⟨by first | exact Kd.R_nil _ _ _ _ _ | exact Kd.N_nil _ _ _ _ _ | exact Kd.V_nil _ _ _ _ _ | exact Kd.Q_nil _ _ _ _ _ | exact Kd.S_nil _ _ _ _ _⟩, ⟨bkn c⟩, ⟨bkn d⟩, ⟨by (with_reducible repeat (first | refine blk_drewN ?_ _ | refine blk_drew ?_ | refine blk_alloc ?_ _)); refine blk_put (cs := #[.int .i64 j, .slice none 0 0]) ?_ 1 _ rfl; (with_reducible repeat (first | refine blk_drewN ?_ _ | refine blk_drew ?_ | refine blk_alloc ?_ _)); refine blk_put (cs := #[.int .i64 0, .slice none 0 0]) ?_ 0 _ rfl; (with_reducible repeat (first | refine blk_drewN ?_ _ | refine blk_drew ?_ | refine blk_alloc ?_ _)); exact g.out⟩, ⟨bn HB⟩⟩
  case round =>
   clear H'; (try clear c4 aM aQ aK); obtain ⟨a, s, u160001, rfl, HA, L, m, c, d, g, HB⟩ := hrel; cases gk with
   | zero => exact absurd HA.out (by simp [spec_NetWithout.l0])
   | succ k1 =>
    have H := HA.out; clear HA; simp only [spec_NetWithout.l0] at H; by_cases M : a < (b.length : Int)
    ·rw [if_pos M] at H; have aR := decide_eq_true M; clear M; obtain ⟨bh, H⟩ := id_ H; by_cases B : ((rd_T33 b a).f0) = l
     ·rw [if_pos B] at H; have aT : (((rd_T33 b a).f0) == l) = true := beq_iff_eq.mpr B; have aU : (((rd_T33 b a).f0) != l) = false := bne_eq_false_iff_eq.mpr B; clear B; have H' := am H; clear H; have bi := n2 z A; have bj := n2 I J; have bk := c2 c; have o : 0 ≤ (a : Int) := oa; have p : a < (b.length : Int) := oa; obtain ⟨U, W, t, u⟩ := at_T33 q.out a o p; cases W; replace t := hc_ HB t; replace u := hc_ HB u; obtain ⟨o, p⟩ := e2_ o p; go_wp2
      go_roundg k1
      case measure => have := L.out; omega
      case rel => exact ⟨(wrap64 (a + 1)), (s), (u160001), rs_, H', ⟨by have := L.out; omega⟩, ⟨onR m⟩, ⟨bkn c⟩, ⟨bkn d⟩, ⟨bkn g⟩, ⟨bn HB⟩⟩
     ·rw [if_neg B] at H; have aT : (((rd_T33 b a).f0) == l) = false := beq_eq_false_iff_ne.mpr B; have aU : (((rd_T33 b a).f0) != l) = true := bne_iff_ne.mpr B; by_cases D : ((rd_T33 b a).f1) = l
      ·rw [if_pos D] at H; have aV : (((rd_T33 b a).f1) == l) = true := beq_iff_eq.mpr D; have aW : (((rd_T33 b a).f1) != l) = false := bne_eq_false_iff_eq.mpr D; clear D; have H' := am H; clear H; have bl := n2 z A; have bo := n2 I J; have bp := c2 c; have o : 0 ≤ (a : Int) := oa; have p : a < (b.length : Int) := oa; obtain ⟨U, W, t, u⟩ := at_T33 q.out a o p; cases W; replace t := hc_ HB t; replace u := hc_ HB u; obtain ⟨o, p⟩ := e2_ o p; have E : 0 ≤ (a : Int) := oa; have G : a < (b.length : Int) := oa; obtain ⟨ai, aj, X, Y⟩ := at_T33 q.out a E G; obtain rfl : U = ai := (by injection aj); replace X := hc_ HB X; replace Y := hc_ HB Y; obtain ⟨E, G⟩ := e2_ E G; go_wp2
       go_roundg k1
       case measure => have := L.out; omega
       case rel => exact ⟨(wrap64 (a + 1)), (s), (u160001), rs_, H', ⟨by have := L.out; omega⟩, ⟨onR m⟩, ⟨bkn c⟩, ⟨bkn d⟩, ⟨bkn g⟩, ⟨bn HB⟩⟩
      ·rw [if_neg D] at H; have aV : (((rd_T33 b a).f1) == l) = false := beq_eq_false_iff_ne.mpr D; have aW : (((rd_T33 b a).f1) != l) = true := bne_iff_ne.mpr D; obtain ⟨ay, H⟩ := ig_ H; have aX := am ay; clear ay; obtain ⟨ak, al⟩ : ∃ y_ : List (S33), y_ = (s ++ [(⟨(rd_T33 b a).f0, (rd_T33 b a).f1⟩ : S33)]) := ⟨_, rfl⟩; replace H : (spec_NetWithout.l0 k1 l (wrap64 (a + 1)) j b j ak) = some (P, T) := nh_ al H; have aY := am al; clear al; have H' := am H; clear H; have br := n2 z A; have bu := n2 I J; have bv := c2 c; have o : 0 ≤ (a : Int) := oa; have p : a < (b.length : Int) := oa; obtain ⟨U, W, t, u⟩ := at_T33 q.out a o p; cases W; replace t := hc_ HB t; replace u := hc_ HB u; obtain ⟨o, p⟩ := e2_ o p; have E : 0 ≤ (a : Int) := oa; have G : a < (b.length : Int) := oa; obtain ⟨ai, aj, X, Y⟩ := at_T33 q.out a E G; obtain rfl : U = ai := (by injection aj); replace X := hc_ HB X; replace Y := hc_ HB Y; obtain ⟨E, G⟩ := e2_ E G; try go_wp2
       replace m := dR m; replace c := dB c; replace d := dB d; replace g := dB g; replace HB := dL HB; have an : 0 ≤ (a : Int) := oa; have ap : a < (b.length : Int) := oa; obtain ⟨aZ, a0, aa, ab⟩ := at_T33 q.out a an ap; have ad := ab; have ae := aa; obtain rfl : U = aZ := (by injection a0); replace aa := hc_ HB aa; replace ab := hc_ HB ab; obtain ⟨an, ap⟩ := e2_ an ap; refine s6_ 11 [10] (bq g 0) (bq g 1) (bq c 0) (bq c 1) (hb_ HB ae) (hb_ HB ad) (fun O => ?_); refine with_tabW spec_NetWithout.tab8 spec_NetWithout.bits8 (fun n aq => ?_); generalize wr.drew = w29 at m c d g HB aa ab O ⊢; refine pz_ 0 n ?_; refine pz_ 2 n ?_; refine pz_ 4 n ?_; refine tz_ 1 n aq O ?_; refine tz_ 3 n aq O ?_; refine pz_ 5 n ?_; refine tz_ 6 n aq O ?_; refine on_ 7 n (fun K hK => ?_); refine value_ (w1 := ?_) (v := ?_) (by rfl) rfl ?_ ?_
       rotate_left 2
       ·go_simp
        constructor
        ·rfl
        ·rfl
       refine hK.out _ _ ⟨(blk_cell (blk_alloc g.out _) 0).trans rfl, (blk_cell (blk_alloc g.out _) 1).trans rfl, (blk_cell (blk_alloc c.out _) 0).trans rfl, (blk_cell (blk_alloc c.out _) 1).trans rfl, (World.cell?_alloc_lt _ _ _ (World.block_lt_of_cell? _ _ ((hb_ HB ae)))).trans ((hb_ HB ae)), (World.cell?_alloc_lt _ _ _ (World.block_lt_of_cell? _ _ ((hb_ HB ad)))).trans ((hb_ HB ad))⟩ (fun O => ?_); clear hK K; refine nz_ 47 ?_; refine on_ 8 n (fun K hK => ?_); refine Kd.R_append_step k33 (w0 := w) w.heap.size (by rfl) (.tmp 41) (.tmp 47) 29 33 (.agg #[(.int .i64 0), (.int .i64 0)]) 16 rfl Try.underlying29 info33 rfl (by decide) (by omega) u160001 s (⟨(rd_T33 b a).f0, (rd_T33 b a).f1⟩ : S33) [.int .i64 ((rd_T33 b a).f0), .int .i64 ((rd_T33 b a).f1)] (fun _ => True) (fun _ => False) rfl rfl ?aP (fun _ hk => hk.elim) ?aF ?aO ?aB ?aS ?aL ?_; (case aP => exact k33_mkM _ _ _ (⟨(rd_T33 b a).f0, (rd_T33 b a).f1⟩ : S33)); (case aB => exact (bn HB)); (case aF => exact (fun _ _ => trivial)); (case aO => exact (onR m)); (case aS => exact (below_size (bn HB))); (case aL => have := aX.out; omega); intro bw w30 ho hb hg a1; rw [← aY.out] at ho; have az := bm (blk_grown (bkn c) hg (Kd.R_ne m.out c.out (by decide))); have aA := bm (blk_grown (bkn d) hg (Kd.R_ne m.out d.out (by decide))); have aC := bm (blk_grown (bkn g) hg (Kd.R_ne m.out g.out (by decide))); have aD := am hb; have aE := am ho; clear c d g HB m; have c := az; have d := aA; have g := aC; have HB := aD; have aG := aE; clear az aA aC aD aE ho hb hg a1; obtain ⟨a2, a3, aH⟩ := Kd.R_slice aG.out; (first | subst aH | (injection aH with f1_ f2_ f3_; have a4 := f1_.symm; have a5 := f3_.symm; clear f1_ f2_ f3_; subst a4; subst a5)); refine hK.out _ _ ⟨(bc g 0), (bc g 1), (bc c 0), (bc c 1), (hb_ HB ae), (hb_ HB ad)⟩ (fun O => ?_); clear hK K; refine nz_ 48 ?_; refine pz_ 9 n ?_; refine last_ (i := 10) (N := none) #[true, true, true, true, true, true, true, true, true, true, true] rfl rfl (one_of n.out (by kernel_rfl)) (by decide) (fun K hK => ?_); have bx := bc g 1; have bz := blk_frozen g.out 1; have bA := I.out; have bB := ag.out; have bC := J.out; have bD := ah.out; refine skip_ (w1 := ?_) (by rfl) rfl ?_ ?_
       rotate_left
       ·go_simp
        rfl
       refine hK.out _ _ ?_; clear hK K; refine done_ (done_of n.out (by kernel_rfl)) ?_; try go_wp2
       go_roundg k1
       case measure => have := L.out; omega
       case rel => exact ⟨(wrap64 (a + 1)), (ak), (.slice a2 ak.length a3), rs_, H', ⟨by have := L.out; omega⟩, ⟨Kd.R_mono (onR aG) (fun _ hk => trivial)⟩, ⟨bkn c⟩, ⟨bkn d⟩, ⟨by (with_reducible repeat (first | refine blk_drewN ?_ _ | refine blk_drew ?_ | refine blk_alloc ?_ _)); refine blk_put (cs := #[.int .i64 j, u160001]) ?_ 1 _ rfl; (with_reducible repeat (first | refine blk_drewN ?_ _ | refine blk_drew ?_ | refine blk_alloc ?_ _)); exact g.out⟩, ⟨bn HB⟩⟩
    ·rw [if_neg M] at H; have aR := decide_eq_false M; clear M; simp only [Option.some.injEq, Prod.mk.injEq] at H; obtain ⟨rfl, rfl⟩ := H; have bE := n2 z A; have bF := n2 I J; have bG := c2 c; have bH := n2 ah ag; have bI := c2 g; have bJ := c2 d; obtain ⟨a6, a7, a8⟩ := Kd.R_slice m.out; subst a8; go_wp2; refine bodyPost_ret (results_cell_row rfl _ _ Z 31 #[.int .i64 j, .slice a6 s.length a7] (0, 0) _ rfl (bkn d) Try.underlying31 rfl (by kernel_rfl)) rfl ?_; exact ⟨_, er_, Kd.R_mono (onR m) (fun _ hk => trivial), bn HB⟩
 ·obtain rfl := nt_ c4; rw [if_neg nf_] at H; simp only [Option.some.injEq, Prod.mk.injEq] at H; obtain ⟨rfl, rfl⟩ := H; go_enter Try.func122, Try.ntmps122
  go_wp2_with (first | ((with_reducible refine gate_dst (N := 2) rfl ?_); refine bx_ 2 #[.int .i64 j, .slice x b.length y] 31 HB ?_; clear HB; intro ax hg w40 hb c aI HB; clear hb hg) | ((with_reducible refine gate_dst (N := 4) rfl ?_); refine bx_ 4 #[.int .i64 0, .slice none 0 0] 31 HB ?_; clear HB; intro Z hg w41 hb d aJ HB; obtain ⟨z, A⟩ := nb_ hg c; replace c := bb c hb; clear hb hg; have bK := n2 z A; have bL := c2 c) | ((with_reducible refine gate_callee (f := 116) rfl ?_); refine gl_ (some 9) Try.func116 #[.agg #[.int .i64 j, .slice x b.length y], .int .i64 l] ?_; (with_reducible refine (spec_l1Knot.calls k j _ _ b l false _ ?z_1 ?z_2 A3.out).mono ?_); (case z_1 => exact cb q HB); (case z_2 => exact aw.out); rintro e w44 ⟨rfl, hb⟩; refine ⟨_, rfl, ?_⟩; replace c := bb c hb; replace d := bb d hb; replace HB := bs HB hb; (try clear hb); have bM := c2 d))
  refine bodyPost_ret (results_cell_row rfl _ _ Z 31 #[.int .i64 0, .slice none 0 0] (0, 0) _ rfl (bkn d) Try.underlying31 rfl (by kernel_rfl)) rfl ?_; exact ⟨_, er_, by first | exact Kd.R_nil _ _ _ _ _ | exact Kd.N_nil _ _ _ _ _ | exact Kd.V_nil _ _ _ _ _ | exact Kd.Q_nil _ _ _ _ _ | exact Kd.S_nil _ _ _ _ _, bn HB⟩

/-! ### cmp_Or_int: function 137 -/
def cmp_Or_int.l0 : Nat → Int → List Int → Int → Int → Option (Int)
 | 0, _, _, _, _ => none
 | k + 1, x3, x6, x7, x8 => if x8 < x7 then (if 0 ≤ x8 then (if x8 < (x6.length : Int) then (if (rd x6 x8) = x3 then (cmp_Or_int.l0 k x3 x6 x7 (wrap64 (x8 + 1))) else (some (rd x6 x8))) else (none)) else (none)) else (some x3)
def cmp_Or_int.f (k : Nat) (l0 : List Int) : Option (Int) := cmp_Or_int.l0 k 0 l0 (l0.length : Int) 0
theorem cmp_Or_int.mono_l : ∀ k, (∀ a b c d, LeO (cmp_Or_int.l0 k a b c d) (cmp_Or_int.l0 (k + 1) a b c d))
 | 0 => fun _ _ _ _ r h => by simp [cmp_Or_int.l0] at h
 | k + 1 => by
  have ih0 := cmp_Or_int.mono_l k
  ·intro a b c d; unfold cmp_Or_int.l0; exact mo_
theorem cmp_Or_int.mono : ∀ a k, LeO (cmp_Or_int.f k a) (cmp_Or_int.f (k + 1) a) := by
 intro a k; have ih0 := cmp_Or_int.mono_l k; unfold cmp_Or_int.f; exact mo_
set_option maxHeartbeats 8000000 in
set_option maxRecDepth 100000 in
theorem cmp_Or_int.calls (k : Nat) (i : Option Addr) (j : Nat) (l0 : List Int) (r : Int) (w : World) (l : Kd.C (Kd.int .i64) w i l0.length l0) (m : l0.length ≤ j) (h : cmp_Or_int.f k l0 = some r) :
  Calls Try.prog 137 #[.slice i l0.length j] w fun e w' => e = .returned (.int .i64 r) ∧ Drawn0 w w' := by
 have n := am l; have HC0 := am m; clear l m
 have H : (cmp_Or_int.l0 k 0 l0 (l0.length : Int) 0) = some r := h
 clear h; have H' := am H; clear H; go_enter Try.func137, Try.ntmps137; go_wp2
 go_loopg [8] k (fun kq p w' => ∃ (a : Int), p = .int .i64 a ∧ Aside0 (cmp_Or_int.l0 kq 0 l0 (l0.length : Int) a = some r) ∧ Aside0 (kq ≤ k) ∧ Drawn0 w w')
 case atStart => exact ⟨(0), rs_, H', ⟨Nat.le_refl _⟩, by repeat (first | exact Drawn0.refl _ | apply Drawn0.step)⟩
 case round =>
  clear H'; obtain ⟨a, rfl, HA, o, ⟨m1, rfl⟩⟩ := hrel; cases gk with
  | zero => exact absurd HA.out (by simp [cmp_Or_int.l0])
  | succ k1 =>
   have H := HA.out; clear HA; simp only [cmp_Or_int.l0] at H; by_cases c2 : a < (l0.length : Int)
   ·rw [if_pos c2] at H; have q := decide_eq_true c2; clear c2; obtain ⟨y, H⟩ := id_ H; obtain ⟨z, H⟩ := id_ H; by_cases b : (rd l0 a) = 0
    ·rw [if_pos b] at H; have s : ((rd l0 a) == 0) = true := beq_iff_eq.mpr b; have t : ((rd l0 a) != 0) = false := bne_eq_false_iff_eq.mpr b; clear b; have H' := am H; clear H; have c : 0 ≤ (a : Int) := oa; have d : a < (l0.length : Int) := oa; obtain ⟨u, g, x⟩ := Kd.at_int n.out a c d; cases g; obtain ⟨c, d⟩ := e2_ c d; go_wp2
     go_roundg k1
     case measure => have := o.out; omega
     case rel => exact ⟨(wrap64 (a + 1)), rs_, H', ⟨by have := o.out; omega⟩, by repeat (first | exact Drawn0.refl _ | apply Drawn0.step)⟩
    ·rw [if_neg b] at H; have s : ((rd l0 a) == 0) = false := beq_eq_false_iff_ne.mpr b; have t : ((rd l0 a) != 0) = true := bne_iff_ne.mpr b; obtain rfl := Option.some.inj H; have c : 0 ≤ (a : Int) := oa; have d : a < (l0.length : Int) := oa; obtain ⟨u, g, x⟩ := Kd.at_int n.out a c d; cases g; obtain ⟨c, d⟩ := e2_ c d; go_wp2
     go_ret
     exact ⟨rs_, by repeat (first | exact Drawn0.refl _ | apply Drawn0.step)⟩
   ·rw [if_neg c2] at H; have q := decide_eq_false c2; clear c2; obtain rfl := Option.some.inj H; go_wp2
    go_ret
    exact ⟨rs_, by repeat (first | exact Drawn0.refl _ | apply Drawn0.step)⟩

/-! ### cmp_isNaN_int: function 167 -/
def cmp_isNaN_int.f (a0 : Int) : Option (Bool) := some (a0 != a0)
set_option maxHeartbeats 8000000 in
set_option maxRecDepth 100000 in
theorem cmp_isNaN_int.calls (a : Int) (r : Bool) (w : World) (h : cmp_isNaN_int.f a = some r) :
  Calls Try.prog 167 #[.int .i64 a] w fun e w' => e = .returned (.bool r) ∧ Drawn0 w w' := by
 have H : (some (a != a)) = some r := h
 clear h; obtain rfl := Option.some.inj H; go_enter Try.func167, Try.ntmps167; go_wp2
 go_ret
 exact ⟨rs_, by repeat (first | exact Drawn0.refl _ | apply Drawn0.step)⟩

/-! ### cmp_Compare_int: function 138 -/
def cmp_Compare_int.f (a0 : Int) (a1 : Int) : Option (Int) := (cmp_isNaN_int.f a0).bind fun t247 => ((cmp_isNaN_int.f a1).bind fun t248 => (if t247 = true then (if t248 = true then (some 0) else (some (-1))) else (if t248 = true then (some 1) else (if a0 < a1 then (some (-1)) else (if a0 > a1 then (some 1) else (some 0))))))
set_option maxHeartbeats 8000000 in
set_option maxRecDepth 100000 in
theorem cmp_Compare_int.calls (a : Int) (b : Int) (r : Int) (w : World) (h : cmp_Compare_int.f a b = some r) :
  Calls Try.prog 138 #[.int .i64 a, .int .i64 b] w fun e w' => e = .returned (.int .i64 r) ∧ Drawn0 w w' := by
 have H : ((cmp_isNaN_int.f a).bind fun l => ((cmp_isNaN_int.f b).bind fun j => (if l = true then (if j = true then (some 0) else (some (-1))) else (if j = true then (some 1) else (if a < b then (some (-1)) else (if a > b then (some 1) else (some 0))))))) = some r := h
 clear h; obtain ⟨l, c, H⟩ := bi_ H; obtain ⟨j, d, H⟩ := bi_ H; by_cases m : l = true
 ·subst m; rw [if_pos rfl] at H; by_cases n : j = true
  ·subst n; rw [if_pos rfl] at H; obtain rfl := Option.some.inj H; go_enter Try.func138, Try.ntmps138
   go_wp2_with (first | ((with_reducible refine gate_callee (f := 167) rfl ?_); refine gl_ (some 8) Try.func167 #[.int .i64 a] ?_; (with_reducible refine (cmp_isNaN_int.calls a true _ c.out).mono ?_); rintro e w' ⟨rfl, ⟨nd, rfl⟩⟩; refine ⟨_, rfl, ?_⟩) | ((with_reducible refine gate_callee (f := 167) rfl ?_); refine gl_ (some 10) Try.func167 #[.int .i64 b] ?_; (with_reducible refine (cmp_isNaN_int.calls b true _ d.out).mono ?_); rintro e w' ⟨rfl, ⟨nd, rfl⟩⟩; refine ⟨_, rfl, ?_⟩))
   go_ret
   exact ⟨rs_, by repeat (first | exact Drawn0.refl _ | apply Drawn0.step)⟩
  ·obtain rfl := nt_ n; rw [if_neg nf_] at H; obtain rfl := Option.some.inj H; go_enter Try.func138, Try.ntmps138
   go_wp2_with (first | ((with_reducible refine gate_callee (f := 167) rfl ?_); refine gl_ (some 8) Try.func167 #[.int .i64 a] ?_; (with_reducible refine (cmp_isNaN_int.calls a true _ c.out).mono ?_); rintro e w' ⟨rfl, ⟨nd, rfl⟩⟩; refine ⟨_, rfl, ?_⟩) | ((with_reducible refine gate_callee (f := 167) rfl ?_); refine gl_ (some 10) Try.func167 #[.int .i64 b] ?_; (with_reducible refine (cmp_isNaN_int.calls b false _ d.out).mono ?_); rintro e w' ⟨rfl, ⟨nd, rfl⟩⟩; refine ⟨_, rfl, ?_⟩))
   go_ret
   exact ⟨rs_, by repeat (first | exact Drawn0.refl _ | apply Drawn0.step)⟩
 ·obtain rfl := nt_ m; rw [if_neg nf_] at H; by_cases o : j = true
  ·subst o; rw [if_pos rfl] at H; obtain rfl := Option.some.inj H; go_enter Try.func138, Try.ntmps138
   go_wp2_with (first | ((with_reducible refine gate_callee (f := 167) rfl ?_); refine gl_ (some 8) Try.func167 #[.int .i64 a] ?_; (with_reducible refine (cmp_isNaN_int.calls a false _ c.out).mono ?_); rintro e w' ⟨rfl, ⟨nd, rfl⟩⟩; refine ⟨_, rfl, ?_⟩) | ((with_reducible refine gate_callee (f := 167) rfl ?_); refine gl_ (some 10) Try.func167 #[.int .i64 b] ?_; (with_reducible refine (cmp_isNaN_int.calls b true _ d.out).mono ?_); rintro e w' ⟨rfl, ⟨nd, rfl⟩⟩; refine ⟨_, rfl, ?_⟩))
   go_ret
   exact ⟨rs_, by repeat (first | exact Drawn0.refl _ | apply Drawn0.step)⟩
  ·obtain rfl := nt_ o; rw [if_neg nf_] at H; by_cases g : a < b
   ·rw [if_pos g] at H; have p := decide_eq_true g; clear g; obtain rfl := Option.some.inj H; go_enter Try.func138, Try.ntmps138
    go_wp2_with (first | ((with_reducible refine gate_callee (f := 167) rfl ?_); refine gl_ (some 8) Try.func167 #[.int .i64 a] ?_; (with_reducible refine (cmp_isNaN_int.calls a false _ c.out).mono ?_); rintro e w' ⟨rfl, ⟨nd, rfl⟩⟩; refine ⟨_, rfl, ?_⟩) | ((with_reducible refine gate_callee (f := 167) rfl ?_); refine gl_ (some 10) Try.func167 #[.int .i64 b] ?_; (with_reducible refine (cmp_isNaN_int.calls b false _ d.out).mono ?_); rintro e w' ⟨rfl, ⟨nd, rfl⟩⟩; refine ⟨_, rfl, ?_⟩))
    go_ret
    exact ⟨rs_, by repeat (first | exact Drawn0.refl _ | apply Drawn0.step)⟩
   ·rw [if_neg g] at H; have p := decide_eq_false g; clear g; by_cases i : a > b
    ·rw [if_pos i] at H; have q := decide_eq_true i; clear i; obtain rfl := Option.some.inj H; go_enter Try.func138, Try.ntmps138
     go_wp2_with (first | ((with_reducible refine gate_callee (f := 167) rfl ?_); refine gl_ (some 8) Try.func167 #[.int .i64 a] ?_; (with_reducible refine (cmp_isNaN_int.calls a false _ c.out).mono ?_); rintro e w' ⟨rfl, ⟨nd, rfl⟩⟩; refine ⟨_, rfl, ?_⟩) | ((with_reducible refine gate_callee (f := 167) rfl ?_); refine gl_ (some 10) Try.func167 #[.int .i64 b] ?_; (with_reducible refine (cmp_isNaN_int.calls b false _ d.out).mono ?_); rintro e w' ⟨rfl, ⟨nd, rfl⟩⟩; refine ⟨_, rfl, ?_⟩))
     go_ret
     exact ⟨rs_, by repeat (first | exact Drawn0.refl _ | apply Drawn0.step)⟩
    ·rw [if_neg i] at H; have q := decide_eq_false i; clear i; obtain rfl := Option.some.inj H; go_enter Try.func138, Try.ntmps138
     go_wp2_with (first | ((with_reducible refine gate_callee (f := 167) rfl ?_); refine gl_ (some 8) Try.func167 #[.int .i64 a] ?_; (with_reducible refine (cmp_isNaN_int.calls a false _ c.out).mono ?_); rintro e w' ⟨rfl, ⟨nd, rfl⟩⟩; refine ⟨_, rfl, ?_⟩) | ((with_reducible refine gate_callee (f := 167) rfl ?_); refine gl_ (some 10) Try.func167 #[.int .i64 b] ?_; (with_reducible refine (cmp_isNaN_int.calls b false _ d.out).mono ?_); rintro e w' ⟨rfl, ⟨nd, rfl⟩⟩; refine ⟨_, rfl, ?_⟩))
     go_ret
     exact ⟨rs_, by repeat (first | exact Drawn0.refl _ | apply Drawn0.step)⟩

/-! ### impl_tieOrder: function 97 -/
def impl_tieOrder.f (k : Nat) (a0_0 : Int) (a0_1 : Int) (a1_0 : Int) (a1_1 : Int) : Option (Int) := (cmp_Compare_int.f a0_0 a1_0).bind fun t251 => ((cmp_Compare_int.f a0_1 a1_1).bind fun t252 => ((cmp_Or_int.f k (([t251, t252] : List Int))).bind fun t256 => (some t256)))
theorem impl_tieOrder.mono : ∀ a b c d k, LeO (impl_tieOrder.f k a b c d) (impl_tieOrder.f (k + 1) a b c d) := by
 intro a b c d k; unfold impl_tieOrder.f; have m0_ := @cmp_Or_int.mono; exact mo_
def impl_tieOrder.T1 : Bool × List (List Nat × List Nat) := (true, [([], []), ([0], [0]), ([], []), ([2], [2]), ([1, 3], [1, 3]), ([], []), ([5], [5]), ([], []), ([7], [7]), ([6, 8, 4], [6, 8]), ([4, 9], [4, 9]), ([10, 9], [10]), ([11, 11, 0, 1, 2, 3, 4, 5, 6, 7, 8, 9, 10, 11], [11])])
def impl_tieOrder.B1 : List Nat := [0, 1, 0, 4, 15, 0, 32, 0, 128, 511, 1023, 2047, 4095]
theorem impl_tieOrder.tab1 : rtab .any (opsOf Try.f97 1) = impl_tieOrder.T1 := by kernel_rfl
theorem impl_tieOrder.bits1 : waitsOk impl_tieOrder.T1.2 impl_tieOrder.B1 = true := by kernel_rfl
set_option maxHeartbeats 8000000 in
set_option maxRecDepth 100000 in
theorem impl_tieOrder.calls (k : Nat) (j : Int) (l : Int) (m : Int) (n : Int) (r : Int) (w : World) (h : impl_tieOrder.f k j l m n = some r) :
  Calls Try.prog 97 #[.agg #[.int .i64 j, .int .i64 l], .agg #[.int .i64 m, .int .i64 n]] w fun e w' => e = .returned (.int .i64 r) ∧ Below w.heap.size w w' := by
 have X := Try.underlying33; have HB := am (Below.refl w.heap.size w)
 have H : ((cmp_Compare_int.f j m).bind fun g => ((cmp_Compare_int.f l n).bind fun i => ((cmp_Or_int.f k (([g, i] : List Int))).bind fun o => (some o)))) = some r := h
 clear h; obtain ⟨g, E, H⟩ := bi_ H; obtain ⟨i, G, H⟩ := bi_ H; obtain ⟨s, t⟩ : ∃ y_ : List Int, y_ = (([g, i] : List Int)) := ⟨_, rfl⟩; replace H : ((cmp_Or_int.f k s).bind fun o => (some o)) = some r := nh_ t H; have x := am t; clear t; obtain ⟨o, I, H⟩ := bi_ H; obtain rfl := Option.some.inj H; go_enter Try.func97, Try.ntmps97
 try go_wp2_with (first | ((with_reducible refine gate_dst (N := 2) rfl ?_); refine bx_ 2 #[.int .i64 j, .int .i64 l] 33 HB ?_; clear HB; intro Y hg w6 hb a Z HB; clear hb hg) | ((with_reducible refine gate_dst (N := 3) rfl ?_); refine bx_ 3 #[.int .i64 m, .int .i64 n] 33 HB ?_; clear HB; intro aa hg J hb b ab HB; obtain ⟨ad, ae⟩ := nb_ hg a; replace a := bb a hb; clear hb hg))
 replace a := dB a; replace b := dB b; replace HB := dL HB; refine s4_ 13 [] (bq a 0) (bq a 1) (bq b 0) (bq b 1) (fun d => ?_); refine with_tabW impl_tieOrder.tab1 impl_tieOrder.bits1 (fun c q => ?_); generalize J.drew = w8 at a b HB d ⊢; refine pz_ 0 c ?_; refine pz_ 2 c ?_; refine pz_ 5 c ?_; refine pz_ 7 c ?_; refine tz_ 1 c q d ?_; refine tz_ 3 c q d ?_; refine tz_ 6 c q d ?_; refine tz_ 8 c q d ?_; refine on_ 4 c (fun K hK => ?_); refine gg_ Try.func138 #[.int .i64 j, .int .i64 m] ?_
 with_reducible refine (cmp_Compare_int.calls j m g _ E.out).mono ?_
 rintro e w' ⟨rfl, ⟨nd, rfl⟩⟩; refine ⟨_, rfl, ?_⟩; refine hK.out _ _ ⟨(bc a 0), (bc a 1), (bc b 0), (bc b 1)⟩ (fun d => ?_); clear hK K; refine nz_ 9 ?_; refine on_ 9 c (fun K hK => ?_); refine gg_ Try.func138 #[.int .i64 l, .int .i64 n] ?_
 with_reducible refine (cmp_Compare_int.calls l n i _ G.out).mono ?_
 rintro e w' ⟨rfl, ⟨nd, rfl⟩⟩; refine ⟨_, rfl, ?_⟩; refine hK.out _ _ ⟨(bc a 0), (bc a 1), (bc b 0), (bc b 1)⟩ (fun d => ?_); clear hK K; refine nz_ 14 ?_; refine on_ 10 c (fun K hK => ?_); refine Kd.R_lit_step (Kd.int .i64) _ 3 ?hg (N := 15) ?hd (xs := ([g, i] : List Int)) (inner := [.int .i64 g, .int .i64 i]) (ok := fun _ => True) (okp := fun _ => True) ?hr ?hp (fun _ hk => hk) trivial (Below.refl _ _) (Nat.le_refl _) (by simp) ?_; (case hd => rfl); (case hg => rfl); (case hr => first | (go_simp; done) | (go_simp; rfl)); (case hp => exact (Reps.one (show Kd.M (Kd.int .i64) _ _ _ g [.int .i64 g] from rfl) (Reps.one (show Kd.M (Kd.int .i64) _ _ _ i [.int .i64 i] from rfl) (Reps.none _ _)))); intro af w9 p hb L O; clear L O; (first | rw [← x.out] at p | (simp only [Int.reduceToNat] at p; rw [← x.out] at p)); have y := am (Kd.R_lower p (below_size (bn HB))); have z := bb a hb; have A := bb b hb; have B := bs HB hb; clear a b HB; have u := y; have a := z; have b := A; have HB := B; clear y z A B hb p; obtain ⟨P, T, D⟩ := Kd.R_slice u.out; (first | subst D | (injection D with f1_ f2_ f3_; have U := f1_.symm; have W := f3_.symm; clear f1_ f2_ f3_; subst U; subst W)); refine hK.out _ _ ⟨(bc a 0), (bc a 1), (bc b 0), (bc b 1)⟩ (fun d => ?_); clear hK K; refine nz_ 15 ?_; refine on_ 11 c (fun K hK => ?_); refine gg_ Try.func137 #[.slice P s.length T] ?_
 with_reducible refine (cmp_Or_int.calls k _ _ s o _ ?z_1 ?z_2 I.out).mono ?_
 (case z_1 => exact (Kd.R_reads' (onR u)).2.2); (case z_2 => exact (Kd.R_reads' u.out).2.1); rintro e w' ⟨rfl, ⟨nd, rfl⟩⟩; refine ⟨_, rfl, ?_⟩; refine hK.out _ _ ⟨(bc a 0), (bc a 1), (bc b 0), (bc b 1)⟩ (fun d => ?_); clear hK K; refine nz_ 16 ?_; refine pz_ 12 c ?_; refine done_ (done_of c.out (by kernel_rfl)) ?_; try go_wp2
 go_ret
 exact ⟨er_, bn HB⟩

end Go.Proofs.Ythmddmobfkfgeaa.F
