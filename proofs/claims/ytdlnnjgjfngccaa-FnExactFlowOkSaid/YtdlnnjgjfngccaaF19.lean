-- By oprint.py.
import Derived.Test.YtdlnnjgjfngccaaF0
import Derived.Test.YtdlnnjgjfngccaaF1
namespace Go.Proofs.Ytdlnnjgjfngccaa.F
open Go.RowKit Go.Proofs.YtdlnnjgjfngccaaW.PrintWords Go.Proofs.YtdlnnjgjfngccaaW.PrintLast Go.Proofs.YtdlnnjgjfngccaaW.PrintMore
attribute [local go_sem] max2_int min2_int max_two min_two max_three min_three max_four min_four
set_option linter.unusedVariables false
set_option linter.unusedSimpArgs false

attribute [local go_sem high] eqA73
/-! ### spec_l1Tie: function 135 -/
def spec_l1Tie.f (a0 : Int) (a1 : Int) : Option (Int × Int) := if a0 < a1 then (some (a0, a1)) else (some (a1, a0))
set_option maxHeartbeats 8000000 in
set_option maxRecDepth 100000 in
theorem spec_l1Tie.calls (a : Int) (b : Int) (g : Int) (i : Int) (w : World) (h : spec_l1Tie.f a b = some (g, i)) :
  Calls Try.prog 135 #[.int .i64 a, .int .i64 b] w fun e w' => e = .returned (.agg #[.int .i64 g, .int .i64 i]) ∧ Below w.heap.size w w' := by
 have n := Try.underlying73; have HB := am (Below.refl w.heap.size w)
 have H : (if a < b then (some (a, b)) else (some (b, a))) = some (g, i) := h
 clear h; by_cases c : a < b
 ·rw [if_pos c] at H; have l := decide_eq_true c; clear c; simp only [Option.some.injEq, Prod.mk.injEq] at H; obtain ⟨rfl, rfl⟩ := H; go_enter Try.func135, Try.ntmps135
  go_wp2_with (first | ((with_reducible refine gate_dst (N := 4) rfl ?_); refine bx_ 4 #[.int .i64 0, .int .i64 0] 73 HB ?_; clear HB; intro j hg w4 hb d m HB; clear hb hg; have o := c2 d))
  refine bodyPost_ret (results_cell_row rfl _ _ j 73 #[.int .i64 a, .int .i64 b] (0, 0) _ rfl (bkn d) Try.underlying73 rfl (by kernel_rfl)) rfl ?_; exact ⟨er_, bn HB⟩
 ·rw [if_neg c] at H; have l := decide_eq_false c; clear c; simp only [Option.some.injEq, Prod.mk.injEq] at H; obtain ⟨rfl, rfl⟩ := H; go_enter Try.func135, Try.ntmps135
  go_wp2_with (first | ((with_reducible refine gate_dst (N := 4) rfl ?_); refine bx_ 4 #[.int .i64 0, .int .i64 0] 73 HB ?_; clear HB; intro j hg w6 hb d m HB; clear hb hg; have p := c2 d))
  refine bodyPost_ret (results_cell_row rfl _ _ j 73 #[.int .i64 b, .int .i64 a] (0, 0) _ rfl (bkn d) Try.underlying73 rfl (by kernel_rfl)) rfl ?_; exact ⟨er_, bn HB⟩

/-! ### spec_l1Has: function 129 -/
def spec_l1Has.l0 : Nat → Int → Int → Int → Int → List (S73) → Option (Bool)
 | 0, _, _, _, _, _ => none
 | k + 1, x1, x2, x7, x253000, x253001 => if x7 < (x253001.length : Int) then (if 0 ≤ x7 then ((spec_l1Tie.f x1 x2).bind fun bt254 => (if (((rd_T73 x253001 x7).f0) == bt254.1 && (((rd_T73 x253001 x7).f1) == bt254.2)) = true then (some true) else (spec_l1Has.l0 k x1 x2 (wrap64 (x7 + 1)) x253000 x253001))) else (none)) else (some false)
def spec_l1Has.f (k : Nat) (a0_0 : Int) (l0_1 : List (S73)) (a1 : Int) (a2 : Int) : Option (Bool) := spec_l1Has.l0 k a1 a2 0 a0_0 l0_1
theorem spec_l1Has.mono_l : ∀ k, (∀ a b c d e, LeO (spec_l1Has.l0 k a b c d e) (spec_l1Has.l0 (k + 1) a b c d e))
 | 0 => fun _ _ _ _ _ r h => by simp [spec_l1Has.l0] at h
 | k + 1 => by
  have ih0 := spec_l1Has.mono_l k
  ·intro a b c d e; unfold spec_l1Has.l0; exact mo_
theorem spec_l1Has.mono : ∀ a b c d k, LeO (spec_l1Has.f k a b c d) (spec_l1Has.f (k + 1) a b c d) := by
 intro a b c d k; have ih0 := spec_l1Has.mono_l k; unfold spec_l1Has.f; exact mo_
def spec_l1Has.T4 : Bool × List (List Nat × List Nat) := (true, [([], []), ([0], [0]), ([], []), ([1, 2], [1, 2]), ([3], [3]), ([], []), ([], []), ([5, 6], [5, 6]), ([4, 7], [4, 7])])
def spec_l1Has.B4 : List Nat := [0, 1, 0, 7, 15, 0, 0, 96, 255]
theorem spec_l1Has.tab4 : rtab .any (opsOf Try.f129 4) = spec_l1Has.T4 := by kernel_rfl
theorem spec_l1Has.bits4 : waitsOk spec_l1Has.T4.2 spec_l1Has.B4 = true := by kernel_rfl
set_option maxHeartbeats 8000000 in
set_option maxRecDepth 100000 in
theorem spec_l1Has.calls (k : Nat) (t : Int) (A : Option Addr) (B : Nat) (a : List (S73)) (o : Int) (p : Int) (r : Bool) (w : World) (E : Kd.C k73 w A a.length a) (G : a.length ≤ B) (h : spec_l1Has.f k t a o p = some r) :
  Calls Try.prog 129 #[.agg #[.int .i64 t, .slice A a.length B], .int .i64 o, .int .i64 p] w fun e w' => e = .returned (.bool r) ∧ Below w.heap.size w w' := by
 have Y := Try.underlying34; have Z := Try.underlying73; have I := am E; have aa := am G; clear E G; have HB := am (Below.refl w.heap.size w)
 have H : (spec_l1Has.l0 k o p 0 t a) = some r := h
 clear h; have H' := am H; clear H; go_enter Try.func129, Try.ntmps129
 go_wp2_with (first | ((with_reducible refine gate_dst (N := 3) rfl ?_); refine bx_ 3 #[.int .i64 t, .slice A a.length B] 34 HB ?_; clear HB; intro M hg w4 hb c ab HB; clear hb hg))
 go_loopg [7] k (fun kq O w' => ∃ (b : Int), O = .int .i64 b ∧ Aside0 (spec_l1Has.l0 kq o p b t a = some r) ∧ Aside0 (kq ≤ k) ∧ Bk w' M (.cells #[.int .i64 t, (.slice A a.length B)] 34 (0, 0)) ∧ Aside0 (Below w.heap.size w w'))
 case atStart => exact ⟨(0), rs_, H', ⟨Nat.le_refl _⟩, ⟨bkn c⟩, ⟨bn HB⟩⟩
 case round =>
  clear H'; obtain ⟨b, rfl, HA, J, c, HB⟩ := hrel; cases gk with
  | zero => exact absurd HA.out (by simp [spec_l1Has.l0])
  | succ k1 =>
   have H := HA.out; clear HA; simp only [spec_l1Has.l0] at H; by_cases u : b < (a.length : Int)
   ·rw [if_pos u] at H; have P := decide_eq_true u; clear u; obtain ⟨ad, H⟩ := id_ H; obtain ⟨⟨i, j⟩, L, H⟩ := bi_ H; (try dsimp only at H); by_cases g : (((rd_T73 a b).f0) == i && (((rd_T73 a b).f1) == j)) = true
    ·rw [if_pos g] at H; have T : (((rd_T73 a b).f0) == i && (((rd_T73 a b).f1) == j)) = true := g; (try (have U : decide (((rd_T73 a b).f0) = i && (((rd_T73 a b).f1) == j)) = true := by simpa using g)); (try (have W : (((rd_T73 a b).f0) == i && (((rd_T73 a b).f1) == j)) = true := by simpa using g)); clear g; obtain rfl := Option.some.inj H; have ae := c2 c; try go_wp2
     replace c := dB c; replace HB := dL HB; have q : 0 ≤ (b : Int) := oa; have s : b < (a.length : Int) := oa; obtain ⟨X, D, l, m⟩ := at_T73 I.out b q s; have x := m; have y := l; cases D; replace l := hc_ HB l; replace m := hc_ HB m; obtain ⟨q, s⟩ := e2_ q s; refine s4_ 9 [] (bq c 0) (bq c 1) (hb_ HB y) (hb_ HB x) (fun n => ?_); refine with_tabW spec_l1Has.tab4 spec_l1Has.bits4 (fun d z => ?_); generalize wr.drew = w10 at c HB l m n ⊢; refine pz_ 0 d ?_; refine pz_ 2 d ?_; refine pz_ 5 d ?_; refine pz_ 6 d ?_; refine tz_ 1 d z n ?_; refine pz_ 3 d ?_; refine tz_ 4 d z n ?_; refine on_ 7 d (fun K hK => ?_); refine gg_ Try.func135 #[.int .i64 o, .int .i64 p] ?_
     with_reducible refine (spec_l1Tie.calls o p i j _ L.out).mono ?_
     rintro e w11 ⟨rfl, hb⟩; refine ⟨_, rfl, ?_⟩; replace c := bb c hb; replace HB := bs HB hb; (try clear hb); refine hK.out _ _ ⟨(bc c 0), (bc c 1), (hb_ HB y), (hb_ HB x)⟩ (fun n => ?_); clear hK K; refine nz_ 22 ?_; refine pz_ 8 d ?_; refine done_ (done_of d.out (by kernel_rfl)) ?_; try go_wp2
     go_ret
     exact ⟨er_, bn HB⟩
    ·rw [if_neg g] at H; have T : (((rd_T73 a b).f0) == i && (((rd_T73 a b).f1) == j)) = false := by simpa using g
     (try (have U : decide (((rd_T73 a b).f0) = i && (((rd_T73 a b).f1) == j)) = false := by simpa using g)); (try (have W : (((rd_T73 a b).f0) == i && (((rd_T73 a b).f1) == j)) = false := by simpa using g)); (try (have af : ¬ (((rd_T73 a b).f0) = i && (((rd_T73 a b).f1) == j)) := by simpa using g)); clear g; have H' := am H; clear H; have ag := c2 c; try go_wp2
     replace c := dB c; replace HB := dL HB; have q : 0 ≤ (b : Int) := oa; have s : b < (a.length : Int) := oa; obtain ⟨X, D, l, m⟩ := at_T73 I.out b q s; have x := m; have y := l; cases D; replace l := hc_ HB l; replace m := hc_ HB m; obtain ⟨q, s⟩ := e2_ q s; refine s4_ 9 [] (bq c 0) (bq c 1) (hb_ HB y) (hb_ HB x) (fun n => ?_); refine with_tabW spec_l1Has.tab4 spec_l1Has.bits4 (fun d z => ?_); generalize wr.drew = w13 at c HB l m n ⊢; refine pz_ 0 d ?_; refine pz_ 2 d ?_; refine pz_ 5 d ?_; refine pz_ 6 d ?_; refine tz_ 1 d z n ?_; refine pz_ 3 d ?_; refine tz_ 4 d z n ?_; refine on_ 7 d (fun K hK => ?_); refine gg_ Try.func135 #[.int .i64 o, .int .i64 p] ?_
     with_reducible refine (spec_l1Tie.calls o p i j _ L.out).mono ?_
     rintro e w14 ⟨rfl, hb⟩; refine ⟨_, rfl, ?_⟩; replace c := bb c hb; replace HB := bs HB hb; (try clear hb); refine hK.out _ _ ⟨(bc c 0), (bc c 1), (hb_ HB y), (hb_ HB x)⟩ (fun n => ?_); clear hK K; refine nz_ 22 ?_; refine pz_ 8 d ?_; refine done_ (done_of d.out (by kernel_rfl)) ?_; try go_wp2
     go_roundg k1
     case measure => have := J.out; omega
     case rel => exact ⟨(wrap64 (b + 1)), rs_, H', ⟨by have := J.out; omega⟩, ⟨bkn c⟩, ⟨bn HB⟩⟩
   ·rw [if_neg u] at H; have P := decide_eq_false u; clear u; obtain rfl := Option.some.inj H; have ah := c2 c; go_wp2
    go_ret
    exact ⟨er_, bn HB⟩

end Go.Proofs.Ytdlnnjgjfngccaa.F
