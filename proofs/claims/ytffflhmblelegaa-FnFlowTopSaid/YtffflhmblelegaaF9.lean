-- By oprint.py.
import Derived.Test.YtffflhmblelegaaF0
import Derived.Test.YtffflhmblelegaaF1
import Derived.Test.YtffflhmblelegaaF4
import Derived.Test.YtffflhmblelegaaF8
namespace Go.Proofs.Ytffflhmblelegaa.F
open Go.RowKit Go.Proofs.YtffflhmblelegaaW.PrintWords Go.Proofs.YtffflhmblelegaaW.PrintLast Go.Proofs.YtffflhmblelegaaW.PrintMore
attribute [local go_sem] max2_int min2_int max_two min_two max_three min_three max_four min_four
set_option linter.unusedVariables false
set_option linter.unusedSimpArgs false
attribute [local go_sem high] eqA52
/-! ### spec_l21Uses: function 56 -/
def spec_l21Uses.l0 : Nat → List Int → Int → Int → Int → Option (Bool)
 | 0, _, _, _, _ => none
 | k + 1, x0, x5, x138000, x138001 => if x5 < (x0.length : Int) then (if 0 ≤ (wrap64 (x5 - 1)) then (if (wrap64 (x5 - 1)) < (x0.length : Int) then (if 0 ≤ x5 then ((spec_l1Tie.f (rd x0 (wrap64 (x5 - 1))) (rd x0 x5)).bind fun bt140 => (if (bt140.1 == x138000 && (bt140.2 == x138001)) = true then (some true) else (spec_l21Uses.l0 k x0 (wrap64 (x5 + 1)) x138000 x138001))) else (none)) else (none)) else (none)) else (some false)
def spec_l21Uses.f (k : Nat) (l0 : List Int) (a1_0 : Int) (a1_1 : Int) : Option (Bool) := spec_l21Uses.l0 k l0 1 a1_0 a1_1
def spec_l21Uses.T4 : Bool × List (List Nat × List Nat) := (true, [([], []), ([], []), ([1], [1]), ([0, 2], [0, 2]), ([3], [3]), ([], []), ([], []), ([5, 6], [5, 6]), ([7], [7]), ([4, 8], [4, 8]), ([], []), ([9, 10], [9, 10])])
def spec_l21Uses.B4 : List Nat := [0, 0, 2, 7, 15, 0, 0, 96, 224, 511, 0, 2047]
theorem spec_l21Uses.tab4 : rtab .any (opsOf Try.f56 4) = spec_l21Uses.T4 := by kernel_rfl
theorem spec_l21Uses.bits4 : waitsOk spec_l21Uses.T4.2 spec_l21Uses.B4 = true := by kernel_rfl
set_option maxHeartbeats 8000000 in
set_option maxRecDepth 100000 in
theorem spec_l21Uses.calls (k : Nat) (L : Option Addr) (M : Nat) (l0 : List Int) (d : Int) (g : Int) (r : Bool) (w : World) (O : Kd.C (Kd.int .i64) w L l0.length l0) (P : l0.length ≤ M) (h : spec_l21Uses.f k l0 d g = some r) :
  Calls Try.prog 56 #[.slice L l0.length M, .agg #[.int .i64 d, .int .i64 g]] w fun e w' => e = .returned (.bool r) ∧ Below w.heap.size w w' := by
 have ae := Try.underlying52; have D := am O; have HC0 := am P; clear O P; have HB := am (Below.refl w.heap.size w)
 have H : (spec_l21Uses.l0 k l0 1 d g) = some r := h
 clear h; have H' := am H; clear H; go_enter Try.func56, Try.ntmps56
 go_wp2_with (first | ((with_reducible refine gate_dst (N := 3) rfl ?_); refine bx_ 3 #[.int .i64 d, .int .i64 g] 52 HB ?_; clear HB; intro X hg w3 hb b af HB; clear hb hg))
 go_loopg [5] k (fun kq Y w' => ∃ (c : Int), Y = .int .i64 c ∧ Aside0 (spec_l21Uses.l0 kq l0 c d g = some r) ∧ Aside0 (kq ≤ k) ∧ Bk w' X (.cells #[.int .i64 d, .int .i64 g] 52 (0, 0)) ∧ Aside0 (Below w.heap.size w w'))
 case atStart => exact ⟨(1), rs_, H', ⟨Nat.le_refl _⟩, ⟨bkn b⟩, ⟨bn HB⟩⟩
 case round =>
  clear H'; obtain ⟨c, rfl, HA, T, b, HB⟩ := hrel; cases gk with
  | zero => exact absurd HA.out (by simp [spec_l21Uses.l0])
  | succ k1 =>
   have H := HA.out; clear HA; simp only [spec_l21Uses.l0] at H; by_cases y : c < (l0.length : Int)
   ·rw [if_pos y] at H; have Z := decide_eq_true y; clear y; obtain ⟨i, z⟩ : ∃ j_ : Int, (wrap64 (c - 1)) = j_ := ⟨_, rfl⟩; replace H : (if 0 ≤ (i) then (if (i) < (l0.length : Int) then (if 0 ≤ c then ((spec_l1Tie.f (rd l0 (i)) (rd l0 c)).bind fun U => (if (U.1 == d && (U.2 == g)) = true then (some true) else (spec_l21Uses.l0 k1 l0 (wrap64 (c + 1)) d g))) else (none)) else (none)) else (none)) = some r := by first | (rw [z] at H; exact H) | (simp only [z] at H ⊢; exact H)
    have hji5w : (IntKind.i64.wrap (c - 1)) = i := (i64_w _).trans z; obtain ⟨ag, H⟩ := id_ H; obtain ⟨ah, H⟩ := id_ H; obtain ⟨ai, H⟩ := id_ H; obtain ⟨⟨m, n⟩, W, H⟩ := bi_ H; (try dsimp only at H); by_cases j : (m == d && (n == g)) = true
    ·rw [if_pos j] at H; have aa : (m == d && (n == g)) = true := j; (try (have ab : decide (m = d && (n == g)) = true := by simpa using j)); (try (have ad : (m == d && (n == g)) = true := by simpa using j)); clear j; obtain rfl := Option.some.inj H; try go_wp2
     replace b := dB b; replace HB := dL HB; have q : 0 ≤ ((i) : Int) := oa; have s : (i) < (l0.length : Int) := oa; obtain ⟨E, G, o⟩ := Kd.at_int D.out (i) q s; have A := o; cases G; replace o := hc_ HB o; obtain ⟨q, s⟩ := e2_ q s; have t : 0 ≤ (c : Int) := oa; have u : c < (l0.length : Int) := oa; obtain ⟨I, J, p⟩ := Kd.at_int D.out c t u; have B := p; obtain rfl : E = I := (by injection J); replace p := hc_ HB p; obtain ⟨t, u⟩ := e2_ t u; refine s4_ 12 [] (bq b 0) (bq b 1) (hb_ HB A) (hb_ HB B) (fun l => ?_); refine with_tabW spec_l21Uses.tab4 spec_l21Uses.bits4 (fun a x => ?_); generalize wr.drew = w11 at b HB o p l ⊢; refine pz_ 0 a ?_; refine pz_ 1 a ?_; refine pz_ 2 a ?_; refine pz_ 3 a ?_; refine pz_ 5 a ?_; refine pz_ 6 a ?_; refine pz_ 7 a ?_; refine tz_ 4 a x l ?_; refine tz_ 8 a x l ?_; refine tz_ 10 a x l ?_; refine on_ 9 a (fun K hK => ?_); refine goes_ Try.func97 (by kernel_rfl) rfl #[.int .i64 (rd l0 (i)), .int .i64 (rd l0 c)] (by rfl) rfl rfl (by (try simp only [List.map_toArray, List.map_cons, List.map_nil]); first | done | (simp only [z]; rfl) | rfl | (simp only [List.length_drop, List.length_take]; rfl)) ?_
     with_reducible refine (spec_l1Tie.calls (rd l0 (i)) (rd l0 c) m n _ W.out).mono ?_
     rintro e w12 ⟨rfl, hb⟩; refine ⟨_, rfl, ?_⟩; replace b := bb b hb; replace HB := bs HB hb; (try clear hb); refine hK.out _ _ ⟨(bc b 0), (bc b 1), (hb_ HB A), (hb_ HB B)⟩ (fun l => ?_); clear hK K; refine nz_ 21 ?_; refine pz_ 11 a ?_; refine done_ (done_of a.out (by kernel_rfl)) ?_; try go_wp2
     go_ret
     exact ⟨by first | rfl | (simp [errW_none, errW_some] <;> rfl) | (simp only [← z]; first | rfl | (simp [errW_none, errW_some] <;> rfl)) | (simp [*, errW_none, errW_some] <;> rfl), bn HB⟩
    ·rw [if_neg j] at H; have aa : (m == d && (n == g)) = false := by simpa using j
     (try (have ab : decide (m = d && (n == g)) = false := by simpa using j)); (try (have ad : (m == d && (n == g)) = false := by simpa using j)); (try (have aj : ¬ (m = d && (n == g)) := by simpa using j)); clear j; have H' := am H; clear H; try go_wp2
     replace b := dB b; replace HB := dL HB; have q : 0 ≤ ((i) : Int) := oa; have s : (i) < (l0.length : Int) := oa; obtain ⟨E, G, o⟩ := Kd.at_int D.out (i) q s; have A := o; cases G; replace o := hc_ HB o; obtain ⟨q, s⟩ := e2_ q s; have t : 0 ≤ (c : Int) := oa; have u : c < (l0.length : Int) := oa; obtain ⟨I, J, p⟩ := Kd.at_int D.out c t u; have B := p; obtain rfl : E = I := (by injection J); replace p := hc_ HB p; obtain ⟨t, u⟩ := e2_ t u; refine s4_ 12 [] (bq b 0) (bq b 1) (hb_ HB A) (hb_ HB B) (fun l => ?_); refine with_tabW spec_l21Uses.tab4 spec_l21Uses.bits4 (fun a x => ?_); generalize wr.drew = w13 at b HB o p l ⊢; refine pz_ 0 a ?_; refine pz_ 1 a ?_; refine pz_ 2 a ?_; refine pz_ 3 a ?_; refine pz_ 5 a ?_; refine pz_ 6 a ?_; refine pz_ 7 a ?_; refine tz_ 4 a x l ?_; refine tz_ 8 a x l ?_; refine tz_ 10 a x l ?_; refine on_ 9 a (fun K hK => ?_); refine goes_ Try.func97 (by kernel_rfl) rfl #[.int .i64 (rd l0 (i)), .int .i64 (rd l0 c)] (by rfl) rfl rfl (by (try simp only [List.map_toArray, List.map_cons, List.map_nil]); first | done | (simp only [z]; rfl) | rfl | (simp only [List.length_drop, List.length_take]; rfl)) ?_
     with_reducible refine (spec_l1Tie.calls (rd l0 (i)) (rd l0 c) m n _ W.out).mono ?_
     rintro e w14 ⟨rfl, hb⟩; refine ⟨_, rfl, ?_⟩; replace b := bb b hb; replace HB := bs HB hb; (try clear hb); refine hK.out _ _ ⟨(bc b 0), (bc b 1), (hb_ HB A), (hb_ HB B)⟩ (fun l => ?_); clear hK K; refine nz_ 21 ?_; refine pz_ 11 a ?_; refine done_ (done_of a.out (by kernel_rfl)) ?_; try go_wp2
     go_roundg k1
     case measure => have := T.out; omega
     case rel => exact ⟨(wrap64 (c + 1)), rs_, H', ⟨by have := T.out; omega⟩, ⟨bkn b⟩, ⟨bn HB⟩⟩
   ·rw [if_neg y] at H; have Z := decide_eq_false y; clear y; obtain rfl := Option.some.inj H; go_wp2
    go_ret
    exact ⟨er_, bn HB⟩
/-! ### spec_FlowOk: function 12 -/
mutual
def spec_FlowOk.j0 : Nat → Int → Int → List (List Int) → Bool → Int → List (S52) → Option (Bool)
 | 0, _, _, _, _, _, _ => none
 | k + 1, x1, x2, x3, x32, x143000, x143001 => if x32 = true then (some false) else (spec_FlowOk.l0 k x1 x2 x3 0 x143000 x143001)
def spec_FlowOk.l0 : Nat → Int → Int → List (List Int) → Int → Int → List (S52) → Option (Bool)
 | 0, _, _, _, _, _, _ => none
 | k + 1, x1, x2, x3, x9, x143000, x143001 => if x9 < (x3.length : Int) then (if 0 ≤ x9 then ((spec_l13Ends.f k x143000 x143001 x1 x2 (rd_L2 x3 x9)).bind fun t146 => (if t146 = true then (spec_FlowOk.l0 k x1 x2 x3 (wrap64 (x9 + 1)) x143000 x143001) else (some false))) else (none)) else (spec_FlowOk.l1 k x3 0 x143000 x143001)
def spec_FlowOk.l1 : Nat → List (List Int) → Int → Int → List (S52) → Option (Bool)
 | 0, _, _, _, _ => none
 | k + 1, x3, x10, x143000, x143001 => if x10 < (x143001.length : Int) then (spec_FlowOk.l2 k x3 x10 0 0 x143000 x143001) else (some true)
def spec_FlowOk.l2 : Nat → List (List Int) → Int → Int → Int → Int → List (S52) → Option (Bool)
 | 0, _, _, _, _, _, _ => none
 | k + 1, x3, x10, x11, x12, x143000, x143001 => if x12 < (x3.length : Int) then (if 0 ≤ x12 then (if 0 ≤ x10 then (if x10 < (x143001.length : Int) then ((spec_l21Uses.f k (rd_L2 x3 x12) ((rd_T52 x143001 x10).f0) ((rd_T52 x143001 x10).f1)).bind fun t149 => (if t149 = true then (spec_FlowOk.l2 k x3 x10 (wrap64 (x11 + 1)) (wrap64 (x12 + 1)) x143000 x143001) else (spec_FlowOk.l2 k x3 x10 x11 (wrap64 (x12 + 1)) x143000 x143001))) else (none)) else (none)) else (none)) else (if x11 > 1 then (some false) else (spec_FlowOk.l1 k x3 (wrap64 (x10 + 1)) x143000 x143001))
end
def spec_FlowOk.f (k : Nat) (a0_0 : Int) (l0_1 : List (S52)) (a1 : Int) (a2 : Int) (l3 : List (List Int)) : Option (Bool) := (spec_l1Knot.f k a0_0 l0_1 a1).bind fun t143 => (if t143 = true then ((spec_l1Knot.f k a0_0 l0_1 a2).bind fun t144 => (if t144 = true then (if a1 = a2 then (spec_FlowOk.j0 k a1 a2 l3 true a0_0 l0_1) else (spec_FlowOk.j0 k a1 a2 l3 (decide ((l3.length : Int) > 8)) a0_0 l0_1)) else (spec_FlowOk.j0 k a1 a2 l3 true a0_0 l0_1))) else (spec_FlowOk.j0 k a1 a2 l3 true a0_0 l0_1))
def spec_FlowOk.T6 : Bool × List (List Nat × List Nat) := (true, [([], []), ([], []), ([], []), ([], []), ([], []), ([3, 4], [3, 4]), ([5], [5]), ([0, 1, 2, 6], [0, 1, 2, 6]), ([7], [7])])
def spec_FlowOk.B6 : List Nat := [0, 0, 0, 0, 0, 24, 56, 127, 255]
theorem spec_FlowOk.tab6 : rtab .any (opsOf Try.f12 6) = spec_FlowOk.T6 := by kernel_rfl
theorem spec_FlowOk.bits6 : waitsOk spec_FlowOk.T6.2 spec_FlowOk.B6 = true := by kernel_rfl
def spec_FlowOk.T15 : Bool × List (List Nat × List Nat) := (true, [([], []), ([], []), ([0, 1], [0, 1]), ([2], [2]), ([], []), ([4], [4]), ([], []), ([5, 6], [5, 6]), ([7], [7]), ([3, 8], [3, 8])])
def spec_FlowOk.B15 : List Nat := [0, 0, 3, 7, 0, 16, 0, 112, 240, 511]
theorem spec_FlowOk.tab15 : rtab .any (opsOf Try.f12 15) = spec_FlowOk.T15 := by kernel_rfl
theorem spec_FlowOk.bits15 : waitsOk spec_FlowOk.T15.2 spec_FlowOk.B15 = true := by kernel_rfl
set_option maxHeartbeats 8000000 in
set_option maxRecDepth 100000 in
theorem spec_FlowOk.calls (k : Nat) (d : Int) (p : Option Addr) (q : Nat) (b : List (S52)) (i : Int) (j : Int) (A3 : Option Addr) (W : Nat) (g : List (List Int)) (r : Bool) (w : World) (aT : Kd.C k52 w p b.length b) (aU : b.length ≤ q) (aV : Kd.C (Kd.slice 3 (Kd.int .i64)) w A3 g.length g) (aW : g.length ≤ W) (h : spec_FlowOk.f k d b i j g = some r) :
  Calls Try.prog 12 #[.agg #[.int .i64 d, .slice p b.length q], .int .i64 i, .int .i64 j, .slice A3 g.length W] w fun e w' => e = .returned (.bool r) ∧ Below w.heap.size w w' := by
 have bg := Try.underlying25; have bh := Try.underlying52; have t := am aT; have y := am aU; clear aT aU; have av := am aV; have HC3 := am aW; clear aV aW; have HB := am (Below.refl w.heap.size w)
 have H : ((spec_l1Knot.f k d b i).bind fun aG => (if aG = true then ((spec_l1Knot.f k d b j).bind fun aH => (if aH = true then (if i = j then (spec_FlowOk.j0 k i j g true d b) else (spec_FlowOk.j0 k i j g (decide ((g.length : Int) > 8)) d b)) else (spec_FlowOk.j0 k i j g true d b))) else (spec_FlowOk.j0 k i j g true d b))) = some r := h
 clear h; have aI := am H; clear H; go_enter Try.func12, Try.ntmps12
 go_upto_region 1 with (first | ((with_reducible refine gate_dst (N := 4) rfl ?_); refine bx_ 4 #[.int .i64 d, .slice p b.length q] 25 HB ?_; clear HB; intro aw hg w6 hb a bi HB; clear hb hg))
 (try simp only [Act.put, List.setIfInBounds_toArray, List.set_cons_zero, List.set_cons_succ])
 go_cut [32] (fun a2 wc => ∃ (kq : Nat) (ax : Bool), a2 = .bool ax ∧ Aside0 (spec_FlowOk.j0 kq i j g ax d b = some r) ∧ Aside0 (kq ≤ k) ∧ Bk wc aw (.cells #[.int .i64 d, (.slice p b.length q)] 25 (0, 0)) ∧ Aside0 (Below w.heap.size w wc))
 case first =>
  have H := aI.out; clear aI; obtain ⟨aG, A7, H⟩ := bi_ H; by_cases X : aG = true
  ·subst X; rw [if_pos rfl] at H; obtain ⟨aH, A9, H⟩ := bi_ H; by_cases Y : aH = true
   ·subst Y; rw [if_pos rfl] at H; by_cases u : i = j
    ·rw [if_pos u] at H; have z : (i == j) = true := beq_iff_eq.mpr u; have af : (i != j) = false := bne_eq_false_iff_eq.mpr u; clear u; (first | rw [z] | (simp only [i64_w, i32_w]; rw [z]) | skip); have H' := am H; clear H; have ay := c2 a
     go_wp2_with (first | ((with_reducible refine gate_callee (f := 54) rfl ?_); refine gl_ (some 15) Try.func54 #[.agg #[.int .i64 d, .slice p b.length q], .int .i64 i] ?_; (with_reducible refine (spec_l1Knot.calls k d _ _ b i true _ ?z_1 ?z_2 A7.out).mono ?_); (case z_1 => exact cb t HB); (case z_2 => exact y.out); rintro e w13 ⟨rfl, hb⟩; refine ⟨_, rfl, ?_⟩; replace a := bb a hb; replace HB := bs HB hb; (try clear hb); have az := c2 a) | (go_at_call 54; (with_reducible refine (spec_l1Knot.calls k d _ _ b j true _ ?z_1 ?z_2 A9.out).mono ?_); (case z_1 => exact cb t HB); (case z_2 => exact y.out); rintro e w15 ⟨rfl, hb⟩; replace a := bb a hb; replace HB := bs HB hb; (try clear hb)))
     go_meet
     case rel => exact ⟨_, (true), rs_, H', ⟨by first | omega | exact Nat.le_refl _⟩, ⟨bkn a⟩, ⟨bn HB⟩⟩
    ·rw [if_neg u] at H; have z : (i == j) = false := beq_eq_false_iff_ne.mpr u; have af : (i != j) = true := bne_iff_ne.mpr u; (first | rw [z] | (simp only [i64_w, i32_w]; rw [z]) | skip); have H' := am H; clear H; have aA := c2 a
     go_wp2_with (first | ((with_reducible refine gate_callee (f := 54) rfl ?_); refine gl_ (some 15) Try.func54 #[.agg #[.int .i64 d, .slice p b.length q], .int .i64 i] ?_; (with_reducible refine (spec_l1Knot.calls k d _ _ b i true _ ?z_1 ?z_2 A7.out).mono ?_); (case z_1 => exact cb t HB); (case z_2 => exact y.out); rintro e w17 ⟨rfl, hb⟩; refine ⟨_, rfl, ?_⟩; replace a := bb a hb; replace HB := bs HB hb; (try clear hb); have aB := c2 a) | (go_at_call 54; (with_reducible refine (spec_l1Knot.calls k d _ _ b j true _ ?z_1 ?z_2 A9.out).mono ?_); (case z_1 => exact cb t HB); (case z_2 => exact y.out); rintro e w19 ⟨rfl, hb⟩; replace a := bb a hb; replace HB := bs HB hb; (try clear hb)))
     go_meet
     case rel => exact ⟨_, (decide ((g.length : Int) > 8)), rs_, H', ⟨by first | omega | exact Nat.le_refl _⟩, ⟨bkn a⟩, ⟨bn HB⟩⟩
   ·obtain rfl := nt_ Y; rw [if_neg nf_] at H; have H' := am H; clear H; have aC := c2 a
    go_wp2_with (first | ((with_reducible refine gate_callee (f := 54) rfl ?_); refine gl_ (some 15) Try.func54 #[.agg #[.int .i64 d, .slice p b.length q], .int .i64 i] ?_; (with_reducible refine (spec_l1Knot.calls k d _ _ b i true _ ?z_1 ?z_2 A7.out).mono ?_); (case z_1 => exact cb t HB); (case z_2 => exact y.out); rintro e w21 ⟨rfl, hb⟩; refine ⟨_, rfl, ?_⟩; replace a := bb a hb; replace HB := bs HB hb; (try clear hb); have aD := c2 a) | (go_at_call 54; (with_reducible refine (spec_l1Knot.calls k d _ _ b j false _ ?z_1 ?z_2 A9.out).mono ?_); (case z_1 => exact cb t HB); (case z_2 => exact y.out); rintro e w23 ⟨rfl, hb⟩; replace a := bb a hb; replace HB := bs HB hb; (try clear hb)))
    go_meet
    case rel => exact ⟨_, (true), rs_, H', ⟨by first | omega | exact Nat.le_refl _⟩, ⟨bkn a⟩, ⟨bn HB⟩⟩
  ·obtain rfl := nt_ X; rw [if_neg nf_] at H; have H' := am H; clear H; have aE := c2 a
   go_wp2_with (first | ((with_reducible refine gate_callee (f := 54) rfl ?_); refine gl_ (some 15) Try.func54 #[.agg #[.int .i64 d, .slice p b.length q], .int .i64 i] ?_; (with_reducible refine (spec_l1Knot.calls k d _ _ b i false _ ?z_1 ?z_2 A7.out).mono ?_); (case z_1 => exact cb t HB); (case z_2 => exact y.out); rintro e w25 ⟨rfl, hb⟩; refine ⟨_, rfl, ?_⟩; replace a := bb a hb; replace HB := bs HB hb; (try clear hb)))
   go_meet
   case rel => exact ⟨_, (true), rs_, H', ⟨by first | omega | exact Nat.le_refl _⟩, ⟨bkn a⟩, ⟨bn HB⟩⟩
 case rest =>
  clear aI; (try clear W X Y u z af ay az aA aB aC aD aE); obtain ⟨kq, ax, rfl, HA, I, a, HB⟩ := hcut; cases kq with
  | zero => exact absurd HA.out (by simp [spec_FlowOk.j0])
  | succ kj4 =>
   have H := HA.out; clear HA; simp only [spec_FlowOk.j0] at H; by_cases ag : ax = true
   ·subst ag; rw [if_pos rfl] at H; obtain rfl := Option.some.inj H; go_wp2
    go_ret
    exact ⟨er_, bn HB⟩
   ·obtain rfl := nt_ ag; rw [if_neg nf_] at H; have H' := am H; clear H; go_wp2
    go_loopg [9] kj4 (fun kq v9 w' => ∃ (o : Int), v9 = .int .i64 o ∧ Aside0 (spec_FlowOk.l0 kq i j g o d b = some r) ∧ Aside0 (kq ≤ kj4) ∧ Bk w' aw (.cells #[.int .i64 d, (.slice p b.length q)] 25 (0, 0)) ∧ Aside0 (Below w.heap.size w w'))
    case atStart => exact ⟨(0), rs_, H', ⟨Nat.le_refl _⟩, ⟨bkn a⟩, ⟨bn HB⟩⟩
    case round =>
     clear H'; (try clear c2 W X Y u z af ag ay az aA aB aC aD aE); obtain ⟨o, rfl, HA, J, a, HB⟩ := hrel; cases gk with
     | zero => exact absurd HA.out (by simp [spec_FlowOk.l0])
     | succ k2 =>
      have H := HA.out; clear HA; simp only [spec_FlowOk.l0] at H; by_cases L : o < (g.length : Int)
      ·rw [if_pos L] at H; have aJ := decide_eq_true L; clear L; obtain ⟨aX, H⟩ := id_ H; obtain ⟨a3, aY, H⟩ := bi_ H; by_cases aF : a3 = true
       ·subst aF; rw [if_pos rfl] at H; have H' := am H; clear H; try go_wp2
        replace a := dB a; replace HB := dL HB; have A : 0 ≤ (o : Int) := oa; have B : o < (g.length : Int) := oa; obtain ⟨a4, aK, aL, aM, x, ah, ai⟩ := at_L2 av.out o A B; have aj := x; cases aM; replace x := hc_ HB x; have ak := am ai; have aN := am ah; clear ai ah; obtain ⟨A, B⟩ := e2_ A B; refine s3_ 9 [] (bq a 0) (bq a 1) (hb_ HB aj) (fun l => ?_); refine with_tabW spec_FlowOk.tab6 spec_FlowOk.bits6 (fun c s => ?_); generalize wr.drew = w31 at a HB ak x l ⊢; refine pz_ 1 c ?_; refine pz_ 2 c ?_; refine pz_ 3 c ?_; refine pz_ 4 c ?_; refine pz_ 5 c ?_; refine tz_ 0 c s l ?_; refine tz_ 6 c s l ?_; refine on_ 7 c (fun K hK => ?_); refine gg_ Try.func55 #[.agg #[.int .i64 d, .slice p b.length q], .int .i64 i, .int .i64 j, .slice aK (rd_L2 g o).length aL] ?_
        with_reducible refine (spec_l13Ends.calls k2 d _ _ b i j _ _ (rd_L2 g o) true _ ?z_1 ?z_2 ?z_3 ?z_4 aY.out).mono ?_
        (case z_1 => exact cb t HB); (case z_2 => exact y.out); (case z_3 => exact cb ak HB); (case z_4 => exact aN.out); rintro e w32 ⟨rfl, hb⟩; refine ⟨_, rfl, ?_⟩; replace a := bb a hb; replace HB := bs HB hb; (try clear hb); refine hK.out _ _ ⟨(bc a 0), (bc a 1), (hb_ HB aj)⟩ (fun l => ?_); clear hK K; refine nz_ 46 ?_; refine pz_ 8 c ?_; refine done_ (done_of c.out (by kernel_rfl)) ?_; try go_wp2
        go_roundg k2
        case measure => have := I.out; have := J.out; omega
        case rel => exact ⟨(wrap64 (o + 1)), rs_, H', ⟨by have := I.out; have := J.out; omega⟩, ⟨bkn a⟩, ⟨bn HB⟩⟩
       ·obtain rfl := nt_ aF; rw [if_neg nf_] at H; obtain rfl := Option.some.inj H; try go_wp2
        replace a := dB a; replace HB := dL HB; have A : 0 ≤ (o : Int) := oa; have B : o < (g.length : Int) := oa; obtain ⟨a4, aK, aL, aM, x, ah, ai⟩ := at_L2 av.out o A B; have aj := x; cases aM; replace x := hc_ HB x; have ak := am ai; have aN := am ah; clear ai ah; obtain ⟨A, B⟩ := e2_ A B; refine s3_ 9 [] (bq a 0) (bq a 1) (hb_ HB aj) (fun l => ?_); refine with_tabW spec_FlowOk.tab6 spec_FlowOk.bits6 (fun c s => ?_); generalize wr.drew = w33 at a HB ak x l ⊢; refine pz_ 1 c ?_; refine pz_ 2 c ?_; refine pz_ 3 c ?_; refine pz_ 4 c ?_; refine pz_ 5 c ?_; refine tz_ 0 c s l ?_; refine tz_ 6 c s l ?_; refine on_ 7 c (fun K hK => ?_); refine gg_ Try.func55 #[.agg #[.int .i64 d, .slice p b.length q], .int .i64 i, .int .i64 j, .slice aK (rd_L2 g o).length aL] ?_
        with_reducible refine (spec_l13Ends.calls k2 d _ _ b i j _ _ (rd_L2 g o) false _ ?z_1 ?z_2 ?z_3 ?z_4 aY.out).mono ?_
        (case z_1 => exact cb t HB); (case z_2 => exact y.out); (case z_3 => exact cb ak HB); (case z_4 => exact aN.out); rintro e w34 ⟨rfl, hb⟩; refine ⟨_, rfl, ?_⟩; replace a := bb a hb; replace HB := bs HB hb; (try clear hb); refine hK.out _ _ ⟨(bc a 0), (bc a 1), (hb_ HB aj)⟩ (fun l => ?_); clear hK K; refine nz_ 46 ?_; refine pz_ 8 c ?_; refine done_ (done_of c.out (by kernel_rfl)) ?_; try go_wp2
        go_ret
        exact ⟨er_, bn HB⟩
      ·rw [if_neg L] at H; have aJ := decide_eq_false L; clear L; have H' := am H; clear H; go_wp2
       go_loopg [10] k2 (fun kq a5 w' => ∃ (m : Int), a5 = .int .i64 m ∧ Aside0 (spec_FlowOk.l1 kq g m d b = some r) ∧ Aside0 (kq ≤ k2) ∧ Bk w' aw (.cells #[.int .i64 d, (.slice p b.length q)] 25 (0, 0)) ∧ Aside0 (Below w.heap.size w w'))
       case atStart => exact ⟨(0), rs_, H', ⟨Nat.le_refl _⟩, ⟨bkn a⟩, ⟨bn HB⟩⟩
       case round =>
        clear H'; (try clear c2 W X Y u z af ag L aJ aX aF ay az aA aB aC aD aE x A B); obtain ⟨m, rfl, HA, Z, a, HB⟩ := hrel; cases gk with
        | zero => exact absurd HA.out (by simp [spec_FlowOk.l1])
        | succ k3 =>
         have H := HA.out; clear HA; simp only [spec_FlowOk.l1] at H; by_cases M : m < (b.length : Int)
         ·rw [if_pos M] at H; have aZ := decide_eq_true M; clear M; have H' := am H; clear H; have a6 := c2 a; go_wp2
          go_loopg [11, 12] k3 (fun kq a7 a8 w' => ∃ (aa : Int) (n : Int), a7 = .int .i64 aa ∧ a8 = .int .i64 n ∧ Aside0 (spec_FlowOk.l2 kq g m aa n d b = some r) ∧ Aside0 (kq ≤ k3) ∧ Bk w' aw (.cells #[.int .i64 d, (.slice p b.length q)] 25 (0, 0)) ∧ Aside0 (Below w.heap.size w w'))
          case atStart => exact ⟨(0), (0), rs_, rs_, H', ⟨Nat.le_refl _⟩, ⟨bkn a⟩, ⟨bn HB⟩⟩
          case round =>
           clear H'; (try clear c2 W X Y u z af ag L aJ aX aF M aZ ay az aA aB aC aD aE a6 x A B); obtain ⟨aa, n, rfl, rfl, HA, ab, a, HB⟩ := hrel; cases gk with
           | zero => exact absurd HA.out (by simp [spec_FlowOk.l2])
           | succ k4 =>
            have H := HA.out; clear HA; simp only [spec_FlowOk.l2] at H; by_cases ad : n < (g.length : Int)
            ·rw [if_pos ad] at H; have a9 := decide_eq_true ad; clear ad; obtain ⟨bj, H⟩ := id_ H; obtain ⟨bk, H⟩ := id_ H; obtain ⟨bl, H⟩ := id_ H; obtain ⟨ba, a0, H⟩ := bi_ H; by_cases a1 : ba = true
             ·subst a1; rw [if_pos rfl] at H; have H' := am H; clear H; try go_wp2
              replace a := dB a; replace HB := dL HB; have O : 0 ≤ (n : Int) := oa; have P : n < (g.length : Int) := oa; obtain ⟨bd, aO, aP, aQ, D, al, an⟩ := at_L2 av.out n O P; have ap := D; cases aQ; replace D := hc_ HB D; have aq := am an; have aR := am al; clear an al; obtain ⟨O, P⟩ := e2_ O P; have T : 0 ≤ (m : Int) := oa; have U : m < (b.length : Int) := oa; obtain ⟨be, aS, E, G⟩ := at_T52 t.out m T U; have ar := G; have au := E; cases aS; replace E := hc_ HB E; replace G := hc_ HB G; obtain ⟨T, U⟩ := e2_ T U; refine s5_ 10 [] (bq a 0) (bq a 1) (hb_ HB ap) (hb_ HB au) (hb_ HB ar) (fun l => ?_); refine with_tabW spec_FlowOk.tab15 spec_FlowOk.bits15 (fun c s => ?_); generalize wr.drew = w43 at a HB aq D E G l ⊢; refine pz_ 0 c ?_; refine pz_ 1 c ?_; refine pz_ 2 c ?_; refine pz_ 4 c ?_; refine pz_ 6 c ?_; refine tz_ 3 c s l ?_; refine tz_ 5 c s l ?_; refine pz_ 7 c ?_; refine tz_ 8 c s l ?_; refine on_ 9 c (fun K hK => ?_); refine gg_ Try.func56 #[.slice aO (rd_L2 g n).length aP, .agg #[.int .i64 ((rd_T52 b m).f0), .int .i64 ((rd_T52 b m).f1)]] ?_
              with_reducible refine (spec_l21Uses.calls k4 _ _ (rd_L2 g n) ((rd_T52 b m).f0) ((rd_T52 b m).f1) true _ ?z_1 ?z_2 a0.out).mono ?_
              (case z_1 => exact cb aq HB); (case z_2 => exact aR.out); rintro e w44 ⟨rfl, hb⟩; refine ⟨_, rfl, ?_⟩; replace a := bb a hb; replace HB := bs HB hb; (try clear hb); refine hK.out _ _ ⟨(bc a 0), (bc a 1), (hb_ HB ap), (hb_ HB au), (hb_ HB ar)⟩ (fun l => ?_); clear hK K; refine nz_ 70 ?_; refine done_ (done_of c.out (by kernel_rfl)) ?_; try go_wp2
              go_roundg k4
              case measure => have := I.out; have := J.out; have := Z.out; have := ab.out; omega
              case rel => exact ⟨(wrap64 (aa + 1)), (wrap64 (n + 1)), rs_, rs_, H', ⟨by have := I.out; have := J.out; have := Z.out; have := ab.out; omega⟩, ⟨bkn a⟩, ⟨bn HB⟩⟩
             ·obtain rfl := nt_ a1; rw [if_neg nf_] at H; have H' := am H; clear H; try go_wp2
              replace a := dB a; replace HB := dL HB; have O : 0 ≤ (n : Int) := oa; have P : n < (g.length : Int) := oa; obtain ⟨bd, aO, aP, aQ, D, al, an⟩ := at_L2 av.out n O P; have ap := D; cases aQ; replace D := hc_ HB D; have aq := am an; have aR := am al; clear an al; obtain ⟨O, P⟩ := e2_ O P; have T : 0 ≤ (m : Int) := oa; have U : m < (b.length : Int) := oa; obtain ⟨be, aS, E, G⟩ := at_T52 t.out m T U; have ar := G; have au := E; cases aS; replace E := hc_ HB E; replace G := hc_ HB G; obtain ⟨T, U⟩ := e2_ T U; refine s5_ 10 [] (bq a 0) (bq a 1) (hb_ HB ap) (hb_ HB au) (hb_ HB ar) (fun l => ?_); refine with_tabW spec_FlowOk.tab15 spec_FlowOk.bits15 (fun c s => ?_); generalize wr.drew = w45 at a HB aq D E G l ⊢; refine pz_ 0 c ?_; refine pz_ 1 c ?_; refine pz_ 2 c ?_; refine pz_ 4 c ?_; refine pz_ 6 c ?_; refine tz_ 3 c s l ?_; refine tz_ 5 c s l ?_; refine pz_ 7 c ?_; refine tz_ 8 c s l ?_; refine on_ 9 c (fun K hK => ?_); refine gg_ Try.func56 #[.slice aO (rd_L2 g n).length aP, .agg #[.int .i64 ((rd_T52 b m).f0), .int .i64 ((rd_T52 b m).f1)]] ?_
              with_reducible refine (spec_l21Uses.calls k4 _ _ (rd_L2 g n) ((rd_T52 b m).f0) ((rd_T52 b m).f1) false _ ?z_1 ?z_2 a0.out).mono ?_
              (case z_1 => exact cb aq HB); (case z_2 => exact aR.out); rintro e w46 ⟨rfl, hb⟩; refine ⟨_, rfl, ?_⟩; replace a := bb a hb; replace HB := bs HB hb; (try clear hb); refine hK.out _ _ ⟨(bc a 0), (bc a 1), (hb_ HB ap), (hb_ HB au), (hb_ HB ar)⟩ (fun l => ?_); clear hK K; refine nz_ 70 ?_; refine done_ (done_of c.out (by kernel_rfl)) ?_; try go_wp2
              go_roundg k4
              case measure => have := I.out; have := J.out; have := Z.out; have := ab.out; omega
              case rel => exact ⟨(aa), (wrap64 (n + 1)), rs_, rs_, H', ⟨by have := I.out; have := J.out; have := Z.out; have := ab.out; omega⟩, ⟨bkn a⟩, ⟨bn HB⟩⟩
            ·rw [if_neg ad] at H; have a9 := decide_eq_false ad; clear ad; by_cases ae : aa > 1
             ·rw [if_pos ae] at H; have bf := decide_eq_true ae; clear ae; obtain rfl := Option.some.inj H; go_wp2
              go_ret
              exact ⟨er_, bn HB⟩
             ·rw [if_neg ae] at H; have bf := decide_eq_false ae; clear ae; have H' := am H; clear H; go_wp2
              go_roundg k4
              case measure => have := I.out; have := J.out; have := Z.out; have := ab.out; omega
              case rel => exact ⟨(wrap64 (m + 1)), rs_, H', ⟨by have := I.out; have := J.out; have := Z.out; have := ab.out; omega⟩, ⟨bkn a⟩, ⟨bn HB⟩⟩
         ·rw [if_neg M] at H; have aZ := decide_eq_false M; clear M; obtain rfl := Option.some.inj H; have bo := c2 a; go_wp2
          go_ret
          exact ⟨er_, bn HB⟩
end Go.Proofs.Ytffflhmblelegaa.F
