-- By oprint.py.
import Derived.Test.YtlddkafpbhjpdaaF0
import Derived.Test.YtlddkafpbhjpdaaF13
import Derived.Test.YtlddkafpbhjpdaaF17
import Derived.Test.YtlddkafpbhjpdaaF2
import Derived.Test.YtlddkafpbhjpdaaF4
import Derived.Test.YtlddkafpbhjpdaaF9
namespace Go.Proofs.Ytlddkafpbhjpdaa.F
open Go.RowKit Go.Proofs.YtlddkafpbhjpdaaW.PrintWords Go.Proofs.YtlddkafpbhjpdaaW.PrintLast Go.Proofs.YtlddkafpbhjpdaaW.PrintMore
attribute [local go_sem] max2_int min2_int max_two min_two max_three min_three max_four min_four
set_option linter.unusedVariables false
set_option linter.unusedSimpArgs false

/-! ### spec_NetWithout: function 42 -/
def spec_NetWithout.l0 : Nat → Int → Int → Int → List (S44) → Int → List (S44) → Option (Int × (List (S44)))
 | 0, _, _, _, _, _, _ => none
 | k + 1, x1, x6, x467000, x467001, x470000, x470001 => if x6 < (x467001.length : Int) then (if 0 ≤ x6 then (if ((rd_T44 x467001 x6).f0) = x1 then (spec_NetWithout.l0 k x1 (wrap64 (x6 + 1)) x467000 x467001 x470000 x470001) else (if ((rd_T44 x467001 x6).f1) = x1 then (spec_NetWithout.l0 k x1 (wrap64 (x6 + 1)) x467000 x467001 x470000 x470001) else (if x470001.length < 8796093022208 then (spec_NetWithout.l0 k x1 (wrap64 (x6 + 1)) x467000 x467001 x470000 (x470001 ++ [(⟨(rd_T44 x467001 x6).f0, (rd_T44 x467001 x6).f1⟩ : S44)])) else (none)))) else (none)) else (some (x470000, x470001))
def spec_NetWithout.f (k : Nat) (a0_0 : Int) (l0_1 : List (S44)) (a1 : Int) : Option (Int × (List (S44))) := (spec_l1Knot.f k a0_0 l0_1 a1).bind fun t468 => (if t468 = true then (spec_NetWithout.l0 k a1 0 a0_0 l0_1 a0_0 ([] : List (S44))) else (some (0, ([] : List (S44)))))
theorem spec_NetWithout.mono_l : ∀ k, (∀ a b c d e f, LeO (spec_NetWithout.l0 k a b c d e f) (spec_NetWithout.l0 (k + 1) a b c d e f))
 | 0 => fun _ _ _ _ _ _ r h => by simp [spec_NetWithout.l0] at h
 | k + 1 => by
  have ih0 := spec_NetWithout.mono_l k
  ·intro a b c d e f; unfold spec_NetWithout.l0; have m0_ := @spec_l1Knot.mono; exact mo_
theorem spec_NetWithout.mono : ∀ a b c k, LeO (spec_NetWithout.f k a b c) (spec_NetWithout.f (k + 1) a b c) := by
 intro a b c k; have ih0 := spec_NetWithout.mono_l k; unfold spec_NetWithout.f; have m0_ := @spec_l1Knot.mono; exact mo_
def spec_NetWithout.T8 : Bool × List (List Nat × List Nat) := (true, [([], []), ([0], [0]), ([], []), ([2], [2]), ([], []), ([3, 4], [3, 4]), ([5], [5]), ([6], [6]), ([1, 7], [1, 7]), ([0, 1, 2, 3, 4, 5, 6, 7, 8], []), ([9, 8, 8, 0, 1, 2, 3, 4, 5, 6, 7, 8], [8, 9])])
def spec_NetWithout.B8 : List Nat := [0, 1, 0, 4, 0, 28, 60, 124, 255, 511, 1023]
theorem spec_NetWithout.tab8 : rtab .any (opsOf Try.f42 8) = spec_NetWithout.T8 := by kernel_rfl
theorem spec_NetWithout.bits8 : waitsOk spec_NetWithout.T8.2 spec_NetWithout.B8 = true := by kernel_rfl
set_option maxHeartbeats 8000000 in
set_option maxRecDepth 100000 in
theorem spec_NetWithout.calls (k : Nat) (j : Int) (x : Option Addr) (y : Nat) (b : List (S44)) (l : Int) (P : Int) (T : List (S44)) (w : World) (ar : Kd.C k44 w x b.length b) (au : b.length ≤ y) (h : spec_NetWithout.f k j b l = some (P, T)) :
  Calls Try.prog 42 #[.agg #[.int .i64 j, .slice x b.length y], .int .i64 l] w fun e w' => ∃ av : Value, e = .returned (.agg #[.int .i64 P, av]) ∧ Kd.R k44 44 w' w.heap.size (fun _ => True) av T ∧ Below w.heap.size w w' := by
 have a9 := Try.underlying25; have ba := Try.underlying44; have q := am ar; have aw := am au; clear ar au; have HB := am (Below.refl w.heap.size w)
 have H : ((spec_l1Knot.f k j b l).bind fun af => (if af = true then (spec_NetWithout.l0 k l 0 j b j ([] : List (S44))) else (some (0, ([] : List (S44)))))) = some (P, T) := h
 clear h; obtain ⟨af, A3, H⟩ := bi_ H; by_cases c4 : af = true
 ·subst c4; rw [if_pos rfl] at H; have H' := am H; clear H; go_enter Try.func42, Try.ntmps42
  go_wp2_with (first | ((with_reducible refine gate_dst (N := 2) rfl ?_); refine bx_ 2 #[.int .i64 j, .slice x b.length y] 25 HB ?_; clear HB; intro ax hg w5 hb c aI HB; clear hb hg) | ((with_reducible refine gate_dst (N := 4) rfl ?_); refine bx_ 4 #[.int .i64 0, .slice none 0 0] 25 HB ?_; clear HB; intro Z hg w6 hb d aJ HB; obtain ⟨z, A⟩ := nb_ hg c; replace c := bb c hb; clear hb hg; have bd := n2 z A; have aK := c2 c) | ((with_reducible refine gate_callee (f := 41) rfl ?_); refine gl_ (some 9) Try.func41 #[.agg #[.int .i64 j, .slice x b.length y], .int .i64 l] ?_; (with_reducible refine (spec_l1Knot.calls k j _ _ b l true _ ?z_1 ?z_2 A3.out).mono ?_); (case z_1 => exact cb q HB); (case z_2 => exact aw.out); rintro e w9 ⟨rfl, hb⟩; refine ⟨_, rfl, ?_⟩; replace c := bb c hb; replace d := bb d hb; replace HB := bs HB hb; (try clear hb); have aM := c2 c) | ((with_reducible refine gate_dst (N := 5) rfl ?_); refine bx_ 5 #[.int .i64 0, .slice none 0 0] 25 HB ?_; clear HB; intro aN hg w11 hb g be HB; obtain ⟨I, J⟩ := nb_ hg c; replace c := bb c hb; obtain ⟨ag, ah⟩ := nb_ hg d; replace d := bb d hb; clear hb hg; have bf := n2 J I; have bg := n2 ah ag; have aQ := c2 g))
  go_loopg [6] k (fun kq v6 w' => ∃ (a : Int) (s : List (S44)) (u470001 : Value), v6 = .int .i64 a ∧ Aside0 (spec_NetWithout.l0 kq l a j b j s = some (P, T)) ∧ Aside0 (kq ≤ k) ∧ Aside0 (Kd.R k44 44 w' w.heap.size (fun _ => True) u470001 s) ∧ Bk w' ax (.cells #[.int .i64 j, (.slice x b.length y)] 25 (0, 0)) ∧ Bk w' Z (.cells #[.int .i64 0, (.slice none 0 0)] 25 (0, 0)) ∧ Bk w' aN (.cells #[.int .i64 j, u470001] 25 (0, 0)) ∧ Aside0 (Below w.heap.size w w'))
  case atStart => exact ⟨(0), (([] : List (S44))), (.slice none 0 0), rs_, H', ⟨Nat.le_refl _⟩, ⟨by first | exact Kd.R_nil _ _ _ _ _ | exact Kd.N_nil _ _ _ _ _ | exact Kd.V_nil _ _ _ _ _ | exact Kd.Q_nil _ _ _ _ _ | exact Kd.S_nil _ _ _ _ _⟩, ⟨bkn c⟩, ⟨bkn d⟩, ⟨by (with_reducible repeat (first | refine blk_drewN ?_ _ | refine blk_drew ?_ | refine blk_alloc ?_ _)); refine blk_put (cs := #[.int .i64 j, .slice none 0 0]) ?_ 1 _ rfl; (with_reducible repeat (first | refine blk_drewN ?_ _ | refine blk_drew ?_ | refine blk_alloc ?_ _)); refine blk_put (cs := #[.int .i64 0, .slice none 0 0]) ?_ 0 _ rfl; (with_reducible repeat (first | refine blk_drewN ?_ _ | refine blk_drew ?_ | refine blk_alloc ?_ _)); exact g.out⟩, ⟨bn HB⟩⟩
  case round =>
   clear H'; (try clear c4 aM aQ aK); obtain ⟨a, s, u470001, rfl, HA, L, m, c, d, g, HB⟩ := hrel; cases gk with
   | zero => exact absurd HA.out (by simp [spec_NetWithout.l0])
   | succ k1 =>
    have H := HA.out; clear HA; simp only [spec_NetWithout.l0] at H; by_cases M : a < (b.length : Int)
    ·rw [if_pos M] at H; have aR := decide_eq_true M; clear M; obtain ⟨bh, H⟩ := id_ H; by_cases B : ((rd_T44 b a).f0) = l
     ·rw [if_pos B] at H; have aT : (((rd_T44 b a).f0) == l) = true := beq_iff_eq.mpr B; have aU : (((rd_T44 b a).f0) != l) = false := bne_eq_false_iff_eq.mpr B; clear B; have H' := am H; clear H; have bi := n2 z A; have bj := n2 I J; have bk := c2 c; have o : 0 ≤ (a : Int) := oa; have p : a < (b.length : Int) := oa; obtain ⟨U, W, t, u⟩ := at_T44 q.out a o p; cases W; replace t := hc_ HB t; replace u := hc_ HB u; obtain ⟨o, p⟩ := e2_ o p; go_wp2
      go_roundg k1
      case measure => have := L.out; omega
      case rel => exact ⟨(wrap64 (a + 1)), (s), (u470001), rs_, H', ⟨by have := L.out; omega⟩, ⟨onR m⟩, ⟨bkn c⟩, ⟨bkn d⟩, ⟨bkn g⟩, ⟨bn HB⟩⟩
     ·rw [if_neg B] at H; have aT : (((rd_T44 b a).f0) == l) = false := beq_eq_false_iff_ne.mpr B; have aU : (((rd_T44 b a).f0) != l) = true := bne_iff_ne.mpr B; by_cases D : ((rd_T44 b a).f1) = l
      ·rw [if_pos D] at H; have aV : (((rd_T44 b a).f1) == l) = true := beq_iff_eq.mpr D; have aW : (((rd_T44 b a).f1) != l) = false := bne_eq_false_iff_eq.mpr D; clear D; have H' := am H; clear H; have bl := n2 z A; have bo := n2 I J; have bp := c2 c; have o : 0 ≤ (a : Int) := oa; have p : a < (b.length : Int) := oa; obtain ⟨U, W, t, u⟩ := at_T44 q.out a o p; cases W; replace t := hc_ HB t; replace u := hc_ HB u; obtain ⟨o, p⟩ := e2_ o p; have E : 0 ≤ (a : Int) := oa; have G : a < (b.length : Int) := oa; obtain ⟨ai, aj, X, Y⟩ := at_T44 q.out a E G; obtain rfl : U = ai := (by injection aj); replace X := hc_ HB X; replace Y := hc_ HB Y; obtain ⟨E, G⟩ := e2_ E G; go_wp2
       go_roundg k1
       case measure => have := L.out; omega
       case rel => exact ⟨(wrap64 (a + 1)), (s), (u470001), rs_, H', ⟨by have := L.out; omega⟩, ⟨onR m⟩, ⟨bkn c⟩, ⟨bkn d⟩, ⟨bkn g⟩, ⟨bn HB⟩⟩
      ·rw [if_neg D] at H; have aV : (((rd_T44 b a).f1) == l) = false := beq_eq_false_iff_ne.mpr D; have aW : (((rd_T44 b a).f1) != l) = true := bne_iff_ne.mpr D; obtain ⟨ay, H⟩ := ig_ H; have aX := am ay; clear ay; obtain ⟨ak, al⟩ : ∃ y_ : List (S44), y_ = (s ++ [(⟨(rd_T44 b a).f0, (rd_T44 b a).f1⟩ : S44)]) := ⟨_, rfl⟩; replace H : (spec_NetWithout.l0 k1 l (wrap64 (a + 1)) j b j ak) = some (P, T) := nh_ al H; have aY := am al; clear al; have H' := am H; clear H; have br := n2 z A; have bu := n2 I J; have bv := c2 c; have o : 0 ≤ (a : Int) := oa; have p : a < (b.length : Int) := oa; obtain ⟨U, W, t, u⟩ := at_T44 q.out a o p; cases W; replace t := hc_ HB t; replace u := hc_ HB u; obtain ⟨o, p⟩ := e2_ o p; have E : 0 ≤ (a : Int) := oa; have G : a < (b.length : Int) := oa; obtain ⟨ai, aj, X, Y⟩ := at_T44 q.out a E G; obtain rfl : U = ai := (by injection aj); replace X := hc_ HB X; replace Y := hc_ HB Y; obtain ⟨E, G⟩ := e2_ E G; try go_wp2
       replace m := dR m; replace c := dB c; replace d := dB d; replace g := dB g; replace HB := dL HB; have an : 0 ≤ (a : Int) := oa; have ap : a < (b.length : Int) := oa; obtain ⟨aZ, a0, aa, ab⟩ := at_T44 q.out a an ap; have ad := ab; have ae := aa; obtain rfl : U = aZ := (by injection a0); replace aa := hc_ HB aa; replace ab := hc_ HB ab; obtain ⟨an, ap⟩ := e2_ an ap; refine s6_ 11 [10] (bq g 0) (bq g 1) (bq c 0) (bq c 1) (hb_ HB ae) (hb_ HB ad) (fun O => ?_); refine with_tabW spec_NetWithout.tab8 spec_NetWithout.bits8 (fun n aq => ?_); generalize wr.drew = w29 at m c d g HB aa ab O ⊢; refine pz_ 0 n ?_; refine pz_ 2 n ?_; refine pz_ 4 n ?_; refine tz_ 1 n aq O ?_; refine tz_ 3 n aq O ?_; refine pz_ 5 n ?_; refine tz_ 6 n aq O ?_; refine on_ 7 n (fun K hK => ?_); refine value_ (w1 := ?_) (v := ?_) (by rfl) rfl ?_ ?_
       rotate_left 2
       ·go_simp
        constructor
        ·rfl
        ·rfl
       refine hK.out _ _ ⟨(blk_cell (blk_alloc g.out _) 0).trans rfl, (blk_cell (blk_alloc g.out _) 1).trans rfl, (blk_cell (blk_alloc c.out _) 0).trans rfl, (blk_cell (blk_alloc c.out _) 1).trans rfl, (World.cell?_alloc_lt _ _ _ (World.block_lt_of_cell? _ _ ((hb_ HB ae)))).trans ((hb_ HB ae)), (World.cell?_alloc_lt _ _ _ (World.block_lt_of_cell? _ _ ((hb_ HB ad)))).trans ((hb_ HB ad))⟩ (fun O => ?_); clear hK K; refine nz_ 47 ?_; refine on_ 8 n (fun K hK => ?_); refine Kd.R_append_step k44 (w0 := w) w.heap.size (by rfl) (.tmp 41) (.tmp 47) 23 44 (.agg #[(.int .i64 0), (.int .i64 0)]) 16 rfl Try.underlying23 info44 rfl (by decide) (by omega) u470001 s (⟨(rd_T44 b a).f0, (rd_T44 b a).f1⟩ : S44) [.int .i64 ((rd_T44 b a).f0), .int .i64 ((rd_T44 b a).f1)] (fun _ => True) (fun _ => False) rfl rfl ?aP (fun _ hk => hk.elim) ?aF ?aO ?aB ?aS ?aL ?_; (case aP => exact k44_mkM _ _ _ (⟨(rd_T44 b a).f0, (rd_T44 b a).f1⟩ : S44)); (case aB => exact (bn HB)); (case aF => exact (fun _ _ => trivial)); (case aO => exact (onR m)); (case aS => exact (below_size (bn HB))); (case aL => have := aX.out; omega); intro bw w30 ho hb hg a1; rw [← aY.out] at ho; have az := bm (blk_grown (bkn c) hg (Kd.R_ne m.out c.out (by decide))); have aA := bm (blk_grown (bkn d) hg (Kd.R_ne m.out d.out (by decide))); have aC := bm (blk_grown (bkn g) hg (Kd.R_ne m.out g.out (by decide))); have aD := am hb; have aE := am ho; clear c d g HB m; have c := az; have d := aA; have g := aC; have HB := aD; have aG := aE; clear az aA aC aD aE ho hb hg a1; obtain ⟨a2, a3, aH⟩ := Kd.R_slice aG.out; (first | subst aH | (injection aH with f1_ f2_ f3_; have a4 := f1_.symm; have a5 := f3_.symm; clear f1_ f2_ f3_; subst a4; subst a5)); refine hK.out _ _ ⟨(bc g 0), (bc g 1), (bc c 0), (bc c 1), (hb_ HB ae), (hb_ HB ad)⟩ (fun O => ?_); clear hK K; refine nz_ 48 ?_; refine pz_ 9 n ?_; refine last_ (i := 10) (N := none) #[true, true, true, true, true, true, true, true, true, true, true] rfl rfl (one_of n.out (by kernel_rfl)) (by decide) (fun K hK => ?_); have bx := bc g 1; have bz := blk_frozen g.out 1; have bA := I.out; have bB := ag.out; have bC := J.out; have bD := ah.out; refine skip_ (w1 := ?_) (by rfl) rfl ?_ ?_
       rotate_left
       ·go_simp
        rfl
       refine hK.out _ _ ?_; clear hK K; refine done_ (done_of n.out (by kernel_rfl)) ?_; try go_wp2
       go_roundg k1
       case measure => have := L.out; omega
       case rel => exact ⟨(wrap64 (a + 1)), (ak), (.slice a2 ak.length a3), rs_, H', ⟨by have := L.out; omega⟩, ⟨Kd.R_mono (onR aG) (fun _ hk => trivial)⟩, ⟨bkn c⟩, ⟨bkn d⟩, ⟨by (with_reducible repeat (first | refine blk_drewN ?_ _ | refine blk_drew ?_ | refine blk_alloc ?_ _)); refine blk_put (cs := #[.int .i64 j, u470001]) ?_ 1 _ rfl; (with_reducible repeat (first | refine blk_drewN ?_ _ | refine blk_drew ?_ | refine blk_alloc ?_ _)); exact g.out⟩, ⟨bn HB⟩⟩
    ·rw [if_neg M] at H; have aR := decide_eq_false M; clear M; simp only [Option.some.injEq, Prod.mk.injEq] at H; obtain ⟨rfl, rfl⟩ := H; have bE := n2 z A; have bF := n2 I J; have bG := c2 c; have bH := n2 ah ag; have bI := c2 g; have bJ := c2 d; obtain ⟨a6, a7, a8⟩ := Kd.R_slice m.out; subst a8; go_wp2; refine bodyPost_ret (results_cell_row rfl _ _ Z 25 #[.int .i64 j, .slice a6 s.length a7] (0, 0) _ rfl (bkn d) Try.underlying25 rfl (by kernel_rfl)) rfl ?_; exact ⟨_, er_, Kd.R_mono (onR m) (fun _ hk => trivial), bn HB⟩
 ·obtain rfl := nt_ c4; rw [if_neg nf_] at H; simp only [Option.some.injEq, Prod.mk.injEq] at H; obtain ⟨rfl, rfl⟩ := H; go_enter Try.func42, Try.ntmps42
  go_wp2_with (first | ((with_reducible refine gate_dst (N := 2) rfl ?_); refine bx_ 2 #[.int .i64 j, .slice x b.length y] 25 HB ?_; clear HB; intro ax hg w40 hb c aI HB; clear hb hg) | ((with_reducible refine gate_dst (N := 4) rfl ?_); refine bx_ 4 #[.int .i64 0, .slice none 0 0] 25 HB ?_; clear HB; intro Z hg w41 hb d aJ HB; obtain ⟨z, A⟩ := nb_ hg c; replace c := bb c hb; clear hb hg; have bK := n2 z A; have bL := c2 c) | ((with_reducible refine gate_callee (f := 41) rfl ?_); refine gl_ (some 9) Try.func41 #[.agg #[.int .i64 j, .slice x b.length y], .int .i64 l] ?_; (with_reducible refine (spec_l1Knot.calls k j _ _ b l false _ ?z_1 ?z_2 A3.out).mono ?_); (case z_1 => exact cb q HB); (case z_2 => exact aw.out); rintro e w44 ⟨rfl, hb⟩; refine ⟨_, rfl, ?_⟩; replace c := bb c hb; replace d := bb d hb; replace HB := bs HB hb; (try clear hb); have bM := c2 d))
  refine bodyPost_ret (results_cell_row rfl _ _ Z 25 #[.int .i64 0, .slice none 0 0] (0, 0) _ rfl (bkn d) Try.underlying25 rfl (by kernel_rfl)) rfl ?_; exact ⟨_, er_, by first | exact Kd.R_nil _ _ _ _ _ | exact Kd.N_nil _ _ _ _ _ | exact Kd.V_nil _ _ _ _ _ | exact Kd.Q_nil _ _ _ _ _ | exact Kd.S_nil _ _ _ _ _, bn HB⟩

/-! ### spec_TwoCut: function 15 -/
mutual
def spec_TwoCut.j0 : Nat → Int → Int → Bool → Int → List (S44) → Option (Int × Bool)
 | 0, _, _, _, _, _ => none
 | k + 1, x1, x2, x38, x477000, x477001 => if x38 = true then (some (0, false)) else (spec_TwoCut.l0 k x1 x2 0 x477000 x477001)
def spec_TwoCut.l0 : Nat → Int → Int → Int → Int → List (S44) → Option (Int × Bool)
 | 0, _, _, _, _, _ => none
 | k + 1, x1, x2, x8, x477000, x477001 => if x8 < x477000 then (if x8 = x1 then (spec_TwoCut.l0 k x1 x2 (wrap64 (x8 + 1)) x477000 x477001) else (if x8 = x2 then (spec_TwoCut.l0 k x1 x2 (wrap64 (x8 + 1)) x477000 x477001) else ((spec_NetWithout.f k x477000 x477001 x8).bind fun bt484 => ((spec_WayReach.f k bt484.1 bt484.2 x1).bind fun t488 => (if 0 ≤ x2 then (if x2 < (t488.length : Int) then (if rdOf false t488 x2 = true then (spec_TwoCut.l0 k x1 x2 (wrap64 (x8 + 1)) x477000 x477001) else (some (x8, true))) else (none)) else (none)))))) else (some (0, false))
end
def spec_TwoCut.f (k : Nat) (a0_0 : Int) (l0_1 : List (S44)) (a1 : Int) (a2 : Int) : Option (Int × Bool) := (spec_l1Knot.f k a0_0 l0_1 a1).bind fun t477 => (if t477 = true then ((spec_l1Knot.f k a0_0 l0_1 a2).bind fun t478 => (if t478 = true then (if a1 = a2 then (spec_TwoCut.j0 k a1 a2 true a0_0 l0_1) else ((spec_NetHas.f k a0_0 l0_1 a1 a2).bind fun t479 => (if t479 = true then (spec_TwoCut.j0 k a1 a2 true a0_0 l0_1) else ((spec_WayReach.f k a0_0 l0_1 a1).bind fun t480 => (if 0 ≤ a2 then (if a2 < (t480.length : Int) then (spec_TwoCut.j0 k a1 a2 (!(rdOf false t480 a2)) a0_0 l0_1) else (none)) else (none)))))) else (spec_TwoCut.j0 k a1 a2 true a0_0 l0_1))) else (spec_TwoCut.j0 k a1 a2 true a0_0 l0_1))
theorem spec_TwoCut.mono_l : ∀ k, (∀ a b c d e, LeO (spec_TwoCut.j0 k a b c d e) (spec_TwoCut.j0 (k + 1) a b c d e)) ∧ (∀ a b c d e, LeO (spec_TwoCut.l0 k a b c d e) (spec_TwoCut.l0 (k + 1) a b c d e))
 | 0 => ⟨fun _ _ _ _ _ r h => by simp [spec_TwoCut.j0] at h, fun _ _ _ _ _ r h => by simp [spec_TwoCut.l0] at h⟩
 | k + 1 => by
  obtain ⟨ih0, ih1⟩ := spec_TwoCut.mono_l k; refine ⟨?_, ?_⟩
  ·intro a b c d e; unfold spec_TwoCut.j0; have f := @spec_NetHas.mono; have g := @spec_NetWithout.mono; have i := @spec_WayReach.mono; have j := @spec_l1Knot.mono; exact mo_
  ·intro a b c d e; unfold spec_TwoCut.l0; have f := @spec_NetHas.mono; have g := @spec_NetWithout.mono; have i := @spec_WayReach.mono; have j := @spec_l1Knot.mono; exact mo_
theorem spec_TwoCut.mono : ∀ a b c d k, LeO (spec_TwoCut.f k a b c d) (spec_TwoCut.f (k + 1) a b c d) := by
 intro a b c d k; obtain ⟨ih0, ih1⟩ := spec_TwoCut.mono_l k; unfold spec_TwoCut.f; have m0_ := @spec_NetHas.mono; have m1_ := @spec_NetWithout.mono; have m2_ := @spec_WayReach.mono; have m3_ := @spec_l1Knot.mono; exact mo_
set_option maxHeartbeats 8000000 in
set_option maxRecDepth 100000 in
theorem spec_TwoCut.calls (k : Nat) (g : Int) (o : Option Addr) (p : Nat) (c : List (S44)) (d : Int) (b : Int) (z : Int) (A : Bool) (w : World) (aj : Kd.C k44 w o c.length c) (ak : c.length ≤ p) (h : spec_TwoCut.f k g c d b = some (z, A)) :
  Calls Try.prog 15 #[.agg #[.int .i64 g, .slice o c.length p], .int .i64 d, .int .i64 b] w fun e w' => e = .returned (.tuple #[.int .i64 z, .bool A]) ∧ Below w.heap.size w w' := by
 have a2 := Try.underlying25; have j := am aj; have l := am ak; clear aj ak; have HB := am (Below.refl w.heap.size w)
 have H : ((spec_l1Knot.f k g c d).bind fun Z => (if Z = true then ((spec_l1Knot.f k g c b).bind fun aa => (if aa = true then (if d = b then (spec_TwoCut.j0 k d b true g c) else ((spec_NetHas.f k g c d b).bind fun ab => (if ab = true then (spec_TwoCut.j0 k d b true g c) else ((spec_WayReach.f k g c d).bind fun B => (if 0 ≤ b then (if b < (B.length : Int) then (spec_TwoCut.j0 k d b (!(rdOf false B b)) g c) else (none)) else (none)))))) else (spec_TwoCut.j0 k d b true g c))) else (spec_TwoCut.j0 k d b true g c))) = some (z, A) := h
 clear h; have ad := am H; clear H; go_enter Try.func15, Try.ntmps15
 go_upto_region 1 with (first | ((with_reducible refine gate_dst (N := 3) rfl ?_); refine bx_ 3 #[.int .i64 g, .slice o c.length p] 25 HB ?_; clear HB; intro al hg w5 hb a a3 HB; clear hb hg))
 (try simp only [Act.put, List.setIfInBounds_toArray, List.set_cons_zero, List.set_cons_succ])
 go_cut [38] (fun aM wc => ∃ (kq : Nat) (O : Bool), aM = .bool O ∧ Aside0 (spec_TwoCut.j0 kq d b O g c = some (z, A)) ∧ Aside0 (kq ≤ k) ∧ Bk wc al (.cells #[.int .i64 g, (.slice o c.length p)] 25 (0, 0)) ∧ Aside0 (Below w.heap.size w wc))
 case first =>
  have H := ad.out; clear ad; obtain ⟨Z, I, H⟩ := bi_ H; by_cases P : Z = true
  ·subst P; rw [if_pos rfl] at H; obtain ⟨aa, T, H⟩ := bi_ H; by_cases U : aa = true
   ·subst U; rw [if_pos rfl] at H; by_cases q : d = b
    ·rw [if_pos q] at H; have s : (d == b) = true := beq_iff_eq.mpr q; have ae : (d != b) = false := bne_eq_false_iff_eq.mpr q; clear q; (first | rw [s] | (simp only [i64_w, i32_w]; rw [s]) | skip); have H' := am H; clear H; have an := c2 a
     go_wp2_with (first | ((with_reducible refine gate_callee (f := 41) rfl ?_); refine gl_ (some 11) Try.func41 #[.agg #[.int .i64 g, .slice o c.length p], .int .i64 d] ?_; (with_reducible refine (spec_l1Knot.calls k g _ _ c d true _ ?z_1 ?z_2 I.out).mono ?_); (case z_1 => exact cb j HB); (case z_2 => exact l.out); rintro e w12 ⟨rfl, hb⟩; refine ⟨_, rfl, ?_⟩; replace a := bb a hb; replace HB := bs HB hb; (try clear hb); have ap := c2 a) | (go_at_call 41; (with_reducible refine (spec_l1Knot.calls k g _ _ c b true _ ?z_1 ?z_2 T.out).mono ?_); (case z_1 => exact cb j HB); (case z_2 => exact l.out); rintro e w14 ⟨rfl, hb⟩; replace a := bb a hb; replace HB := bs HB hb; (try clear hb)))
     go_meet
     case rel => exact ⟨_, (true), rs_, H', ⟨by first | omega | exact Nat.le_refl _⟩, ⟨bkn a⟩, ⟨bn HB⟩⟩
    ·rw [if_neg q] at H; have s : (d == b) = false := beq_eq_false_iff_ne.mpr q; have ae : (d != b) = true := bne_iff_ne.mpr q; (first | rw [s] | (simp only [i64_w, i32_w]; rw [s]) | skip); obtain ⟨ab, aq, H⟩ := bi_ H; by_cases W : ab = true
     ·subst W; rw [if_pos rfl] at H; have H' := am H; clear H; have ar := c2 a
      go_wp2_with (first | ((with_reducible refine gate_callee (f := 41) rfl ?_); refine gl_ (some 11) Try.func41 #[.agg #[.int .i64 g, .slice o c.length p], .int .i64 d] ?_; (with_reducible refine (spec_l1Knot.calls k g _ _ c d true _ ?z_1 ?z_2 I.out).mono ?_); (case z_1 => exact cb j HB); (case z_2 => exact l.out); rintro e w18 ⟨rfl, hb⟩; refine ⟨_, rfl, ?_⟩; replace a := bb a hb; replace HB := bs HB hb; (try clear hb); have au := c2 a) | (go_at_call 41; (with_reducible refine (spec_l1Knot.calls k g _ _ c b true _ ?z_1 ?z_2 T.out).mono ?_); (case z_1 => exact cb j HB); (case z_2 => exact l.out); rintro e w20 ⟨rfl, hb⟩; replace a := bb a hb; replace HB := bs HB hb; (try clear hb); have av := c2 a) | (go_at_call 23; (with_reducible refine (spec_NetHas.calls k g _ _ c d b true _ ?z_1 ?z_2 aq.out).mono ?_); (case z_1 => exact cb j HB); (case z_2 => exact l.out); rintro e w22 ⟨rfl, hb⟩; replace a := bb a hb; replace HB := bs HB hb; (try clear hb)))
      go_meet
      case rel => exact ⟨_, (true), rs_, H', ⟨by first | omega | exact Nat.le_refl _⟩, ⟨bkn a⟩, ⟨bn HB⟩⟩
     ·obtain rfl := nt_ W; rw [if_neg nf_] at H; obtain ⟨B, aN, H⟩ := bi_ H; obtain ⟨aw, H⟩ := id_ H; obtain ⟨ax, H⟩ := id_ H; have H' := am H; clear H; have ay := c2 a
      go_wp2_with (first | ((with_reducible refine gate_callee (f := 41) rfl ?_); refine gl_ (some 11) Try.func41 #[.agg #[.int .i64 g, .slice o c.length p], .int .i64 d] ?_; (with_reducible refine (spec_l1Knot.calls k g _ _ c d true _ ?z_1 ?z_2 I.out).mono ?_); (case z_1 => exact cb j HB); (case z_2 => exact l.out); rintro e w27 ⟨rfl, hb⟩; refine ⟨_, rfl, ?_⟩; replace a := bb a hb; replace HB := bs HB hb; (try clear hb); have az := c2 a) | (go_at_call 41; (with_reducible refine (spec_l1Knot.calls k g _ _ c b true _ ?z_1 ?z_2 T.out).mono ?_); (case z_1 => exact cb j HB); (case z_2 => exact l.out); rintro e w29 ⟨rfl, hb⟩; replace a := bb a hb; replace HB := bs HB hb; (try clear hb); have aA := c2 a) | (go_at_call 23; (with_reducible refine (spec_NetHas.calls k g _ _ c d b false _ ?z_1 ?z_2 aq.out).mono ?_); (case z_1 => exact cb j HB); (case z_2 => exact l.out); rintro e w31 ⟨rfl, hb⟩; replace a := bb a hb; replace HB := bs HB hb; (try clear hb); have aB := c2 a) | (go_at_call 33; (with_reducible refine (spec_WayReach.calls k g _ _ c d B _ ?z_1 ?z_2 aN.out).mono ?_); (case z_1 => exact cb j HB); (case z_2 => exact l.out); rintro e w33 ⟨a4, rfl, m, hb⟩; have aC := am (Kd.R_lower m (below_size (bn HB))); replace a := bb a hb; replace HB := bs HB hb; (try clear hb m); obtain ⟨a5, a6, aO⟩ := Kd.R_slice aC.out; subst aO; have J : 0 ≤ (b : Int) := oa; have K : b < (B.length : Int) := oa; obtain ⟨a7, aP, aD⟩ := Kd.at_bool (Kd.R_reads' aC.out).2.2 b J K; cases aP; replace J := eq_true J; replace K := eq_true K))
      go_meet
      case rel => exact ⟨_, (!(rdOf false B b)), rs_, H', ⟨by first | omega | exact Nat.le_refl _⟩, ⟨bkn a⟩, ⟨bn HB⟩⟩
   ·obtain rfl := nt_ U; rw [if_neg nf_] at H; have H' := am H; clear H; have aE := c2 a
    go_wp2_with (first | ((with_reducible refine gate_callee (f := 41) rfl ?_); refine gl_ (some 11) Try.func41 #[.agg #[.int .i64 g, .slice o c.length p], .int .i64 d] ?_; (with_reducible refine (spec_l1Knot.calls k g _ _ c d true _ ?z_1 ?z_2 I.out).mono ?_); (case z_1 => exact cb j HB); (case z_2 => exact l.out); rintro e w36 ⟨rfl, hb⟩; refine ⟨_, rfl, ?_⟩; replace a := bb a hb; replace HB := bs HB hb; (try clear hb); have aF := c2 a) | (go_at_call 41; (with_reducible refine (spec_l1Knot.calls k g _ _ c b false _ ?z_1 ?z_2 T.out).mono ?_); (case z_1 => exact cb j HB); (case z_2 => exact l.out); rintro e w38 ⟨rfl, hb⟩; replace a := bb a hb; replace HB := bs HB hb; (try clear hb)))
    go_meet
    case rel => exact ⟨_, (true), rs_, H', ⟨by first | omega | exact Nat.le_refl _⟩, ⟨bkn a⟩, ⟨bn HB⟩⟩
  ·obtain rfl := nt_ P; rw [if_neg nf_] at H; have H' := am H; clear H; have aG := c2 a
   go_wp2_with (first | ((with_reducible refine gate_callee (f := 41) rfl ?_); refine gl_ (some 11) Try.func41 #[.agg #[.int .i64 g, .slice o c.length p], .int .i64 d] ?_; (with_reducible refine (spec_l1Knot.calls k g _ _ c d false _ ?z_1 ?z_2 I.out).mono ?_); (case z_1 => exact cb j HB); (case z_2 => exact l.out); rintro e w40 ⟨rfl, hb⟩; refine ⟨_, rfl, ?_⟩; replace a := bb a hb; replace HB := bs HB hb; (try clear hb)))
   go_meet
   case rel => exact ⟨_, (true), rs_, H', ⟨by first | omega | exact Nat.le_refl _⟩, ⟨bkn a⟩, ⟨bn HB⟩⟩
 case rest =>
  clear ad; (try clear c2 P U q s ae W aw ax an ap ar au av ay az aA aB aE aF aG aD J K); obtain ⟨kq, O, rfl, HA, D, a, HB⟩ := hcut; cases kq with
  | zero => exact absurd HA.out (by simp [spec_TwoCut.j0])
  | succ kj3 =>
   have H := HA.out; clear HA; simp only [spec_TwoCut.j0] at H; by_cases af : O = true
   ·subst af; rw [if_pos rfl] at H; simp only [Option.some.injEq, Prod.mk.injEq] at H; obtain ⟨rfl, rfl⟩ := H; go_wp2
    go_ret2
    exact ⟨er_, bn HB⟩
   ·obtain rfl := nt_ af; rw [if_neg nf_] at H; have H' := am H; clear H; go_wp2
    go_loopg [8] kj3 (fun kq v8 w' => ∃ (i : Int), v8 = .int .i64 i ∧ Aside0 (spec_TwoCut.l0 kq d b i g c = some (z, A)) ∧ Aside0 (kq ≤ kj3) ∧ Bk w' al (.cells #[.int .i64 g, (.slice o c.length p)] 25 (0, 0)) ∧ Aside0 (Below w.heap.size w w'))
    case atStart => exact ⟨(0), rs_, H', ⟨Nat.le_refl _⟩, ⟨bkn a⟩, ⟨bn HB⟩⟩
    case round =>
     clear H'; (try clear c2 P U q s ae W aw ax af an ap ar au av ay az aA aB aE aF aG aD J K); obtain ⟨i, rfl, HA, E, a, HB⟩ := hrel; cases gk with
     | zero => exact absurd HA.out (by simp [spec_TwoCut.l0])
     | succ k2 =>
      have H := HA.out; clear HA; simp only [spec_TwoCut.l0] at H; by_cases G : i < g
      ·rw [if_pos G] at H; have aQ := decide_eq_true G; clear G; by_cases t : i = d
       ·rw [if_pos t] at H; have aR : (i == d) = true := beq_iff_eq.mpr t; have aS : (i != d) = false := bne_eq_false_iff_eq.mpr t; clear t; have H' := am H; clear H; have a8 := c2 a; go_wp2
        go_roundg k2
        case measure => have := D.out; have := E.out; omega
        case rel => exact ⟨(wrap64 (i + 1)), rs_, H', ⟨by have := D.out; have := E.out; omega⟩, ⟨bkn a⟩, ⟨bn HB⟩⟩
       ·rw [if_neg t] at H; have aR : (i == d) = false := beq_eq_false_iff_ne.mpr t; have aS : (i != d) = true := bne_iff_ne.mpr t; by_cases u : i = b
        ·rw [if_pos u] at H; have aT : (i == b) = true := beq_iff_eq.mpr u; have aU : (i != b) = false := bne_eq_false_iff_eq.mpr u; clear u; have H' := am H; clear H; have a9 := c2 a; go_wp2
         go_roundg k2
         case measure => have := D.out; have := E.out; omega
         case rel => exact ⟨(wrap64 (i + 1)), rs_, H', ⟨by have := D.out; have := E.out; omega⟩, ⟨bkn a⟩, ⟨bn HB⟩⟩
        ·rw [if_neg u] at H; have aT : (i == b) = false := beq_eq_false_iff_ne.mpr u; have aU : (i != b) = true := bne_iff_ne.mpr u; obtain ⟨⟨X, Y⟩, aH, H⟩ := bi_ H; (try dsimp only at H); obtain ⟨L, aI, H⟩ := bi_ H; obtain ⟨ba, H⟩ := id_ H; obtain ⟨bd, H⟩ := id_ H; obtain ⟨aJ, ag⟩ : ∃ b_ : Bool, b_ = (rdOf false L b) := ⟨_, rfl⟩; replace H : (if aJ = true then (spec_TwoCut.l0 k2 d b (wrap64 (i + 1)) g c) else (some (i, true))) = some (z, A) := by rw [← ag] at H; exact H
         have aK := am ag; clear ag; by_cases aL : aJ = true
         ·subst aL; rw [if_pos rfl] at H; have H' := am H; clear H; have be := c2 a
          go_wp2_with (first | (go_at_call 42; (with_reducible refine (spec_NetWithout.calls k2 g _ _ c i X Y _ ?z_1 ?z_2 aH.out).mono ?_); (case z_1 => exact cb j HB); (case z_2 => exact l.out); rintro e w54 ⟨aV, rfl, m, hb⟩; have n := am (Kd.R_lower m (below_size (bn HB))); replace a := bb a hb; replace HB := bs HB hb; (try clear hb m); obtain ⟨bf, bg, aW⟩ := Kd.R_slice n.out; subst aW) | (go_at_call 33; (with_reducible refine (spec_WayReach.calls k2 X _ _ Y d L _ ?z_1 ?z_2 aI.out).mono ?_); (case z_1 => exact (Kd.R_reads' (onR n)).2.2); (case z_2 => exact (Kd.R_reads' n.out).2.1); rintro e w56 ⟨aX, rfl, m, hb⟩; replace n := am (Kd.R_below (onR n) hb); have M := am (Kd.R_lower m (below_size (bn HB))); replace a := bb a hb; replace HB := bs HB hb; (try clear hb m); obtain ⟨bh, bi, aY⟩ := Kd.R_slice M.out; subst aY; have x : 0 ≤ (b : Int) := oa; have y : b < (L.length : Int) := oa; obtain ⟨aZ, ah, ai⟩ := Kd.at_bool (Kd.R_reads' M.out).2.2 b x y; (try rw [← aK.out] at ai); cases ah; replace x := eq_true x; replace y := eq_true y))
          go_roundg k2
          case measure => have := D.out; have := E.out; omega
          case rel => exact ⟨(wrap64 (i + 1)), rs_, H', ⟨by have := D.out; have := E.out; omega⟩, ⟨bkn a⟩, ⟨bn HB⟩⟩
         ·obtain rfl := nt_ aL; rw [if_neg nf_] at H; simp only [Option.some.injEq, Prod.mk.injEq] at H; obtain ⟨rfl, rfl⟩ := H; have bj := c2 a
          go_wp2_with (first | (go_at_call 42; (with_reducible refine (spec_NetWithout.calls k2 g _ _ c i X Y _ ?z_1 ?z_2 aH.out).mono ?_); (case z_1 => exact cb j HB); (case z_2 => exact l.out); rintro e w59 ⟨aV, rfl, m, hb⟩; have n := am (Kd.R_lower m (below_size (bn HB))); replace a := bb a hb; replace HB := bs HB hb; (try clear hb m); obtain ⟨bk, bl, a0⟩ := Kd.R_slice n.out; subst a0) | (go_at_call 33; (with_reducible refine (spec_WayReach.calls k2 X _ _ Y d L _ ?z_1 ?z_2 aI.out).mono ?_); (case z_1 => exact (Kd.R_reads' (onR n)).2.2); (case z_2 => exact (Kd.R_reads' n.out).2.1); rintro e w61 ⟨aX, rfl, m, hb⟩; replace n := am (Kd.R_below (onR n) hb); have M := am (Kd.R_lower m (below_size (bn HB))); replace a := bb a hb; replace HB := bs HB hb; (try clear hb m); obtain ⟨bo, bp, a1⟩ := Kd.R_slice M.out; subst a1; have x : 0 ≤ (b : Int) := oa; have y : b < (L.length : Int) := oa; obtain ⟨aZ, ah, ai⟩ := Kd.at_bool (Kd.R_reads' M.out).2.2 b x y; (try rw [← aK.out] at ai); cases ah; replace x := eq_true x; replace y := eq_true y))
          go_ret2
          exact ⟨er_, bn HB⟩
      ·rw [if_neg G] at H; have aQ := decide_eq_false G; clear G; simp only [Option.some.injEq, Prod.mk.injEq] at H; obtain ⟨rfl, rfl⟩ := H; have br := c2 a; go_wp2
       go_ret2
       exact ⟨er_, bn HB⟩

/-! ### spec_DrawTwoCut: function 14 -/
mutual
def spec_DrawTwoCut.l0 : Nat → Int → Int → Int → List Int → Int → Int → List (S44) → Option (Int × (List (S44)) × Int × Int)
 | 0, _, _, _, _, _, _, _ => none
 | k + 1, x7, x8, x9, x520000, x520001, x528000, x528001 => if x9 < 12 then ((spec_l6Rd_pick.f k x520000 x520001 8).bind fun bt528 => (spec_DrawTwoCut.j1 k x7 x8 x9 (decide (bt528.1 > 0)) x520000 bt528.2 x528000 x528001)) else (spec_DrawTwoCut.j1 k x7 x8 x9 false x520000 x520001 x528000 x528001)
def spec_DrawTwoCut.j1 : Nat → Int → Int → Int → Bool → List Int → Int → Int → List (S44) → Option (Int × (List (S44)) × Int × Int)
 | 0, _, _, _, _, _, _, _, _ => none
 | k + 1, x7, x8, x9, x26, x520000, x520001, x528000, x528001 => if x26 = true then ((spec_TwoCut.f k x528000 x528001 x7 x8).bind fun bt530 => (if bt530.2 = true then (some (x528000, x528001, x7, x8)) else ((spec_l71Pair.f k x520000 x520001).bind fun bt532 => (spec_DrawTwoCut.l0 k bt532.2.2.1 bt532.2.2.2.1 (wrap64 (x9 + 1)) x520000 bt532.2.2.2.2 bt532.1 bt532.2.1)))) else (some (x528000, x528001, x7, x8))
end
def spec_DrawTwoCut.f (k : Nat) (l0 : List Int) : Option (Int × (List (S44)) × Int × Int) := (spec_l6Open.f l0).bind fun bt517 => ((spec_l71Pair.f k bt517.1 bt517.2).bind fun bt520 => (spec_DrawTwoCut.l0 k bt520.2.2.1 bt520.2.2.2.1 0 bt517.1 bt520.2.2.2.2 bt520.1 bt520.2.1))
theorem spec_DrawTwoCut.mono_l : ∀ k, (∀ a b c d e f g, LeO (spec_DrawTwoCut.l0 k a b c d e f g) (spec_DrawTwoCut.l0 (k + 1) a b c d e f g)) ∧ (∀ a b c d e f g i, LeO (spec_DrawTwoCut.j1 k a b c d e f g i) (spec_DrawTwoCut.j1 (k + 1) a b c d e f g i))
 | 0 => ⟨fun _ _ _ _ _ _ _ r h => by simp [spec_DrawTwoCut.l0] at h, fun _ _ _ _ _ _ _ _ r h => by simp [spec_DrawTwoCut.j1] at h⟩
 | k + 1 => by
  obtain ⟨ih0, ih1⟩ := spec_DrawTwoCut.mono_l k; refine ⟨?_, ?_⟩
  ·intro a b c d e f g; unfold spec_DrawTwoCut.l0; have j := @spec_TwoCut.mono; have l := @spec_l6Rd_pick.mono; have m := @spec_l71Pair.mono; exact mo_
  ·intro a b c d e f g i; unfold spec_DrawTwoCut.j1; have j := @spec_TwoCut.mono; have l := @spec_l6Rd_pick.mono; have m := @spec_l71Pair.mono; exact mo_
theorem spec_DrawTwoCut.mono : ∀ a k, LeO (spec_DrawTwoCut.f k a) (spec_DrawTwoCut.f (k + 1) a) := by
 intro a k; obtain ⟨ih0, ih1⟩ := spec_DrawTwoCut.mono_l k; unfold spec_DrawTwoCut.f; have m0_ := @spec_TwoCut.mono; have m1_ := @spec_l6Rd_pick.mono; have m2_ := @spec_l71Pair.mono; exact mo_
set_option maxHeartbeats 8000000 in
set_option maxRecDepth 100000 in
theorem spec_DrawTwoCut.calls (k : Nat) (U : Option Addr) (W : Nat) (l0 : List Int) (x : Int) (y : List (S44)) (z : Int) (A : Int) (w : World) (ah : Kd.C (Kd.int .u8) w U l0.length l0) (ai : l0.length ≤ W) (h : spec_DrawTwoCut.f k l0 = some (x, y, z, A)) :
  Calls Try.prog 14 #[.slice U l0.length W] w fun e w' => ∃ aj : Value, e = .returned (.tuple #[.agg #[.int .i64 x, aj], .int .i64 z, .int .i64 A]) ∧ Kd.R k44 44 w' w.heap.size (fun _ => True) aj y ∧ Below w.heap.size w w' := by
 have aY := Try.underlying25; have aH := am ah; have aI := am ai; clear ah ai; have HB := am (Below.refl w.heap.size w)
 have H : ((spec_l6Open.f l0).bind fun X => ((spec_l71Pair.f k X.1 X.2).bind fun B => (spec_DrawTwoCut.l0 k B.2.2.1 B.2.2.2.1 0 X.1 B.2.2.2.2 B.1 B.2.1))) = some (x, y, z, A) := h
 clear h; obtain ⟨⟨i, ak⟩, A2, H⟩ := bi_ H; (try dsimp only at H); obtain ⟨⟨Y, Z, al, an, aa⟩, A3, H⟩ := bi_ H; (try dsimp only at H); have H' := am H; clear H; go_enter Try.func14, Try.ntmps14
 go_wp2_with (first | ((with_reducible refine gate_dst (N := 2) rfl ?_); refine bx_ 2 #[.int .i64 0, .slice none 0 0] 25 HB ?_; clear HB; intro G hg w4 hb a aZ HB; clear hb hg) | ((with_reducible refine gate_callee (f := 30) rfl ?_); refine gl_ (some 13) Try.func30 #[.slice U l0.length W] ?_; (with_reducible refine (spec_l6Open.calls _ _ l0 i ak w _ ?z_1 ?z_2 ?z_3 A2.out).mono ?_); (case z_1 => exact bn HB); (case z_2 => exact aH.out); (case z_3 => exact aI.out); rintro e w5 ⟨j, rfl, hi, hb, I⟩; refine ⟨_, rfl, ?_⟩; replace HB := am hb; have l := am hi; have ap := am (IsS69.ne_blk hi (blk_below (bkn a) I) (by decide)); have D := am (Ne.symm (IsS69.ne_blk hi (blk_below (bkn a) I) (by decide))); replace a := bm (blk_below (bkn a) I); (try clear hb I hi)) | ((with_reducible refine gate_callee (f := 39) rfl ?_); refine gl_ (some 16) Try.func39 #[.pointer (some ⟨j, 0, none⟩)] ?_; (with_reducible refine (spec_l71Pair.calls k j i ak Y Z al an aa w _ ?z_1 ?z_2 A3.out).mono ?_); (case z_1 => exact IsS69.now); (case z_2 => exact bn HB); rintro e w6 ⟨a0, rfl, p, hi, hb, hk⟩; refine ⟨_, rfl, ?_⟩; replace a := kb hk a D; have J := am (Kd.R_lower p (below_size (bn HB))); replace HB := am hb; replace l := am hi; (try clear hb hk hi p)) | ((with_reducible refine gate_dst (N := 6) rfl ?_); refine bx_ 6 #[.int .i64 0, .slice none 0 0] 25 HB ?_; clear HB; intro aq hg w7 hb c a1 HB; replace J := am (Kd.R_below (onR J) hb); obtain ⟨K, L⟩ := nb_ hg a; replace a := bb a hb; obtain ⟨M, q⟩ := ns_ hg (IsS69.lt (show IsS69 w _ j i aa from IsS69.now)); replace l := am (IsS69.below (IsS69.now) hb); clear hb hg; have a2 := n2 L K; have a3 := n2 q M; have ar := c2 c; obtain ⟨aJ, aK, aL⟩ := Kd.R_slice J.out; subst aL))
 go_loopg [7, 8, 9] k (fun kq v7 v8 v9 w' => ∃ (m : Int) (n : Int) (s : Int) (O : Int) (t : Int) (g : Int) (d : List (S44)) (u528001 : Value), v7 = .int .i64 m ∧ v8 = .int .i64 n ∧ v9 = .int .i64 s ∧ Aside0 (spec_DrawTwoCut.l0 kq m n s i t g d = some (x, y, z, A)) ∧ Aside0 (kq ≤ k) ∧ Aside0 (Kd.R k44 44 w' w.heap.size (fun _ => True) u528001 d) ∧ Bk w' G (.cells #[.int .i64 O, (.slice none 0 0)] 25 (0, 0)) ∧ Bk w' aq (.cells #[.int .i64 g, u528001] 25 (0, 0)) ∧ Aside0 (IsS69 w w' j i t) ∧ Aside0 (Below w.heap.size w w'))
 case atStart => exact ⟨(al), (an), (0), (0), (aa), (Y), (Z), (.slice aJ Z.length aK), rs_, rs_, rs_, H', ⟨Nat.le_refl _⟩, ⟨Kd.R_mono (onR J) (fun _ hk => trivial)⟩, ⟨bkn a⟩, ⟨by (with_reducible repeat (first | refine blk_drewN ?_ _ | refine blk_drew ?_ | refine blk_alloc ?_ _)); refine blk_put (cs := #[.int .i64 Y, .slice none 0 0]) ?_ 1 _ rfl; (with_reducible repeat (first | refine blk_drewN ?_ _ | refine blk_drew ?_ | refine blk_alloc ?_ _)); refine blk_put (cs := #[.int .i64 0, .slice none 0 0]) ?_ 0 _ rfl; (with_reducible repeat (first | refine blk_drewN ?_ _ | refine blk_drew ?_ | refine blk_alloc ?_ _)); exact c.out⟩, ⟨IsS69.now⟩, ⟨bn HB⟩⟩
 case round =>
  clear H'; (try clear ar); obtain ⟨m, n, s, O, t, g, d, u528001, rfl, rfl, rfl, HA, P, b, a, c, l, HB⟩ := hrel; cases gk with
  | zero => exact absurd HA.out (by simp [spec_DrawTwoCut.l0])
  | succ k1 =>
   have H := HA.out; clear HA; simp only [spec_DrawTwoCut.l0] at H; have ab := am H; clear H
   go_upto_region 4 with (fail)
   go_cut [26] (fun aM wc => ∃ (kq : Nat) (T : Bool) (E : Int), aM = .bool T ∧ Aside0 (spec_DrawTwoCut.j1 kq m n s T i E g d = some (x, y, z, A)) ∧ Aside0 (kq ≤ k1) ∧ Aside0 (Kd.R k44 44 wc w.heap.size (fun _ => True) u528001 d) ∧ Bk wc G (.cells #[.int .i64 O, (.slice none 0 0)] 25 (0, 0)) ∧ Bk wc aq (.cells #[.int .i64 g, u528001] 25 (0, 0)) ∧ Aside0 (IsS69 w wc j i E) ∧ Aside0 (Below w.heap.size w wc))
   case first =>
    have H := ab.out; clear ab; by_cases o : s < 12
    ·rw [if_pos o] at H; have u := decide_eq_true o; clear o; (first | rw [u] | (simp only [i64_w, i32_w]; rw [u]) | skip); obtain ⟨⟨au, av⟩, aN, H⟩ := bi_ H; (try dsimp only at H); have H' := am H; clear H
     go_wp2_with (first | (go_at_call 40; (with_reducible refine (spec_l6Rd_pick.calls k1 j i t 8 au av w _ ?z_1 ?z_2 aN.out).mono ?_); (case z_1 => exact IsS69.now); (case z_2 => exact bn HB); rintro e w15 ⟨rfl, hi, hb, hk⟩; replace b := am (Kd.R_mono (Kd.R_keep (IsS69.apart (show IsS69 w _ j i t from IsS69.now) (onR b) (by decide)) hk (fun _ h => h.2)) (fun _ h => h.1)); replace a := kb hk a D; replace c := kb hk c q; replace HB := am hb; replace l := am hi; (try clear hb hk hi)))
     go_meet
     case rel => exact ⟨_, (decide (au > 0)), (av), rs_, H', ⟨by have := P.out; first | omega | exact Nat.le_refl _⟩, ⟨onR b⟩, ⟨bkn a⟩, ⟨bkn c⟩, ⟨IsS69.now⟩, ⟨bn HB⟩⟩
    ·rw [if_neg o] at H; have u := decide_eq_false o; clear o; (first | rw [u] | (simp only [i64_w, i32_w]; rw [u]) | skip); have H' := am H; clear H; go_wp2
     go_meet
     case rel => exact ⟨_, (false), (t), rs_, H', ⟨by have := P.out; first | omega | exact Nat.le_refl _⟩, ⟨onR b⟩, ⟨bkn a⟩, ⟨bkn c⟩, ⟨IsS69.now⟩, ⟨bn HB⟩⟩
   case rest =>
    clear ab; (try clear o u ar); obtain ⟨kq, T, E, rfl, HA, aw, b, a, c, l, HB⟩ := hcut; cases kq with
    | zero => exact absurd HA.out (by simp [spec_DrawTwoCut.j1])
    | succ kj11 =>
     have H := HA.out; clear HA; simp only [spec_DrawTwoCut.j1] at H; by_cases ax : T = true
     ·subst ax; rw [if_pos rfl] at H; obtain ⟨⟨ay, aO⟩, az, H⟩ := bi_ H; (try dsimp only at H); by_cases aA : aO = true
      ·subst aA; rw [if_pos rfl] at H; simp only [Option.some.injEq, Prod.mk.injEq] at H; obtain ⟨rfl, rfl, rfl, rfl⟩ := H; have a4 := n2 L K; have a5 := n2 q M; have a6 := c2 c; obtain ⟨aB, aC, aP⟩ := Kd.R_slice b.out; subst aP
       go_wp2_with (first | ((with_reducible refine gate_callee (f := 15) rfl ?_); refine gl_ (some 33) Try.func15 #[.agg #[.int .i64 g, .slice aB d.length aC], .int .i64 m, .int .i64 n] ?_; (with_reducible refine (spec_TwoCut.calls kj11 g _ _ d m n ay true _ ?z_1 ?z_2 az.out).mono ?_); (case z_1 => exact (Kd.R_reads' (onR b)).2.2); (case z_2 => exact (Kd.R_reads' b.out).2.1); rintro e w23 ⟨rfl, hb⟩; refine ⟨_, rfl, ?_⟩; replace b := am (Kd.R_below (onR b) hb); replace a := bb a hb; replace c := bb c hb; replace l := am (IsS69.below (IsS69.now) hb); replace HB := bs HB hb; (try clear hb); have a7 := c2 c; have a8 := n2 D ap; have a9 := c2 a))
       refine bodyPost_ret (results_ctt rfl _ _ G 25 #[.int .i64 g, .slice aB d.length aC] (0, 0) _ rfl (bkn a) Try.underlying25 rfl (by kernel_rfl)) rfl ?_; exact ⟨_, er_, Kd.R_mono (onR b) (fun _ hk => trivial), bn HB⟩
      ·obtain rfl := nt_ aA; rw [if_neg nf_] at H; obtain ⟨⟨ad, ae, aD, aE, aF⟩, aQ, H⟩ := bi_ H; (try dsimp only at H); have H' := am H; clear H; have ba := n2 L K; have bd := n2 q M; have be := c2 c; obtain ⟨af, ag, aR⟩ := Kd.R_slice b.out; subst aR
       go_wp2_with (first | ((with_reducible refine gate_callee (f := 15) rfl ?_); refine gl_ (some 33) Try.func15 #[.agg #[.int .i64 g, .slice af d.length ag], .int .i64 m, .int .i64 n] ?_; (with_reducible refine (spec_TwoCut.calls kj11 g _ _ d m n ay false _ ?z_1 ?z_2 az.out).mono ?_); (case z_1 => exact (Kd.R_reads' (onR b)).2.2); (case z_2 => exact (Kd.R_reads' b.out).2.1); rintro e w32 ⟨rfl, hb⟩; refine ⟨_, rfl, ?_⟩; replace b := am (Kd.R_below (onR b) hb); replace a := bb a hb; replace c := bb c hb; replace l := am (IsS69.below (IsS69.now) hb); replace HB := bs HB hb; (try clear hb hi)) | ((with_reducible refine gate_callee (f := 39) rfl ?_); refine gl_ (some 42) Try.func39 #[.pointer (some ⟨j, 0, none⟩)] ?_; (with_reducible refine (spec_l71Pair.calls kj11 j i E ad ae aD aE aF w _ ?z_1 ?z_2 aQ.out).mono ?_); (case z_1 => exact IsS69.now); (case z_2 => exact bn HB); rintro e w33 ⟨bf, rfl, p, hi, hb, hk⟩; refine ⟨_, rfl, ?_⟩; replace a := kb hk a D; replace c := kb hk c q; have aG := am (Kd.R_lower (Kd.R_new' p (Kd.R_lt (onR b))) (below_size (bn HB))); replace b := am (Kd.R_mono (Kd.R_told (Kd.R_oldK (IsS69.apart (show IsS69 w _ j i E from IsS69.now) (onR b) (by decide)) hk) (Kd.R_base p)) (fun _ h_ => h_.1)); replace HB := am hb; replace l := am hi; (try clear hb hk hi p); have bg := c2 c; obtain ⟨aS, aT, aU⟩ := Kd.R_slice aG.out; subst aU))
       go_roundg kj11
       case measure => have := P.out; have := aw.out; omega
       case rel => exact ⟨(aD), (aE), (wrap64 (s + 1)), (O), (aF), (ad), (ae), (.slice aS ae.length aT), rs_, rs_, rs_, H', ⟨by have := P.out; have := aw.out; omega⟩, ⟨Kd.R_mono (onR aG) (fun _ hk => trivial)⟩, ⟨bkn a⟩, ⟨by (with_reducible repeat (first | refine blk_drewN ?_ _ | refine blk_drew ?_ | refine blk_alloc ?_ _)); refine blk_put (cs := #[.int .i64 ad, .slice af d.length ag]) ?_ 1 _ rfl; (with_reducible repeat (first | refine blk_drewN ?_ _ | refine blk_drew ?_ | refine blk_alloc ?_ _)); refine blk_put (cs := #[.int .i64 g, .slice af d.length ag]) ?_ 0 _ rfl; (with_reducible repeat (first | refine blk_drewN ?_ _ | refine blk_drew ?_ | refine blk_alloc ?_ _)); exact c.out⟩, ⟨IsS69.now⟩, ⟨bn HB⟩⟩
     ·obtain rfl := nt_ ax; rw [if_neg nf_] at H; simp only [Option.some.injEq, Prod.mk.injEq] at H; obtain ⟨rfl, rfl, rfl, rfl⟩ := H; have bh := n2 L K; have bi := n2 q M; have bj := c2 c; have bk := n2 D ap; have bl := c2 a; obtain ⟨aV, aW, aX⟩ := Kd.R_slice b.out; subst aX; go_wp2; refine bodyPost_ret (results_ctt rfl _ _ G 25 #[.int .i64 g, .slice aV d.length aW] (0, 0) _ rfl (bkn a) Try.underlying25 rfl (by kernel_rfl)) rfl ?_; exact ⟨_, er_, Kd.R_mono (onR b) (fun _ hk => trivial), bn HB⟩

end Go.Proofs.Ytlddkafpbhjpdaa.F
