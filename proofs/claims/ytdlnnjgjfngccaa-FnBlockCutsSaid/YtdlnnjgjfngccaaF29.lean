-- Written by oprint.py (wip/tools) over the kit's print program, for this seat.
import Derived.Test.YtdlnnjgjfngccaaF0
import Derived.Test.YtdlnnjgjfngccaaF17
namespace Go.Proofs.Ytdlnnjgjfngccaa.F
open Go.RowKit Go.Proofs.YtdlnnjgjfngccaaW.PrintWords Go.Proofs.YtdlnnjgjfngccaaW.PrintLast Go.Proofs.YtdlnnjgjfngccaaW.PrintMore
attribute [local go_sem] max2_int min2_int max_two min_two max_three min_three max_four min_four   -- for this text's walks alone
set_option linter.unusedVariables false
set_option linter.unusedSimpArgs false

/-! ### spec_NetWithout: function 98 -/
def spec_NetWithout.l0 : Nat → Int → Int → Int → List (S73) → Int → List (S73) → Option (Int × (List (S73)))
 | 0, _, _, _, _, _, _ => none
 | k + 1, x1, x6, x386000, x386001, x389000, x389001 => if x6 < (x386001.length : Int) then (if 0 ≤ x6 then (if ((rd_T73 x386001 x6).f0) = x1 then (spec_NetWithout.l0 k x1 (wrap64 (x6 + 1)) x386000 x386001 x389000 x389001) else (if ((rd_T73 x386001 x6).f1) = x1 then (spec_NetWithout.l0 k x1 (wrap64 (x6 + 1)) x386000 x386001 x389000 x389001) else (if x389001.length < 8796093022208 then (spec_NetWithout.l0 k x1 (wrap64 (x6 + 1)) x386000 x386001 x389000 (x389001 ++ [(⟨(rd_T73 x386001 x6).f0, (rd_T73 x386001 x6).f1⟩ : S73)])) else (none)))) else (none)) else (some (x389000, x389001))
def spec_NetWithout.f (k : Nat) (a0_0 : Int) (l0_1 : List (S73)) (a1 : Int) : Option (Int × (List (S73))) := (spec_l1Knot.f k a0_0 l0_1 a1).bind fun t387 => (if t387 = true then (spec_NetWithout.l0 k a1 0 a0_0 l0_1 a0_0 ([] : List (S73))) else (some (0, ([] : List (S73)))))
theorem spec_NetWithout.mono_l : ∀ k, (∀ y0 y1 y2 y3 y4 y5, LeO (spec_NetWithout.l0 k y0 y1 y2 y3 y4 y5) (spec_NetWithout.l0 (k + 1) y0 y1 y2 y3 y4 y5))
 | 0 => fun _ _ _ _ _ _ r h => by simp [spec_NetWithout.l0] at h
 | k + 1 => by
  have ih0 := spec_NetWithout.mono_l k
  ·intro y0 y1 y2 y3 y4 y5
   unfold spec_NetWithout.l0
   repeat' first
   | (with_reducible exact ih0 _ _ _ _ _ _)
   | (with_reducible exact spec_l1Knot.mono _ _ _ _)
   | (with_reducible exact LeO.refl _)
   | (with_reducible exact LeO.none _)
   | (with_reducible refine LeO.ite ?_ ?_)
   | (with_reducible refine LeO.bind ?_ (fun _ => ?_))
   | exact ih0 _ _ _ _ _ _
   | exact spec_l1Knot.mono _ _ _ _
   | exact LeO.none _
   | refine LeO.ite ?_ ?_
   | refine LeO.bind ?_ (fun _ => ?_)
theorem spec_NetWithout.mono : ∀ a0 a1 a2 k, LeO (spec_NetWithout.f k a0 a1 a2) (spec_NetWithout.f (k + 1) a0 a1 a2) := by
 intro a0 a1 a2 k
 have ih0 := spec_NetWithout.mono_l k
 unfold spec_NetWithout.f
 repeat' first
   | (with_reducible exact ih0 _ _ _ _ _ _)
   | (with_reducible exact spec_l1Knot.mono _ _ _ _)
   | (with_reducible exact LeO.refl _)
   | (with_reducible exact LeO.none _)
   | (with_reducible refine LeO.ite ?_ ?_)
   | (with_reducible refine LeO.bind ?_ (fun _ => ?_))
   | exact ih0 _ _ _ _ _ _
   | exact spec_l1Knot.mono _ _ _ _
   | exact LeO.none _
   | refine LeO.ite ?_ ?_
   | refine LeO.bind ?_ (fun _ => ?_)
def spec_NetWithout.T8 : Bool × List (List Nat × List Nat) := (true, [([], []), ([0], [0]), ([], []), ([2], [2]), ([], []), ([3, 4], [3, 4]), ([5], [5]), ([6], [6]), ([1, 7], [1, 7]), ([0, 1, 2, 3, 4, 5, 6, 7, 8], []), ([9, 8, 8, 0, 1, 2, 3, 4, 5, 6, 7, 8], [8, 9])])
def spec_NetWithout.B8 : List Nat := [0, 1, 0, 4, 0, 28, 60, 124, 255, 511, 1023]
theorem spec_NetWithout.tab8 : rtab .any (opsOf Try.f98 8) = spec_NetWithout.T8 := by kernel_rfl
theorem spec_NetWithout.bits8 : waitsOk spec_NetWithout.T8.2 spec_NetWithout.B8 = true := by kernel_rfl
set_option maxHeartbeats 8000000 in
set_option maxRecDepth 100000 in
theorem spec_NetWithout.calls (k : Nat) (a0_0 : Int) (A0_1 : Option Addr) (c0_1 : Nat) (l0_1 : List (S73)) (a1 : Int) (r1 : Int) (r2 : List (S73)) (w : World) (hr0_1 : Kd.C k73 w A0_1 l0_1.length l0_1) (hc0_1 : l0_1.length ≤ c0_1) (h : spec_NetWithout.f k a0_0 l0_1 a1 = some (r1, r2)) :
  Calls Try.prog 98 #[.agg #[.int .i64 a0_0, .slice A0_1 l0_1.length c0_1], .int .i64 a1] w fun e w' => ∃ v1_ : Value, e = .returned (.agg #[.int .i64 r1, v1_]) ∧ Kd.R k73 73 w' w.heap.size (fun _ => True) v1_ r2 ∧ Below w.heap.size w w' := by
 have hu34 := Try.underlying34
 have hu73 := Try.underlying73
 have HR0_1 := Aside0.mk hr0_1
 have HC0_1 := Aside0.mk hc0_1
 clear hr0_1 hc0_1
 have HB := Aside0.mk (Below.refl w.heap.size w)
 have H : ((spec_l1Knot.f k a0_0 l0_1 a1).bind fun t387 => (if t387 = true then (spec_NetWithout.l0 k a1 0 a0_0 l0_1 a0_0 ([] : List (S73))) else (some (0, ([] : List (S73)))))) = some (r1, r2) := h
 clear h
 replace H := Option.bind_eq_some_iff.mp H
 obtain ⟨t387, A30, H⟩ := H
 (try dsimp only at H)
 have A3 := Aside0.mk A30
 clear A30
 by_cases c4 : t387 = true
 ·subst c4
  rw [if_pos rfl] at H
  have H' := Aside0.mk H
  clear H
  go_enter Try.func98, Try.ntmps98
  go_wp2_with (first | ((with_reducible refine gate_dst (N := 2) rfl ?_); refine box_event ?hg (N := 2) ?hd (cs := #[.int .i64 a0_0, .slice A0_1 l0_1.length c0_1]) (t := 34) ?hr ?_; (case hd => rfl); (case hg => rfl); (case hr => first | (go_simp; done) | (go_simp; rfl)); intro gb385 hg w5 hbox hb; have n0_ := Aside0.mk (below_step (bn HB) hb); have n1_ := Aside0.mk (hbox); have n2_ := Aside0.mk ((by rw [hg]; exact (below_size (bn HB)) : w.heap.size ≤ gb385)); have n3_ := Aside0.mk ((by rw [hg]; exact (below_size (bn HB)) : w.heap.size ≤ gb385)); clear HB; have HB := n0_; have BK385 := n1_; have GW385 := n2_; have GE385 := n3_; clear n0_ n1_ n2_ n3_; clear hb hbox hg) | ((with_reducible refine gate_dst (N := 4) rfl ?_); refine box_event ?hg (N := 4) ?hd (cs := #[.int .i64 0, .slice none 0 0]) (t := 34) ?hr ?_; (case hd => rfl); (case hg => rfl); (case hr => first | (go_simp; done) | (go_simp; rfl)); intro gb386 hg w6 hbox hb; have n0_ := Aside0.mk (blk_below (bkn BK385) hb); have n1_ := Aside0.mk (below_step (bn HB) hb); have n2_ := Aside0.mk (hbox); have n3_ := Aside0.mk ((by rw [hg]; exact (below_size (bn HB)) : w.heap.size ≤ gb386)); have n4_ := Aside0.mk ((by rw [hg]; exact (below_size (bn HB)) : w.heap.size ≤ gb386)); have n5_ := Aside0.mk ((by rw [hg]; exact Nat.ne_of_lt (blk_lt (bkn BK385)) : gb385 ≠ gb386)); have n6_ := Aside0.mk ((by rw [hg]; exact Nat.ne_of_gt (blk_lt (bkn BK385)) : gb386 ≠ gb385)); clear BK385; clear HB; have BK385 := n0_; have HB := n1_; have BK386 := n2_; have GW386 := n3_; have GE386 := n4_; have NB385_386 := n5_; have NB386_385 := n6_; clear n0_ n1_ n2_ n3_ n4_ n5_ n6_; clear hb hbox hg; have hnb7 := NB385_386.out; have hnc7 := NB386_385.out; have hcz8_0 := bc BK385 0; have hcz8_1 := bc BK385 1; have hfz8_0 := blk_frozen BK385.out 0; have hfz8_1 := blk_frozen BK385.out 1) | ((with_reducible refine gate_callee (f := 87) rfl ?_); refine gl_ (some 9) Try.func87 #[.agg #[.int .i64 a0_0, .slice A0_1 l0_1.length c0_1], .int .i64 a1] ?_; (with_reducible refine (spec_l1Knot.calls k a0_0 _ _ l0_1 a1 true _ ?side1 ?side2 A3.out).mono ?_); (case side1 => repeat (first | exact (Kd.C_below HR0_1.out HB.out) | (with_reducible refine Kd.C_alloc ?_ _) | (with_reducible refine Kd.C_drewN ?_ _) | (with_reducible refine Kd.C_drew ?_))); (case side2 => exact HC0_1.out); rintro e w9 ⟨rfl, hb⟩; refine ⟨_, rfl, ?_⟩; have n0_ := Aside0.mk (blk_below (bkn BK385) hb); have n1_ := Aside0.mk (blk_below (bkn BK386) hb); have n2_ := Aside0.mk (below_step (bn HB) hb); clear BK385; clear BK386; clear HB; have BK385 := n0_; have BK386 := n1_; have HB := n2_; clear n0_ n1_ n2_; (try clear hb); have hcz10_0 := bc BK385 0; have hcz10_1 := bc BK385 1; have hfz10_0 := blk_frozen BK385.out 0; have hfz10_1 := blk_frozen BK385.out 1) | ((with_reducible refine gate_dst (N := 5) rfl ?_); refine box_event ?hg (N := 5) ?hd (cs := #[.int .i64 0, .slice none 0 0]) (t := 34) ?hr ?_; (case hd => rfl); (case hg => rfl); (case hr => first | (go_simp; done) | (go_simp; rfl)); intro gb388 hg w11 hbox hb; have n0_ := Aside0.mk (blk_below (bkn BK385) hb); have n1_ := Aside0.mk (blk_below (bkn BK386) hb); have n2_ := Aside0.mk (below_step (bn HB) hb); have n3_ := Aside0.mk (hbox); have n4_ := Aside0.mk ((by rw [hg]; exact (below_size (bn HB)) : w.heap.size ≤ gb388)); have n5_ := Aside0.mk ((by rw [hg]; exact (below_size (bn HB)) : w.heap.size ≤ gb388)); have n6_ := Aside0.mk ((by rw [hg]; exact Nat.ne_of_lt (blk_lt (bkn BK385)) : gb385 ≠ gb388)); have n7_ := Aside0.mk ((by rw [hg]; exact Nat.ne_of_gt (blk_lt (bkn BK385)) : gb388 ≠ gb385)); have n8_ := Aside0.mk ((by rw [hg]; exact Nat.ne_of_lt (blk_lt (bkn BK386)) : gb386 ≠ gb388)); have n9_ := Aside0.mk ((by rw [hg]; exact Nat.ne_of_gt (blk_lt (bkn BK386)) : gb388 ≠ gb386)); clear BK385; clear BK386; clear HB; have BK385 := n0_; have BK386 := n1_; have HB := n2_; have BK388 := n3_; have GW388 := n4_; have GE388 := n5_; have NB385_388 := n6_; have NB388_385 := n7_; have NB386_388 := n8_; have NB388_386 := n9_; clear n0_ n1_ n2_ n3_ n4_ n5_ n6_ n7_ n8_ n9_; clear hb hbox hg; have hnb12 := NB388_385.out; have hnc12 := NB385_388.out; have hnb13 := NB388_386.out; have hnc13 := NB386_388.out; have hcz14_0 := bc BK388 0; have hcz14_1 := bc BK388 1; have hfz14_0 := blk_frozen BK388.out 0; have hfz14_1 := blk_frozen BK388.out 1))
  go_loopg [6] k (fun kq v6 w' => ∃ (x6_1 : Int) (x389001_1 : List (S73)) (u389001 : Value), v6 = .int .i64 x6_1 ∧ Aside0 (spec_NetWithout.l0 kq a1 x6_1 a0_0 l0_1 a0_0 x389001_1 = some (r1, r2)) ∧ Aside0 (kq ≤ k) ∧ Aside0 (Kd.R k73 73 w' w.heap.size (fun _ => True) u389001 x389001_1) ∧ Aside0 (w'.heap[gb385]? = some (.cells #[.int .i64 a0_0, (.slice A0_1 l0_1.length c0_1)] 34 (0, 0))) ∧ Aside0 (w'.heap[gb386]? = some (.cells #[.int .i64 0, (.slice none 0 0)] 34 (0, 0))) ∧ Aside0 (w'.heap[gb388]? = some (.cells #[.int .i64 a0_0, u389001] 34 (0, 0))) ∧ Aside0 (Below w.heap.size w w'))
  case atStart => exact ⟨(0), (([] : List (S73))), (.slice none 0 0), (by first | rfl | (simp; done) | (simp [*]; done)), H', ⟨Nat.le_refl _⟩, ⟨by first | exact Kd.R_nil _ _ _ _ _ | exact Kd.N_nil _ _ _ _ _ | exact Kd.V_nil _ _ _ _ _ | exact Kd.Q_nil _ _ _ _ _ | exact Kd.S_nil _ _ _ _ _⟩, ⟨bkn BK385⟩, ⟨bkn BK386⟩, ⟨by (with_reducible repeat (first | refine blk_drewN ?_ _ | refine blk_drew ?_ | refine blk_alloc ?_ _)); refine blk_put (cs := #[.int .i64 a0_0, .slice none 0 0]) ?_ 1 _ rfl; (with_reducible repeat (first | refine blk_drewN ?_ _ | refine blk_drew ?_ | refine blk_alloc ?_ _)); refine blk_put (cs := #[.int .i64 0, .slice none 0 0]) ?_ 0 _ rfl; (with_reducible repeat (first | refine blk_drewN ?_ _ | refine blk_drew ?_ | refine blk_alloc ?_ _)); exact BK388.out⟩, ⟨bn HB⟩⟩
  case round =>
   clear H'
   try clear c1
   try clear p2
   try clear c4
   try clear c7
   try clear c8
   try clear c9
   try clear c12
   try clear c13
   try clear hcz10_0
   try clear hcz10_1
   try clear hcz14_0
   try clear hcz14_1
   try clear hcz8_0
   try clear hcz8_1
   try clear hfz10_0
   try clear hfz10_1
   try clear hfz14_0
   try clear hfz14_1
   try clear hfz8_0
   try clear hfz8_1
   obtain ⟨x6_1, x389001_1, u389001, rfl, HA, HK1, HO_389001, BK385, BK386, BK388, HB⟩ := hrel
   cases gk with
   | zero => exact absurd HA.out (by simp [spec_NetWithout.l0])
   | succ k1 =>
    have H := HA.out
    clear HA
    simp only [spec_NetWithout.l0] at H
    by_cases c15 : x6_1 < (l0_1.length : Int)
    ·rw [if_pos c15] at H
     have c15b0 := decide_eq_true c15
     clear c15
     by_cases c16 : 0 ≤ x6_1
     ·rw [if_pos c16] at H
      have c16b0 := decide_eq_true c16
      clear c16
      by_cases c17 : ((rd_T73 l0_1 x6_1).f0) = a1
      ·rw [if_pos c17] at H
       have c17b0 : (((rd_T73 l0_1 x6_1).f0) == a1) = true := beq_iff_eq.mpr c17
       have c17b1 : (((rd_T73 l0_1 x6_1).f0) != a1) = false := bne_eq_false_iff_eq.mpr c17
       clear c17
       have H' := Aside0.mk H
       clear H
       have hnb18 := NB385_386.out
       have hnc18 := NB386_385.out
       have hnb19 := NB385_388.out
       have hnc19 := NB388_385.out
       have hcz20_0 := bc BK385 0
       have hcz20_1 := bc BK385 1
       have hfz20_0 := blk_frozen BK385.out 0
       have hfz20_1 := blk_frozen BK385.out 1
       have p389 : 0 ≤ (x6_1 : Int) := oa
       have q389 : x6_1 < (l0_1.length : Int) := oa
       obtain ⟨ad389, e389, hx389_0, hx389_1⟩ := at_T73 HR0_1.out x6_1 p389 q389
       cases e389
       replace hx389_0 := (HB.out.cell (World.block_lt_of_cell? w _ hx389_0)).trans hx389_0
       replace hx389_1 := (HB.out.cell (World.block_lt_of_cell? w _ hx389_1)).trans hx389_1
       replace p389 := eq_true p389
       replace q389 := eq_true q389
       go_wp2
       go_roundg k1
       case measure => have := HK1.out; omega
       case rel => exact ⟨(wrap64 (x6_1 + 1)), (x389001_1), (u389001), (by first | rfl | (simp; done) | (simp [*]; done)), H', ⟨by have := HK1.out; omega⟩, ⟨onR HO_389001⟩, ⟨bkn BK385⟩, ⟨bkn BK386⟩, ⟨bkn BK388⟩, ⟨bn HB⟩⟩
      ·rw [if_neg c17] at H
       have c17b0 : (((rd_T73 l0_1 x6_1).f0) == a1) = false := beq_eq_false_iff_ne.mpr c17
       have c17b1 : (((rd_T73 l0_1 x6_1).f0) != a1) = true := bne_iff_ne.mpr c17
       by_cases c21 : ((rd_T73 l0_1 x6_1).f1) = a1
       ·rw [if_pos c21] at H
        have c21b0 : (((rd_T73 l0_1 x6_1).f1) == a1) = true := beq_iff_eq.mpr c21
        have c21b1 : (((rd_T73 l0_1 x6_1).f1) != a1) = false := bne_eq_false_iff_eq.mpr c21
        clear c21
        have H' := Aside0.mk H
        clear H
        have hnb22 := NB385_386.out
        have hnc22 := NB386_385.out
        have hnb23 := NB385_388.out
        have hnc23 := NB388_385.out
        have hcz24_0 := bc BK385 0
        have hcz24_1 := bc BK385 1
        have hfz24_0 := blk_frozen BK385.out 0
        have hfz24_1 := blk_frozen BK385.out 1
        have p389 : 0 ≤ (x6_1 : Int) := oa
        have q389 : x6_1 < (l0_1.length : Int) := oa
        obtain ⟨ad389, e389, hx389_0, hx389_1⟩ := at_T73 HR0_1.out x6_1 p389 q389
        cases e389
        replace hx389_0 := (HB.out.cell (World.block_lt_of_cell? w _ hx389_0)).trans hx389_0
        replace hx389_1 := (HB.out.cell (World.block_lt_of_cell? w _ hx389_1)).trans hx389_1
        replace p389 := eq_true p389
        replace q389 := eq_true q389
        have p390 : 0 ≤ (x6_1 : Int) := oa
        have q390 : x6_1 < (l0_1.length : Int) := oa
        obtain ⟨ad390, e390, hx390_0, hx390_1⟩ := at_T73 HR0_1.out x6_1 p390 q390
        obtain rfl : ad389 = ad390 := (by injection e390)
        replace hx390_0 := (HB.out.cell (World.block_lt_of_cell? w _ hx390_0)).trans hx390_0
        replace hx390_1 := (HB.out.cell (World.block_lt_of_cell? w _ hx390_1)).trans hx390_1
        replace p390 := eq_true p390
        replace q390 := eq_true q390
        go_wp2
        go_roundg k1
        case measure => have := HK1.out; omega
        case rel => exact ⟨(wrap64 (x6_1 + 1)), (x389001_1), (u389001), (by first | rfl | (simp; done) | (simp [*]; done)), H', ⟨by have := HK1.out; omega⟩, ⟨onR HO_389001⟩, ⟨bkn BK385⟩, ⟨bkn BK386⟩, ⟨bkn BK388⟩, ⟨bn HB⟩⟩
       ·rw [if_neg c21] at H
        have c21b0 : (((rd_T73 l0_1 x6_1).f1) == a1) = false := beq_eq_false_iff_ne.mpr c21
        have c21b1 : (((rd_T73 l0_1 x6_1).f1) != a1) = true := bne_iff_ne.mpr c21
        by_cases c25 : x389001_1.length < 8796093022208
        ·rw [if_pos c25] at H
         have LMc25 := Aside0.mk c25
         clear c25
         obtain ⟨y392, hy392⟩ : ∃ y_ : List (S73), y_ = (x389001_1 ++ [(⟨(rd_T73 l0_1 x6_1).f0, (rd_T73 l0_1 x6_1).f1⟩ : S73)]) := ⟨_, rfl⟩
         replace H : (spec_NetWithout.l0 k1 a1 (wrap64 (x6_1 + 1)) a0_0 l0_1 a0_0 y392) = some (r1, r2) := by first | (rw [hy392]; with_reducible exact H) | (have H2_ := (Option.bind_some _ _).symm.trans H; rw [hy392]; with_reducible exact H2_) | (have H2_ := (Option.bind_some _ _).symm.trans H; with_reducible exact H2_) | with_reducible exact H | (rw [hy392]; exact H) | exact H
         have Ny392 := Aside0.mk hy392
         clear hy392
         have H' := Aside0.mk H
         clear H
         have hnb26 := NB385_386.out
         have hnc26 := NB386_385.out
         have hnb27 := NB385_388.out
         have hnc27 := NB388_385.out
         have hcz28_0 := bc BK385 0
         have hcz28_1 := bc BK385 1
         have hfz28_0 := blk_frozen BK385.out 0
         have hfz28_1 := blk_frozen BK385.out 1
         have p389 : 0 ≤ (x6_1 : Int) := oa
         have q389 : x6_1 < (l0_1.length : Int) := oa
         obtain ⟨ad389, e389, hx389_0, hx389_1⟩ := at_T73 HR0_1.out x6_1 p389 q389
         cases e389
         replace hx389_0 := (HB.out.cell (World.block_lt_of_cell? w _ hx389_0)).trans hx389_0
         replace hx389_1 := (HB.out.cell (World.block_lt_of_cell? w _ hx389_1)).trans hx389_1
         replace p389 := eq_true p389
         replace q389 := eq_true q389
         have p390 : 0 ≤ (x6_1 : Int) := oa
         have q390 : x6_1 < (l0_1.length : Int) := oa
         obtain ⟨ad390, e390, hx390_0, hx390_1⟩ := at_T73 HR0_1.out x6_1 p390 q390
         obtain rfl : ad389 = ad390 := (by injection e390)
         replace hx390_0 := (HB.out.cell (World.block_lt_of_cell? w _ hx390_0)).trans hx390_0
         replace hx390_1 := (HB.out.cell (World.block_lt_of_cell? w _ hx390_1)).trans hx390_1
         replace p390 := eq_true p390
         replace q390 := eq_true q390
         try go_wp2
         have n0_ := Aside0.mk (Kd.R_drew HO_389001.out)
         have n1_ := Aside0.mk (blk_drew BK385.out)
         have n2_ := Aside0.mk (blk_drew BK386.out)
         have n3_ := Aside0.mk (blk_drew BK388.out)
         have n4_ := Aside0.mk (below_drew1 HB.out)
         clear HO_389001 BK385 BK386 BK388 HB
         have HO_389001 := n0_
         have BK385 := n1_
         have BK386 := n2_
         have BK388 := n3_
         have HB := n4_
         clear n0_ n1_ n2_ n3_ n4_
         have p391 : 0 ≤ (x6_1 : Int) := oa
         have q391 : x6_1 < (l0_1.length : Int) := oa
         obtain ⟨ad391, e391, hx391_0, hx391_1⟩ := at_T73 HR0_1.out x6_1 p391 q391
         have hw391_1 := hx391_1
         have hw391_0 := hx391_0
         obtain rfl : ad389 = ad391 := (by injection e391)
         replace hx391_0 := (HB.out.cell (World.block_lt_of_cell? w _ hx391_0)).trans hx391_0
         replace hx391_1 := (HB.out.cell (World.block_lt_of_cell? w _ hx391_1)).trans hx391_1
         replace p391 := eq_true p391
         replace q391 := eq_true q391
         refine start_ (n := 11) (S := fun w' => w'.cell? ⟨gb388, 0, none⟩ = some (.int .i64 a0_0) ∧ w'.cell? ⟨gb388, 1, none⟩ = some (u389001) ∧ w'.cell? ⟨gb385, 0, none⟩ = some (.int .i64 a0_0) ∧ w'.cell? ⟨gb385, 1, none⟩ = some (.slice (some ad389) l0_1.length c0_1) ∧ w'.cell? (ad389.add ((x6_1).toNat * 2)) = some (.int .i64 ((rd_T73 l0_1 x6_1).f0)) ∧ w'.cell? ⟨(ad389.add ((x6_1).toNat * 2)).block, (ad389.add ((x6_1).toNat * 2)).off + 1, none⟩ = some (.int .i64 ((rd_T73 l0_1 x6_1).f1))) (ds := [10]) #[false, false, false, false, false, false, false, false, false, false, false] (by kernel_rfl) rfl rfl ⟨(blk_cell BK388.out 0).trans rfl, (blk_cell BK388.out 1).trans rfl, (blk_cell BK385.out 0).trans rfl, (blk_cell BK385.out 1).trans rfl, ((HB.out.cell (World.block_lt_of_cell? w _ hw391_0)).trans hw391_0), ((HB.out.cell (World.block_lt_of_cell? w _ hw391_1)).trans hw391_1)⟩ (fun hHeld => ?_); refine with_tabW spec_NetWithout.tab8 spec_NetWithout.bits8 (fun HT_ HW_ => ?_)
         generalize wr.drew = w29 at HO_389001 BK385 BK386 BK388 HB hx391_0 hx391_1 hHeld ⊢
         refine pz_ 0 (some 40) HT_ ?_
         refine pz_ 2 (some 42) HT_ ?_
         refine pz_ 4 (some 44) HT_ ?_
         refine tz_ 1 (some 41) HT_ HW_ hHeld ?_
         refine tz_ 3 (some 43) HT_ HW_ hHeld ?_
         refine pz_ 5 (some 45) HT_ ?_
         refine tz_ 6 (some 46) HT_ HW_ hHeld ?_
         refine one_ (i := 7) (N := some 47) #[true, true, true, true, true, true, true, true, false, false, false] rfl rfl (one_of HT_.out (by kernel_rfl)) (by decide) (fun K hK => ?_)
         refine value_ (w1 := ?_) (v := ?_) (by rfl) rfl ?_ ?_
         rotate_left 2
         ·go_simp
          constructor
          ·rfl
          ·rfl
         refine hK.out _ _ ⟨(blk_cell (blk_alloc BK388.out _) 0).trans rfl, (blk_cell (blk_alloc BK388.out _) 1).trans rfl, (blk_cell (blk_alloc BK385.out _) 0).trans rfl, (blk_cell (blk_alloc BK385.out _) 1).trans rfl, (World.cell?_alloc_lt _ _ _ (World.block_lt_of_cell? _ _ (((HB.out.cell (World.block_lt_of_cell? w _ hw391_0)).trans hw391_0)))).trans (((HB.out.cell (World.block_lt_of_cell? w _ hw391_0)).trans hw391_0)), (World.cell?_alloc_lt _ _ _ (World.block_lt_of_cell? _ _ (((HB.out.cell (World.block_lt_of_cell? w _ hw391_1)).trans hw391_1)))).trans (((HB.out.cell (World.block_lt_of_cell? w _ hw391_1)).trans hw391_1))⟩ (fun hHeld => ?_)
         clear hK K
         refine norm_ (a' := ?_) ?_ ?_
         rotate_left
         ·show Act.put _ (some 47) _ = _
          simp only [Act.put, List.setIfInBounds_toArray, List.set_cons_zero, List.set_cons_succ, i64_w, i32_w]
          rfl
         refine one_ (i := 8) (N := some 48) #[true, true, true, true, true, true, true, true, true, false, false] rfl rfl (one_of HT_.out (by kernel_rfl)) (by decide) (fun K hK => ?_)
         refine Kd.R_append_step k73 (w0 := w) w.heap.size (by rfl) (.tmp 41) (.tmp 47) 32 73 (.agg #[(.int .i64 0), (.int .i64 0)]) 16 rfl Try.underlying32 info73 rfl (by decide) (by omega) u389001 x389001_1 (⟨(rd_T73 l0_1 x6_1).f0, (rd_T73 l0_1 x6_1).f1⟩ : S73) [.int .i64 ((rd_T73 l0_1 x6_1).f0), .int .i64 ((rd_T73 l0_1 x6_1).f1)] (fun _ => True) (fun _ => False) rfl rfl ?aP (fun _ hk => hk.elim) ?aF ?aO ?aB ?aS ?aL ?_
         (case aP => exact k73_mkM _ _ _ (⟨(rd_T73 l0_1 x6_1).f0, (rd_T73 l0_1 x6_1).f1⟩ : S73))
         (case aB => exact (bn HB))
         (case aF => exact (fun _ _ => trivial))
         (case aO => exact (onR HO_389001))
         (case aS => exact (below_size (bn HB)))
         (case aL => have := LMc25.out; omega)
         intro v393 w30 ho hb hg hat
         rw [← Ny392.out] at ho
         have n0_ := Aside0.mk (blk_grown (bkn BK385) hg (Kd.R_ne HO_389001.out BK385.out (by decide)))
         have n1_ := Aside0.mk (blk_grown (bkn BK386) hg (Kd.R_ne HO_389001.out BK386.out (by decide)))
         have n2_ := Aside0.mk (blk_grown (bkn BK388) hg (Kd.R_ne HO_389001.out BK388.out (by decide)))
         have n3_ := Aside0.mk (hb)
         have n4_ := Aside0.mk (ho)
         clear BK385 BK386 BK388 HB HO_389001
         have BK385 := n0_
         have BK386 := n1_
         have BK388 := n2_
         have HB := n3_
         have HO394 := n4_
         clear n0_ n1_ n2_ n3_ n4_ ho hb hg hat
         obtain ⟨Ao31, co31, eo31⟩ := Kd.R_slice HO394.out
         (first | subst eo31 | (injection eo31 with f1_ f2_ f3_; have f4_ := f1_.symm; have f5_ := f3_.symm; clear f1_ f2_ f3_; subst f4_; subst f5_))
         refine hK.out _ _ ⟨(blk_cell BK388.out 0).trans rfl, (blk_cell BK388.out 1).trans rfl, (blk_cell BK385.out 0).trans rfl, (blk_cell BK385.out 1).trans rfl, ((HB.out.cell (World.block_lt_of_cell? w _ hw391_0)).trans hw391_0), ((HB.out.cell (World.block_lt_of_cell? w _ hw391_1)).trans hw391_1)⟩ (fun hHeld => ?_)
         clear hK K
         refine norm_ (a' := ?_) ?_ ?_
         rotate_left
         ·show Act.put _ (some 48) _ = _
          simp only [Act.put, List.setIfInBounds_toArray, List.set_cons_zero, List.set_cons_succ, i64_w, i32_w]
          rfl
         refine pz_ 9 (some 49) HT_ ?_
         refine last_ (i := 10) (N := none) #[true, true, true, true, true, true, true, true, true, true, true] rfl rfl (one_of HT_.out (by kernel_rfl)) (by decide) (fun K hK => ?_)
         have hs32 := bc BK388 1
         have hfs32 := blk_frozen BK388.out 1
         have hns32_0 := NB385_388.out
         have hns32_1 := NB386_388.out
         have hms32_0 := NB388_385.out
         have hms32_1 := NB388_386.out
         refine skip_ (w1 := ?_) (by rfl) rfl ?_ ?_
         rotate_left
         ·go_simp
          rfl
         refine hK.out _ _ ?_
         clear hK K
         refine done_ (done_of HT_.out (by kernel_rfl)) ?_
         try go_wp2
         go_roundg k1
         case measure => have := HK1.out; omega
         case rel => exact ⟨(wrap64 (x6_1 + 1)), (y392), (.slice Ao31 y392.length co31), (by first | rfl | (simp; done) | (simp [*]; done)), H', ⟨by have := HK1.out; omega⟩, ⟨by (with_reducible repeat (first | apply Kd.R_alloc | apply Kd.R_drewN | apply Kd.R_drew)); exact Kd.R_mono (Kd.R_far (p := ⟨gb388, 1, none⟩) (Kd.R_types HO394.out BK388.out (by decide)) (fun _ hk => hk.2) (.slice Ao31 y392.length co31)) (fun _ hk => trivial)⟩, ⟨bkn BK385⟩, ⟨bkn BK386⟩, ⟨by (with_reducible repeat (first | refine blk_drewN ?_ _ | refine blk_drew ?_ | refine blk_alloc ?_ _)); refine blk_put (cs := #[.int .i64 a0_0, u389001]) ?_ 1 _ rfl; (with_reducible repeat (first | refine blk_drewN ?_ _ | refine blk_drew ?_ | refine blk_alloc ?_ _)); exact BK388.out⟩, ⟨bn HB⟩⟩
        ·rw [if_neg c25] at H
         exact absurd H (by simp)
     ·rw [if_neg c16] at H
      exact absurd H (by simp)
    ·rw [if_neg c15] at H
     have c15b0 := decide_eq_false c15
     clear c15
     simp only [Option.some.injEq, Prod.mk.injEq] at H
     obtain ⟨rfl, rfl⟩ := H
     have hnb33 := NB385_386.out
     have hnc33 := NB386_385.out
     have hnb34 := NB385_388.out
     have hnc34 := NB388_385.out
     have hcz35_0 := bc BK385 0
     have hcz35_1 := bc BK385 1
     have hfz35_0 := blk_frozen BK385.out 0
     have hfz35_1 := blk_frozen BK385.out 1
     have hnb36 := NB388_386.out
     have hnc36 := NB386_388.out
     have hcz37_0 := bc BK388 0
     have hcz37_1 := bc BK388 1
     have hfz37_0 := blk_frozen BK388.out 0
     have hfz37_1 := blk_frozen BK388.out 1
     have hcz38_0 := bc BK386 0
     have hcz38_1 := bc BK386 1
     have hfz38_0 := blk_frozen BK386.out 0
     have hfz38_1 := blk_frozen BK386.out 1
     obtain ⟨Ao39, co39, eo39⟩ := Kd.R_slice HO_389001.out
     subst eo39
     go_wp2
     refine bodyPost_ret (results_cell_row rfl _ _ gb386 34 #[.int .i64 a0_0, .slice Ao39 x389001_1.length co39] (0, 0) _ rfl (by (with_reducible repeat (first | refine blk_drewN ?_ _ | refine blk_drew ?_ | refine blk_alloc ?_ _)); refine blk_put (cs := #[.int .i64 a0_0, .slice none 0 0]) ?_ 1 _ rfl; (with_reducible repeat (first | refine blk_drewN ?_ _ | refine blk_drew ?_ | refine blk_alloc ?_ _)); refine blk_put (cs := #[.int .i64 0, .slice none 0 0]) ?_ 0 _ rfl; (with_reducible repeat (first | refine blk_drewN ?_ _ | refine blk_drew ?_ | refine blk_alloc ?_ _)); exact BK386.out) Try.underlying34 rfl (by kernel_rfl)) rfl ?_
     exact ⟨_, by first | rfl | (simp [errW_none, errW_some] <;> rfl) | (simp [*, errW_none, errW_some] <;> rfl), by (with_reducible repeat (first | apply Kd.R_alloc | apply Kd.R_drewN | apply Kd.R_drew)); exact Kd.R_mono (Kd.R_far (p := ⟨gb386, 1, none⟩) (Kd.R_far (p := ⟨gb386, 0, none⟩) (Kd.R_types HO_389001.out BK386.out (by decide)) (fun _ hk => hk.2) (.int .i64 a0_0)) (fun _ hk => hk.2) (.slice Ao39 x389001_1.length co39)) (fun _ hk => trivial), bn HB⟩
 ·replace c4 := Bool.eq_false_iff.mpr c4
  subst c4
  rw [if_neg (show ¬ (false = true) by decide)] at H
  simp only [Option.some.injEq, Prod.mk.injEq] at H
  obtain ⟨rfl, rfl⟩ := H
  go_enter Try.func98, Try.ntmps98
  go_wp2_with (first | ((with_reducible refine gate_dst (N := 2) rfl ?_); refine box_event ?hg (N := 2) ?hd (cs := #[.int .i64 a0_0, .slice A0_1 l0_1.length c0_1]) (t := 34) ?hr ?_; (case hd => rfl); (case hg => rfl); (case hr => first | (go_simp; done) | (go_simp; rfl)); intro gb385 hg w40 hbox hb; have n0_ := Aside0.mk (below_step (bn HB) hb); have n1_ := Aside0.mk (hbox); have n2_ := Aside0.mk ((by rw [hg]; exact (below_size (bn HB)) : w.heap.size ≤ gb385)); have n3_ := Aside0.mk ((by rw [hg]; exact (below_size (bn HB)) : w.heap.size ≤ gb385)); clear HB; have HB := n0_; have BK385 := n1_; have GW385 := n2_; have GE385 := n3_; clear n0_ n1_ n2_ n3_; clear hb hbox hg) | ((with_reducible refine gate_dst (N := 4) rfl ?_); refine box_event ?hg (N := 4) ?hd (cs := #[.int .i64 0, .slice none 0 0]) (t := 34) ?hr ?_; (case hd => rfl); (case hg => rfl); (case hr => first | (go_simp; done) | (go_simp; rfl)); intro gb386 hg w41 hbox hb; have n0_ := Aside0.mk (blk_below (bkn BK385) hb); have n1_ := Aside0.mk (below_step (bn HB) hb); have n2_ := Aside0.mk (hbox); have n3_ := Aside0.mk ((by rw [hg]; exact (below_size (bn HB)) : w.heap.size ≤ gb386)); have n4_ := Aside0.mk ((by rw [hg]; exact (below_size (bn HB)) : w.heap.size ≤ gb386)); have n5_ := Aside0.mk ((by rw [hg]; exact Nat.ne_of_lt (blk_lt (bkn BK385)) : gb385 ≠ gb386)); have n6_ := Aside0.mk ((by rw [hg]; exact Nat.ne_of_gt (blk_lt (bkn BK385)) : gb386 ≠ gb385)); clear BK385; clear HB; have BK385 := n0_; have HB := n1_; have BK386 := n2_; have GW386 := n3_; have GE386 := n4_; have NB385_386 := n5_; have NB386_385 := n6_; clear n0_ n1_ n2_ n3_ n4_ n5_ n6_; clear hb hbox hg; have hnb42 := NB385_386.out; have hnc42 := NB386_385.out; have hcz43_0 := bc BK385 0; have hcz43_1 := bc BK385 1; have hfz43_0 := blk_frozen BK385.out 0; have hfz43_1 := blk_frozen BK385.out 1) | ((with_reducible refine gate_callee (f := 87) rfl ?_); refine gl_ (some 9) Try.func87 #[.agg #[.int .i64 a0_0, .slice A0_1 l0_1.length c0_1], .int .i64 a1] ?_; (with_reducible refine (spec_l1Knot.calls k a0_0 _ _ l0_1 a1 false _ ?side1 ?side2 A3.out).mono ?_); (case side1 => repeat (first | exact (Kd.C_below HR0_1.out HB.out) | (with_reducible refine Kd.C_alloc ?_ _) | (with_reducible refine Kd.C_drewN ?_ _) | (with_reducible refine Kd.C_drew ?_))); (case side2 => exact HC0_1.out); rintro e w44 ⟨rfl, hb⟩; refine ⟨_, rfl, ?_⟩; have n0_ := Aside0.mk (blk_below (bkn BK385) hb); have n1_ := Aside0.mk (blk_below (bkn BK386) hb); have n2_ := Aside0.mk (below_step (bn HB) hb); clear BK385; clear BK386; clear HB; have BK385 := n0_; have BK386 := n1_; have HB := n2_; clear n0_ n1_ n2_; (try clear hb); have hcz45_0 := bc BK386 0; have hcz45_1 := bc BK386 1; have hfz45_0 := blk_frozen BK386.out 0; have hfz45_1 := blk_frozen BK386.out 1))
  refine bodyPost_ret (results_cell_row rfl _ _ gb386 34 #[.int .i64 0, .slice none 0 0] (0, 0) _ rfl (by (with_reducible repeat (first | refine blk_drewN ?_ _ | refine blk_drew ?_ | refine blk_alloc ?_ _)); refine blk_put (cs := #[.int .i64 0, .slice none 0 0]) ?_ 1 _ rfl; (with_reducible repeat (first | refine blk_drewN ?_ _ | refine blk_drew ?_ | refine blk_alloc ?_ _)); refine blk_put (cs := #[.int .i64 0, .slice none 0 0]) ?_ 0 _ rfl; (with_reducible repeat (first | refine blk_drewN ?_ _ | refine blk_drew ?_ | refine blk_alloc ?_ _)); exact BK386.out) Try.underlying34 rfl (by kernel_rfl)) rfl ?_
  exact ⟨_, by first | rfl | (simp [errW_none, errW_some] <;> rfl) | (simp [*, errW_none, errW_some] <;> rfl), by first | exact Kd.R_nil _ _ _ _ _ | exact Kd.N_nil _ _ _ _ _ | exact Kd.V_nil _ _ _ _ _ | exact Kd.Q_nil _ _ _ _ _ | exact Kd.S_nil _ _ _ _ _, bn HB⟩

/-! ### impl_Net_without: function 101 -/
def impl_Net_without.l0 : Nat → Int → List (S73) → Int → Int → Int → List (S73) → Option (Int × (List (S73)))
 | 0, _, _, _, _, _, _ => none
 | k + 1, x1, x13, x14, x15, x438000, x438001 => if x15 < x14 then (if 0 ≤ x15 then (if x15 < (x13.length : Int) then (if ((rd_T73 x13 x15).f0) = x1 then (impl_Net_without.l0 k x1 x13 x14 (wrap64 (x15 + 1)) x438000 x438001) else (if ((rd_T73 x13 x15).f1) = x1 then (impl_Net_without.l0 k x1 x13 x14 (wrap64 (x15 + 1)) x438000 x438001) else (if x438001.length < 8796093022208 then (impl_Net_without.l0 k x1 x13 x14 (wrap64 (x15 + 1)) x438000 (x438001 ++ [(⟨(rd_T73 x13 x15).f0, (rd_T73 x13 x15).f1⟩ : S73)])) else (none)))) else (none)) else (none)) else (some (x438000, x438001))
def impl_Net_without.f (k : Nat) (a0_0 : Int) (l0_1 : List (S73)) (a1 : Int) : Option (Int × (List (S73))) := impl_Net_without.l0 k a1 l0_1 (l0_1.length : Int) 0 a0_0 (([] : List (S73)))
theorem impl_Net_without.mono_l : ∀ k, (∀ y0 y1 y2 y3 y4 y5, LeO (impl_Net_without.l0 k y0 y1 y2 y3 y4 y5) (impl_Net_without.l0 (k + 1) y0 y1 y2 y3 y4 y5))
 | 0 => fun _ _ _ _ _ _ r h => by simp [impl_Net_without.l0] at h
 | k + 1 => by
  have ih0 := impl_Net_without.mono_l k
  ·intro y0 y1 y2 y3 y4 y5
   unfold impl_Net_without.l0
   repeat' first
   | (with_reducible exact ih0 _ _ _ _ _ _)
   | (with_reducible exact LeO.refl _)
   | (with_reducible exact LeO.none _)
   | (with_reducible refine LeO.ite ?_ ?_)
   | (with_reducible refine LeO.bind ?_ (fun _ => ?_))
   | exact ih0 _ _ _ _ _ _
   | exact LeO.none _
   | refine LeO.ite ?_ ?_
   | refine LeO.bind ?_ (fun _ => ?_)
theorem impl_Net_without.mono : ∀ a0 a1 a2 k, LeO (impl_Net_without.f k a0 a1 a2) (impl_Net_without.f (k + 1) a0 a1 a2) := by
 intro a0 a1 a2 k
 have ih0 := impl_Net_without.mono_l k
 unfold impl_Net_without.f
 repeat' first
   | (with_reducible exact ih0 _ _ _ _ _ _)
   | (with_reducible exact LeO.refl _)
   | (with_reducible exact LeO.none _)
   | (with_reducible refine LeO.ite ?_ ?_)
   | (with_reducible refine LeO.bind ?_ (fun _ => ?_))
   | exact ih0 _ _ _ _ _ _
   | exact LeO.none _
   | refine LeO.ite ?_ ?_
   | refine LeO.bind ?_ (fun _ => ?_)
set_option maxHeartbeats 8000000 in
set_option maxRecDepth 100000 in
theorem impl_Net_without.calls (k : Nat) (a0_0 : Int) (A0_1 : Option Addr) (c0_1 : Nat) (l0_1 : List (S73)) (a1 : Int) (r1 : Int) (r2 : List (S73)) (w : World) (hr0_1 : Kd.C k73 w A0_1 l0_1.length l0_1) (hc0_1 : l0_1.length ≤ c0_1) (h : impl_Net_without.f k a0_0 l0_1 a1 = some (r1, r2)) :
  Calls Try.prog 101 #[.agg #[.int .i64 a0_0, .slice A0_1 l0_1.length c0_1], .int .i64 a1] w fun e w' => ∃ v1_ : Value, e = .returned (.agg #[.int .i64 r1, v1_]) ∧ Kd.R k73 73 w' w.heap.size (fun _ => True) v1_ r2 ∧ Below w.heap.size w w' := by
 have hu34 := Try.underlying34
 have hu73 := Try.underlying73
 have HR0_1 := Aside0.mk hr0_1
 have HC0_1 := Aside0.mk hc0_1
 clear hr0_1 hc0_1
 have HB := Aside0.mk (Below.refl w.heap.size w)
 have H : (impl_Net_without.l0 k a1 l0_1 (l0_1.length : Int) 0 a0_0 (([] : List (S73)))) = some (r1, r2) := h
 clear h
 obtain ⟨y434, hy434⟩ : ∃ y_ : List (S73), y_ = (([] : List (S73))) := ⟨_, rfl⟩
 replace H : (impl_Net_without.l0 k a1 l0_1 (l0_1.length : Int) 0 a0_0 y434) = some (r1, r2) := by first | (rw [hy434]; with_reducible exact H) | (have H2_ := (Option.bind_some _ _).symm.trans H; rw [hy434]; with_reducible exact H2_) | (have H2_ := (Option.bind_some _ _).symm.trans H; with_reducible exact H2_) | with_reducible exact H | (rw [hy434]; exact H) | exact H
 have Ny434 := Aside0.mk hy434
 clear hy434
 have H' := Aside0.mk H
 clear H
 go_enter Try.func101, Try.ntmps101
 go_wp2_with (first | ((with_reducible refine gate_dst (N := 2) rfl ?_); refine box_event ?hg (N := 2) ?hd (cs := #[.int .i64 a0_0, .slice A0_1 l0_1.length c0_1]) (t := 34) ?hr ?_; (case hd => rfl); (case hg => rfl); (case hr => first | (go_simp; done) | (go_simp; rfl)); intro gb432 hg w3 hbox hb; have n0_ := Aside0.mk (below_step (bn HB) hb); have n1_ := Aside0.mk (hbox); have n2_ := Aside0.mk ((by rw [hg]; exact (below_size (bn HB)) : w.heap.size ≤ gb432)); have n3_ := Aside0.mk ((by rw [hg]; exact (below_size (bn HB)) : w.heap.size ≤ gb432)); clear HB; have HB := n0_; have BK432 := n1_; have GW432 := n2_; have GE432 := n3_; clear n0_ n1_ n2_ n3_; clear hb hbox hg) | ((with_reducible refine gate_dst (N := 4) rfl ?_); refine box_event ?hg (N := 4) ?hd (cs := #[.int .i64 0, .slice none 0 0]) (t := 34) ?hr ?_; (case hd => rfl); (case hg => rfl); (case hr => first | (go_simp; done) | (go_simp; rfl)); intro gb433 hg w4 hbox hb; have n0_ := Aside0.mk (blk_below (bkn BK432) hb); have n1_ := Aside0.mk (below_step (bn HB) hb); have n2_ := Aside0.mk (hbox); have n3_ := Aside0.mk ((by rw [hg]; exact (below_size (bn HB)) : w.heap.size ≤ gb433)); have n4_ := Aside0.mk ((by rw [hg]; exact (below_size (bn HB)) : w.heap.size ≤ gb433)); have n5_ := Aside0.mk ((by rw [hg]; exact Nat.ne_of_lt (blk_lt (bkn BK432)) : gb432 ≠ gb433)); have n6_ := Aside0.mk ((by rw [hg]; exact Nat.ne_of_gt (blk_lt (bkn BK432)) : gb433 ≠ gb432)); clear BK432; clear HB; have BK432 := n0_; have HB := n1_; have BK433 := n2_; have GW433 := n3_; have GE433 := n4_; have NB432_433 := n5_; have NB433_432 := n6_; clear n0_ n1_ n2_ n3_ n4_ n5_ n6_; clear hb hbox hg; have hnb5 := NB432_433.out; have hnc5 := NB433_432.out; have hcz6_0 := bc BK432 0; have hcz6_1 := bc BK432 1; have hfz6_0 := blk_frozen BK432.out 0; have hfz6_1 := blk_frozen BK432.out 1) | ((with_reducible refine gate_dst (N := 10) rfl ?_); refine Kd.R_lit k73 _ 73 ?hg (N := 10) ?hd (xs := ([] : List (S73))) (inner := []) (ok := fun _ => True) (okp := fun _ => True) ?hr ?hp (fun _ hk => hk) trivial (Below.refl _ _) (Nat.le_refl _) (by simp) ?_; (case hd => rfl); (case hg => rfl); (case hr => first | (go_simp; done) | (go_simp; rfl)); (case hp => exact (Reps.none _ _)); intro v435 w7 ho8 hb hg_ hnew_; clear hg_ hnew_; (first | rw [← Ny434.out] at ho8 | (simp only [Int.reduceToNat] at ho8; rw [← Ny434.out] at ho8)); have n0_ := Aside0.mk (Kd.R_lower ho8 (below_size (bn HB))); have n1_ := Aside0.mk (blk_below (bkn BK432) hb); have n2_ := Aside0.mk (blk_below (bkn BK433) hb); have n3_ := Aside0.mk (below_step (bn HB) hb); clear BK432; clear BK433; clear HB; have HO436 := n0_; have BK432 := n1_; have BK433 := n2_; have HB := n3_; clear n0_ n1_ n2_ n3_; clear hb ho8; obtain ⟨Ao9, co9, eo9⟩ := Kd.R_slice HO436.out; subst eo9) | ((with_reducible refine gate_dst (N := 5) rfl ?_); refine box_event ?hg (N := 5) ?hd (cs := #[.int .i64 0, .slice none 0 0]) (t := 34) ?hr ?_; (case hd => rfl); (case hg => rfl); (case hr => first | (go_simp; done) | (go_simp; rfl)); intro gb437 hg w10 hbox hb; have n0_ := Aside0.mk (Kd.R_below (onR HO436) hb); have n1_ := Aside0.mk (blk_below (bkn BK432) hb); have n2_ := Aside0.mk (blk_below (bkn BK433) hb); have n3_ := Aside0.mk (below_step (bn HB) hb); have n4_ := Aside0.mk (hbox); have n5_ := Aside0.mk ((by rw [hg]; exact (below_size (bn HB)) : w.heap.size ≤ gb437)); have n6_ := Aside0.mk ((by rw [hg]; exact (below_size (bn HB)) : w.heap.size ≤ gb437)); have n7_ := Aside0.mk ((by rw [hg]; exact Nat.ne_of_lt (blk_lt (bkn BK432)) : gb432 ≠ gb437)); have n8_ := Aside0.mk ((by rw [hg]; exact Nat.ne_of_gt (blk_lt (bkn BK432)) : gb437 ≠ gb432)); have n9_ := Aside0.mk ((by rw [hg]; exact Nat.ne_of_lt (blk_lt (bkn BK433)) : gb433 ≠ gb437)); have n10_ := Aside0.mk ((by rw [hg]; exact Nat.ne_of_gt (blk_lt (bkn BK433)) : gb437 ≠ gb433)); clear HO436; clear BK432; clear BK433; clear HB; have HO436 := n0_; have BK432 := n1_; have BK433 := n2_; have HB := n3_; have BK437 := n4_; have GW437 := n5_; have GE437 := n6_; have NB432_437 := n7_; have NB437_432 := n8_; have NB433_437 := n9_; have NB437_433 := n10_; clear n0_ n1_ n2_ n3_ n4_ n5_ n6_ n7_ n8_ n9_ n10_; clear hb hbox hg; have hnb11 := NB437_432.out; have hnc11 := NB432_437.out; have hnb12 := NB437_433.out; have hnc12 := NB433_437.out; have hcz13_0 := bc BK437 0; have hcz13_1 := bc BK437 1; have hfz13_0 := blk_frozen BK437.out 0; have hfz13_1 := blk_frozen BK437.out 1; have hcz14_0 := bc BK432 0; have hcz14_1 := bc BK432 1; have hfz14_0 := blk_frozen BK432.out 0; have hfz14_1 := blk_frozen BK432.out 1))
 go_loopg [15] k (fun kq v15 w' => ∃ (x15_1 : Int) (x438001_1 : List (S73)) (u438001 : Value), v15 = .int .i64 x15_1 ∧ Aside0 (impl_Net_without.l0 kq a1 l0_1 (l0_1.length : Int) x15_1 a0_0 x438001_1 = some (r1, r2)) ∧ Aside0 (kq ≤ k) ∧ Aside0 (Kd.R k73 73 w' w.heap.size (fun _ => True) u438001 x438001_1) ∧ Aside0 (w'.heap[gb432]? = some (.cells #[.int .i64 a0_0, (.slice A0_1 l0_1.length c0_1)] 34 (0, 0))) ∧ Aside0 (w'.heap[gb433]? = some (.cells #[.int .i64 0, (.slice none 0 0)] 34 (0, 0))) ∧ Aside0 (w'.heap[gb437]? = some (.cells #[.int .i64 a0_0, u438001] 34 (0, 0))) ∧ Aside0 (Below w.heap.size w w'))
 case atStart => exact ⟨(0), (y434), (.slice Ao9 y434.length co9), (by first | rfl | (simp; done) | (simp [*]; done)), H', ⟨Nat.le_refl _⟩, ⟨by (with_reducible repeat (first | apply Kd.R_alloc | apply Kd.R_drewN | apply Kd.R_drew)); exact Kd.R_mono (Kd.R_far (p := ⟨gb437, 1, none⟩) (Kd.R_far (p := ⟨gb437, 0, none⟩) (Kd.R_types HO436.out BK437.out (by decide)) (fun _ hk => hk.2) (.int .i64 a0_0)) (fun _ hk => hk.2) (.slice Ao9 y434.length co9)) (fun _ hk => trivial)⟩, ⟨bkn BK432⟩, ⟨bkn BK433⟩, ⟨by (with_reducible repeat (first | refine blk_drewN ?_ _ | refine blk_drew ?_ | refine blk_alloc ?_ _)); refine blk_put (cs := #[.int .i64 a0_0, .slice none 0 0]) ?_ 1 _ rfl; (with_reducible repeat (first | refine blk_drewN ?_ _ | refine blk_drew ?_ | refine blk_alloc ?_ _)); refine blk_put (cs := #[.int .i64 0, .slice none 0 0]) ?_ 0 _ rfl; (with_reducible repeat (first | refine blk_drewN ?_ _ | refine blk_drew ?_ | refine blk_alloc ?_ _)); exact BK437.out⟩, ⟨bn HB⟩⟩
 case round =>
  clear H'
  try clear c1
  try clear p2
  try clear c5
  try clear c10
  try clear c11
  try clear c12
  try clear hcz13_0
  try clear hcz13_1
  try clear hcz14_0
  try clear hcz14_1
  try clear hcz6_0
  try clear hcz6_1
  try clear hfz13_0
  try clear hfz13_1
  try clear hfz14_0
  try clear hfz14_1
  try clear hfz6_0
  try clear hfz6_1
  obtain ⟨x15_1, x438001_1, u438001, rfl, HA, HK1, HO_438001, BK432, BK433, BK437, HB⟩ := hrel
  cases gk with
  | zero => exact absurd HA.out (by simp [impl_Net_without.l0])
  | succ k1 =>
   have H := HA.out
   clear HA
   simp only [impl_Net_without.l0] at H
   by_cases c15 : x15_1 < (l0_1.length : Int)
   ·rw [if_pos c15] at H
    have c15b0 := decide_eq_true c15
    clear c15
    by_cases c16 : 0 ≤ x15_1
    ·rw [if_pos c16] at H
     have c16b0 := decide_eq_true c16
     clear c16
     by_cases c17 : x15_1 < (l0_1.length : Int)
     ·rw [if_pos c17] at H
      have c17b0 := decide_eq_true c17
      clear c17
      by_cases c18 : ((rd_T73 l0_1 x15_1).f0) = a1
      ·rw [if_pos c18] at H
       have c18b0 : (((rd_T73 l0_1 x15_1).f0) == a1) = true := beq_iff_eq.mpr c18
       have c18b1 : (((rd_T73 l0_1 x15_1).f0) != a1) = false := bne_eq_false_iff_eq.mpr c18
       clear c18
       have H' := Aside0.mk H
       clear H
       have p438 : 0 ≤ (x15_1 : Int) := oa
       have q438 : x15_1 < (l0_1.length : Int) := oa
       obtain ⟨ad438, e438, hx438_0, hx438_1⟩ := at_T73 HR0_1.out x15_1 p438 q438
       cases e438
       replace hx438_0 := (HB.out.cell (World.block_lt_of_cell? w _ hx438_0)).trans hx438_0
       replace hx438_1 := (HB.out.cell (World.block_lt_of_cell? w _ hx438_1)).trans hx438_1
       replace p438 := eq_true p438
       replace q438 := eq_true q438
       go_wp2_with (first | ((with_reducible refine gate_dst (N := 7) rfl ?_); refine box_event ?hg (N := 7) ?hd (cs := #[.int .i64 0, .int .i64 0]) (t := 73) ?hr ?_; (case hd => rfl); (case hg => rfl); (case hr => first | (go_simp; done) | (go_simp; rfl)); intro gb439 hg w19 hbox hb; have n0_ := Aside0.mk (Kd.R_below (Kd.R_elderB (onR HO_438001) gb439 (Nat.le_of_eq hg.symm)) hb); have n1_ := Aside0.mk (blk_below (bkn BK432) hb); have n2_ := Aside0.mk (blk_below (bkn BK433) hb); have n3_ := Aside0.mk (blk_below (bkn BK437) hb); have n4_ := Aside0.mk (below_step (bn HB) hb); have n5_ := Aside0.mk (hbox); have n6_ := Aside0.mk ((by rw [hg]; exact (below_size (bn HB)) : w.heap.size ≤ gb439)); have n7_ := Aside0.mk ((by rw [hg]; exact (below_size (bn HB)) : w.heap.size ≤ gb439)); have n8_ := Aside0.mk ((by rw [hg]; exact Nat.ne_of_lt (blk_lt (bkn BK432)) : gb432 ≠ gb439)); have n9_ := Aside0.mk ((by rw [hg]; exact Nat.ne_of_gt (blk_lt (bkn BK432)) : gb439 ≠ gb432)); have n10_ := Aside0.mk ((by rw [hg]; exact Nat.ne_of_lt (blk_lt (bkn BK433)) : gb433 ≠ gb439)); have n11_ := Aside0.mk ((by rw [hg]; exact Nat.ne_of_gt (blk_lt (bkn BK433)) : gb439 ≠ gb433)); have n12_ := Aside0.mk ((by rw [hg]; exact Nat.ne_of_lt (blk_lt (bkn BK437)) : gb437 ≠ gb439)); have n13_ := Aside0.mk ((by rw [hg]; exact Nat.ne_of_gt (blk_lt (bkn BK437)) : gb439 ≠ gb437)); clear HO_438001; clear BK432; clear BK433; clear BK437; clear HB; have HO_438001 := n0_; have BK432 := n1_; have BK433 := n2_; have BK437 := n3_; have HB := n4_; have BK439 := n5_; have GW439 := n6_; have GE439 := n7_; have NB432_439 := n8_; have NB439_432 := n9_; have NB433_439 := n10_; have NB439_433 := n11_; have NB437_439 := n12_; have NB439_437 := n13_; clear n0_ n1_ n2_ n3_ n4_ n5_ n6_ n7_ n8_ n9_ n10_ n11_ n12_ n13_; clear hb hbox hg; have hnb20 := NB439_432.out; have hnc20 := NB432_439.out; have hnb21 := NB439_433.out; have hnc21 := NB433_439.out; have hnb22 := NB439_437.out; have hnc22 := NB437_439.out; have hcz23_0 := bc BK439 0; have hcz23_1 := bc BK439 1; have hfz23_0 := blk_frozen BK439.out 0; have hfz23_1 := blk_frozen BK439.out 1))
       go_roundg k1
       case measure => have := HK1.out; omega
       case rel => exact ⟨(wrap64 (x15_1 + 1)), (x438001_1), (u438001), (by first | rfl | (simp; done) | (simp [*]; done)), H', ⟨by have := HK1.out; omega⟩, ⟨by (with_reducible repeat (first | apply Kd.R_alloc | apply Kd.R_drewN | apply Kd.R_drew)); exact Kd.R_mono (Kd.R_far (p := ⟨gb439, 1, none⟩) (Kd.R_far (p := ⟨gb439, 0, none⟩) (Kd.R_mono HO_438001.out (fun k_ hk => (⟨hk, hk.2⟩ : _ ∧ k_ ≠ gb439))) (fun _ hk => hk.2) (.int .i64 ((rd_T73 l0_1 x15_1).f0))) (fun _ hk => hk.2) (.int .i64 ((rd_T73 l0_1 x15_1).f1))) (fun _ hk => trivial)⟩, ⟨bkn BK432⟩, ⟨bkn BK433⟩, ⟨bkn BK437⟩, ⟨bn HB⟩⟩
      ·rw [if_neg c18] at H
       have c18b0 : (((rd_T73 l0_1 x15_1).f0) == a1) = false := beq_eq_false_iff_ne.mpr c18
       have c18b1 : (((rd_T73 l0_1 x15_1).f0) != a1) = true := bne_iff_ne.mpr c18
       by_cases c24 : ((rd_T73 l0_1 x15_1).f1) = a1
       ·rw [if_pos c24] at H
        have c24b0 : (((rd_T73 l0_1 x15_1).f1) == a1) = true := beq_iff_eq.mpr c24
        have c24b1 : (((rd_T73 l0_1 x15_1).f1) != a1) = false := bne_eq_false_iff_eq.mpr c24
        clear c24
        have H' := Aside0.mk H
        clear H
        have p438 : 0 ≤ (x15_1 : Int) := oa
        have q438 : x15_1 < (l0_1.length : Int) := oa
        obtain ⟨ad438, e438, hx438_0, hx438_1⟩ := at_T73 HR0_1.out x15_1 p438 q438
        cases e438
        replace hx438_0 := (HB.out.cell (World.block_lt_of_cell? w _ hx438_0)).trans hx438_0
        replace hx438_1 := (HB.out.cell (World.block_lt_of_cell? w _ hx438_1)).trans hx438_1
        replace p438 := eq_true p438
        replace q438 := eq_true q438
        go_wp2_with (first | ((with_reducible refine gate_dst (N := 7) rfl ?_); refine box_event ?hg (N := 7) ?hd (cs := #[.int .i64 0, .int .i64 0]) (t := 73) ?hr ?_; (case hd => rfl); (case hg => rfl); (case hr => first | (go_simp; done) | (go_simp; rfl)); intro gb439 hg w25 hbox hb; have n0_ := Aside0.mk (Kd.R_below (Kd.R_elderB (onR HO_438001) gb439 (Nat.le_of_eq hg.symm)) hb); have n1_ := Aside0.mk (blk_below (bkn BK432) hb); have n2_ := Aside0.mk (blk_below (bkn BK433) hb); have n3_ := Aside0.mk (blk_below (bkn BK437) hb); have n4_ := Aside0.mk (below_step (bn HB) hb); have n5_ := Aside0.mk (hbox); have n6_ := Aside0.mk ((by rw [hg]; exact (below_size (bn HB)) : w.heap.size ≤ gb439)); have n7_ := Aside0.mk ((by rw [hg]; exact (below_size (bn HB)) : w.heap.size ≤ gb439)); have n8_ := Aside0.mk ((by rw [hg]; exact Nat.ne_of_lt (blk_lt (bkn BK432)) : gb432 ≠ gb439)); have n9_ := Aside0.mk ((by rw [hg]; exact Nat.ne_of_gt (blk_lt (bkn BK432)) : gb439 ≠ gb432)); have n10_ := Aside0.mk ((by rw [hg]; exact Nat.ne_of_lt (blk_lt (bkn BK433)) : gb433 ≠ gb439)); have n11_ := Aside0.mk ((by rw [hg]; exact Nat.ne_of_gt (blk_lt (bkn BK433)) : gb439 ≠ gb433)); have n12_ := Aside0.mk ((by rw [hg]; exact Nat.ne_of_lt (blk_lt (bkn BK437)) : gb437 ≠ gb439)); have n13_ := Aside0.mk ((by rw [hg]; exact Nat.ne_of_gt (blk_lt (bkn BK437)) : gb439 ≠ gb437)); clear HO_438001; clear BK432; clear BK433; clear BK437; clear HB; have HO_438001 := n0_; have BK432 := n1_; have BK433 := n2_; have BK437 := n3_; have HB := n4_; have BK439 := n5_; have GW439 := n6_; have GE439 := n7_; have NB432_439 := n8_; have NB439_432 := n9_; have NB433_439 := n10_; have NB439_433 := n11_; have NB437_439 := n12_; have NB439_437 := n13_; clear n0_ n1_ n2_ n3_ n4_ n5_ n6_ n7_ n8_ n9_ n10_ n11_ n12_ n13_; clear hb hbox hg; have hnb26 := NB439_432.out; have hnc26 := NB432_439.out; have hnb27 := NB439_433.out; have hnc27 := NB433_439.out; have hnb28 := NB439_437.out; have hnc28 := NB437_439.out; have hcz29_0 := bc BK439 0; have hcz29_1 := bc BK439 1; have hfz29_0 := blk_frozen BK439.out 0; have hfz29_1 := blk_frozen BK439.out 1))
        go_roundg k1
        case measure => have := HK1.out; omega
        case rel => exact ⟨(wrap64 (x15_1 + 1)), (x438001_1), (u438001), (by first | rfl | (simp; done) | (simp [*]; done)), H', ⟨by have := HK1.out; omega⟩, ⟨by (with_reducible repeat (first | apply Kd.R_alloc | apply Kd.R_drewN | apply Kd.R_drew)); exact Kd.R_mono (Kd.R_far (p := ⟨gb439, 1, none⟩) (Kd.R_far (p := ⟨gb439, 0, none⟩) (Kd.R_mono HO_438001.out (fun k_ hk => (⟨hk, hk.2⟩ : _ ∧ k_ ≠ gb439))) (fun _ hk => hk.2) (.int .i64 ((rd_T73 l0_1 x15_1).f0))) (fun _ hk => hk.2) (.int .i64 ((rd_T73 l0_1 x15_1).f1))) (fun _ hk => trivial)⟩, ⟨bkn BK432⟩, ⟨bkn BK433⟩, ⟨bkn BK437⟩, ⟨bn HB⟩⟩
       ·rw [if_neg c24] at H
        have c24b0 : (((rd_T73 l0_1 x15_1).f1) == a1) = false := beq_eq_false_iff_ne.mpr c24
        have c24b1 : (((rd_T73 l0_1 x15_1).f1) != a1) = true := bne_iff_ne.mpr c24
        by_cases c30 : x438001_1.length < 8796093022208
        ·rw [if_pos c30] at H
         have LMc30 := Aside0.mk c30
         clear c30
         obtain ⟨y440, hy440⟩ : ∃ y_ : List (S73), y_ = (x438001_1 ++ [(⟨(rd_T73 l0_1 x15_1).f0, (rd_T73 l0_1 x15_1).f1⟩ : S73)]) := ⟨_, rfl⟩
         replace H : (impl_Net_without.l0 k1 a1 l0_1 (l0_1.length : Int) (wrap64 (x15_1 + 1)) a0_0 y440) = some (r1, r2) := by first | (rw [hy440]; with_reducible exact H) | (have H2_ := (Option.bind_some _ _).symm.trans H; rw [hy440]; with_reducible exact H2_) | (have H2_ := (Option.bind_some _ _).symm.trans H; with_reducible exact H2_) | with_reducible exact H | (rw [hy440]; exact H) | exact H
         have Ny440 := Aside0.mk hy440
         clear hy440
         have H' := Aside0.mk H
         clear H
         have p438 : 0 ≤ (x15_1 : Int) := oa
         have q438 : x15_1 < (l0_1.length : Int) := oa
         obtain ⟨ad438, e438, hx438_0, hx438_1⟩ := at_T73 HR0_1.out x15_1 p438 q438
         cases e438
         replace hx438_0 := (HB.out.cell (World.block_lt_of_cell? w _ hx438_0)).trans hx438_0
         replace hx438_1 := (HB.out.cell (World.block_lt_of_cell? w _ hx438_1)).trans hx438_1
         replace p438 := eq_true p438
         replace q438 := eq_true q438
         go_wp2_with (first | ((with_reducible refine gate_dst (N := 7) rfl ?_); refine box_event ?hg (N := 7) ?hd (cs := #[.int .i64 0, .int .i64 0]) (t := 73) ?hr ?_; (case hd => rfl); (case hg => rfl); (case hr => first | (go_simp; done) | (go_simp; rfl)); intro gb439 hg w31 hbox hb; have n0_ := Aside0.mk (Kd.R_below (Kd.R_elderB (onR HO_438001) gb439 (Nat.le_of_eq hg.symm)) hb); have n1_ := Aside0.mk (blk_below (bkn BK432) hb); have n2_ := Aside0.mk (blk_below (bkn BK433) hb); have n3_ := Aside0.mk (blk_below (bkn BK437) hb); have n4_ := Aside0.mk (below_step (bn HB) hb); have n5_ := Aside0.mk (hbox); have n6_ := Aside0.mk ((by rw [hg]; exact (below_size (bn HB)) : w.heap.size ≤ gb439)); have n7_ := Aside0.mk ((by rw [hg]; exact (below_size (bn HB)) : w.heap.size ≤ gb439)); have n8_ := Aside0.mk ((by rw [hg]; exact Nat.ne_of_lt (blk_lt (bkn BK432)) : gb432 ≠ gb439)); have n9_ := Aside0.mk ((by rw [hg]; exact Nat.ne_of_gt (blk_lt (bkn BK432)) : gb439 ≠ gb432)); have n10_ := Aside0.mk ((by rw [hg]; exact Nat.ne_of_lt (blk_lt (bkn BK433)) : gb433 ≠ gb439)); have n11_ := Aside0.mk ((by rw [hg]; exact Nat.ne_of_gt (blk_lt (bkn BK433)) : gb439 ≠ gb433)); have n12_ := Aside0.mk ((by rw [hg]; exact Nat.ne_of_lt (blk_lt (bkn BK437)) : gb437 ≠ gb439)); have n13_ := Aside0.mk ((by rw [hg]; exact Nat.ne_of_gt (blk_lt (bkn BK437)) : gb439 ≠ gb437)); clear HO_438001; clear BK432; clear BK433; clear BK437; clear HB; have HO_438001 := n0_; have BK432 := n1_; have BK433 := n2_; have BK437 := n3_; have HB := n4_; have BK439 := n5_; have GW439 := n6_; have GE439 := n7_; have NB432_439 := n8_; have NB439_432 := n9_; have NB433_439 := n10_; have NB439_433 := n11_; have NB437_439 := n12_; have NB439_437 := n13_; clear n0_ n1_ n2_ n3_ n4_ n5_ n6_ n7_ n8_ n9_ n10_ n11_ n12_ n13_; clear hb hbox hg; have hnb32 := NB439_432.out; have hnc32 := NB432_439.out; have hnb33 := NB439_433.out; have hnc33 := NB433_439.out; have hnb34 := NB439_437.out; have hnc34 := NB437_439.out; have hcz35_0 := bc BK439 0; have hcz35_1 := bc BK439 1; have hfz35_0 := blk_frozen BK439.out 0; have hfz35_1 := blk_frozen BK439.out 1; have hnb36 := NB437_432.out; have hnc36 := NB432_437.out; have hnb37 := NB437_433.out; have hnc37 := NB433_437.out; have hcz38_0 := bc BK437 0; have hcz38_1 := bc BK437 1; have hfz38_0 := blk_frozen BK437.out 0; have hfz38_1 := blk_frozen BK437.out 1) | ((with_reducible refine gate_builtin (b := .append) (xs := #[.tmp 30, .tmp 32]) rfl ?_); at_builtin; refine Kd.R_append k73 (w0 := w) w.heap.size rfl (.tmp 30) (.tmp 32) 32 73 (.agg #[(.int .i64 0), (.int .i64 0)]) 16 rfl Try.underlying32 info73 rfl (by decide) (by omega) u438001 x438001_1 (⟨(rd_T73 l0_1 x15_1).f0, (rd_T73 l0_1 x15_1).f1⟩ : S73) [.int .i64 ((rd_T73 l0_1 x15_1).f0), .int .i64 ((rd_T73 l0_1 x15_1).f1)] (fun k_ => k_ ≠ gb439) (fun _ => False) rfl (by first | (go_simp; done) | (go_simp; rfl)) ?aP (fun _ hk => hk.elim) ?aF ?aO ?aB ?aS ?aL ?_; (case aP => exact k73_mkM _ _ _ (⟨(rd_T73 l0_1 x15_1).f0, (rd_T73 l0_1 x15_1).f1⟩ : S73)); (case aB => exact (bn HB)); (case aF => exact (fun k_ hk => Kd.freshB (g := gb439) (o := .cells #[.int .i64 ((rd_T73 l0_1 x15_1).f0), .int .i64 ((rd_T73 l0_1 x15_1).f1)] 73 (0, 0)) (by (with_reducible repeat (first | refine blk_drewN ?_ _ | refine blk_drew ?_ | refine blk_alloc ?_ _)); refine blk_put (cs := #[.int .i64 ((rd_T73 l0_1 x15_1).f0), .int .i64 0]) ?_ 1 _ rfl; (with_reducible repeat (first | refine blk_drewN ?_ _ | refine blk_drew ?_ | refine blk_alloc ?_ _)); refine blk_put (cs := #[.int .i64 0, .int .i64 0]) ?_ 0 _ rfl; (with_reducible repeat (first | refine blk_drewN ?_ _ | refine blk_drew ?_ | refine blk_alloc ?_ _)); exact BK439.out) k_ hk)); (case aO => exact (by (with_reducible repeat (first | apply Kd.R_alloc | apply Kd.R_drewN | apply Kd.R_drew)); exact Kd.R_mono (Kd.R_far (p := ⟨gb439, 1, none⟩) (Kd.R_far (p := ⟨gb439, 0, none⟩) (Kd.R_mono HO_438001.out (fun k_ hk => (⟨hk, hk.2⟩ : _ ∧ k_ ≠ gb439))) (fun _ hk => hk.2) (.int .i64 ((rd_T73 l0_1 x15_1).f0))) (fun _ hk => hk.2) (.int .i64 ((rd_T73 l0_1 x15_1).f1))) (fun _ hk => hk.1.2))); (case aS => exact (below_size (bn HB))); (case aL => have := LMc30.out; omega); intro v441 w39 ho hb hg hat; rw [← Ny440.out] at ho; have n0_ := Aside0.mk (blk_grown (bkn BK432) hg (Kd.R_ne HO_438001.out BK432.out (by decide))); have n1_ := Aside0.mk (blk_grown (bkn BK433) hg (Kd.R_ne HO_438001.out BK433.out (by decide))); have n2_ := Aside0.mk (blk_grown (bkn BK437) hg (Kd.R_ne HO_438001.out BK437.out (by decide))); have n3_ := Aside0.mk (blk_grown (g := gb439) (o := .cells #[.int .i64 ((rd_T73 l0_1 x15_1).f0), .int .i64 ((rd_T73 l0_1 x15_1).f1)] 73 (0, 0)) (by (with_reducible repeat (first | refine blk_drewN ?_ _ | refine blk_drew ?_ | refine blk_alloc ?_ _)); refine blk_put (cs := #[.int .i64 ((rd_T73 l0_1 x15_1).f0), .int .i64 0]) ?_ 1 _ rfl; (with_reducible repeat (first | refine blk_drewN ?_ _ | refine blk_drew ?_ | refine blk_alloc ?_ _)); refine blk_put (cs := #[.int .i64 0, .int .i64 0]) ?_ 0 _ rfl; (with_reducible repeat (first | refine blk_drewN ?_ _ | refine blk_drew ?_ | refine blk_alloc ?_ _)); exact BK439.out) hg (Kd.R_away HO_438001.out (fun _ hk => hk.2))); have n4_ := Aside0.mk (hb); have n5_ := Aside0.mk (ho); clear BK432; clear BK433; clear BK437; clear BK439; clear HB; clear HO_438001; have BK432 := n0_; have BK433 := n1_; have BK437 := n2_; have BK439 := n3_; have HB := n4_; have HO442 := n5_; clear n0_ n1_ n2_ n3_ n4_ n5_; clear ho hb hg hat; obtain ⟨Ao40, co40, eo40⟩ := Kd.R_slice HO442.out; subst eo40; have hcz41_0 := bc BK437 0; have hcz41_1 := bc BK437 1; have hfz41_0 := blk_frozen BK437.out 0; have hfz41_1 := blk_frozen BK437.out 1))
         go_roundg k1
         case measure => have := HK1.out; omega
         case rel => exact ⟨(wrap64 (x15_1 + 1)), (y440), (.slice Ao40 y440.length co40), (by first | rfl | (simp; done) | (simp [*]; done)), H', ⟨by have := HK1.out; omega⟩, ⟨by (with_reducible repeat (first | apply Kd.R_alloc | apply Kd.R_drewN | apply Kd.R_drew)); exact Kd.R_mono (Kd.R_far (p := ⟨gb437, 1, none⟩) (Kd.R_types HO442.out BK437.out (by decide)) (fun _ hk => hk.2) (.slice Ao40 y440.length co40)) (fun _ hk => trivial)⟩, ⟨bkn BK432⟩, ⟨bkn BK433⟩, ⟨by (with_reducible repeat (first | refine blk_drewN ?_ _ | refine blk_drew ?_ | refine blk_alloc ?_ _)); refine blk_put (cs := #[.int .i64 a0_0, u438001]) ?_ 1 _ rfl; (with_reducible repeat (first | refine blk_drewN ?_ _ | refine blk_drew ?_ | refine blk_alloc ?_ _)); exact BK437.out⟩, ⟨bn HB⟩⟩
        ·rw [if_neg c30] at H
         exact absurd H (by simp)
     ·rw [if_neg c17] at H
      exact absurd H (by simp)
    ·rw [if_neg c16] at H
     exact absurd H (by simp)
   ·rw [if_neg c15] at H
    have c15b0 := decide_eq_false c15
    clear c15
    simp only [Option.some.injEq, Prod.mk.injEq] at H
    obtain ⟨rfl, rfl⟩ := H
    have hnb42 := NB437_432.out
    have hnc42 := NB432_437.out
    have hnb43 := NB437_433.out
    have hnc43 := NB433_437.out
    have hcz44_0 := bc BK437 0
    have hcz44_1 := bc BK437 1
    have hfz44_0 := blk_frozen BK437.out 0
    have hfz44_1 := blk_frozen BK437.out 1
    have hnb45 := NB433_432.out
    have hnc45 := NB432_433.out
    have hcz46_0 := bc BK433 0
    have hcz46_1 := bc BK433 1
    have hfz46_0 := blk_frozen BK433.out 0
    have hfz46_1 := blk_frozen BK433.out 1
    obtain ⟨Ao47, co47, eo47⟩ := Kd.R_slice HO_438001.out
    subst eo47
    go_wp2
    refine bodyPost_ret (results_cell_row rfl _ _ gb433 34 #[.int .i64 a0_0, .slice Ao47 x438001_1.length co47] (0, 0) _ rfl (by (with_reducible repeat (first | refine blk_drewN ?_ _ | refine blk_drew ?_ | refine blk_alloc ?_ _)); refine blk_put (cs := #[.int .i64 a0_0, .slice none 0 0]) ?_ 1 _ rfl; (with_reducible repeat (first | refine blk_drewN ?_ _ | refine blk_drew ?_ | refine blk_alloc ?_ _)); refine blk_put (cs := #[.int .i64 0, .slice none 0 0]) ?_ 0 _ rfl; (with_reducible repeat (first | refine blk_drewN ?_ _ | refine blk_drew ?_ | refine blk_alloc ?_ _)); exact BK433.out) Try.underlying34 rfl (by kernel_rfl)) rfl ?_
    exact ⟨_, by first | rfl | (simp [errW_none, errW_some] <;> rfl) | (simp [*, errW_none, errW_some] <;> rfl), by (with_reducible repeat (first | apply Kd.R_alloc | apply Kd.R_drewN | apply Kd.R_drew)); exact Kd.R_mono (Kd.R_far (p := ⟨gb433, 1, none⟩) (Kd.R_far (p := ⟨gb433, 0, none⟩) (Kd.R_types HO_438001.out BK433.out (by decide)) (fun _ hk => hk.2) (.int .i64 a0_0)) (fun _ hk => hk.2) (.slice Ao47 x438001_1.length co47)) (fun _ hk => trivial), bn HB⟩

end Go.Proofs.Ytdlnnjgjfngccaa.F
