-- Written by oprint.py (wip/tools) over the kit's print program, for this seat.
import Derived.Test.YtdlnnjgjfngccaaF0
import Derived.Test.YtdlnnjgjfngccaaF10
import Derived.Test.YtdlnnjgjfngccaaF17
import Derived.Test.YtdlnnjgjfngccaaF20
import Derived.Test.YtdlnnjgjfngccaaF24
import Derived.Test.YtdlnnjgjfngccaaF28
import Derived.Test.YtdlnnjgjfngccaaF29
import Derived.Test.YtdlnnjgjfngccaaF32
namespace Go.Proofs.Ytdlnnjgjfngccaa.F
open Go.RowKit Go.Proofs.YtdlnnjgjfngccaaW.PrintWords Go.Proofs.YtdlnnjgjfngccaaW.PrintLast Go.Proofs.YtdlnnjgjfngccaaW.PrintMore
attribute [local go_sem] max2_int min2_int max_two min_two max_three min_three max_four min_four   -- for this text's walks alone
set_option linter.unusedVariables false
set_option linter.unusedSimpArgs false

/-! ### spec_TwoCut: function 41 -/
mutual
def spec_TwoCut.j0 : Nat → Int → Int → Bool → Int → List (S73) → Option (Int × Bool)
 | 0, _, _, _, _, _ => none
 | k + 1, x1, x2, x38, x396000, x396001 => if x38 = true then (some (0, false)) else (spec_TwoCut.l0 k x1 x2 0 x396000 x396001)
def spec_TwoCut.l0 : Nat → Int → Int → Int → Int → List (S73) → Option (Int × Bool)
 | 0, _, _, _, _, _ => none
 | k + 1, x1, x2, x8, x396000, x396001 => if x8 < x396000 then (if x8 = x1 then (spec_TwoCut.l0 k x1 x2 (wrap64 (x8 + 1)) x396000 x396001) else (if x8 = x2 then (spec_TwoCut.l0 k x1 x2 (wrap64 (x8 + 1)) x396000 x396001) else ((spec_NetWithout.f k x396000 x396001 x8).bind fun bt403 => ((spec_WayReach.f k bt403.1 bt403.2 x1).bind fun t407 => (if 0 ≤ x2 then (if x2 < (t407.length : Int) then (if rdOf false t407 x2 = true then (spec_TwoCut.l0 k x1 x2 (wrap64 (x8 + 1)) x396000 x396001) else (some (x8, true))) else (none)) else (none)))))) else (some (0, false))
end
def spec_TwoCut.f (k : Nat) (a0_0 : Int) (l0_1 : List (S73)) (a1 : Int) (a2 : Int) : Option (Int × Bool) := (spec_l1Knot.f k a0_0 l0_1 a1).bind fun t396 => (if t396 = true then ((spec_l1Knot.f k a0_0 l0_1 a2).bind fun t397 => (if t397 = true then (if a1 = a2 then (spec_TwoCut.j0 k a1 a2 true a0_0 l0_1) else ((spec_NetHas.f k a0_0 l0_1 a1 a2).bind fun t398 => (if t398 = true then (spec_TwoCut.j0 k a1 a2 true a0_0 l0_1) else ((spec_WayReach.f k a0_0 l0_1 a1).bind fun t399 => (if 0 ≤ a2 then (if a2 < (t399.length : Int) then (spec_TwoCut.j0 k a1 a2 (!(rdOf false t399 a2)) a0_0 l0_1) else (none)) else (none)))))) else (spec_TwoCut.j0 k a1 a2 true a0_0 l0_1))) else (spec_TwoCut.j0 k a1 a2 true a0_0 l0_1))
theorem spec_TwoCut.mono_l : ∀ k, (∀ y0 y1 y2 y3 y4, LeO (spec_TwoCut.j0 k y0 y1 y2 y3 y4) (spec_TwoCut.j0 (k + 1) y0 y1 y2 y3 y4)) ∧ (∀ y0 y1 y2 y3 y4, LeO (spec_TwoCut.l0 k y0 y1 y2 y3 y4) (spec_TwoCut.l0 (k + 1) y0 y1 y2 y3 y4))
 | 0 => ⟨fun _ _ _ _ _ r h => by simp [spec_TwoCut.j0] at h, fun _ _ _ _ _ r h => by simp [spec_TwoCut.l0] at h⟩
 | k + 1 => by
  obtain ⟨ih0, ih1⟩ := spec_TwoCut.mono_l k
  refine ⟨?_, ?_⟩
  ·intro y0 y1 y2 y3 y4
   unfold spec_TwoCut.j0
   repeat' first
   | (with_reducible exact ih0 _ _ _ _ _)
   | (with_reducible exact ih1 _ _ _ _ _)
   | (with_reducible exact spec_NetHas.mono _ _ _ _ _)
   | (with_reducible exact spec_NetWithout.mono _ _ _ _)
   | (with_reducible exact spec_WayReach.mono _ _ _ _)
   | (with_reducible exact spec_l1Knot.mono _ _ _ _)
   | (with_reducible exact LeO.refl _)
   | (with_reducible exact LeO.none _)
   | (with_reducible refine LeO.ite ?_ ?_)
   | (with_reducible refine LeO.bind ?_ (fun _ => ?_))
   | exact ih0 _ _ _ _ _
   | exact ih1 _ _ _ _ _
   | exact spec_NetHas.mono _ _ _ _ _
   | exact spec_NetWithout.mono _ _ _ _
   | exact spec_WayReach.mono _ _ _ _
   | exact spec_l1Knot.mono _ _ _ _
   | exact LeO.none _
   | refine LeO.ite ?_ ?_
   | refine LeO.bind ?_ (fun _ => ?_)
  ·intro y0 y1 y2 y3 y4
   unfold spec_TwoCut.l0
   repeat' first
   | (with_reducible exact ih0 _ _ _ _ _)
   | (with_reducible exact ih1 _ _ _ _ _)
   | (with_reducible exact spec_NetHas.mono _ _ _ _ _)
   | (with_reducible exact spec_NetWithout.mono _ _ _ _)
   | (with_reducible exact spec_WayReach.mono _ _ _ _)
   | (with_reducible exact spec_l1Knot.mono _ _ _ _)
   | (with_reducible exact LeO.refl _)
   | (with_reducible exact LeO.none _)
   | (with_reducible refine LeO.ite ?_ ?_)
   | (with_reducible refine LeO.bind ?_ (fun _ => ?_))
   | exact ih0 _ _ _ _ _
   | exact ih1 _ _ _ _ _
   | exact spec_NetHas.mono _ _ _ _ _
   | exact spec_NetWithout.mono _ _ _ _
   | exact spec_WayReach.mono _ _ _ _
   | exact spec_l1Knot.mono _ _ _ _
   | exact LeO.none _
   | refine LeO.ite ?_ ?_
   | refine LeO.bind ?_ (fun _ => ?_)
theorem spec_TwoCut.mono : ∀ a0 a1 a2 a3 k, LeO (spec_TwoCut.f k a0 a1 a2 a3) (spec_TwoCut.f (k + 1) a0 a1 a2 a3) := by
 intro a0 a1 a2 a3 k
 obtain ⟨ih0, ih1⟩ := spec_TwoCut.mono_l k
 unfold spec_TwoCut.f
 repeat' first
   | (with_reducible exact ih0 _ _ _ _ _)
   | (with_reducible exact ih1 _ _ _ _ _)
   | (with_reducible exact spec_NetHas.mono _ _ _ _ _)
   | (with_reducible exact spec_NetWithout.mono _ _ _ _)
   | (with_reducible exact spec_WayReach.mono _ _ _ _)
   | (with_reducible exact spec_l1Knot.mono _ _ _ _)
   | (with_reducible exact LeO.refl _)
   | (with_reducible exact LeO.none _)
   | (with_reducible refine LeO.ite ?_ ?_)
   | (with_reducible refine LeO.bind ?_ (fun _ => ?_))
   | exact ih0 _ _ _ _ _
   | exact ih1 _ _ _ _ _
   | exact spec_NetHas.mono _ _ _ _ _
   | exact spec_NetWithout.mono _ _ _ _
   | exact spec_WayReach.mono _ _ _ _
   | exact spec_l1Knot.mono _ _ _ _
   | exact LeO.none _
   | refine LeO.ite ?_ ?_
   | refine LeO.bind ?_ (fun _ => ?_)
set_option maxHeartbeats 8000000 in
set_option maxRecDepth 100000 in
theorem spec_TwoCut.calls (k : Nat) (a0_0 : Int) (A0_1 : Option Addr) (c0_1 : Nat) (l0_1 : List (S73)) (a1 : Int) (a2 : Int) (r1 : Int) (r2 : Bool) (w : World) (hr0_1 : Kd.C k73 w A0_1 l0_1.length l0_1) (hc0_1 : l0_1.length ≤ c0_1) (h : spec_TwoCut.f k a0_0 l0_1 a1 a2 = some (r1, r2)) :
  Calls Try.prog 41 #[.agg #[.int .i64 a0_0, .slice A0_1 l0_1.length c0_1], .int .i64 a1, .int .i64 a2] w fun e w' => e = .returned (.tuple #[.int .i64 r1, .bool r2]) ∧ Below w.heap.size w w' := by
 have hu34 := Try.underlying34
 have HR0_1 := Aside0.mk hr0_1
 have HC0_1 := Aside0.mk hc0_1
 clear hr0_1 hc0_1
 have HB := Aside0.mk (Below.refl w.heap.size w)
 have H : ((spec_l1Knot.f k a0_0 l0_1 a1).bind fun t396 => (if t396 = true then ((spec_l1Knot.f k a0_0 l0_1 a2).bind fun t397 => (if t397 = true then (if a1 = a2 then (spec_TwoCut.j0 k a1 a2 true a0_0 l0_1) else ((spec_NetHas.f k a0_0 l0_1 a1 a2).bind fun t398 => (if t398 = true then (spec_TwoCut.j0 k a1 a2 true a0_0 l0_1) else ((spec_WayReach.f k a0_0 l0_1 a1).bind fun t399 => (if 0 ≤ a2 then (if a2 < (t399.length : Int) then (spec_TwoCut.j0 k a1 a2 (!(rdOf false t399 a2)) a0_0 l0_1) else (none)) else (none)))))) else (spec_TwoCut.j0 k a1 a2 true a0_0 l0_1))) else (spec_TwoCut.j0 k a1 a2 true a0_0 l0_1))) = some (r1, r2) := h
 clear h
 have HC4 := Aside0.mk H
 clear H
 go_enter Try.func41, Try.ntmps41
 go_upto_region 1 with (first | ((with_reducible refine gate_dst (N := 3) rfl ?_); refine box_event ?hg (N := 3) ?hd (cs := #[.int .i64 a0_0, .slice A0_1 l0_1.length c0_1]) (t := 34) ?hr ?_; (case hd => rfl); (case hg => rfl); (case hr => first | (go_simp; done) | (go_simp; rfl)); intro gb395 hg w5 hbox hb; have n0_ := Aside0.mk (below_step (bn HB) hb); have n1_ := Aside0.mk (hbox); have n2_ := Aside0.mk ((by rw [hg]; exact (below_size (bn HB)) : w.heap.size ≤ gb395)); have n3_ := Aside0.mk ((by rw [hg]; exact (below_size (bn HB)) : w.heap.size ≤ gb395)); clear HB; have HB := n0_; have BK395 := n1_; have GW395 := n2_; have GE395 := n3_; clear n0_ n1_ n2_ n3_; clear hb hbox hg))
 (try simp only [Act.put, List.setIfInBounds_toArray, List.set_cons_zero, List.set_cons_succ])
 go_cut [38] (fun v38 wc => ∃ (kq : Nat) (x38_3 : Bool), v38 = .bool x38_3 ∧ Aside0 (spec_TwoCut.j0 kq a1 a2 x38_3 a0_0 l0_1 = some (r1, r2)) ∧ Aside0 (kq ≤ k) ∧ Aside0 (wc.heap[gb395]? = some (.cells #[.int .i64 a0_0, (.slice A0_1 l0_1.length c0_1)] 34 (0, 0))) ∧ Aside0 (Below w.heap.size w wc))
 case first =>
  have H := HC4.out
  clear HC4
  replace H := Option.bind_eq_some_iff.mp H
  obtain ⟨t396, A60, H⟩ := H
  (try dsimp only at H)
  have A6 := Aside0.mk A60
  clear A60
  by_cases c7 : t396 = true
  ·subst c7
   rw [if_pos rfl] at H
   replace H := Option.bind_eq_some_iff.mp H
   obtain ⟨t397, A80, H⟩ := H
   (try dsimp only at H)
   have A8 := Aside0.mk A80
   clear A80
   by_cases c9 : t397 = true
   ·subst c9
    rw [if_pos rfl] at H
    by_cases c10 : a1 = a2
    ·rw [if_pos c10] at H
     have c10b0 : (a1 == a2) = true := beq_iff_eq.mpr c10
     have c10b1 : (a1 != a2) = false := bne_eq_false_iff_eq.mpr c10
     clear c10
     (first | rw [c10b0] | (simp only [i64_w, i32_w]; rw [c10b0]) | skip)
     have H' := Aside0.mk H
     clear H
     have hcz11_0 := bc BK395 0
     have hcz11_1 := bc BK395 1
     have hfz11_0 := blk_frozen BK395.out 0
     have hfz11_1 := blk_frozen BK395.out 1
     go_wp2_with (first | ((with_reducible refine gate_callee (f := 87) rfl ?_); refine gl_ (some 11) Try.func87 #[.agg #[.int .i64 a0_0, .slice A0_1 l0_1.length c0_1], .int .i64 a1] ?_; (with_reducible refine (spec_l1Knot.calls k a0_0 _ _ l0_1 a1 true _ ?side1 ?side2 A6.out).mono ?_); (case side1 => repeat (first | exact (Kd.C_below HR0_1.out HB.out) | (with_reducible refine Kd.C_alloc ?_ _) | (with_reducible refine Kd.C_drewN ?_ _) | (with_reducible refine Kd.C_drew ?_))); (case side2 => exact HC0_1.out); rintro e w12 ⟨rfl, hb⟩; refine ⟨_, rfl, ?_⟩; have n0_ := Aside0.mk (blk_below (bkn BK395) hb); have n1_ := Aside0.mk (below_step (bn HB) hb); clear BK395; clear HB; have BK395 := n0_; have HB := n1_; clear n0_ n1_; (try clear hb); have hcz13_0 := bc BK395 0; have hcz13_1 := bc BK395 1; have hfz13_0 := blk_frozen BK395.out 0; have hfz13_1 := blk_frozen BK395.out 1) | (go_at_call 87; (with_reducible refine (spec_l1Knot.calls k a0_0 _ _ l0_1 a2 true _ ?side1 ?side2 A8.out).mono ?_); (case side1 => repeat (first | exact (Kd.C_below HR0_1.out HB.out) | (with_reducible refine Kd.C_alloc ?_ _) | (with_reducible refine Kd.C_drewN ?_ _) | (with_reducible refine Kd.C_drew ?_))); (case side2 => exact HC0_1.out); rintro e w14 ⟨rfl, hb⟩; have n0_ := Aside0.mk (blk_below (bkn BK395) hb); have n1_ := Aside0.mk (below_step (bn HB) hb); clear BK395; clear HB; have BK395 := n0_; have HB := n1_; clear n0_ n1_; (try clear hb); (try clear hi)))
     go_meet
     case rel => exact ⟨_, (true), (by first | rfl | (simp; done) | (simp [*]; done)), H', ⟨by first | omega | exact Nat.le_refl _⟩, ⟨bkn BK395⟩, ⟨bn HB⟩⟩
    ·rw [if_neg c10] at H
     have c10b0 : (a1 == a2) = false := beq_eq_false_iff_ne.mpr c10
     have c10b1 : (a1 != a2) = true := bne_iff_ne.mpr c10
     (first | rw [c10b0] | (simp only [i64_w, i32_w]; rw [c10b0]) | skip)
     replace H := Option.bind_eq_some_iff.mp H
     obtain ⟨t398, A150, H⟩ := H
     (try dsimp only at H)
     have A15 := Aside0.mk A150
     clear A150
     by_cases c16 : t398 = true
     ·subst c16
      rw [if_pos rfl] at H
      have H' := Aside0.mk H
      clear H
      have hcz17_0 := bc BK395 0
      have hcz17_1 := bc BK395 1
      have hfz17_0 := blk_frozen BK395.out 0
      have hfz17_1 := blk_frozen BK395.out 1
      go_wp2_with (first | ((with_reducible refine gate_callee (f := 87) rfl ?_); refine gl_ (some 11) Try.func87 #[.agg #[.int .i64 a0_0, .slice A0_1 l0_1.length c0_1], .int .i64 a1] ?_; (with_reducible refine (spec_l1Knot.calls k a0_0 _ _ l0_1 a1 true _ ?side1 ?side2 A6.out).mono ?_); (case side1 => repeat (first | exact (Kd.C_below HR0_1.out HB.out) | (with_reducible refine Kd.C_alloc ?_ _) | (with_reducible refine Kd.C_drewN ?_ _) | (with_reducible refine Kd.C_drew ?_))); (case side2 => exact HC0_1.out); rintro e w18 ⟨rfl, hb⟩; refine ⟨_, rfl, ?_⟩; have n0_ := Aside0.mk (blk_below (bkn BK395) hb); have n1_ := Aside0.mk (below_step (bn HB) hb); clear BK395; clear HB; have BK395 := n0_; have HB := n1_; clear n0_ n1_; (try clear hb); have hcz19_0 := bc BK395 0; have hcz19_1 := bc BK395 1; have hfz19_0 := blk_frozen BK395.out 0; have hfz19_1 := blk_frozen BK395.out 1) | (go_at_call 87; (with_reducible refine (spec_l1Knot.calls k a0_0 _ _ l0_1 a2 true _ ?side1 ?side2 A8.out).mono ?_); (case side1 => repeat (first | exact (Kd.C_below HR0_1.out HB.out) | (with_reducible refine Kd.C_alloc ?_ _) | (with_reducible refine Kd.C_drewN ?_ _) | (with_reducible refine Kd.C_drew ?_))); (case side2 => exact HC0_1.out); rintro e w20 ⟨rfl, hb⟩; have n0_ := Aside0.mk (blk_below (bkn BK395) hb); have n1_ := Aside0.mk (below_step (bn HB) hb); clear BK395; clear HB; have BK395 := n0_; have HB := n1_; clear n0_ n1_; (try clear hb); have hcz21_0 := bc BK395 0; have hcz21_1 := bc BK395 1; have hfz21_0 := blk_frozen BK395.out 0; have hfz21_1 := blk_frozen BK395.out 1) | (go_at_call 96; (with_reducible refine (spec_NetHas.calls k a0_0 _ _ l0_1 a1 a2 true _ ?side1 ?side2 A15.out).mono ?_); (case side1 => repeat (first | exact (Kd.C_below HR0_1.out HB.out) | (with_reducible refine Kd.C_alloc ?_ _) | (with_reducible refine Kd.C_drewN ?_ _) | (with_reducible refine Kd.C_drew ?_))); (case side2 => exact HC0_1.out); rintro e w22 ⟨rfl, hb⟩; have n0_ := Aside0.mk (blk_below (bkn BK395) hb); have n1_ := Aside0.mk (below_step (bn HB) hb); clear BK395; clear HB; have BK395 := n0_; have HB := n1_; clear n0_ n1_; (try clear hb); (try clear hi)))
      go_meet
      case rel => exact ⟨_, (true), (by first | rfl | (simp; done) | (simp [*]; done)), H', ⟨by first | omega | exact Nat.le_refl _⟩, ⟨bkn BK395⟩, ⟨bn HB⟩⟩
     ·replace c16 := Bool.eq_false_iff.mpr c16
      subst c16
      rw [if_neg (show ¬ (false = true) by decide)] at H
      replace H := Option.bind_eq_some_iff.mp H
      obtain ⟨t399, A230, H⟩ := H
      (try dsimp only at H)
      have A23 := Aside0.mk A230
      clear A230
      by_cases c24 : 0 ≤ a2
      ·rw [if_pos c24] at H
       have c24b0 := decide_eq_true c24
       clear c24
       by_cases c25 : a2 < (t399.length : Int)
       ·rw [if_pos c25] at H
        have c25b0 := decide_eq_true c25
        clear c25
        have H' := Aside0.mk H
        clear H
        have hcz26_0 := bc BK395 0
        have hcz26_1 := bc BK395 1
        have hfz26_0 := blk_frozen BK395.out 0
        have hfz26_1 := blk_frozen BK395.out 1
        go_wp2_with (first | ((with_reducible refine gate_callee (f := 87) rfl ?_); refine gl_ (some 11) Try.func87 #[.agg #[.int .i64 a0_0, .slice A0_1 l0_1.length c0_1], .int .i64 a1] ?_; (with_reducible refine (spec_l1Knot.calls k a0_0 _ _ l0_1 a1 true _ ?side1 ?side2 A6.out).mono ?_); (case side1 => repeat (first | exact (Kd.C_below HR0_1.out HB.out) | (with_reducible refine Kd.C_alloc ?_ _) | (with_reducible refine Kd.C_drewN ?_ _) | (with_reducible refine Kd.C_drew ?_))); (case side2 => exact HC0_1.out); rintro e w27 ⟨rfl, hb⟩; refine ⟨_, rfl, ?_⟩; have n0_ := Aside0.mk (blk_below (bkn BK395) hb); have n1_ := Aside0.mk (below_step (bn HB) hb); clear BK395; clear HB; have BK395 := n0_; have HB := n1_; clear n0_ n1_; (try clear hb); have hcz28_0 := bc BK395 0; have hcz28_1 := bc BK395 1; have hfz28_0 := blk_frozen BK395.out 0; have hfz28_1 := blk_frozen BK395.out 1) | (go_at_call 87; (with_reducible refine (spec_l1Knot.calls k a0_0 _ _ l0_1 a2 true _ ?side1 ?side2 A8.out).mono ?_); (case side1 => repeat (first | exact (Kd.C_below HR0_1.out HB.out) | (with_reducible refine Kd.C_alloc ?_ _) | (with_reducible refine Kd.C_drewN ?_ _) | (with_reducible refine Kd.C_drew ?_))); (case side2 => exact HC0_1.out); rintro e w29 ⟨rfl, hb⟩; have n0_ := Aside0.mk (blk_below (bkn BK395) hb); have n1_ := Aside0.mk (below_step (bn HB) hb); clear BK395; clear HB; have BK395 := n0_; have HB := n1_; clear n0_ n1_; (try clear hb); have hcz30_0 := bc BK395 0; have hcz30_1 := bc BK395 1; have hfz30_0 := blk_frozen BK395.out 0; have hfz30_1 := blk_frozen BK395.out 1) | (go_at_call 96; (with_reducible refine (spec_NetHas.calls k a0_0 _ _ l0_1 a1 a2 false _ ?side1 ?side2 A15.out).mono ?_); (case side1 => repeat (first | exact (Kd.C_below HR0_1.out HB.out) | (with_reducible refine Kd.C_alloc ?_ _) | (with_reducible refine Kd.C_drewN ?_ _) | (with_reducible refine Kd.C_drew ?_))); (case side2 => exact HC0_1.out); rintro e w31 ⟨rfl, hb⟩; have n0_ := Aside0.mk (blk_below (bkn BK395) hb); have n1_ := Aside0.mk (below_step (bn HB) hb); clear BK395; clear HB; have BK395 := n0_; have HB := n1_; clear n0_ n1_; (try clear hb); have hcz32_0 := bc BK395 0; have hcz32_1 := bc BK395 1; have hfz32_0 := blk_frozen BK395.out 0; have hfz32_1 := blk_frozen BK395.out 1) | (go_at_call 97; (with_reducible refine (spec_WayReach.calls k a0_0 _ _ l0_1 a1 t399 _ ?side1 ?side2 A23.out).mono ?_); (case side1 => repeat (first | exact (Kd.C_below HR0_1.out HB.out) | (with_reducible refine Kd.C_alloc ?_ _) | (with_reducible refine Kd.C_drewN ?_ _) | (with_reducible refine Kd.C_drew ?_))); (case side2 => exact HC0_1.out); rintro e w33 ⟨v400, rfl, ho0, hb⟩; have n0_ := Aside0.mk (Kd.R_lower ho0 (below_size (bn HB))); have n1_ := Aside0.mk (blk_below (bkn BK395) hb); have n2_ := Aside0.mk (below_step (bn HB) hb); clear BK395; clear HB; have HO401 := n0_; have BK395 := n1_; have HB := n2_; clear n0_ n1_ n2_; (try clear hb); (try clear ho0); obtain ⟨Ao34, co34, eo34⟩ := Kd.R_slice HO401.out; subst eo34; have p402 : 0 ≤ (a2 : Int) := oa; have q402 : a2 < (t399.length : Int) := oa; obtain ⟨ad402, e402, hx402_0⟩ := Kd.at_bool (Kd.R_reads' HO401.out).2.2 a2 p402 q402; cases e402; replace p402 := eq_true p402; replace q402 := eq_true q402))
        go_meet
        case rel => exact ⟨_, (!(rdOf false t399 a2)), (by first | rfl | (simp; done) | (simp [*]; done)), H', ⟨by first | omega | exact Nat.le_refl _⟩, ⟨bkn BK395⟩, ⟨bn HB⟩⟩
       ·rw [if_neg c25] at H
        exact absurd H (by simp)
      ·rw [if_neg c24] at H
       exact absurd H (by simp)
   ·replace c9 := Bool.eq_false_iff.mpr c9
    subst c9
    rw [if_neg (show ¬ (false = true) by decide)] at H
    have H' := Aside0.mk H
    clear H
    have hcz35_0 := bc BK395 0
    have hcz35_1 := bc BK395 1
    have hfz35_0 := blk_frozen BK395.out 0
    have hfz35_1 := blk_frozen BK395.out 1
    go_wp2_with (first | ((with_reducible refine gate_callee (f := 87) rfl ?_); refine gl_ (some 11) Try.func87 #[.agg #[.int .i64 a0_0, .slice A0_1 l0_1.length c0_1], .int .i64 a1] ?_; (with_reducible refine (spec_l1Knot.calls k a0_0 _ _ l0_1 a1 true _ ?side1 ?side2 A6.out).mono ?_); (case side1 => repeat (first | exact (Kd.C_below HR0_1.out HB.out) | (with_reducible refine Kd.C_alloc ?_ _) | (with_reducible refine Kd.C_drewN ?_ _) | (with_reducible refine Kd.C_drew ?_))); (case side2 => exact HC0_1.out); rintro e w36 ⟨rfl, hb⟩; refine ⟨_, rfl, ?_⟩; have n0_ := Aside0.mk (blk_below (bkn BK395) hb); have n1_ := Aside0.mk (below_step (bn HB) hb); clear BK395; clear HB; have BK395 := n0_; have HB := n1_; clear n0_ n1_; (try clear hb); have hcz37_0 := bc BK395 0; have hcz37_1 := bc BK395 1; have hfz37_0 := blk_frozen BK395.out 0; have hfz37_1 := blk_frozen BK395.out 1) | (go_at_call 87; (with_reducible refine (spec_l1Knot.calls k a0_0 _ _ l0_1 a2 false _ ?side1 ?side2 A8.out).mono ?_); (case side1 => repeat (first | exact (Kd.C_below HR0_1.out HB.out) | (with_reducible refine Kd.C_alloc ?_ _) | (with_reducible refine Kd.C_drewN ?_ _) | (with_reducible refine Kd.C_drew ?_))); (case side2 => exact HC0_1.out); rintro e w38 ⟨rfl, hb⟩; have n0_ := Aside0.mk (blk_below (bkn BK395) hb); have n1_ := Aside0.mk (below_step (bn HB) hb); clear BK395; clear HB; have BK395 := n0_; have HB := n1_; clear n0_ n1_; (try clear hb); (try clear hi)))
    go_meet
    case rel => exact ⟨_, (true), (by first | rfl | (simp; done) | (simp [*]; done)), H', ⟨by first | omega | exact Nat.le_refl _⟩, ⟨bkn BK395⟩, ⟨bn HB⟩⟩
  ·replace c7 := Bool.eq_false_iff.mpr c7
   subst c7
   rw [if_neg (show ¬ (false = true) by decide)] at H
   have H' := Aside0.mk H
   clear H
   have hcz39_0 := bc BK395 0
   have hcz39_1 := bc BK395 1
   have hfz39_0 := blk_frozen BK395.out 0
   have hfz39_1 := blk_frozen BK395.out 1
   go_wp2_with (first | ((with_reducible refine gate_callee (f := 87) rfl ?_); refine gl_ (some 11) Try.func87 #[.agg #[.int .i64 a0_0, .slice A0_1 l0_1.length c0_1], .int .i64 a1] ?_; (with_reducible refine (spec_l1Knot.calls k a0_0 _ _ l0_1 a1 false _ ?side1 ?side2 A6.out).mono ?_); (case side1 => repeat (first | exact (Kd.C_below HR0_1.out HB.out) | (with_reducible refine Kd.C_alloc ?_ _) | (with_reducible refine Kd.C_drewN ?_ _) | (with_reducible refine Kd.C_drew ?_))); (case side2 => exact HC0_1.out); rintro e w40 ⟨rfl, hb⟩; refine ⟨_, rfl, ?_⟩; have n0_ := Aside0.mk (blk_below (bkn BK395) hb); have n1_ := Aside0.mk (below_step (bn HB) hb); clear BK395; clear HB; have BK395 := n0_; have HB := n1_; clear n0_ n1_; (try clear hb); (try clear hi)))
   go_meet
   case rel => exact ⟨_, (true), (by first | rfl | (simp; done) | (simp [*]; done)), H', ⟨by first | omega | exact Nat.le_refl _⟩, ⟨bkn BK395⟩, ⟨bn HB⟩⟩
 case rest =>
  clear HC4
  try clear c1
  try clear c2
  try clear p2
  try clear c4
  try clear p4
  try clear q4
  try clear hx4
  try clear c7
  try clear c8
  try clear c9
  try clear c10
  try clear c10b0
  try clear c10b1
  try clear c16
  try clear c24
  try clear c24b0
  try clear c25
  try clear c25b0
  try clear p40
  try clear q40
  try clear hx40
  try clear hcz11_0
  try clear hcz11_1
  try clear hcz13_0
  try clear hcz13_1
  try clear hcz17_0
  try clear hcz17_1
  try clear hcz19_0
  try clear hcz19_1
  try clear hcz21_0
  try clear hcz21_1
  try clear hcz26_0
  try clear hcz26_1
  try clear hcz28_0
  try clear hcz28_1
  try clear hcz30_0
  try clear hcz30_1
  try clear hcz32_0
  try clear hcz32_1
  try clear hcz35_0
  try clear hcz35_1
  try clear hcz37_0
  try clear hcz37_1
  try clear hcz39_0
  try clear hcz39_1
  try clear hfz11_0
  try clear hfz11_1
  try clear hfz13_0
  try clear hfz13_1
  try clear hfz17_0
  try clear hfz17_1
  try clear hfz19_0
  try clear hfz19_1
  try clear hfz21_0
  try clear hfz21_1
  try clear hfz26_0
  try clear hfz26_1
  try clear hfz28_0
  try clear hfz28_1
  try clear hfz30_0
  try clear hfz30_1
  try clear hfz32_0
  try clear hfz32_1
  try clear hfz35_0
  try clear hfz35_1
  try clear hfz37_0
  try clear hfz37_1
  try clear hfz39_0
  try clear hfz39_1
  try clear hx402_0
  try clear p402
  try clear q402
  obtain ⟨kq, x38_3, rfl, HA, HJ3, BK395, HB⟩ := hcut
  cases kq with
  | zero => exact absurd HA.out (by simp [spec_TwoCut.j0])
  | succ kj3 =>
   have H := HA.out
   clear HA
   simp only [spec_TwoCut.j0] at H
   by_cases c41 : x38_3 = true
   ·subst c41
    rw [if_pos rfl] at H
    simp only [Option.some.injEq, Prod.mk.injEq] at H
    obtain ⟨rfl, rfl⟩ := H
    go_wp2
    go_ret2
    exact ⟨by first | rfl | (simp [errW_none, errW_some] <;> rfl) | (simp [*, errW_none, errW_some] <;> rfl), bn HB⟩
   ·replace c41 := Bool.eq_false_iff.mpr c41
    subst c41
    rw [if_neg (show ¬ (false = true) by decide)] at H
    have H' := Aside0.mk H
    clear H
    go_wp2
    go_loopg [8] kj3 (fun kq v8 w' => ∃ (x8_2 : Int), v8 = .int .i64 x8_2 ∧ Aside0 (spec_TwoCut.l0 kq a1 a2 x8_2 a0_0 l0_1 = some (r1, r2)) ∧ Aside0 (kq ≤ kj3) ∧ Aside0 (w'.heap[gb395]? = some (.cells #[.int .i64 a0_0, (.slice A0_1 l0_1.length c0_1)] 34 (0, 0))) ∧ Aside0 (Below w.heap.size w w'))
    case atStart => exact ⟨(0), (by first | rfl | (simp; done) | (simp [*]; done)), H', ⟨Nat.le_refl _⟩, ⟨bkn BK395⟩, ⟨bn HB⟩⟩
    case round =>
     clear H'
     try clear c1
     try clear c2
     try clear p2
     try clear c4
     try clear p4
     try clear q4
     try clear hx4
     try clear c7
     try clear c8
     try clear c9
     try clear c10
     try clear c10b0
     try clear c10b1
     try clear c16
     try clear c24
     try clear c24b0
     try clear c25
     try clear c25b0
     try clear p40
     try clear q40
     try clear hx40
     try clear c41
     try clear hcz11_0
     try clear hcz11_1
     try clear hcz13_0
     try clear hcz13_1
     try clear hcz17_0
     try clear hcz17_1
     try clear hcz19_0
     try clear hcz19_1
     try clear hcz21_0
     try clear hcz21_1
     try clear hcz26_0
     try clear hcz26_1
     try clear hcz28_0
     try clear hcz28_1
     try clear hcz30_0
     try clear hcz30_1
     try clear hcz32_0
     try clear hcz32_1
     try clear hcz35_0
     try clear hcz35_1
     try clear hcz37_0
     try clear hcz37_1
     try clear hcz39_0
     try clear hcz39_1
     try clear hfz11_0
     try clear hfz11_1
     try clear hfz13_0
     try clear hfz13_1
     try clear hfz17_0
     try clear hfz17_1
     try clear hfz19_0
     try clear hfz19_1
     try clear hfz21_0
     try clear hfz21_1
     try clear hfz26_0
     try clear hfz26_1
     try clear hfz28_0
     try clear hfz28_1
     try clear hfz30_0
     try clear hfz30_1
     try clear hfz32_0
     try clear hfz32_1
     try clear hfz35_0
     try clear hfz35_1
     try clear hfz37_0
     try clear hfz37_1
     try clear hfz39_0
     try clear hfz39_1
     try clear hx402_0
     try clear p2
     try clear p4
     try clear p40
     try clear p402
     try clear q4
     try clear q40
     try clear q402
     obtain ⟨x8_2, rfl, HA, HK2, BK395, HB⟩ := hrel
     cases gk with
     | zero => exact absurd HA.out (by simp [spec_TwoCut.l0])
     | succ k2 =>
      have H := HA.out
      clear HA
      simp only [spec_TwoCut.l0] at H
      by_cases c42 : x8_2 < a0_0
      ·rw [if_pos c42] at H
       have c42b0 := decide_eq_true c42
       clear c42
       by_cases c43 : x8_2 = a1
       ·rw [if_pos c43] at H
        have c43b0 : (x8_2 == a1) = true := beq_iff_eq.mpr c43
        have c43b1 : (x8_2 != a1) = false := bne_eq_false_iff_eq.mpr c43
        clear c43
        have H' := Aside0.mk H
        clear H
        have hcz44_0 := bc BK395 0
        have hcz44_1 := bc BK395 1
        have hfz44_0 := blk_frozen BK395.out 0
        have hfz44_1 := blk_frozen BK395.out 1
        go_wp2
        go_roundg k2
        case measure => have := HJ3.out; have := HK2.out; omega
        case rel => exact ⟨(wrap64 (x8_2 + 1)), (by first | rfl | (simp; done) | (simp [*]; done)), H', ⟨by have := HJ3.out; have := HK2.out; omega⟩, ⟨bkn BK395⟩, ⟨bn HB⟩⟩
       ·rw [if_neg c43] at H
        have c43b0 : (x8_2 == a1) = false := beq_eq_false_iff_ne.mpr c43
        have c43b1 : (x8_2 != a1) = true := bne_iff_ne.mpr c43
        by_cases c45 : x8_2 = a2
        ·rw [if_pos c45] at H
         have c45b0 : (x8_2 == a2) = true := beq_iff_eq.mpr c45
         have c45b1 : (x8_2 != a2) = false := bne_eq_false_iff_eq.mpr c45
         clear c45
         have H' := Aside0.mk H
         clear H
         have hcz46_0 := bc BK395 0
         have hcz46_1 := bc BK395 1
         have hfz46_0 := blk_frozen BK395.out 0
         have hfz46_1 := blk_frozen BK395.out 1
         go_wp2
         go_roundg k2
         case measure => have := HJ3.out; have := HK2.out; omega
         case rel => exact ⟨(wrap64 (x8_2 + 1)), (by first | rfl | (simp; done) | (simp [*]; done)), H', ⟨by have := HJ3.out; have := HK2.out; omega⟩, ⟨bkn BK395⟩, ⟨bn HB⟩⟩
        ·rw [if_neg c45] at H
         have c45b0 : (x8_2 == a2) = false := beq_eq_false_iff_ne.mpr c45
         have c45b1 : (x8_2 != a2) = true := bne_iff_ne.mpr c45
         replace H := Option.bind_eq_some_iff.mp H
         obtain ⟨⟨t403, t404⟩, A470, H⟩ := H
         (try dsimp only at H)
         have A47 := Aside0.mk A470
         clear A470
         replace H := Option.bind_eq_some_iff.mp H
         obtain ⟨t407, A480, H⟩ := H
         (try dsimp only at H)
         have A48 := Aside0.mk A480
         clear A480
         by_cases c49 : 0 ≤ a2
         ·rw [if_pos c49] at H
          have c49b0 := decide_eq_true c49
          clear c49
          by_cases c50 : a2 < (t407.length : Int)
          ·rw [if_pos c50] at H
           have c50b0 := decide_eq_true c50
           clear c50
           obtain ⟨bq51, hbq51⟩ : ∃ b_ : Bool, b_ = (rdOf false t407 a2) := ⟨_, rfl⟩
           replace H : (if bq51 = true then (spec_TwoCut.l0 k2 a1 a2 (wrap64 (x8_2 + 1)) a0_0 l0_1) else (some (x8_2, true))) = some (r1, r2) := by rw [← hbq51] at H; exact H
           have Nbq51 := Aside0.mk hbq51
           clear hbq51
           by_cases c52 : bq51 = true
           ·subst c52
            rw [if_pos rfl] at H
            have H' := Aside0.mk H
            clear H
            have hcz53_0 := bc BK395 0
            have hcz53_1 := bc BK395 1
            have hfz53_0 := blk_frozen BK395.out 0
            have hfz53_1 := blk_frozen BK395.out 1
            go_wp2_with (first | (go_at_call 98; (with_reducible refine (spec_NetWithout.calls k2 a0_0 _ _ l0_1 x8_2 t403 t404 _ ?side1 ?side2 A47.out).mono ?_); (case side1 => repeat (first | exact (Kd.C_below HR0_1.out HB.out) | (with_reducible refine Kd.C_alloc ?_ _) | (with_reducible refine Kd.C_drewN ?_ _) | (with_reducible refine Kd.C_drew ?_))); (case side2 => exact HC0_1.out); rintro e w54 ⟨v405, rfl, ho0, hb⟩; have n0_ := Aside0.mk (Kd.R_lower ho0 (below_size (bn HB))); have n1_ := Aside0.mk (blk_below (bkn BK395) hb); have n2_ := Aside0.mk (below_step (bn HB) hb); clear BK395; clear HB; have HO406 := n0_; have BK395 := n1_; have HB := n2_; clear n0_ n1_ n2_; (try clear hb); (try clear ho0); obtain ⟨Ao55, co55, eo55⟩ := Kd.R_slice HO406.out; subst eo55) | (go_at_call 97; (with_reducible refine (spec_WayReach.calls k2 t403 _ _ t404 a1 t407 _ ?side1 ?side2 A48.out).mono ?_); (case side1 => repeat (first | exact (Kd.R_reads' HO406.out).2.2 | (with_reducible refine Kd.C_alloc ?_ _) | (with_reducible refine Kd.C_drewN ?_ _) | (with_reducible refine Kd.C_drew ?_))); (case side2 => exact (Kd.R_reads' HO406.out).2.1); rintro e w56 ⟨v408, rfl, ho0, hb⟩; have n0_ := Aside0.mk (Kd.R_below (onR HO406) hb); have n1_ := Aside0.mk (Kd.R_lower ho0 (below_size (bn HB))); have n2_ := Aside0.mk (blk_below (bkn BK395) hb); have n3_ := Aside0.mk (below_step (bn HB) hb); clear HO406; clear BK395; clear HB; have HO406 := n0_; have HO409 := n1_; have BK395 := n2_; have HB := n3_; clear n0_ n1_ n2_ n3_; (try clear hb); (try clear ho0); obtain ⟨Ao57, co57, eo57⟩ := Kd.R_slice HO409.out; subst eo57; have p410 : 0 ≤ (a2 : Int) := oa; have q410 : a2 < (t407.length : Int) := oa; obtain ⟨ad410, e410, hx410_0⟩ := Kd.at_bool (Kd.R_reads' HO409.out).2.2 a2 p410 q410; (try rw [← Nbq51.out] at hx410_0); cases e410; replace p410 := eq_true p410; replace q410 := eq_true q410))
            go_roundg k2
            case measure => have := HJ3.out; have := HK2.out; omega
            case rel => exact ⟨(wrap64 (x8_2 + 1)), (by first | rfl | (simp; done) | (simp [*]; done)), H', ⟨by have := HJ3.out; have := HK2.out; omega⟩, ⟨bkn BK395⟩, ⟨bn HB⟩⟩
           ·replace c52 := Bool.eq_false_iff.mpr c52
            subst c52
            rw [if_neg (show ¬ (false = true) by decide)] at H
            simp only [Option.some.injEq, Prod.mk.injEq] at H
            obtain ⟨rfl, rfl⟩ := H
            have hcz58_0 := bc BK395 0
            have hcz58_1 := bc BK395 1
            have hfz58_0 := blk_frozen BK395.out 0
            have hfz58_1 := blk_frozen BK395.out 1
            go_wp2_with (first | (go_at_call 98; (with_reducible refine (spec_NetWithout.calls k2 a0_0 _ _ l0_1 x8_2 t403 t404 _ ?side1 ?side2 A47.out).mono ?_); (case side1 => repeat (first | exact (Kd.C_below HR0_1.out HB.out) | (with_reducible refine Kd.C_alloc ?_ _) | (with_reducible refine Kd.C_drewN ?_ _) | (with_reducible refine Kd.C_drew ?_))); (case side2 => exact HC0_1.out); rintro e w59 ⟨v405, rfl, ho0, hb⟩; have n0_ := Aside0.mk (Kd.R_lower ho0 (below_size (bn HB))); have n1_ := Aside0.mk (blk_below (bkn BK395) hb); have n2_ := Aside0.mk (below_step (bn HB) hb); clear BK395; clear HB; have HO406 := n0_; have BK395 := n1_; have HB := n2_; clear n0_ n1_ n2_; (try clear hb); (try clear ho0); obtain ⟨Ao60, co60, eo60⟩ := Kd.R_slice HO406.out; subst eo60) | (go_at_call 97; (with_reducible refine (spec_WayReach.calls k2 t403 _ _ t404 a1 t407 _ ?side1 ?side2 A48.out).mono ?_); (case side1 => repeat (first | exact (Kd.R_reads' HO406.out).2.2 | (with_reducible refine Kd.C_alloc ?_ _) | (with_reducible refine Kd.C_drewN ?_ _) | (with_reducible refine Kd.C_drew ?_))); (case side2 => exact (Kd.R_reads' HO406.out).2.1); rintro e w61 ⟨v408, rfl, ho0, hb⟩; have n0_ := Aside0.mk (Kd.R_below (onR HO406) hb); have n1_ := Aside0.mk (Kd.R_lower ho0 (below_size (bn HB))); have n2_ := Aside0.mk (blk_below (bkn BK395) hb); have n3_ := Aside0.mk (below_step (bn HB) hb); clear HO406; clear BK395; clear HB; have HO406 := n0_; have HO409 := n1_; have BK395 := n2_; have HB := n3_; clear n0_ n1_ n2_ n3_; (try clear hb); (try clear ho0); obtain ⟨Ao62, co62, eo62⟩ := Kd.R_slice HO409.out; subst eo62; have p410 : 0 ≤ (a2 : Int) := oa; have q410 : a2 < (t407.length : Int) := oa; obtain ⟨ad410, e410, hx410_0⟩ := Kd.at_bool (Kd.R_reads' HO409.out).2.2 a2 p410 q410; (try rw [← Nbq51.out] at hx410_0); cases e410; replace p410 := eq_true p410; replace q410 := eq_true q410))
            go_ret2
            exact ⟨by first | rfl | (simp [errW_none, errW_some] <;> rfl) | (simp [*, errW_none, errW_some] <;> rfl), bn HB⟩
          ·rw [if_neg c50] at H
           exact absurd H (by simp)
         ·rw [if_neg c49] at H
          exact absurd H (by simp)
      ·rw [if_neg c42] at H
       have c42b0 := decide_eq_false c42
       clear c42
       simp only [Option.some.injEq, Prod.mk.injEq] at H
       obtain ⟨rfl, rfl⟩ := H
       have hcz63_0 := bc BK395 0
       have hcz63_1 := bc BK395 1
       have hfz63_0 := blk_frozen BK395.out 0
       have hfz63_1 := blk_frozen BK395.out 1
       go_wp2
       go_ret2
       exact ⟨by first | rfl | (simp [errW_none, errW_some] <;> rfl) | (simp [*, errW_none, errW_some] <;> rfl), bn HB⟩

/-! ### impl_TwoCut: function 42 -/
mutual
def impl_TwoCut.j0 : Nat → Int → Int → Bool → Int → List (S73) → Option (Int × Bool)
 | 0, _, _, _, _, _ => none
 | k + 1, x1, x2, x26, x444000, x444001 => if x26 = true then (some (0, false)) else (impl_TwoCut.l0 k x1 x2 x444000 0 x444000 x444001)
def impl_TwoCut.l0 : Nat → Int → Int → Int → Int → Int → List (S73) → Option (Int × Bool)
 | 0, _, _, _, _, _, _ => none
 | k + 1, x1, x2, x28, x29, x444000, x444001 => if x29 < x28 then (if x29 = x1 then (impl_TwoCut.l0 k x1 x2 x28 (wrap64 (x29 + 1)) x444000 x444001) else (if x29 = x2 then (impl_TwoCut.l0 k x1 x2 x28 (wrap64 (x29 + 1)) x444000 x444001) else ((impl_Net_without.f k x444000 x444001 x29).bind fun bt447 => ((impl_Net_joined.f k bt447.1 bt447.2 x1 x2).bind fun t451 => (if t451 = true then (impl_TwoCut.l0 k x1 x2 x28 (wrap64 (x29 + 1)) x444000 x444001) else (some (x29, true))))))) else (some (0, false))
end
def impl_TwoCut.f (k : Nat) (a0_0 : Int) (l0_1 : List (S73)) (a1 : Int) (a2 : Int) : Option (Int × Bool) := (impl_twoKnots.f k a0_0 l0_1 a1 a2).bind fun t444 => (if t444 = true then ((impl_Net_joined.f k a0_0 l0_1 a1 a2).bind fun t445 => (if t445 = true then ((impl_Net_has.f k a0_0 l0_1 a1 a2).bind fun t446 => (impl_TwoCut.j0 k a1 a2 t446 a0_0 l0_1)) else (impl_TwoCut.j0 k a1 a2 true a0_0 l0_1))) else (impl_TwoCut.j0 k a1 a2 true a0_0 l0_1))
theorem impl_TwoCut.mono_l : ∀ k, (∀ y0 y1 y2 y3 y4, LeO (impl_TwoCut.j0 k y0 y1 y2 y3 y4) (impl_TwoCut.j0 (k + 1) y0 y1 y2 y3 y4)) ∧ (∀ y0 y1 y2 y3 y4 y5, LeO (impl_TwoCut.l0 k y0 y1 y2 y3 y4 y5) (impl_TwoCut.l0 (k + 1) y0 y1 y2 y3 y4 y5))
 | 0 => ⟨fun _ _ _ _ _ r h => by simp [impl_TwoCut.j0] at h, fun _ _ _ _ _ _ r h => by simp [impl_TwoCut.l0] at h⟩
 | k + 1 => by
  obtain ⟨ih0, ih1⟩ := impl_TwoCut.mono_l k
  refine ⟨?_, ?_⟩
  ·intro y0 y1 y2 y3 y4
   unfold impl_TwoCut.j0
   repeat' first
   | (with_reducible exact ih0 _ _ _ _ _)
   | (with_reducible exact ih1 _ _ _ _ _ _)
   | (with_reducible exact impl_Net_has.mono _ _ _ _ _)
   | (with_reducible exact impl_Net_joined.mono _ _ _ _ _)
   | (with_reducible exact impl_Net_without.mono _ _ _ _)
   | (with_reducible exact impl_twoKnots.mono _ _ _ _ _)
   | (with_reducible exact LeO.refl _)
   | (with_reducible exact LeO.none _)
   | (with_reducible refine LeO.ite ?_ ?_)
   | (with_reducible refine LeO.bind ?_ (fun _ => ?_))
   | exact ih0 _ _ _ _ _
   | exact ih1 _ _ _ _ _ _
   | exact impl_Net_has.mono _ _ _ _ _
   | exact impl_Net_joined.mono _ _ _ _ _
   | exact impl_Net_without.mono _ _ _ _
   | exact impl_twoKnots.mono _ _ _ _ _
   | exact LeO.none _
   | refine LeO.ite ?_ ?_
   | refine LeO.bind ?_ (fun _ => ?_)
  ·intro y0 y1 y2 y3 y4 y5
   unfold impl_TwoCut.l0
   repeat' first
   | (with_reducible exact ih0 _ _ _ _ _)
   | (with_reducible exact ih1 _ _ _ _ _ _)
   | (with_reducible exact impl_Net_has.mono _ _ _ _ _)
   | (with_reducible exact impl_Net_joined.mono _ _ _ _ _)
   | (with_reducible exact impl_Net_without.mono _ _ _ _)
   | (with_reducible exact impl_twoKnots.mono _ _ _ _ _)
   | (with_reducible exact LeO.refl _)
   | (with_reducible exact LeO.none _)
   | (with_reducible refine LeO.ite ?_ ?_)
   | (with_reducible refine LeO.bind ?_ (fun _ => ?_))
   | exact ih0 _ _ _ _ _
   | exact ih1 _ _ _ _ _ _
   | exact impl_Net_has.mono _ _ _ _ _
   | exact impl_Net_joined.mono _ _ _ _ _
   | exact impl_Net_without.mono _ _ _ _
   | exact impl_twoKnots.mono _ _ _ _ _
   | exact LeO.none _
   | refine LeO.ite ?_ ?_
   | refine LeO.bind ?_ (fun _ => ?_)
theorem impl_TwoCut.mono : ∀ a0 a1 a2 a3 k, LeO (impl_TwoCut.f k a0 a1 a2 a3) (impl_TwoCut.f (k + 1) a0 a1 a2 a3) := by
 intro a0 a1 a2 a3 k
 obtain ⟨ih0, ih1⟩ := impl_TwoCut.mono_l k
 unfold impl_TwoCut.f
 repeat' first
   | (with_reducible exact ih0 _ _ _ _ _)
   | (with_reducible exact ih1 _ _ _ _ _ _)
   | (with_reducible exact impl_Net_has.mono _ _ _ _ _)
   | (with_reducible exact impl_Net_joined.mono _ _ _ _ _)
   | (with_reducible exact impl_Net_without.mono _ _ _ _)
   | (with_reducible exact impl_twoKnots.mono _ _ _ _ _)
   | (with_reducible exact LeO.refl _)
   | (with_reducible exact LeO.none _)
   | (with_reducible refine LeO.ite ?_ ?_)
   | (with_reducible refine LeO.bind ?_ (fun _ => ?_))
   | exact ih0 _ _ _ _ _
   | exact ih1 _ _ _ _ _ _
   | exact impl_Net_has.mono _ _ _ _ _
   | exact impl_Net_joined.mono _ _ _ _ _
   | exact impl_Net_without.mono _ _ _ _
   | exact impl_twoKnots.mono _ _ _ _ _
   | exact LeO.none _
   | refine LeO.ite ?_ ?_
   | refine LeO.bind ?_ (fun _ => ?_)
set_option maxHeartbeats 8000000 in
set_option maxRecDepth 100000 in
theorem impl_TwoCut.calls (k : Nat) (a0_0 : Int) (A0_1 : Option Addr) (c0_1 : Nat) (l0_1 : List (S73)) (a1 : Int) (a2 : Int) (r1 : Int) (r2 : Bool) (w : World) (hr0_1 : Kd.C k73 w A0_1 l0_1.length l0_1) (hc0_1 : l0_1.length ≤ c0_1) (h : impl_TwoCut.f k a0_0 l0_1 a1 a2 = some (r1, r2)) :
  Calls Try.prog 42 #[.agg #[.int .i64 a0_0, .slice A0_1 l0_1.length c0_1], .int .i64 a1, .int .i64 a2] w fun e w' => e = .returned (.tuple #[.int .i64 r1, .bool r2]) ∧ Below w.heap.size w w' := by
 have hu34 := Try.underlying34
 have HR0_1 := Aside0.mk hr0_1
 have HC0_1 := Aside0.mk hc0_1
 clear hr0_1 hc0_1
 have HB := Aside0.mk (Below.refl w.heap.size w)
 have H : ((impl_twoKnots.f k a0_0 l0_1 a1 a2).bind fun t444 => (if t444 = true then ((impl_Net_joined.f k a0_0 l0_1 a1 a2).bind fun t445 => (if t445 = true then ((impl_Net_has.f k a0_0 l0_1 a1 a2).bind fun t446 => (impl_TwoCut.j0 k a1 a2 t446 a0_0 l0_1)) else (impl_TwoCut.j0 k a1 a2 true a0_0 l0_1))) else (impl_TwoCut.j0 k a1 a2 true a0_0 l0_1))) = some (r1, r2) := h
 clear h
 have HC4 := Aside0.mk H
 clear H
 go_enter Try.func42, Try.ntmps42
 go_upto_region 1 with (first | ((with_reducible refine gate_dst (N := 3) rfl ?_); refine box_event ?hg (N := 3) ?hd (cs := #[.int .i64 a0_0, .slice A0_1 l0_1.length c0_1]) (t := 34) ?hr ?_; (case hd => rfl); (case hg => rfl); (case hr => first | (go_simp; done) | (go_simp; rfl)); intro gb443 hg w5 hbox hb; have n0_ := Aside0.mk (below_step (bn HB) hb); have n1_ := Aside0.mk (hbox); have n2_ := Aside0.mk ((by rw [hg]; exact (below_size (bn HB)) : w.heap.size ≤ gb443)); have n3_ := Aside0.mk ((by rw [hg]; exact (below_size (bn HB)) : w.heap.size ≤ gb443)); clear HB; have HB := n0_; have BK443 := n1_; have GW443 := n2_; have GE443 := n3_; clear n0_ n1_ n2_ n3_; clear hb hbox hg))
 (try simp only [Act.put, List.setIfInBounds_toArray, List.set_cons_zero, List.set_cons_succ])
 go_cut [26] (fun v26 wc => ∃ (kq : Nat) (x26_3 : Bool), v26 = .bool x26_3 ∧ Aside0 (impl_TwoCut.j0 kq a1 a2 x26_3 a0_0 l0_1 = some (r1, r2)) ∧ Aside0 (kq ≤ k) ∧ Aside0 (wc.heap[gb443]? = some (.cells #[.int .i64 a0_0, (.slice A0_1 l0_1.length c0_1)] 34 (0, 0))) ∧ Aside0 (Below w.heap.size w wc))
 case first =>
  have H := HC4.out
  clear HC4
  replace H := Option.bind_eq_some_iff.mp H
  obtain ⟨t444, A60, H⟩ := H
  (try dsimp only at H)
  have A6 := Aside0.mk A60
  clear A60
  by_cases c7 : t444 = true
  ·subst c7
   rw [if_pos rfl] at H
   replace H := Option.bind_eq_some_iff.mp H
   obtain ⟨t445, A80, H⟩ := H
   (try dsimp only at H)
   have A8 := Aside0.mk A80
   clear A80
   by_cases c9 : t445 = true
   ·subst c9
    rw [if_pos rfl] at H
    replace H := Option.bind_eq_some_iff.mp H
    obtain ⟨t446, A100, H⟩ := H
    (try dsimp only at H)
    have A10 := Aside0.mk A100
    clear A100
    have H' := Aside0.mk H
    clear H
    have hcz11_0 := bc BK443 0
    have hcz11_1 := bc BK443 1
    have hfz11_0 := blk_frozen BK443.out 0
    have hfz11_1 := blk_frozen BK443.out 1
    go_wp2_with (first | ((with_reducible refine gate_callee (f := 89) rfl ?_); refine gl_ (some 12) Try.func89 #[.agg #[.int .i64 a0_0, .slice A0_1 l0_1.length c0_1], .int .i64 a1, .int .i64 a2] ?_; (with_reducible refine (impl_twoKnots.calls k a0_0 _ _ l0_1 a1 a2 true _ ?side1 ?side2 A6.out).mono ?_); (case side1 => repeat (first | exact (Kd.C_below HR0_1.out HB.out) | (with_reducible refine Kd.C_alloc ?_ _) | (with_reducible refine Kd.C_drewN ?_ _) | (with_reducible refine Kd.C_drew ?_))); (case side2 => exact HC0_1.out); rintro e w12 ⟨rfl, hb⟩; refine ⟨_, rfl, ?_⟩; have n0_ := Aside0.mk (blk_below (bkn BK443) hb); have n1_ := Aside0.mk (below_step (bn HB) hb); clear BK443; clear HB; have BK443 := n0_; have HB := n1_; clear n0_ n1_; (try clear hb); have hcz13_0 := bc BK443 0; have hcz13_1 := bc BK443 1; have hfz13_0 := blk_frozen BK443.out 0; have hfz13_1 := blk_frozen BK443.out 1) | (go_at_call 99; (with_reducible refine (impl_Net_joined.calls k a0_0 _ _ l0_1 a1 a2 true _ ?side1 ?side2 A8.out).mono ?_); (case side1 => repeat (first | exact (Kd.C_below HR0_1.out HB.out) | (with_reducible refine Kd.C_alloc ?_ _) | (with_reducible refine Kd.C_drewN ?_ _) | (with_reducible refine Kd.C_drew ?_))); (case side2 => exact HC0_1.out); rintro e w14 ⟨rfl, hb⟩; have n0_ := Aside0.mk (blk_below (bkn BK443) hb); have n1_ := Aside0.mk (below_step (bn HB) hb); clear BK443; clear HB; have BK443 := n0_; have HB := n1_; clear n0_ n1_; (try clear hb); have hcz15_0 := bc BK443 0; have hcz15_1 := bc BK443 1; have hfz15_0 := blk_frozen BK443.out 0; have hfz15_1 := blk_frozen BK443.out 1) | (go_at_call 100; (with_reducible refine (impl_Net_has.calls k a0_0 _ _ l0_1 a1 a2 t446 _ ?side1 ?side2 A10.out).mono ?_); (case side1 => repeat (first | exact (Kd.C_below HR0_1.out HB.out) | (with_reducible refine Kd.C_alloc ?_ _) | (with_reducible refine Kd.C_drewN ?_ _) | (with_reducible refine Kd.C_drew ?_))); (case side2 => exact HC0_1.out); rintro e w16 ⟨rfl, hb⟩; have n0_ := Aside0.mk (blk_below (bkn BK443) hb); have n1_ := Aside0.mk (below_step (bn HB) hb); clear BK443; clear HB; have BK443 := n0_; have HB := n1_; clear n0_ n1_; (try clear hb); (try clear hi)))
    go_meet
    case rel => exact ⟨_, (t446), (by first | rfl | (simp; done) | (simp [*]; done)), H', ⟨by first | omega | exact Nat.le_refl _⟩, ⟨bkn BK443⟩, ⟨bn HB⟩⟩
   ·replace c9 := Bool.eq_false_iff.mpr c9
    subst c9
    rw [if_neg (show ¬ (false = true) by decide)] at H
    have H' := Aside0.mk H
    clear H
    have hcz17_0 := bc BK443 0
    have hcz17_1 := bc BK443 1
    have hfz17_0 := blk_frozen BK443.out 0
    have hfz17_1 := blk_frozen BK443.out 1
    go_wp2_with (first | ((with_reducible refine gate_callee (f := 89) rfl ?_); refine gl_ (some 12) Try.func89 #[.agg #[.int .i64 a0_0, .slice A0_1 l0_1.length c0_1], .int .i64 a1, .int .i64 a2] ?_; (with_reducible refine (impl_twoKnots.calls k a0_0 _ _ l0_1 a1 a2 true _ ?side1 ?side2 A6.out).mono ?_); (case side1 => repeat (first | exact (Kd.C_below HR0_1.out HB.out) | (with_reducible refine Kd.C_alloc ?_ _) | (with_reducible refine Kd.C_drewN ?_ _) | (with_reducible refine Kd.C_drew ?_))); (case side2 => exact HC0_1.out); rintro e w18 ⟨rfl, hb⟩; refine ⟨_, rfl, ?_⟩; have n0_ := Aside0.mk (blk_below (bkn BK443) hb); have n1_ := Aside0.mk (below_step (bn HB) hb); clear BK443; clear HB; have BK443 := n0_; have HB := n1_; clear n0_ n1_; (try clear hb); have hcz19_0 := bc BK443 0; have hcz19_1 := bc BK443 1; have hfz19_0 := blk_frozen BK443.out 0; have hfz19_1 := blk_frozen BK443.out 1) | (go_at_call 99; (with_reducible refine (impl_Net_joined.calls k a0_0 _ _ l0_1 a1 a2 false _ ?side1 ?side2 A8.out).mono ?_); (case side1 => repeat (first | exact (Kd.C_below HR0_1.out HB.out) | (with_reducible refine Kd.C_alloc ?_ _) | (with_reducible refine Kd.C_drewN ?_ _) | (with_reducible refine Kd.C_drew ?_))); (case side2 => exact HC0_1.out); rintro e w20 ⟨rfl, hb⟩; have n0_ := Aside0.mk (blk_below (bkn BK443) hb); have n1_ := Aside0.mk (below_step (bn HB) hb); clear BK443; clear HB; have BK443 := n0_; have HB := n1_; clear n0_ n1_; (try clear hb); (try clear hi)))
    go_meet
    case rel => exact ⟨_, (true), (by first | rfl | (simp; done) | (simp [*]; done)), H', ⟨by first | omega | exact Nat.le_refl _⟩, ⟨bkn BK443⟩, ⟨bn HB⟩⟩
  ·replace c7 := Bool.eq_false_iff.mpr c7
   subst c7
   rw [if_neg (show ¬ (false = true) by decide)] at H
   have H' := Aside0.mk H
   clear H
   have hcz21_0 := bc BK443 0
   have hcz21_1 := bc BK443 1
   have hfz21_0 := blk_frozen BK443.out 0
   have hfz21_1 := blk_frozen BK443.out 1
   go_wp2_with (first | ((with_reducible refine gate_callee (f := 89) rfl ?_); refine gl_ (some 12) Try.func89 #[.agg #[.int .i64 a0_0, .slice A0_1 l0_1.length c0_1], .int .i64 a1, .int .i64 a2] ?_; (with_reducible refine (impl_twoKnots.calls k a0_0 _ _ l0_1 a1 a2 false _ ?side1 ?side2 A6.out).mono ?_); (case side1 => repeat (first | exact (Kd.C_below HR0_1.out HB.out) | (with_reducible refine Kd.C_alloc ?_ _) | (with_reducible refine Kd.C_drewN ?_ _) | (with_reducible refine Kd.C_drew ?_))); (case side2 => exact HC0_1.out); rintro e w22 ⟨rfl, hb⟩; refine ⟨_, rfl, ?_⟩; have n0_ := Aside0.mk (blk_below (bkn BK443) hb); have n1_ := Aside0.mk (below_step (bn HB) hb); clear BK443; clear HB; have BK443 := n0_; have HB := n1_; clear n0_ n1_; (try clear hb); (try clear hi)))
   go_meet
   case rel => exact ⟨_, (true), (by first | rfl | (simp; done) | (simp [*]; done)), H', ⟨by first | omega | exact Nat.le_refl _⟩, ⟨bkn BK443⟩, ⟨bn HB⟩⟩
 case rest =>
  clear HC4
  try clear p2
  try clear c4
  try clear c7
  try clear c8
  try clear c9
  try clear hcz11_0
  try clear hcz11_1
  try clear hcz13_0
  try clear hcz13_1
  try clear hcz15_0
  try clear hcz15_1
  try clear hcz17_0
  try clear hcz17_1
  try clear hcz19_0
  try clear hcz19_1
  try clear hcz21_0
  try clear hcz21_1
  try clear hfz11_0
  try clear hfz11_1
  try clear hfz13_0
  try clear hfz13_1
  try clear hfz15_0
  try clear hfz15_1
  try clear hfz17_0
  try clear hfz17_1
  try clear hfz19_0
  try clear hfz19_1
  try clear hfz21_0
  try clear hfz21_1
  obtain ⟨kq, x26_3, rfl, HA, HJ3, BK443, HB⟩ := hcut
  cases kq with
  | zero => exact absurd HA.out (by simp [impl_TwoCut.j0])
  | succ kj3 =>
   have H := HA.out
   clear HA
   simp only [impl_TwoCut.j0] at H
   by_cases c23 : x26_3 = true
   ·subst c23
    rw [if_pos rfl] at H
    simp only [Option.some.injEq, Prod.mk.injEq] at H
    obtain ⟨rfl, rfl⟩ := H
    go_wp2
    go_ret2
    exact ⟨by first | rfl | (simp [errW_none, errW_some] <;> rfl) | (simp [*, errW_none, errW_some] <;> rfl), bn HB⟩
   ·replace c23 := Bool.eq_false_iff.mpr c23
    subst c23
    rw [if_neg (show ¬ (false = true) by decide)] at H
    have H' := Aside0.mk H
    clear H
    have hcz24_0 := bc BK443 0
    have hcz24_1 := bc BK443 1
    have hfz24_0 := blk_frozen BK443.out 0
    have hfz24_1 := blk_frozen BK443.out 1
    go_wp2
    go_loopg [29] kj3 (fun kq v29 w' => ∃ (x29_2 : Int), v29 = .int .i64 x29_2 ∧ Aside0 (impl_TwoCut.l0 kq a1 a2 a0_0 x29_2 a0_0 l0_1 = some (r1, r2)) ∧ Aside0 (kq ≤ kj3) ∧ Aside0 (w'.heap[gb443]? = some (.cells #[.int .i64 a0_0, (.slice A0_1 l0_1.length c0_1)] 34 (0, 0))) ∧ Aside0 (Below w.heap.size w w'))
    case atStart => exact ⟨(0), (by first | rfl | (simp; done) | (simp [*]; done)), H', ⟨Nat.le_refl _⟩, ⟨bkn BK443⟩, ⟨bn HB⟩⟩
    case round =>
     clear H'
     try clear c2
     try clear p2
     try clear c4
     try clear c7
     try clear c8
     try clear c9
     try clear c23
     try clear hcz11_0
     try clear hcz11_1
     try clear hcz13_0
     try clear hcz13_1
     try clear hcz15_0
     try clear hcz15_1
     try clear hcz17_0
     try clear hcz17_1
     try clear hcz19_0
     try clear hcz19_1
     try clear hcz21_0
     try clear hcz21_1
     try clear hcz24_0
     try clear hcz24_1
     try clear hfz11_0
     try clear hfz11_1
     try clear hfz13_0
     try clear hfz13_1
     try clear hfz15_0
     try clear hfz15_1
     try clear hfz17_0
     try clear hfz17_1
     try clear hfz19_0
     try clear hfz19_1
     try clear hfz21_0
     try clear hfz21_1
     try clear hfz24_0
     try clear hfz24_1
     try clear p2
     obtain ⟨x29_2, rfl, HA, HK2, BK443, HB⟩ := hrel
     cases gk with
     | zero => exact absurd HA.out (by simp [impl_TwoCut.l0])
     | succ k2 =>
      have H := HA.out
      clear HA
      simp only [impl_TwoCut.l0] at H
      by_cases c25 : x29_2 < a0_0
      ·rw [if_pos c25] at H
       have c25b0 := decide_eq_true c25
       clear c25
       by_cases c26 : x29_2 = a1
       ·rw [if_pos c26] at H
        have c26b0 : (x29_2 == a1) = true := beq_iff_eq.mpr c26
        have c26b1 : (x29_2 != a1) = false := bne_eq_false_iff_eq.mpr c26
        clear c26
        have H' := Aside0.mk H
        clear H
        go_wp2
        go_roundg k2
        case measure => have := HJ3.out; have := HK2.out; omega
        case rel => exact ⟨(wrap64 (x29_2 + 1)), (by first | rfl | (simp; done) | (simp [*]; done)), H', ⟨by have := HJ3.out; have := HK2.out; omega⟩, ⟨bkn BK443⟩, ⟨bn HB⟩⟩
       ·rw [if_neg c26] at H
        have c26b0 : (x29_2 == a1) = false := beq_eq_false_iff_ne.mpr c26
        have c26b1 : (x29_2 != a1) = true := bne_iff_ne.mpr c26
        by_cases c27 : x29_2 = a2
        ·rw [if_pos c27] at H
         have c27b0 : (x29_2 == a2) = true := beq_iff_eq.mpr c27
         have c27b1 : (x29_2 != a2) = false := bne_eq_false_iff_eq.mpr c27
         clear c27
         have H' := Aside0.mk H
         clear H
         go_wp2
         go_roundg k2
         case measure => have := HJ3.out; have := HK2.out; omega
         case rel => exact ⟨(wrap64 (x29_2 + 1)), (by first | rfl | (simp; done) | (simp [*]; done)), H', ⟨by have := HJ3.out; have := HK2.out; omega⟩, ⟨bkn BK443⟩, ⟨bn HB⟩⟩
        ·rw [if_neg c27] at H
         have c27b0 : (x29_2 == a2) = false := beq_eq_false_iff_ne.mpr c27
         have c27b1 : (x29_2 != a2) = true := bne_iff_ne.mpr c27
         replace H := Option.bind_eq_some_iff.mp H
         obtain ⟨⟨t447, t448⟩, A280, H⟩ := H
         (try dsimp only at H)
         have A28 := Aside0.mk A280
         clear A280
         replace H := Option.bind_eq_some_iff.mp H
         obtain ⟨t451, A290, H⟩ := H
         (try dsimp only at H)
         have A29 := Aside0.mk A290
         clear A290
         by_cases c30 : t451 = true
         ·subst c30
          rw [if_pos rfl] at H
          have H' := Aside0.mk H
          clear H
          have hcz31_0 := bc BK443 0
          have hcz31_1 := bc BK443 1
          have hfz31_0 := blk_frozen BK443.out 0
          have hfz31_1 := blk_frozen BK443.out 1
          go_wp2_with (first | (go_at_call 101; (with_reducible refine (impl_Net_without.calls k2 a0_0 _ _ l0_1 x29_2 t447 t448 _ ?side1 ?side2 A28.out).mono ?_); (case side1 => repeat (first | exact (Kd.C_below HR0_1.out HB.out) | (with_reducible refine Kd.C_alloc ?_ _) | (with_reducible refine Kd.C_drewN ?_ _) | (with_reducible refine Kd.C_drew ?_))); (case side2 => exact HC0_1.out); rintro e w32 ⟨v449, rfl, ho0, hb⟩; have n0_ := Aside0.mk (Kd.R_lower ho0 (below_size (bn HB))); have n1_ := Aside0.mk (blk_below (bkn BK443) hb); have n2_ := Aside0.mk (below_step (bn HB) hb); clear BK443; clear HB; have HO450 := n0_; have BK443 := n1_; have HB := n2_; clear n0_ n1_ n2_; (try clear hb); (try clear ho0); obtain ⟨Ao33, co33, eo33⟩ := Kd.R_slice HO450.out; subst eo33) | (go_at_call 99; (with_reducible refine (impl_Net_joined.calls k2 t447 _ _ t448 a1 a2 true _ ?side1 ?side2 A29.out).mono ?_); (case side1 => repeat (first | exact (Kd.R_reads' HO450.out).2.2 | (with_reducible refine Kd.C_alloc ?_ _) | (with_reducible refine Kd.C_drewN ?_ _) | (with_reducible refine Kd.C_drew ?_))); (case side2 => exact (Kd.R_reads' HO450.out).2.1); rintro e w34 ⟨rfl, hb⟩; have n0_ := Aside0.mk (Kd.R_below (onR HO450) hb); have n1_ := Aside0.mk (blk_below (bkn BK443) hb); have n2_ := Aside0.mk (below_step (bn HB) hb); clear HO450; clear BK443; clear HB; have HO450 := n0_; have BK443 := n1_; have HB := n2_; clear n0_ n1_ n2_; (try clear hb); (try clear hi)))
          go_roundg k2
          case measure => have := HJ3.out; have := HK2.out; omega
          case rel => exact ⟨(wrap64 (x29_2 + 1)), (by first | rfl | (simp; done) | (simp [*]; done)), H', ⟨by have := HJ3.out; have := HK2.out; omega⟩, ⟨bkn BK443⟩, ⟨bn HB⟩⟩
         ·replace c30 := Bool.eq_false_iff.mpr c30
          subst c30
          rw [if_neg (show ¬ (false = true) by decide)] at H
          simp only [Option.some.injEq, Prod.mk.injEq] at H
          obtain ⟨rfl, rfl⟩ := H
          have hcz35_0 := bc BK443 0
          have hcz35_1 := bc BK443 1
          have hfz35_0 := blk_frozen BK443.out 0
          have hfz35_1 := blk_frozen BK443.out 1
          go_wp2_with (first | (go_at_call 101; (with_reducible refine (impl_Net_without.calls k2 a0_0 _ _ l0_1 x29_2 t447 t448 _ ?side1 ?side2 A28.out).mono ?_); (case side1 => repeat (first | exact (Kd.C_below HR0_1.out HB.out) | (with_reducible refine Kd.C_alloc ?_ _) | (with_reducible refine Kd.C_drewN ?_ _) | (with_reducible refine Kd.C_drew ?_))); (case side2 => exact HC0_1.out); rintro e w36 ⟨v449, rfl, ho0, hb⟩; have n0_ := Aside0.mk (Kd.R_lower ho0 (below_size (bn HB))); have n1_ := Aside0.mk (blk_below (bkn BK443) hb); have n2_ := Aside0.mk (below_step (bn HB) hb); clear BK443; clear HB; have HO450 := n0_; have BK443 := n1_; have HB := n2_; clear n0_ n1_ n2_; (try clear hb); (try clear ho0); obtain ⟨Ao37, co37, eo37⟩ := Kd.R_slice HO450.out; subst eo37) | (go_at_call 99; (with_reducible refine (impl_Net_joined.calls k2 t447 _ _ t448 a1 a2 false _ ?side1 ?side2 A29.out).mono ?_); (case side1 => repeat (first | exact (Kd.R_reads' HO450.out).2.2 | (with_reducible refine Kd.C_alloc ?_ _) | (with_reducible refine Kd.C_drewN ?_ _) | (with_reducible refine Kd.C_drew ?_))); (case side2 => exact (Kd.R_reads' HO450.out).2.1); rintro e w38 ⟨rfl, hb⟩; have n0_ := Aside0.mk (Kd.R_below (onR HO450) hb); have n1_ := Aside0.mk (blk_below (bkn BK443) hb); have n2_ := Aside0.mk (below_step (bn HB) hb); clear HO450; clear BK443; clear HB; have HO450 := n0_; have BK443 := n1_; have HB := n2_; clear n0_ n1_ n2_; (try clear hb); (try clear hi)))
          go_ret2
          exact ⟨by first | rfl | (simp [errW_none, errW_some] <;> rfl) | (simp [*, errW_none, errW_some] <;> rfl), bn HB⟩
      ·rw [if_neg c25] at H
       have c25b0 := decide_eq_false c25
       clear c25
       simp only [Option.some.injEq, Prod.mk.injEq] at H
       obtain ⟨rfl, rfl⟩ := H
       go_wp2
       go_ret2
       exact ⟨by first | rfl | (simp [errW_none, errW_some] <;> rfl) | (simp [*, errW_none, errW_some] <;> rfl), bn HB⟩

end Go.Proofs.Ytdlnnjgjfngccaa.F
