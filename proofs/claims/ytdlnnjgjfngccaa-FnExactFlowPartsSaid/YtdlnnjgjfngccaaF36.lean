-- Written by oprint.py (wip/tools) over the kit's print program, for this seat.
import Derived.Test.YtdlnnjgjfngccaaF0
import Derived.Test.YtdlnnjgjfngccaaF14
import Derived.Test.YtdlnnjgjfngccaaF17
import Derived.Test.YtdlnnjgjfngccaaF28
import Derived.Test.YtdlnnjgjfngccaaF34
import Derived.Test.YtdlnnjgjfngccaaF35
namespace Go.Proofs.Ytdlnnjgjfngccaa.F
open Go.RowKit Go.Proofs.YtdlnnjgjfngccaaW.PrintWords Go.Proofs.YtdlnnjgjfngccaaW.PrintLast Go.Proofs.YtdlnnjgjfngccaaW.PrintMore
attribute [local go_sem] max2_int min2_int max_two min_two max_three min_three max_four min_four   -- for this text's walks alone
set_option linter.unusedVariables false
set_option linter.unusedSimpArgs false

/-! ### spec_FlowParts: function 44 -/
mutual
def spec_FlowParts.j0 : Nat → Int → Int → List (S73) → Bool → Int → List (S73) → Option (Bool)
 | 0, _, _, _, _, _, _ => none
 | k + 1, x1, x2, x3, x35, x492000, x492001 => if x35 = true then (some false) else ((spec_l1Copy.f x492000 x492001).bind fun bt495 => (spec_FlowParts.l0 k x1 x2 x3 0 bt495.1 bt495.2))
def spec_FlowParts.l0 : Nat → Int → Int → List (S73) → Int → Int → List (S73) → Option (Bool)
 | 0, _, _, _, _, _, _ => none
 | k + 1, x1, x2, x3, x10, x500000, x500001 => if x10 < (x3.length : Int) then (if 0 ≤ x10 then ((spec_NetCut.f k x500000 x500001 ((rd_T73 x3 x10).f0) ((rd_T73 x3 x10).f1)).bind fun bt502 => (if bt502.2.2 = true then (spec_FlowParts.l0 k x1 x2 x3 (wrap64 (x10 + 1)) bt502.1 bt502.2.1) else (some false))) else (none)) else ((spec_WayReach.f k x500000 x500001 x1).bind fun t508 => (if 0 ≤ x2 then (if x2 < (t508.length : Int) then (some (!(rdOf false t508 x2))) else (none)) else (none)))
end
def spec_FlowParts.f (k : Nat) (a0_0 : Int) (l0_1 : List (S73)) (a1 : Int) (a2 : Int) (l3 : List (S73)) : Option (Bool) := (spec_l1Knot.f k a0_0 l0_1 a1).bind fun t492 => (if t492 = true then ((spec_l1Knot.f k a0_0 l0_1 a2).bind fun t493 => (if t493 = true then (if a1 = a2 then (spec_FlowParts.j0 k a1 a2 l3 true a0_0 l0_1) else ((spec_NetOk.f k a0_0 l3).bind fun t494 => (spec_FlowParts.j0 k a1 a2 l3 (!t494) a0_0 l0_1))) else (spec_FlowParts.j0 k a1 a2 l3 true a0_0 l0_1))) else (spec_FlowParts.j0 k a1 a2 l3 true a0_0 l0_1))
theorem spec_FlowParts.mono_l : ∀ k, (∀ y0 y1 y2 y3 y4 y5, LeO (spec_FlowParts.j0 k y0 y1 y2 y3 y4 y5) (spec_FlowParts.j0 (k + 1) y0 y1 y2 y3 y4 y5)) ∧ (∀ y0 y1 y2 y3 y4 y5, LeO (spec_FlowParts.l0 k y0 y1 y2 y3 y4 y5) (spec_FlowParts.l0 (k + 1) y0 y1 y2 y3 y4 y5))
 | 0 => ⟨fun _ _ _ _ _ _ r h => by simp [spec_FlowParts.j0] at h, fun _ _ _ _ _ _ r h => by simp [spec_FlowParts.l0] at h⟩
 | k + 1 => by
  obtain ⟨ih0, ih1⟩ := spec_FlowParts.mono_l k
  refine ⟨?_, ?_⟩
  ·intro y0 y1 y2 y3 y4 y5
   unfold spec_FlowParts.j0
   repeat' first
   | (with_reducible exact ih0 _ _ _ _ _ _)
   | (with_reducible exact ih1 _ _ _ _ _ _)
   | (with_reducible exact spec_NetCut.mono _ _ _ _ _)
   | (with_reducible exact spec_NetOk.mono _ _ _)
   | (with_reducible exact spec_WayReach.mono _ _ _ _)
   | (with_reducible exact spec_l1Knot.mono _ _ _ _)
   | (with_reducible exact LeO.refl _)
   | (with_reducible exact LeO.none _)
   | (with_reducible refine LeO.ite ?_ ?_)
   | (with_reducible refine LeO.bind ?_ (fun _ => ?_))
   | exact ih0 _ _ _ _ _ _
   | exact ih1 _ _ _ _ _ _
   | exact spec_NetCut.mono _ _ _ _ _
   | exact spec_NetOk.mono _ _ _
   | exact spec_WayReach.mono _ _ _ _
   | exact spec_l1Knot.mono _ _ _ _
   | exact LeO.none _
   | refine LeO.ite ?_ ?_
   | refine LeO.bind ?_ (fun _ => ?_)
  ·intro y0 y1 y2 y3 y4 y5
   unfold spec_FlowParts.l0
   repeat' first
   | (with_reducible exact ih0 _ _ _ _ _ _)
   | (with_reducible exact ih1 _ _ _ _ _ _)
   | (with_reducible exact spec_NetCut.mono _ _ _ _ _)
   | (with_reducible exact spec_NetOk.mono _ _ _)
   | (with_reducible exact spec_WayReach.mono _ _ _ _)
   | (with_reducible exact spec_l1Knot.mono _ _ _ _)
   | (with_reducible exact LeO.refl _)
   | (with_reducible exact LeO.none _)
   | (with_reducible refine LeO.ite ?_ ?_)
   | (with_reducible refine LeO.bind ?_ (fun _ => ?_))
   | exact ih0 _ _ _ _ _ _
   | exact ih1 _ _ _ _ _ _
   | exact spec_NetCut.mono _ _ _ _ _
   | exact spec_NetOk.mono _ _ _
   | exact spec_WayReach.mono _ _ _ _
   | exact spec_l1Knot.mono _ _ _ _
   | exact LeO.none _
   | refine LeO.ite ?_ ?_
   | refine LeO.bind ?_ (fun _ => ?_)
theorem spec_FlowParts.mono : ∀ a0 a1 a2 a3 a4 k, LeO (spec_FlowParts.f k a0 a1 a2 a3 a4) (spec_FlowParts.f (k + 1) a0 a1 a2 a3 a4) := by
 intro a0 a1 a2 a3 a4 k
 obtain ⟨ih0, ih1⟩ := spec_FlowParts.mono_l k
 unfold spec_FlowParts.f
 repeat' first
   | (with_reducible exact ih0 _ _ _ _ _ _)
   | (with_reducible exact ih1 _ _ _ _ _ _)
   | (with_reducible exact spec_NetCut.mono _ _ _ _ _)
   | (with_reducible exact spec_NetOk.mono _ _ _)
   | (with_reducible exact spec_WayReach.mono _ _ _ _)
   | (with_reducible exact spec_l1Knot.mono _ _ _ _)
   | (with_reducible exact LeO.refl _)
   | (with_reducible exact LeO.none _)
   | (with_reducible refine LeO.ite ?_ ?_)
   | (with_reducible refine LeO.bind ?_ (fun _ => ?_))
   | exact ih0 _ _ _ _ _ _
   | exact ih1 _ _ _ _ _ _
   | exact spec_NetCut.mono _ _ _ _ _
   | exact spec_NetOk.mono _ _ _
   | exact spec_WayReach.mono _ _ _ _
   | exact spec_l1Knot.mono _ _ _ _
   | exact LeO.none _
   | refine LeO.ite ?_ ?_
   | refine LeO.bind ?_ (fun _ => ?_)
def spec_FlowParts.T7 : Bool × List (List Nat × List Nat) := (true, [([], []), ([], []), ([], []), ([1, 2], [1, 2]), ([3], [3]), ([4], [4]), ([], []), ([], []), ([6, 7], [6, 7]), ([8], [8]), ([9], [9]), ([0, 5, 10], [0, 5, 10]), ([11], [11]), ([12], [12]), ([12], [12]), ([], []), ([15, 13, 11, 0, 1, 2, 3, 4, 5, 6, 7, 8, 9, 10, 11, 12, 13, 15], [13, 15]), ([14, 16, 0, 1, 2, 3, 4, 5, 6, 7, 8, 9, 10, 11, 12, 13, 14, 15, 16], [14])])
def spec_FlowParts.B7 : List Nat := [0, 0, 0, 6, 14, 30, 0, 0, 192, 448, 960, 2047, 4095, 8191, 8191, 0, 49151, 131071]
theorem spec_FlowParts.tab7 : rtab .any (opsOf Try.f44 7) = spec_FlowParts.T7 := by kernel_rfl
theorem spec_FlowParts.bits7 : waitsOk spec_FlowParts.T7.2 spec_FlowParts.B7 = true := by kernel_rfl
set_option maxHeartbeats 8000000 in
set_option maxRecDepth 100000 in
theorem spec_FlowParts.calls (k : Nat) (a0_0 : Int) (A0_1 : Option Addr) (c0_1 : Nat) (l0_1 : List (S73)) (a1 : Int) (a2 : Int) (A3 : Option Addr) (c3 : Nat) (l3 : List (S73)) (r : Bool) (w : World) (hr0_1 : Kd.C k73 w A0_1 l0_1.length l0_1) (hc0_1 : l0_1.length ≤ c0_1) (hr3 : Kd.C k73 w A3 l3.length l3) (hc3 : l3.length ≤ c3) (h : spec_FlowParts.f k a0_0 l0_1 a1 a2 l3 = some r) :
  Calls Try.prog 44 #[.agg #[.int .i64 a0_0, .slice A0_1 l0_1.length c0_1], .int .i64 a1, .int .i64 a2, .slice A3 l3.length c3] w fun e w' => e = .returned (.bool r) ∧ Below w.heap.size w w' := by
 have hu34 := Try.underlying34
 have HR0_1 := Aside0.mk hr0_1
 have HC0_1 := Aside0.mk hc0_1
 clear hr0_1 hc0_1
 have HR3 := Aside0.mk hr3
 have HC3 := Aside0.mk hc3
 clear hr3 hc3
 have HB := Aside0.mk (Below.refl w.heap.size w)
 have H : ((spec_l1Knot.f k a0_0 l0_1 a1).bind fun t492 => (if t492 = true then ((spec_l1Knot.f k a0_0 l0_1 a2).bind fun t493 => (if t493 = true then (if a1 = a2 then (spec_FlowParts.j0 k a1 a2 l3 true a0_0 l0_1) else ((spec_NetOk.f k a0_0 l3).bind fun t494 => (spec_FlowParts.j0 k a1 a2 l3 (!t494) a0_0 l0_1))) else (spec_FlowParts.j0 k a1 a2 l3 true a0_0 l0_1))) else (spec_FlowParts.j0 k a1 a2 l3 true a0_0 l0_1))) = some r := h
 clear h
 have HC5 := Aside0.mk H
 clear H
 go_enter Try.func44, Try.ntmps44
 go_upto_region 1 with (first | ((with_reducible refine gate_dst (N := 4) rfl ?_); refine box_event ?hg (N := 4) ?hd (cs := #[.int .i64 a0_0, .slice A0_1 l0_1.length c0_1]) (t := 34) ?hr ?_; (case hd => rfl); (case hg => rfl); (case hr => first | (go_simp; done) | (go_simp; rfl)); intro gb491 hg w6 hbox hb; have n0_ := Aside0.mk (below_step (bn HB) hb); have n1_ := Aside0.mk (hbox); have n2_ := Aside0.mk ((by rw [hg]; exact (below_size (bn HB)) : w.heap.size ≤ gb491)); have n3_ := Aside0.mk ((by rw [hg]; exact (below_size (bn HB)) : w.heap.size ≤ gb491)); clear HB; have HB := n0_; have BK491 := n1_; have GW491 := n2_; have GE491 := n3_; clear n0_ n1_ n2_ n3_; clear hb hbox hg))
 (try simp only [Act.put, List.setIfInBounds_toArray, List.set_cons_zero, List.set_cons_succ])
 go_cut [35] (fun v35 wc => ∃ (kq : Nat) (x35_4 : Bool), v35 = .bool x35_4 ∧ Aside0 (spec_FlowParts.j0 kq a1 a2 l3 x35_4 a0_0 l0_1 = some r) ∧ Aside0 (kq ≤ k) ∧ Aside0 (wc.heap[gb491]? = some (.cells #[.int .i64 a0_0, (.slice A0_1 l0_1.length c0_1)] 34 (0, 0))) ∧ Aside0 (Below w.heap.size w wc))
 case first =>
  have H := HC5.out
  clear HC5
  replace H := Option.bind_eq_some_iff.mp H
  obtain ⟨t492, A70, H⟩ := H
  (try dsimp only at H)
  have A7 := Aside0.mk A70
  clear A70
  by_cases c8 : t492 = true
  ·subst c8
   rw [if_pos rfl] at H
   replace H := Option.bind_eq_some_iff.mp H
   obtain ⟨t493, A90, H⟩ := H
   (try dsimp only at H)
   have A9 := Aside0.mk A90
   clear A90
   by_cases c10 : t493 = true
   ·subst c10
    rw [if_pos rfl] at H
    by_cases c11 : a1 = a2
    ·rw [if_pos c11] at H
     have c11b0 : (a1 == a2) = true := beq_iff_eq.mpr c11
     have c11b1 : (a1 != a2) = false := bne_eq_false_iff_eq.mpr c11
     clear c11
     (first | rw [c11b0] | (simp only [i64_w, i32_w]; rw [c11b0]) | skip)
     have H' := Aside0.mk H
     clear H
     have hcz12_0 := bc BK491 0
     have hcz12_1 := bc BK491 1
     have hfz12_0 := blk_frozen BK491.out 0
     have hfz12_1 := blk_frozen BK491.out 1
     go_wp2_with (first | ((with_reducible refine gate_callee (f := 87) rfl ?_); refine gl_ (some 15) Try.func87 #[.agg #[.int .i64 a0_0, .slice A0_1 l0_1.length c0_1], .int .i64 a1] ?_; (with_reducible refine (spec_l1Knot.calls k a0_0 _ _ l0_1 a1 true _ ?side1 ?side2 A7.out).mono ?_); (case side1 => repeat (first | exact (Kd.C_below HR0_1.out HB.out) | (with_reducible refine Kd.C_alloc ?_ _) | (with_reducible refine Kd.C_drewN ?_ _) | (with_reducible refine Kd.C_drew ?_))); (case side2 => exact HC0_1.out); rintro e w13 ⟨rfl, hb⟩; refine ⟨_, rfl, ?_⟩; have n0_ := Aside0.mk (blk_below (bkn BK491) hb); have n1_ := Aside0.mk (below_step (bn HB) hb); clear BK491; clear HB; have BK491 := n0_; have HB := n1_; clear n0_ n1_; (try clear hb); have hcz14_0 := bc BK491 0; have hcz14_1 := bc BK491 1; have hfz14_0 := blk_frozen BK491.out 0; have hfz14_1 := blk_frozen BK491.out 1) | (go_at_call 87; (with_reducible refine (spec_l1Knot.calls k a0_0 _ _ l0_1 a2 true _ ?side1 ?side2 A9.out).mono ?_); (case side1 => repeat (first | exact (Kd.C_below HR0_1.out HB.out) | (with_reducible refine Kd.C_alloc ?_ _) | (with_reducible refine Kd.C_drewN ?_ _) | (with_reducible refine Kd.C_drew ?_))); (case side2 => exact HC0_1.out); rintro e w15 ⟨rfl, hb⟩; have n0_ := Aside0.mk (blk_below (bkn BK491) hb); have n1_ := Aside0.mk (below_step (bn HB) hb); clear BK491; clear HB; have BK491 := n0_; have HB := n1_; clear n0_ n1_; (try clear hb); (try clear hi)))
     go_meet
     case rel => exact ⟨_, (true), (by first | rfl | (simp; done) | (simp [*]; done)), H', ⟨by first | omega | exact Nat.le_refl _⟩, ⟨bkn BK491⟩, ⟨bn HB⟩⟩
    ·rw [if_neg c11] at H
     have c11b0 : (a1 == a2) = false := beq_eq_false_iff_ne.mpr c11
     have c11b1 : (a1 != a2) = true := bne_iff_ne.mpr c11
     (first | rw [c11b0] | (simp only [i64_w, i32_w]; rw [c11b0]) | skip)
     replace H := Option.bind_eq_some_iff.mp H
     obtain ⟨t494, A160, H⟩ := H
     (try dsimp only at H)
     have A16 := Aside0.mk A160
     clear A160
     have H' := Aside0.mk H
     clear H
     have hcz17_0 := bc BK491 0
     have hcz17_1 := bc BK491 1
     have hfz17_0 := blk_frozen BK491.out 0
     have hfz17_1 := blk_frozen BK491.out 1
     go_wp2_with (first | ((with_reducible refine gate_callee (f := 87) rfl ?_); refine gl_ (some 15) Try.func87 #[.agg #[.int .i64 a0_0, .slice A0_1 l0_1.length c0_1], .int .i64 a1] ?_; (with_reducible refine (spec_l1Knot.calls k a0_0 _ _ l0_1 a1 true _ ?side1 ?side2 A7.out).mono ?_); (case side1 => repeat (first | exact (Kd.C_below HR0_1.out HB.out) | (with_reducible refine Kd.C_alloc ?_ _) | (with_reducible refine Kd.C_drewN ?_ _) | (with_reducible refine Kd.C_drew ?_))); (case side2 => exact HC0_1.out); rintro e w18 ⟨rfl, hb⟩; refine ⟨_, rfl, ?_⟩; have n0_ := Aside0.mk (blk_below (bkn BK491) hb); have n1_ := Aside0.mk (below_step (bn HB) hb); clear BK491; clear HB; have BK491 := n0_; have HB := n1_; clear n0_ n1_; (try clear hb); have hcz19_0 := bc BK491 0; have hcz19_1 := bc BK491 1; have hfz19_0 := blk_frozen BK491.out 0; have hfz19_1 := blk_frozen BK491.out 1) | (go_at_call 87; (with_reducible refine (spec_l1Knot.calls k a0_0 _ _ l0_1 a2 true _ ?side1 ?side2 A9.out).mono ?_); (case side1 => repeat (first | exact (Kd.C_below HR0_1.out HB.out) | (with_reducible refine Kd.C_alloc ?_ _) | (with_reducible refine Kd.C_drewN ?_ _) | (with_reducible refine Kd.C_drew ?_))); (case side2 => exact HC0_1.out); rintro e w20 ⟨rfl, hb⟩; have n0_ := Aside0.mk (blk_below (bkn BK491) hb); have n1_ := Aside0.mk (below_step (bn HB) hb); clear BK491; clear HB; have BK491 := n0_; have HB := n1_; clear n0_ n1_; (try clear hb); have hcz21_0 := bc BK491 0; have hcz21_1 := bc BK491 1; have hfz21_0 := blk_frozen BK491.out 0; have hfz21_1 := blk_frozen BK491.out 1) | (go_at_call 66; (with_reducible refine (spec_NetOk.calls k a0_0 _ _ l3 t494 _ ?side1 ?side2 A16.out).mono ?_); (case side1 => repeat (first | exact (Kd.C_below HR3.out HB.out) | (with_reducible refine Kd.C_alloc ?_ _) | (with_reducible refine Kd.C_drewN ?_ _) | (with_reducible refine Kd.C_drew ?_))); (case side2 => exact HC3.out); rintro e w22 ⟨rfl, hb⟩; have n0_ := Aside0.mk (blk_below (bkn BK491) hb); have n1_ := Aside0.mk (below_step (bn HB) hb); clear BK491; clear HB; have BK491 := n0_; have HB := n1_; clear n0_ n1_; (try clear hb); (try clear hi)))
     go_meet
     case rel => exact ⟨_, (!t494), (by first | rfl | (simp; done) | (simp [*]; done)), H', ⟨by first | omega | exact Nat.le_refl _⟩, ⟨bkn BK491⟩, ⟨bn HB⟩⟩
   ·replace c10 := Bool.eq_false_iff.mpr c10
    subst c10
    rw [if_neg (show ¬ (false = true) by decide)] at H
    have H' := Aside0.mk H
    clear H
    have hcz23_0 := bc BK491 0
    have hcz23_1 := bc BK491 1
    have hfz23_0 := blk_frozen BK491.out 0
    have hfz23_1 := blk_frozen BK491.out 1
    go_wp2_with (first | ((with_reducible refine gate_callee (f := 87) rfl ?_); refine gl_ (some 15) Try.func87 #[.agg #[.int .i64 a0_0, .slice A0_1 l0_1.length c0_1], .int .i64 a1] ?_; (with_reducible refine (spec_l1Knot.calls k a0_0 _ _ l0_1 a1 true _ ?side1 ?side2 A7.out).mono ?_); (case side1 => repeat (first | exact (Kd.C_below HR0_1.out HB.out) | (with_reducible refine Kd.C_alloc ?_ _) | (with_reducible refine Kd.C_drewN ?_ _) | (with_reducible refine Kd.C_drew ?_))); (case side2 => exact HC0_1.out); rintro e w24 ⟨rfl, hb⟩; refine ⟨_, rfl, ?_⟩; have n0_ := Aside0.mk (blk_below (bkn BK491) hb); have n1_ := Aside0.mk (below_step (bn HB) hb); clear BK491; clear HB; have BK491 := n0_; have HB := n1_; clear n0_ n1_; (try clear hb); have hcz25_0 := bc BK491 0; have hcz25_1 := bc BK491 1; have hfz25_0 := blk_frozen BK491.out 0; have hfz25_1 := blk_frozen BK491.out 1) | (go_at_call 87; (with_reducible refine (spec_l1Knot.calls k a0_0 _ _ l0_1 a2 false _ ?side1 ?side2 A9.out).mono ?_); (case side1 => repeat (first | exact (Kd.C_below HR0_1.out HB.out) | (with_reducible refine Kd.C_alloc ?_ _) | (with_reducible refine Kd.C_drewN ?_ _) | (with_reducible refine Kd.C_drew ?_))); (case side2 => exact HC0_1.out); rintro e w26 ⟨rfl, hb⟩; have n0_ := Aside0.mk (blk_below (bkn BK491) hb); have n1_ := Aside0.mk (below_step (bn HB) hb); clear BK491; clear HB; have BK491 := n0_; have HB := n1_; clear n0_ n1_; (try clear hb); (try clear hi)))
    go_meet
    case rel => exact ⟨_, (true), (by first | rfl | (simp; done) | (simp [*]; done)), H', ⟨by first | omega | exact Nat.le_refl _⟩, ⟨bkn BK491⟩, ⟨bn HB⟩⟩
  ·replace c8 := Bool.eq_false_iff.mpr c8
   subst c8
   rw [if_neg (show ¬ (false = true) by decide)] at H
   have H' := Aside0.mk H
   clear H
   have hcz27_0 := bc BK491 0
   have hcz27_1 := bc BK491 1
   have hfz27_0 := blk_frozen BK491.out 0
   have hfz27_1 := blk_frozen BK491.out 1
   go_wp2_with (first | ((with_reducible refine gate_callee (f := 87) rfl ?_); refine gl_ (some 15) Try.func87 #[.agg #[.int .i64 a0_0, .slice A0_1 l0_1.length c0_1], .int .i64 a1] ?_; (with_reducible refine (spec_l1Knot.calls k a0_0 _ _ l0_1 a1 false _ ?side1 ?side2 A7.out).mono ?_); (case side1 => repeat (first | exact (Kd.C_below HR0_1.out HB.out) | (with_reducible refine Kd.C_alloc ?_ _) | (with_reducible refine Kd.C_drewN ?_ _) | (with_reducible refine Kd.C_drew ?_))); (case side2 => exact HC0_1.out); rintro e w28 ⟨rfl, hb⟩; refine ⟨_, rfl, ?_⟩; have n0_ := Aside0.mk (blk_below (bkn BK491) hb); have n1_ := Aside0.mk (below_step (bn HB) hb); clear BK491; clear HB; have BK491 := n0_; have HB := n1_; clear n0_ n1_; (try clear hb); (try clear hi)))
   go_meet
   case rel => exact ⟨_, (true), (by first | rfl | (simp; done) | (simp [*]; done)), H', ⟨by first | omega | exact Nat.le_refl _⟩, ⟨bkn BK491⟩, ⟨bn HB⟩⟩
 case rest =>
  clear HC5
  try clear c1
  try clear p2
  try clear c3
  try clear c4
  try clear c8
  try clear c10
  try clear c11
  try clear c11b0
  try clear c11b1
  try clear hcz12_0
  try clear hcz12_1
  try clear hcz14_0
  try clear hcz14_1
  try clear hcz17_0
  try clear hcz17_1
  try clear hcz19_0
  try clear hcz19_1
  try clear hcz21_0
  try clear hcz21_1
  try clear hcz23_0
  try clear hcz23_1
  try clear hcz25_0
  try clear hcz25_1
  try clear hcz27_0
  try clear hcz27_1
  try clear hfz12_0
  try clear hfz12_1
  try clear hfz14_0
  try clear hfz14_1
  try clear hfz17_0
  try clear hfz17_1
  try clear hfz19_0
  try clear hfz19_1
  try clear hfz21_0
  try clear hfz21_1
  try clear hfz23_0
  try clear hfz23_1
  try clear hfz25_0
  try clear hfz25_1
  try clear hfz27_0
  try clear hfz27_1
  obtain ⟨kq, x35_4, rfl, HA, HJ4, BK491, HB⟩ := hcut
  cases kq with
  | zero => exact absurd HA.out (by simp [spec_FlowParts.j0])
  | succ kj4 =>
   have H := HA.out
   clear HA
   simp only [spec_FlowParts.j0] at H
   by_cases c29 : x35_4 = true
   ·subst c29
    rw [if_pos rfl] at H
    obtain rfl := Option.some.inj H
    go_wp2
    go_ret
    exact ⟨by first | rfl | (simp [errW_none, errW_some] <;> rfl) | (simp [*, errW_none, errW_some] <;> rfl), bn HB⟩
   ·replace c29 := Bool.eq_false_iff.mpr c29
    subst c29
    rw [if_neg (show ¬ (false = true) by decide)] at H
    replace H := Option.bind_eq_some_iff.mp H
    obtain ⟨⟨t495, t496⟩, A300, H⟩ := H
    (try dsimp only at H)
    have A30 := Aside0.mk A300
    clear A300
    have H' := Aside0.mk H
    clear H
    have hcz31_0 := bc BK491 0
    have hcz31_1 := bc BK491 1
    have hfz31_0 := blk_frozen BK491.out 0
    have hfz31_1 := blk_frozen BK491.out 1
    go_wp2_with (first | ((with_reducible refine gate_callee (f := 102) rfl ?_); refine gl_ (some 37) Try.func102 #[.agg #[.int .i64 a0_0, .slice A0_1 l0_1.length c0_1]] ?_; (with_reducible refine (spec_l1Copy.calls a0_0 _ _ l0_1 t495 t496 _ ?side1 ?side2 A30.out).mono ?_); (case side1 => repeat (first | exact (Kd.C_below HR0_1.out HB.out) | (with_reducible refine Kd.C_alloc ?_ _) | (with_reducible refine Kd.C_drewN ?_ _) | (with_reducible refine Kd.C_drew ?_))); (case side2 => exact HC0_1.out); rintro e w32 ⟨v497, rfl, ho0, hb⟩; refine ⟨_, rfl, ?_⟩; have n0_ := Aside0.mk (Kd.R_lower ho0 (below_size (bn HB))); have n1_ := Aside0.mk (blk_below (bkn BK491) hb); have n2_ := Aside0.mk (below_step (bn HB) hb); clear BK491; clear HB; have HO498 := n0_; have BK491 := n1_; have HB := n2_; clear n0_ n1_ n2_; (try clear hb); (try clear ho0)) | ((with_reducible refine gate_dst (N := 9) rfl ?_); refine box_event ?hg (N := 9) ?hd (cs := #[.int .i64 0, .slice none 0 0]) (t := 34) ?hr ?_; (case hd => rfl); (case hg => rfl); (case hr => first | (go_simp; done) | (go_simp; rfl)); intro gb499 hg w33 hbox hb; have n0_ := Aside0.mk (Kd.R_below (onR HO498) hb); have n1_ := Aside0.mk (blk_below (bkn BK491) hb); have n2_ := Aside0.mk (below_step (bn HB) hb); have n3_ := Aside0.mk (hbox); have n4_ := Aside0.mk ((by rw [hg]; exact (below_size (bn HB)) : w.heap.size ≤ gb499)); have n5_ := Aside0.mk ((by rw [hg]; exact (below_size (bn HB)) : w.heap.size ≤ gb499)); have n6_ := Aside0.mk ((by rw [hg]; exact Nat.ne_of_lt (blk_lt (bkn BK491)) : gb491 ≠ gb499)); have n7_ := Aside0.mk ((by rw [hg]; exact Nat.ne_of_gt (blk_lt (bkn BK491)) : gb499 ≠ gb491)); clear HO498; clear BK491; clear HB; have HO498 := n0_; have BK491 := n1_; have HB := n2_; have BK499 := n3_; have GW499 := n4_; have GE499 := n5_; have NB491_499 := n6_; have NB499_491 := n7_; clear n0_ n1_ n2_ n3_ n4_ n5_ n6_ n7_; clear hb hbox hg; have hnb34 := NB499_491.out; have hnc34 := NB491_499.out; have hcz35_0 := bc BK499 0; have hcz35_1 := bc BK499 1; have hfz35_0 := blk_frozen BK499.out 0; have hfz35_1 := blk_frozen BK499.out 1; obtain ⟨Ao36, co36, eo36⟩ := Kd.R_slice HO498.out; subst eo36))
    go_loopg [10] kj4 (fun kq v10 w' => ∃ (x10_2 : Int) (x500000_2 : Int) (x500001_2 : List (S73)) (u500001 : Value), v10 = .int .i64 x10_2 ∧ Aside0 (spec_FlowParts.l0 kq a1 a2 l3 x10_2 x500000_2 x500001_2 = some r) ∧ Aside0 (kq ≤ kj4) ∧ Aside0 (Kd.R k73 73 w' w.heap.size (fun _ => True) u500001 x500001_2) ∧ Aside0 (w'.heap[gb491]? = some (.cells #[.int .i64 a0_0, (.slice A0_1 l0_1.length c0_1)] 34 (0, 0))) ∧ Aside0 (w'.heap[gb499]? = some (.cells #[.int .i64 x500000_2, u500001] 34 (0, 0))) ∧ Aside0 (Below w.heap.size w w'))
    case atStart => exact ⟨(0), (t495), (t496), (.slice Ao36 t496.length co36), (by first | rfl | (simp; done) | (simp [*]; done)), H', ⟨Nat.le_refl _⟩, ⟨by (with_reducible repeat (first | apply Kd.R_alloc | apply Kd.R_drewN | apply Kd.R_drew)); exact Kd.R_mono (Kd.R_far (p := ⟨gb499, 1, none⟩) (Kd.R_far (p := ⟨gb499, 0, none⟩) (Kd.R_types HO498.out BK499.out (by decide)) (fun _ hk => hk.2) (.int .i64 t495)) (fun _ hk => hk.2) (.slice Ao36 t496.length co36)) (fun _ hk => trivial)⟩, ⟨bkn BK491⟩, ⟨by (with_reducible repeat (first | refine blk_drewN ?_ _ | refine blk_drew ?_ | refine blk_alloc ?_ _)); refine blk_put (cs := #[.int .i64 t495, .slice none 0 0]) ?_ 1 _ rfl; (with_reducible repeat (first | refine blk_drewN ?_ _ | refine blk_drew ?_ | refine blk_alloc ?_ _)); refine blk_put (cs := #[.int .i64 0, .slice none 0 0]) ?_ 0 _ rfl; (with_reducible repeat (first | refine blk_drewN ?_ _ | refine blk_drew ?_ | refine blk_alloc ?_ _)); exact BK499.out⟩, ⟨bn HB⟩⟩
    case round =>
     clear H'
     try clear c1
     try clear c2
     try clear p2
     try clear c3
     try clear c4
     try clear c8
     try clear c10
     try clear c11
     try clear c11b0
     try clear c11b1
     try clear c29
     try clear c34
     try clear hcz12_0
     try clear hcz12_1
     try clear hcz14_0
     try clear hcz14_1
     try clear hcz17_0
     try clear hcz17_1
     try clear hcz19_0
     try clear hcz19_1
     try clear hcz21_0
     try clear hcz21_1
     try clear hcz23_0
     try clear hcz23_1
     try clear hcz25_0
     try clear hcz25_1
     try clear hcz27_0
     try clear hcz27_1
     try clear hcz31_0
     try clear hcz31_1
     try clear hcz35_0
     try clear hcz35_1
     try clear hfz12_0
     try clear hfz12_1
     try clear hfz14_0
     try clear hfz14_1
     try clear hfz17_0
     try clear hfz17_1
     try clear hfz19_0
     try clear hfz19_1
     try clear hfz21_0
     try clear hfz21_1
     try clear hfz23_0
     try clear hfz23_1
     try clear hfz25_0
     try clear hfz25_1
     try clear hfz27_0
     try clear hfz27_1
     try clear hfz31_0
     try clear hfz31_1
     try clear hfz35_0
     try clear hfz35_1
     try clear p2
     obtain ⟨x10_2, x500000_2, x500001_2, u500001, rfl, HA, HK2, HO_500001, BK491, BK499, HB⟩ := hrel
     cases gk with
     | zero => exact absurd HA.out (by simp [spec_FlowParts.l0])
     | succ k2 =>
      have H := HA.out
      clear HA
      simp only [spec_FlowParts.l0] at H
      by_cases c37 : x10_2 < (l3.length : Int)
      ·rw [if_pos c37] at H
       have c37b0 := decide_eq_true c37
       clear c37
       by_cases c38 : 0 ≤ x10_2
       ·rw [if_pos c38] at H
        have c38b0 := decide_eq_true c38
        clear c38
        replace H := Option.bind_eq_some_iff.mp H
        obtain ⟨⟨t502, t503, t506⟩, A390, H⟩ := H
        (try dsimp only at H)
        have A39 := Aside0.mk A390
        clear A390
        by_cases c40 : t506 = true
        ·subst c40
         rw [if_pos rfl] at H
         have H' := Aside0.mk H
         clear H
         obtain ⟨Ao41, co41, eo41⟩ := Kd.R_slice HO_500001.out
         subst eo41
         try go_wp2
         have n0_ := Aside0.mk (Kd.R_drew HO_500001.out)
         have n1_ := Aside0.mk (blk_drew BK491.out)
         have n2_ := Aside0.mk (blk_drew BK499.out)
         have n3_ := Aside0.mk (below_drew1 HB.out)
         clear HO_500001 BK491 BK499 HB
         have HO_500001 := n0_
         have BK491 := n1_
         have BK499 := n2_
         have HB := n3_
         clear n0_ n1_ n2_ n3_
         have p500 : 0 ≤ (x10_2 : Int) := oa
         have q500 : x10_2 < (l3.length : Int) := oa
         obtain ⟨ad500, e500, hx500_0, hx500_1⟩ := at_T73 HR3.out x10_2 p500 q500
         have hw500_1 := hx500_1
         have hw500_0 := hx500_0
         cases e500
         replace hx500_0 := (HB.out.cell (World.block_lt_of_cell? w _ hx500_0)).trans hx500_0
         replace hx500_1 := (HB.out.cell (World.block_lt_of_cell? w _ hx500_1)).trans hx500_1
         replace p500 := eq_true p500
         replace q500 := eq_true q500
         have p501 : 0 ≤ (x10_2 : Int) := oa
         have q501 : x10_2 < (l3.length : Int) := oa
         obtain ⟨ad501, e501, hx501_0, hx501_1⟩ := at_T73 HR3.out x10_2 p501 q501
         have hw501_1 := hx501_1
         have hw501_0 := hx501_0
         obtain rfl : ad500 = ad501 := (by injection e501)
         replace hx501_0 := (HB.out.cell (World.block_lt_of_cell? w _ hx501_0)).trans hx501_0
         replace hx501_1 := (HB.out.cell (World.block_lt_of_cell? w _ hx501_1)).trans hx501_1
         replace p501 := eq_true p501
         replace q501 := eq_true q501
         refine start_ (n := 18) (S := fun w' => w'.cell? ⟨gb499, 0, none⟩ = some (.int .i64 x500000_2) ∧ w'.cell? ⟨gb499, 1, none⟩ = some (.slice Ao41 x500001_2.length co41) ∧ w'.cell? (ad500.add ((x10_2).toNat * 2)) = some (.int .i64 ((rd_T73 l3 x10_2).f0)) ∧ w'.cell? ⟨(ad500.add ((x10_2).toNat * 2)).block, (ad500.add ((x10_2).toNat * 2)).off + 1, none⟩ = some (.int .i64 ((rd_T73 l3 x10_2).f1)) ∧ w'.cell? (ad500.add ((x10_2).toNat * 2)) = some (.int .i64 ((rd_T73 l3 x10_2).f0)) ∧ w'.cell? ⟨(ad500.add ((x10_2).toNat * 2)).block, (ad500.add ((x10_2).toNat * 2)).off + 1, none⟩ = some (.int .i64 ((rd_T73 l3 x10_2).f1))) (ds := []) #[false, false, false, false, false, false, false, false, false, false, false, false, false, false, false, false, false, false] (by kernel_rfl) rfl rfl ⟨(blk_cell BK499.out 0).trans rfl, (blk_cell BK499.out 1).trans rfl, ((HB.out.cell (World.block_lt_of_cell? w _ hw500_0)).trans hw500_0), ((HB.out.cell (World.block_lt_of_cell? w _ hw500_1)).trans hw500_1), ((HB.out.cell (World.block_lt_of_cell? w _ hw501_0)).trans hw501_0), ((HB.out.cell (World.block_lt_of_cell? w _ hw501_1)).trans hw501_1)⟩ (fun hHeld => ?_); refine with_tabW spec_FlowParts.tab7 spec_FlowParts.bits7 (fun HT_ HW_ => ?_)
         generalize wr.drew = w42 at HO_500001 BK491 BK499 HB hx500_0 hx500_1 hx501_0 hx501_1 hHeld ⊢
         refine pz_ 1 (some 46) HT_ ?_
         refine pz_ 2 (some 47) HT_ ?_
         refine pz_ 3 (some 48) HT_ ?_
         refine pz_ 4 (some 49) HT_ ?_
         refine pz_ 6 (some 51) HT_ ?_
         refine pz_ 7 (some 52) HT_ ?_
         refine pz_ 8 (some 53) HT_ ?_
         refine pz_ 9 (some 54) HT_ ?_
         refine tz_ 0 (some 45) HT_ HW_ hHeld ?_
         refine tz_ 5 (some 50) HT_ HW_ hHeld ?_
         refine tz_ 10 (some 55) HT_ HW_ hHeld ?_
         refine join_ (σ := Value × Nat) 2 #[true, true, true, true, true, true, true, true, true, true, true, true, true, true, true, true, false, false] (fun s_ => [(56, .tuple #[.agg #[.int .i64 t502, s_.1], .bool true]), (11, .pointer (some ⟨s_.2, 0, none⟩)), (44, .tuple #[.agg #[.int .i64 t502, s_.1], .bool true]), (57, .agg #[.int .i64 t502, s_.1]), (58, .bool true)]) (fun s_ w' => (w'.cell? ⟨gb499, 0, none⟩ = some (.int .i64 x500000_2) ∧ w'.cell? ⟨gb499, 1, none⟩ = some (.slice Ao41 x500001_2.length co41) ∧ w'.cell? (ad500.add ((x10_2).toNat * 2)) = some (.int .i64 ((rd_T73 l3 x10_2).f0)) ∧ w'.cell? ⟨(ad500.add ((x10_2).toNat * 2)).block, (ad500.add ((x10_2).toNat * 2)).off + 1, none⟩ = some (.int .i64 ((rd_T73 l3 x10_2).f1)) ∧ w'.cell? (ad500.add ((x10_2).toNat * 2)) = some (.int .i64 ((rd_T73 l3 x10_2).f0)) ∧ w'.cell? ⟨(ad500.add ((x10_2).toNat * 2)).block, (ad500.add ((x10_2).toNat * 2)).off + 1, none⟩ = some (.int .i64 ((rd_T73 l3 x10_2).f1))) ∧ (Kd.R k73 73 w' w.heap.size (fun k_ => some k_ ≠ (.slice Ao41 x500001_2.length co41 : Value).ownBlock) s_.1 t503) ∧ (Kd.R k73 73 w' w.heap.size (fun k_ => some k_ ≠ (s_.1 : Value).ownBlock) (.slice Ao41 x500001_2.length co41) x500001_2) ∧ (w'.heap[gb491]? = some (.cells #[.int .i64 a0_0, .slice A0_1 l0_1.length c0_1] 34 (0, 0))) ∧ (w'.heap[gb499]? = some (.cells #[.int .i64 x500000_2, .slice Ao41 x500001_2.length co41] 34 (0, 0))) ∧ (w'.heap[s_.2]? = some (.cells #[.int .i64 0, .slice none 0 0] 34 (0, 0))) ∧ (w.heap.size ≤ s_.2) ∧ (w.heap.size ≤ s_.2) ∧ (gb491 ≠ s_.2) ∧ (s_.2 ≠ gb491) ∧ (gb499 ≠ s_.2) ∧ (s_.2 ≠ gb499) ∧ (Below w.heap.size w w')) ?_ ?_
         rotate_left
         ·intro hCont
          refine two_ (i := 11) (j := 15) (Ni := some 56) (Nj := some 11) #[true, true, true, true, true, true, true, true, true, true, true, true, false, false, false, false, false, false] #[true, true, true, true, true, true, true, true, true, true, true, false, false, false, false, true, false, false] rfl rfl rfl rfl (two_of HT_.out (by kernel_rfl)) (by decide) (by decide) (fun K hK => ?_) (fun K hK => ?_)
          ·skip
           refine gg_ Try.func103 #[.agg #[.int .i64 x500000_2, .slice Ao41 x500001_2.length co41], .int .i64 ((rd_T73 l3 x10_2).f0), .int .i64 ((rd_T73 l3 x10_2).f1)] ?_
           with_reducible refine (spec_NetCut.calls k2 x500000_2 _ _ x500001_2 ((rd_T73 l3 x10_2).f0) ((rd_T73 l3 x10_2).f1) t502 t503 true _ ?side1 ?side2 A39.out).mono ?_
           (case side1 => repeat (first | exact (Kd.R_reads' HO_500001.out).2.2 | (with_reducible refine Kd.C_alloc ?_ _) | (with_reducible refine Kd.C_drewN ?_ _) | (with_reducible refine Kd.C_drew ?_)))
           (case side2 => exact (Kd.R_reads' HO_500001.out).2.1)
           rintro e w43 ⟨v504, rfl, ho0, hb⟩
           refine ⟨_, rfl, ?_⟩
           have n0_ := Aside0.mk (Kd.R_elder' (onR HO_500001) (Kd.R_base ho0) hb)
           have n1_ := Aside0.mk (Kd.R_lower (Kd.R_new' ho0 (Kd.R_lt (onR HO_500001))) (below_size (bn HB)))
           have n2_ := Aside0.mk (blk_below (bkn BK491) hb)
           have n3_ := Aside0.mk (blk_below (bkn BK499) hb)
           have n4_ := Aside0.mk (below_step (bn HB) hb)
           clear HO_500001 BK491 BK499 HB
           have HO_500001 := n0_
           have HO505 := n1_
           have BK491 := n2_
           have BK499 := n3_
           have HB := n4_
           clear n0_ n1_ n2_ n3_ n4_
           (try clear hb)
           (try clear hb2)
           (try clear hk)
           (try clear hi)
           (try clear ho0)
           refine hK.out _ _ ⟨(blk_cell BK499.out 0).trans rfl, (blk_cell BK499.out 1).trans rfl, ((HB.out.cell (World.block_lt_of_cell? w _ hw500_0)).trans hw500_0), ((HB.out.cell (World.block_lt_of_cell? w _ hw500_1)).trans hw500_1), ((HB.out.cell (World.block_lt_of_cell? w _ hw501_0)).trans hw501_0), ((HB.out.cell (World.block_lt_of_cell? w _ hw501_1)).trans hw501_1)⟩ (fun hHeld => ?_)
           clear hK K
           refine norm_ (a' := ?_) ?_ ?_
           rotate_left
           ·show Act.put _ (some 56) _ = _
            simp only [Act.put, List.setIfInBounds_toArray, List.set_cons_zero, List.set_cons_succ, i64_w, i32_w]
            rfl
           refine pz_ 12 (some 44) HT_ ?_
           refine pz_ 13 (some 57) HT_ ?_
           refine pz_ 14 (some 58) HT_ ?_
           refine one_ (i := 15) (N := some 11) #[true, true, true, true, true, true, true, true, true, true, true, true, true, true, true, true, false, false] rfl rfl (one_of HT_.out (by kernel_rfl)) (by decide) (fun K hK => ?_)
           refine box_step ?hg (N := 11) ?hd (cs := #[.int .i64 0, .slice none 0 0]) (t := 34) ?hr ?_; (case hd => rfl); (case hg => rfl); (case hr => first | (go_simp; done) | (go_simp; rfl))
           intro gb507 hg w44 hbox hb
           have n0_ := Aside0.mk (Kd.R_below (onR HO_500001) hb)
           have n1_ := Aside0.mk (Kd.R_below (onR HO505) hb)
           have n2_ := Aside0.mk (blk_below (bkn BK491) hb)
           have n3_ := Aside0.mk (blk_below (bkn BK499) hb)
           have n4_ := Aside0.mk (below_step (bn HB) hb)
           have n5_ := Aside0.mk (hbox)
           have n6_ := Aside0.mk ((by rw [hg]; exact (below_size (bn HB)) : w.heap.size ≤ gb507))
           have n7_ := Aside0.mk ((by rw [hg]; exact (below_size (bn HB)) : w.heap.size ≤ gb507))
           have n8_ := Aside0.mk ((by rw [hg]; exact Nat.ne_of_lt (blk_lt (bkn BK491)) : gb491 ≠ gb507))
           have n9_ := Aside0.mk ((by rw [hg]; exact Nat.ne_of_gt (blk_lt (bkn BK491)) : gb507 ≠ gb491))
           have n10_ := Aside0.mk ((by rw [hg]; exact Nat.ne_of_lt (blk_lt (bkn BK499)) : gb499 ≠ gb507))
           have n11_ := Aside0.mk ((by rw [hg]; exact Nat.ne_of_gt (blk_lt (bkn BK499)) : gb507 ≠ gb499))
           clear HO_500001 HO505 BK491 BK499 HB
           have HO_500001 := n0_
           have HO505 := n1_
           have BK491 := n2_
           have BK499 := n3_
           have HB := n4_
           have BK507 := n5_
           have GW507 := n6_
           have GE507 := n7_
           have NB491_507 := n8_
           have NB507_491 := n9_
           have NB499_507 := n10_
           have NB507_499 := n11_
           clear n0_ n1_ n2_ n3_ n4_ n5_ n6_ n7_ n8_ n9_ n10_ n11_ hb hbox hg
           refine hK.out _ _ ⟨(blk_cell BK499.out 0).trans rfl, (blk_cell BK499.out 1).trans rfl, ((HB.out.cell (World.block_lt_of_cell? w _ hw500_0)).trans hw500_0), ((HB.out.cell (World.block_lt_of_cell? w _ hw500_1)).trans hw500_1), ((HB.out.cell (World.block_lt_of_cell? w _ hw501_0)).trans hw501_0), ((HB.out.cell (World.block_lt_of_cell? w _ hw501_1)).trans hw501_1)⟩ (fun hHeld => ?_)
           clear hK K
           refine norm_ (a' := ?_) ?_ ?_
           rotate_left
           ·show Act.put _ (some 11) _ = _
            simp only [Act.put, List.setIfInBounds_toArray, List.set_cons_zero, List.set_cons_succ, i64_w, i32_w]
            rfl
           exact norm_ (by simp only [putAll, Act.put, List.setIfInBounds_toArray, List.set_cons_zero, List.set_cons_succ]) (hCont (v504, gb507) _ ⟨hHeld, (by (with_reducible repeat (first | apply Kd.R_alloc | apply Kd.R_drewN | apply Kd.R_drew)); exact Kd.R_mono HO505.out (fun _ hk => hk.2)), (by (with_reducible repeat (first | apply Kd.R_alloc | apply Kd.R_drewN | apply Kd.R_drew)); exact Kd.R_mono HO_500001.out (fun _ hk => hk.2)), (bkn BK491), (bkn BK499), (bkn BK507), GW507.out, GE507.out, NB491_507.out, NB507_491.out, NB499_507.out, NB507_499.out, (bn HB)⟩)
          ·skip
           refine box_step ?hg (N := 11) ?hd (cs := #[.int .i64 0, .slice none 0 0]) (t := 34) ?hr ?_; (case hd => rfl); (case hg => rfl); (case hr => first | (go_simp; done) | (go_simp; rfl))
           intro gb507 hg w43 hbox hb
           have n0_ := Aside0.mk (Kd.R_below (onR HO_500001) hb)
           have n1_ := Aside0.mk (blk_below (bkn BK491) hb)
           have n2_ := Aside0.mk (blk_below (bkn BK499) hb)
           have n3_ := Aside0.mk (below_step (bn HB) hb)
           have n4_ := Aside0.mk (hbox)
           have n5_ := Aside0.mk ((by rw [hg]; exact (below_size (bn HB)) : w.heap.size ≤ gb507))
           have n6_ := Aside0.mk ((by rw [hg]; exact (below_size (bn HB)) : w.heap.size ≤ gb507))
           have n7_ := Aside0.mk ((by rw [hg]; exact Nat.ne_of_lt (blk_lt (bkn BK491)) : gb491 ≠ gb507))
           have n8_ := Aside0.mk ((by rw [hg]; exact Nat.ne_of_gt (blk_lt (bkn BK491)) : gb507 ≠ gb491))
           have n9_ := Aside0.mk ((by rw [hg]; exact Nat.ne_of_lt (blk_lt (bkn BK499)) : gb499 ≠ gb507))
           have n10_ := Aside0.mk ((by rw [hg]; exact Nat.ne_of_gt (blk_lt (bkn BK499)) : gb507 ≠ gb499))
           clear HO_500001 BK491 BK499 HB
           have HO_500001 := n0_
           have BK491 := n1_
           have BK499 := n2_
           have HB := n3_
           have BK507 := n4_
           have GW507 := n5_
           have GE507 := n6_
           have NB491_507 := n7_
           have NB507_491 := n8_
           have NB499_507 := n9_
           have NB507_499 := n10_
           clear n0_ n1_ n2_ n3_ n4_ n5_ n6_ n7_ n8_ n9_ n10_ hb hbox hg
           refine hK.out _ _ ⟨(blk_cell BK499.out 0).trans rfl, (blk_cell BK499.out 1).trans rfl, ((HB.out.cell (World.block_lt_of_cell? w _ hw500_0)).trans hw500_0), ((HB.out.cell (World.block_lt_of_cell? w _ hw500_1)).trans hw500_1), ((HB.out.cell (World.block_lt_of_cell? w _ hw501_0)).trans hw501_0), ((HB.out.cell (World.block_lt_of_cell? w _ hw501_1)).trans hw501_1)⟩ (fun hHeld => ?_)
           clear hK K
           refine norm_ (a' := ?_) ?_ ?_
           rotate_left
           ·show Act.put _ (some 11) _ = _
            simp only [Act.put, List.setIfInBounds_toArray, List.set_cons_zero, List.set_cons_succ, i64_w, i32_w]
            rfl
           refine one_ (i := 11) (N := some 56) #[true, true, true, true, true, true, true, true, true, true, true, true, false, false, false, true, false, false] rfl rfl (one_of HT_.out (by kernel_rfl)) (by decide) (fun K hK => ?_)
           refine gg_ Try.func103 #[.agg #[.int .i64 x500000_2, .slice Ao41 x500001_2.length co41], .int .i64 ((rd_T73 l3 x10_2).f0), .int .i64 ((rd_T73 l3 x10_2).f1)] ?_
           with_reducible refine (spec_NetCut.calls k2 x500000_2 _ _ x500001_2 ((rd_T73 l3 x10_2).f0) ((rd_T73 l3 x10_2).f1) t502 t503 true _ ?side1 ?side2 A39.out).mono ?_
           (case side1 => repeat (first | exact (Kd.R_reads' HO_500001.out).2.2 | (with_reducible refine Kd.C_alloc ?_ _) | (with_reducible refine Kd.C_drewN ?_ _) | (with_reducible refine Kd.C_drew ?_)))
           (case side2 => exact (Kd.R_reads' HO_500001.out).2.1)
           rintro e w44 ⟨v504, rfl, ho0, hb⟩
           refine ⟨_, rfl, ?_⟩
           have n0_ := Aside0.mk (Kd.R_elder' (onR HO_500001) (Kd.R_base ho0) hb)
           have n1_ := Aside0.mk (Kd.R_lower (Kd.R_new' ho0 (Kd.R_lt (onR HO_500001))) (below_size (bn HB)))
           have n2_ := Aside0.mk (blk_below (bkn BK491) hb)
           have n3_ := Aside0.mk (blk_below (bkn BK499) hb)
           have n4_ := Aside0.mk (blk_below (bkn BK507) hb)
           have n5_ := Aside0.mk (below_step (bn HB) hb)
           clear HO_500001 BK491 BK499 BK507 HB
           have HO_500001 := n0_
           have HO505 := n1_
           have BK491 := n2_
           have BK499 := n3_
           have BK507 := n4_
           have HB := n5_
           clear n0_ n1_ n2_ n3_ n4_ n5_
           (try clear hb)
           (try clear hb2)
           (try clear hk)
           (try clear hi)
           (try clear ho0)
           refine hK.out _ _ ⟨(blk_cell BK499.out 0).trans rfl, (blk_cell BK499.out 1).trans rfl, ((HB.out.cell (World.block_lt_of_cell? w _ hw500_0)).trans hw500_0), ((HB.out.cell (World.block_lt_of_cell? w _ hw500_1)).trans hw500_1), ((HB.out.cell (World.block_lt_of_cell? w _ hw501_0)).trans hw501_0), ((HB.out.cell (World.block_lt_of_cell? w _ hw501_1)).trans hw501_1)⟩ (fun hHeld => ?_)
           clear hK K
           refine norm_ (a' := ?_) ?_ ?_
           rotate_left
           ·show Act.put _ (some 56) _ = _
            simp only [Act.put, List.setIfInBounds_toArray, List.set_cons_zero, List.set_cons_succ, i64_w, i32_w]
            rfl
           refine pz_ 12 (some 44) HT_ ?_
           refine pz_ 13 (some 57) HT_ ?_
           refine pz_ 14 (some 58) HT_ ?_
           exact norm_ (by simp only [putAll, Act.put, List.setIfInBounds_toArray, List.set_cons_zero, List.set_cons_succ]) (hCont (v504, gb507) _ ⟨hHeld, (by (with_reducible repeat (first | apply Kd.R_alloc | apply Kd.R_drewN | apply Kd.R_drew)); exact Kd.R_mono HO505.out (fun _ hk => hk.2)), (by (with_reducible repeat (first | apply Kd.R_alloc | apply Kd.R_drewN | apply Kd.R_drew)); exact Kd.R_mono HO_500001.out (fun _ hk => hk.2)), (bkn BK491), (bkn BK499), (bkn BK507), GW507.out, GE507.out, NB491_507.out, NB507_491.out, NB499_507.out, NB507_499.out, (bn HB)⟩)
         rintro ⟨v504, gb507⟩ w45 ⟨hS_, h0_, h1_, h2_, h3_, h4_, h5_, h6_, h7_, h8_, h9_, h10_, h11_⟩
         have n0_ : Aside0 (Kd.R k73 73 w45 w.heap.size (fun k_ => some k_ ≠ (.slice Ao41 x500001_2.length co41 : Value).ownBlock) v504 t503) := ⟨h0_⟩
         have n1_ : Aside0 (Kd.R k73 73 w45 w.heap.size (fun k_ => some k_ ≠ (v504 : Value).ownBlock) (.slice Ao41 x500001_2.length co41) x500001_2) := ⟨h1_⟩
         have n2_ : Aside0 (w45.heap[gb491]? = some (.cells #[.int .i64 a0_0, .slice A0_1 l0_1.length c0_1] 34 (0, 0))) := ⟨h2_⟩
         have n3_ : Aside0 (w45.heap[gb499]? = some (.cells #[.int .i64 x500000_2, .slice Ao41 x500001_2.length co41] 34 (0, 0))) := ⟨h3_⟩
         have n4_ : Aside0 (w45.heap[gb507]? = some (.cells #[.int .i64 0, .slice none 0 0] 34 (0, 0))) := ⟨h4_⟩
         have n5_ : Aside0 (w.heap.size ≤ gb507) := ⟨h5_⟩
         have n6_ : Aside0 (w.heap.size ≤ gb507) := ⟨h6_⟩
         have n7_ : Aside0 (gb491 ≠ gb507) := ⟨h7_⟩
         have n8_ : Aside0 (gb507 ≠ gb491) := ⟨h8_⟩
         have n9_ : Aside0 (gb499 ≠ gb507) := ⟨h9_⟩
         have n10_ : Aside0 (gb507 ≠ gb499) := ⟨h10_⟩
         have n11_ : Aside0 (Below w.heap.size w w45) := ⟨h11_⟩
         clear HO_500001 BK491 BK499 HB h0_ h1_ h2_ h3_ h4_ h5_ h6_ h7_ h8_ h9_ h10_ h11_
         have HO505 := n0_
         have HO_500001 := n1_
         have BK491 := n2_
         have BK499 := n3_
         have BK507 := n4_
         have GW507 := n5_
         have GE507 := n6_
         have NB491_507 := n7_
         have NB507_491 := n8_
         have NB499_507 := n9_
         have NB507_499 := n10_
         have HB := n11_
         clear n0_ n1_ n2_ n3_ n4_ n5_ n6_ n7_ n8_ n9_ n10_ n11_
         have hHeld : w45.cell? ⟨gb499, 0, none⟩ = some (.int .i64 x500000_2) ∧ w45.cell? ⟨gb499, 1, none⟩ = some (.slice Ao41 x500001_2.length co41) ∧ w45.cell? (ad500.add ((x10_2).toNat * 2)) = some (.int .i64 ((rd_T73 l3 x10_2).f0)) ∧ w45.cell? ⟨(ad500.add ((x10_2).toNat * 2)).block, (ad500.add ((x10_2).toNat * 2)).off + 1, none⟩ = some (.int .i64 ((rd_T73 l3 x10_2).f1)) ∧ w45.cell? (ad500.add ((x10_2).toNat * 2)) = some (.int .i64 ((rd_T73 l3 x10_2).f0)) ∧ w45.cell? ⟨(ad500.add ((x10_2).toNat * 2)).block, (ad500.add ((x10_2).toNat * 2)).off + 1, none⟩ = some (.int .i64 ((rd_T73 l3 x10_2).f1)) := hS_
         obtain ⟨Ao47, co47, eo47⟩ := Kd.R_slice HO505.out
         (first | subst eo47 | (injection eo47 with f1_ f2_ f3_; have f4_ := f1_.symm; have f5_ := f3_.symm; clear f1_ f2_ f3_; subst f4_; subst f5_))
         refine norm_ (a' := ?_) ?_ ?_
         rotate_left
         ·simp only [putAll, Act.put, List.setIfInBounds_toArray, List.set_cons_zero, List.set_cons_succ]
          rfl
         refine one_ (i := 16) (N := none) #[true, true, true, true, true, true, true, true, true, true, true, true, true, true, true, true, true, false] rfl rfl (one_of HT_.out (by kernel_rfl)) (by decide) (fun K hK => ?_)
         have hs46 := bc BK507 0
         have hfs46 := blk_frozen BK507.out 0
         have hns46_0 := NB491_507.out
         have hns46_1 := NB499_507.out
         have hms46_0 := NB507_491.out
         have hms46_1 := NB507_499.out
         have hs48 := bc BK507 1
         have hfs48 := blk_frozen BK507.out 1
         have hns48_0 := NB491_507.out
         have hns48_1 := NB499_507.out
         have hms48_0 := NB507_491.out
         have hms48_1 := NB507_499.out
         refine skip_ (w1 := ?_) (by rfl) rfl ?_ ?_
         rotate_left
         ·go_simp
          rfl
         refine hK.out _ _ ⟨((cell_far (p := ⟨gb507, _, none⟩) NB499_507.out _).trans (((cell_far (p := ⟨gb507, _, none⟩) NB499_507.out _).trans (hHeld.1)))), ((cell_far (p := ⟨gb507, _, none⟩) NB499_507.out _).trans (((cell_far (p := ⟨gb507, _, none⟩) NB499_507.out _).trans (hHeld.2.1)))), ((cell_far (p := ⟨gb507, _, none⟩) (by first | exact Nat.ne_of_lt (Nat.lt_of_lt_of_le (by have := World.block_lt_of_cell? _ _ hw500_0; first | rwa [add_block] at this | exact this) GW507.out) | (rw [add_block]; exact Nat.ne_of_lt (Nat.lt_of_lt_of_le (by have := World.block_lt_of_cell? _ _ hw500_0; first | rwa [add_block] at this | exact this) GW507.out)) | (show (Addr.add _ _).block ≠ _; rw [add_block]; exact Nat.ne_of_lt (Nat.lt_of_lt_of_le (by have := World.block_lt_of_cell? _ _ hw500_0; first | rwa [add_block] at this | exact this) GW507.out)) | (dsimp only; exact Nat.ne_of_lt (Nat.lt_of_lt_of_le (by have := World.block_lt_of_cell? _ _ hw500_0; first | rwa [add_block] at this | exact this) GW507.out))) _).trans (((cell_far (p := ⟨gb507, _, none⟩) (by first | exact Nat.ne_of_lt (Nat.lt_of_lt_of_le (by have := World.block_lt_of_cell? _ _ hw500_0; first | rwa [add_block] at this | exact this) GW507.out) | (rw [add_block]; exact Nat.ne_of_lt (Nat.lt_of_lt_of_le (by have := World.block_lt_of_cell? _ _ hw500_0; first | rwa [add_block] at this | exact this) GW507.out)) | (show (Addr.add _ _).block ≠ _; rw [add_block]; exact Nat.ne_of_lt (Nat.lt_of_lt_of_le (by have := World.block_lt_of_cell? _ _ hw500_0; first | rwa [add_block] at this | exact this) GW507.out)) | (dsimp only; exact Nat.ne_of_lt (Nat.lt_of_lt_of_le (by have := World.block_lt_of_cell? _ _ hw500_0; first | rwa [add_block] at this | exact this) GW507.out))) _).trans (hHeld.2.2.1)))), ((cell_far (p := ⟨gb507, _, none⟩) (by first | exact Nat.ne_of_lt (Nat.lt_of_lt_of_le (by have := World.block_lt_of_cell? _ _ hw500_1; first | rwa [add_block] at this | exact this) GW507.out) | (rw [add_block]; exact Nat.ne_of_lt (Nat.lt_of_lt_of_le (by have := World.block_lt_of_cell? _ _ hw500_1; first | rwa [add_block] at this | exact this) GW507.out)) | (show (Addr.add _ _).block ≠ _; rw [add_block]; exact Nat.ne_of_lt (Nat.lt_of_lt_of_le (by have := World.block_lt_of_cell? _ _ hw500_1; first | rwa [add_block] at this | exact this) GW507.out)) | (dsimp only; exact Nat.ne_of_lt (Nat.lt_of_lt_of_le (by have := World.block_lt_of_cell? _ _ hw500_1; first | rwa [add_block] at this | exact this) GW507.out))) _).trans (((cell_far (p := ⟨gb507, _, none⟩) (by first | exact Nat.ne_of_lt (Nat.lt_of_lt_of_le (by have := World.block_lt_of_cell? _ _ hw500_1; first | rwa [add_block] at this | exact this) GW507.out) | (rw [add_block]; exact Nat.ne_of_lt (Nat.lt_of_lt_of_le (by have := World.block_lt_of_cell? _ _ hw500_1; first | rwa [add_block] at this | exact this) GW507.out)) | (show (Addr.add _ _).block ≠ _; rw [add_block]; exact Nat.ne_of_lt (Nat.lt_of_lt_of_le (by have := World.block_lt_of_cell? _ _ hw500_1; first | rwa [add_block] at this | exact this) GW507.out)) | (dsimp only; exact Nat.ne_of_lt (Nat.lt_of_lt_of_le (by have := World.block_lt_of_cell? _ _ hw500_1; first | rwa [add_block] at this | exact this) GW507.out))) _).trans (hHeld.2.2.2.1)))), ((cell_far (p := ⟨gb507, _, none⟩) (by first | exact Nat.ne_of_lt (Nat.lt_of_lt_of_le (by have := World.block_lt_of_cell? _ _ hw501_0; first | rwa [add_block] at this | exact this) GW507.out) | (rw [add_block]; exact Nat.ne_of_lt (Nat.lt_of_lt_of_le (by have := World.block_lt_of_cell? _ _ hw501_0; first | rwa [add_block] at this | exact this) GW507.out)) | (show (Addr.add _ _).block ≠ _; rw [add_block]; exact Nat.ne_of_lt (Nat.lt_of_lt_of_le (by have := World.block_lt_of_cell? _ _ hw501_0; first | rwa [add_block] at this | exact this) GW507.out)) | (dsimp only; exact Nat.ne_of_lt (Nat.lt_of_lt_of_le (by have := World.block_lt_of_cell? _ _ hw501_0; first | rwa [add_block] at this | exact this) GW507.out))) _).trans (((cell_far (p := ⟨gb507, _, none⟩) (by first | exact Nat.ne_of_lt (Nat.lt_of_lt_of_le (by have := World.block_lt_of_cell? _ _ hw501_0; first | rwa [add_block] at this | exact this) GW507.out) | (rw [add_block]; exact Nat.ne_of_lt (Nat.lt_of_lt_of_le (by have := World.block_lt_of_cell? _ _ hw501_0; first | rwa [add_block] at this | exact this) GW507.out)) | (show (Addr.add _ _).block ≠ _; rw [add_block]; exact Nat.ne_of_lt (Nat.lt_of_lt_of_le (by have := World.block_lt_of_cell? _ _ hw501_0; first | rwa [add_block] at this | exact this) GW507.out)) | (dsimp only; exact Nat.ne_of_lt (Nat.lt_of_lt_of_le (by have := World.block_lt_of_cell? _ _ hw501_0; first | rwa [add_block] at this | exact this) GW507.out))) _).trans (hHeld.2.2.2.2.1)))), ((cell_far (p := ⟨gb507, _, none⟩) (by first | exact Nat.ne_of_lt (Nat.lt_of_lt_of_le (by have := World.block_lt_of_cell? _ _ hw501_1; first | rwa [add_block] at this | exact this) GW507.out) | (rw [add_block]; exact Nat.ne_of_lt (Nat.lt_of_lt_of_le (by have := World.block_lt_of_cell? _ _ hw501_1; first | rwa [add_block] at this | exact this) GW507.out)) | (show (Addr.add _ _).block ≠ _; rw [add_block]; exact Nat.ne_of_lt (Nat.lt_of_lt_of_le (by have := World.block_lt_of_cell? _ _ hw501_1; first | rwa [add_block] at this | exact this) GW507.out)) | (dsimp only; exact Nat.ne_of_lt (Nat.lt_of_lt_of_le (by have := World.block_lt_of_cell? _ _ hw501_1; first | rwa [add_block] at this | exact this) GW507.out))) _).trans (((cell_far (p := ⟨gb507, _, none⟩) (by first | exact Nat.ne_of_lt (Nat.lt_of_lt_of_le (by have := World.block_lt_of_cell? _ _ hw501_1; first | rwa [add_block] at this | exact this) GW507.out) | (rw [add_block]; exact Nat.ne_of_lt (Nat.lt_of_lt_of_le (by have := World.block_lt_of_cell? _ _ hw501_1; first | rwa [add_block] at this | exact this) GW507.out)) | (show (Addr.add _ _).block ≠ _; rw [add_block]; exact Nat.ne_of_lt (Nat.lt_of_lt_of_le (by have := World.block_lt_of_cell? _ _ hw501_1; first | rwa [add_block] at this | exact this) GW507.out)) | (dsimp only; exact Nat.ne_of_lt (Nat.lt_of_lt_of_le (by have := World.block_lt_of_cell? _ _ hw501_1; first | rwa [add_block] at this | exact this) GW507.out))) _).trans (hHeld.2.2.2.2.2))))⟩ (fun hHeld => ?_)
         clear hK K
         refine pz_ 17 (some 12) HT_ ?_
         refine done_ (done_of HT_.out (by kernel_rfl)) ?_
         have hnb49 := NB507_491.out
         have hnc49 := NB491_507.out
         have hnb50 := NB507_499.out
         have hnc50 := NB499_507.out
         have hcz51_0 := bc BK507 0
         have hcz51_1 := bc BK507 1
         have hfz51_0 := blk_frozen BK507.out 0
         have hfz51_1 := blk_frozen BK507.out 1
         have hnb52 := NB499_491.out
         have hnc52 := NB491_499.out
         have hcz53_0 := bc BK499 0
         have hcz53_1 := bc BK499 1
         have hfz53_0 := blk_frozen BK499.out 0
         have hfz53_1 := blk_frozen BK499.out 1
         try go_wp2
         go_roundg k2
         case measure => have := HJ4.out; have := HK2.out; omega
         case rel => exact ⟨(wrap64 (x10_2 + 1)), (t502), (t503), (.slice Ao47 t503.length co47), (by first | rfl | (simp; done) | (simp [*]; done)), H', ⟨by have := HJ4.out; have := HK2.out; omega⟩, ⟨by (with_reducible repeat (first | apply Kd.R_alloc | apply Kd.R_drewN | apply Kd.R_drew)); exact Kd.R_mono (Kd.R_far (p := ⟨gb499, 1, none⟩) (Kd.R_far (p := ⟨gb499, 0, none⟩) (Kd.R_far (p := ⟨gb507, 1, none⟩) (Kd.R_far (p := ⟨gb507, 0, none⟩) (Kd.R_types (Kd.R_types HO505.out BK507.out (by decide)) BK499.out (by decide)) (fun _ hk => hk.1.2) (.int .i64 t502)) (fun _ hk => hk.1.2) (.slice Ao47 t503.length co47)) (fun _ hk => hk.2) (.int .i64 t502)) (fun _ hk => hk.2) (.slice Ao47 t503.length co47)) (fun _ hk => trivial)⟩, ⟨bkn BK491⟩, ⟨by (with_reducible repeat (first | refine blk_drewN ?_ _ | refine blk_drew ?_ | refine blk_alloc ?_ _)); refine blk_put (cs := #[.int .i64 t502, .slice Ao41 x500001_2.length co41]) ?_ 1 _ rfl; (with_reducible repeat (first | refine blk_drewN ?_ _ | refine blk_drew ?_ | refine blk_alloc ?_ _)); refine blk_put (cs := #[.int .i64 x500000_2, .slice Ao41 x500001_2.length co41]) ?_ 0 _ rfl; (with_reducible repeat (first | refine blk_drewN ?_ _ | refine blk_drew ?_ | refine blk_alloc ?_ _)); refine blk_far ?_ NB499_507.out _; (with_reducible repeat (first | refine blk_drewN ?_ _ | refine blk_drew ?_ | refine blk_alloc ?_ _)); refine blk_far ?_ NB499_507.out _; (with_reducible repeat (first | refine blk_drewN ?_ _ | refine blk_drew ?_ | refine blk_alloc ?_ _)); exact BK499.out⟩, ⟨bn HB⟩⟩
        ·replace c40 := Bool.eq_false_iff.mpr c40
         subst c40
         rw [if_neg (show ¬ (false = true) by decide)] at H
         obtain rfl := Option.some.inj H
         obtain ⟨Ao54, co54, eo54⟩ := Kd.R_slice HO_500001.out
         subst eo54
         try go_wp2
         have n0_ := Aside0.mk (Kd.R_drew HO_500001.out)
         have n1_ := Aside0.mk (blk_drew BK491.out)
         have n2_ := Aside0.mk (blk_drew BK499.out)
         have n3_ := Aside0.mk (below_drew1 HB.out)
         clear HO_500001 BK491 BK499 HB
         have HO_500001 := n0_
         have BK491 := n1_
         have BK499 := n2_
         have HB := n3_
         clear n0_ n1_ n2_ n3_
         have p500 : 0 ≤ (x10_2 : Int) := oa
         have q500 : x10_2 < (l3.length : Int) := oa
         obtain ⟨ad500, e500, hx500_0, hx500_1⟩ := at_T73 HR3.out x10_2 p500 q500
         have hw500_1 := hx500_1
         have hw500_0 := hx500_0
         cases e500
         replace hx500_0 := (HB.out.cell (World.block_lt_of_cell? w _ hx500_0)).trans hx500_0
         replace hx500_1 := (HB.out.cell (World.block_lt_of_cell? w _ hx500_1)).trans hx500_1
         replace p500 := eq_true p500
         replace q500 := eq_true q500
         have p501 : 0 ≤ (x10_2 : Int) := oa
         have q501 : x10_2 < (l3.length : Int) := oa
         obtain ⟨ad501, e501, hx501_0, hx501_1⟩ := at_T73 HR3.out x10_2 p501 q501
         have hw501_1 := hx501_1
         have hw501_0 := hx501_0
         obtain rfl : ad500 = ad501 := (by injection e501)
         replace hx501_0 := (HB.out.cell (World.block_lt_of_cell? w _ hx501_0)).trans hx501_0
         replace hx501_1 := (HB.out.cell (World.block_lt_of_cell? w _ hx501_1)).trans hx501_1
         replace p501 := eq_true p501
         replace q501 := eq_true q501
         refine start_ (n := 18) (S := fun w' => w'.cell? ⟨gb499, 0, none⟩ = some (.int .i64 x500000_2) ∧ w'.cell? ⟨gb499, 1, none⟩ = some (.slice Ao54 x500001_2.length co54) ∧ w'.cell? (ad500.add ((x10_2).toNat * 2)) = some (.int .i64 ((rd_T73 l3 x10_2).f0)) ∧ w'.cell? ⟨(ad500.add ((x10_2).toNat * 2)).block, (ad500.add ((x10_2).toNat * 2)).off + 1, none⟩ = some (.int .i64 ((rd_T73 l3 x10_2).f1)) ∧ w'.cell? (ad500.add ((x10_2).toNat * 2)) = some (.int .i64 ((rd_T73 l3 x10_2).f0)) ∧ w'.cell? ⟨(ad500.add ((x10_2).toNat * 2)).block, (ad500.add ((x10_2).toNat * 2)).off + 1, none⟩ = some (.int .i64 ((rd_T73 l3 x10_2).f1))) (ds := []) #[false, false, false, false, false, false, false, false, false, false, false, false, false, false, false, false, false, false] (by kernel_rfl) rfl rfl ⟨(blk_cell BK499.out 0).trans rfl, (blk_cell BK499.out 1).trans rfl, ((HB.out.cell (World.block_lt_of_cell? w _ hw500_0)).trans hw500_0), ((HB.out.cell (World.block_lt_of_cell? w _ hw500_1)).trans hw500_1), ((HB.out.cell (World.block_lt_of_cell? w _ hw501_0)).trans hw501_0), ((HB.out.cell (World.block_lt_of_cell? w _ hw501_1)).trans hw501_1)⟩ (fun hHeld => ?_); refine with_tabW spec_FlowParts.tab7 spec_FlowParts.bits7 (fun HT_ HW_ => ?_)
         generalize wr.drew = w55 at HO_500001 BK491 BK499 HB hx500_0 hx500_1 hx501_0 hx501_1 hHeld ⊢
         refine pz_ 1 (some 46) HT_ ?_
         refine pz_ 2 (some 47) HT_ ?_
         refine pz_ 3 (some 48) HT_ ?_
         refine pz_ 4 (some 49) HT_ ?_
         refine pz_ 6 (some 51) HT_ ?_
         refine pz_ 7 (some 52) HT_ ?_
         refine pz_ 8 (some 53) HT_ ?_
         refine pz_ 9 (some 54) HT_ ?_
         refine tz_ 0 (some 45) HT_ HW_ hHeld ?_
         refine tz_ 5 (some 50) HT_ HW_ hHeld ?_
         refine tz_ 10 (some 55) HT_ HW_ hHeld ?_
         refine join_ (σ := Value × Nat) 2 #[true, true, true, true, true, true, true, true, true, true, true, true, true, true, true, true, false, false] (fun s_ => [(56, .tuple #[.agg #[.int .i64 t502, s_.1], .bool false]), (11, .pointer (some ⟨s_.2, 0, none⟩)), (44, .tuple #[.agg #[.int .i64 t502, s_.1], .bool false]), (57, .agg #[.int .i64 t502, s_.1]), (58, .bool false)]) (fun s_ w' => (w'.cell? ⟨gb499, 0, none⟩ = some (.int .i64 x500000_2) ∧ w'.cell? ⟨gb499, 1, none⟩ = some (.slice Ao54 x500001_2.length co54) ∧ w'.cell? (ad500.add ((x10_2).toNat * 2)) = some (.int .i64 ((rd_T73 l3 x10_2).f0)) ∧ w'.cell? ⟨(ad500.add ((x10_2).toNat * 2)).block, (ad500.add ((x10_2).toNat * 2)).off + 1, none⟩ = some (.int .i64 ((rd_T73 l3 x10_2).f1)) ∧ w'.cell? (ad500.add ((x10_2).toNat * 2)) = some (.int .i64 ((rd_T73 l3 x10_2).f0)) ∧ w'.cell? ⟨(ad500.add ((x10_2).toNat * 2)).block, (ad500.add ((x10_2).toNat * 2)).off + 1, none⟩ = some (.int .i64 ((rd_T73 l3 x10_2).f1))) ∧ (Kd.R k73 73 w' w.heap.size (fun k_ => some k_ ≠ (.slice Ao54 x500001_2.length co54 : Value).ownBlock) s_.1 t503) ∧ (Kd.R k73 73 w' w.heap.size (fun k_ => some k_ ≠ (s_.1 : Value).ownBlock) (.slice Ao54 x500001_2.length co54) x500001_2) ∧ (w'.heap[gb491]? = some (.cells #[.int .i64 a0_0, .slice A0_1 l0_1.length c0_1] 34 (0, 0))) ∧ (w'.heap[gb499]? = some (.cells #[.int .i64 x500000_2, .slice Ao54 x500001_2.length co54] 34 (0, 0))) ∧ (w'.heap[s_.2]? = some (.cells #[.int .i64 0, .slice none 0 0] 34 (0, 0))) ∧ (w.heap.size ≤ s_.2) ∧ (w.heap.size ≤ s_.2) ∧ (gb491 ≠ s_.2) ∧ (s_.2 ≠ gb491) ∧ (gb499 ≠ s_.2) ∧ (s_.2 ≠ gb499) ∧ (Below w.heap.size w w')) ?_ ?_
         rotate_left
         ·intro hCont
          refine two_ (i := 11) (j := 15) (Ni := some 56) (Nj := some 11) #[true, true, true, true, true, true, true, true, true, true, true, true, false, false, false, false, false, false] #[true, true, true, true, true, true, true, true, true, true, true, false, false, false, false, true, false, false] rfl rfl rfl rfl (two_of HT_.out (by kernel_rfl)) (by decide) (by decide) (fun K hK => ?_) (fun K hK => ?_)
          ·skip
           refine gg_ Try.func103 #[.agg #[.int .i64 x500000_2, .slice Ao54 x500001_2.length co54], .int .i64 ((rd_T73 l3 x10_2).f0), .int .i64 ((rd_T73 l3 x10_2).f1)] ?_
           with_reducible refine (spec_NetCut.calls k2 x500000_2 _ _ x500001_2 ((rd_T73 l3 x10_2).f0) ((rd_T73 l3 x10_2).f1) t502 t503 false _ ?side1 ?side2 A39.out).mono ?_
           (case side1 => repeat (first | exact (Kd.R_reads' HO_500001.out).2.2 | (with_reducible refine Kd.C_alloc ?_ _) | (with_reducible refine Kd.C_drewN ?_ _) | (with_reducible refine Kd.C_drew ?_)))
           (case side2 => exact (Kd.R_reads' HO_500001.out).2.1)
           rintro e w56 ⟨v504, rfl, ho0, hb⟩
           refine ⟨_, rfl, ?_⟩
           have n0_ := Aside0.mk (Kd.R_elder' (onR HO_500001) (Kd.R_base ho0) hb)
           have n1_ := Aside0.mk (Kd.R_lower (Kd.R_new' ho0 (Kd.R_lt (onR HO_500001))) (below_size (bn HB)))
           have n2_ := Aside0.mk (blk_below (bkn BK491) hb)
           have n3_ := Aside0.mk (blk_below (bkn BK499) hb)
           have n4_ := Aside0.mk (below_step (bn HB) hb)
           clear HO_500001 BK491 BK499 HB
           have HO_500001 := n0_
           have HO505 := n1_
           have BK491 := n2_
           have BK499 := n3_
           have HB := n4_
           clear n0_ n1_ n2_ n3_ n4_
           (try clear hb)
           (try clear hb2)
           (try clear hk)
           (try clear hi)
           (try clear ho0)
           refine hK.out _ _ ⟨(blk_cell BK499.out 0).trans rfl, (blk_cell BK499.out 1).trans rfl, ((HB.out.cell (World.block_lt_of_cell? w _ hw500_0)).trans hw500_0), ((HB.out.cell (World.block_lt_of_cell? w _ hw500_1)).trans hw500_1), ((HB.out.cell (World.block_lt_of_cell? w _ hw501_0)).trans hw501_0), ((HB.out.cell (World.block_lt_of_cell? w _ hw501_1)).trans hw501_1)⟩ (fun hHeld => ?_)
           clear hK K
           refine norm_ (a' := ?_) ?_ ?_
           rotate_left
           ·show Act.put _ (some 56) _ = _
            simp only [Act.put, List.setIfInBounds_toArray, List.set_cons_zero, List.set_cons_succ, i64_w, i32_w]
            rfl
           refine pz_ 12 (some 44) HT_ ?_
           refine pz_ 13 (some 57) HT_ ?_
           refine pz_ 14 (some 58) HT_ ?_
           refine one_ (i := 15) (N := some 11) #[true, true, true, true, true, true, true, true, true, true, true, true, true, true, true, true, false, false] rfl rfl (one_of HT_.out (by kernel_rfl)) (by decide) (fun K hK => ?_)
           refine box_step ?hg (N := 11) ?hd (cs := #[.int .i64 0, .slice none 0 0]) (t := 34) ?hr ?_; (case hd => rfl); (case hg => rfl); (case hr => first | (go_simp; done) | (go_simp; rfl))
           intro gb507 hg w57 hbox hb
           have n0_ := Aside0.mk (Kd.R_below (onR HO_500001) hb)
           have n1_ := Aside0.mk (Kd.R_below (onR HO505) hb)
           have n2_ := Aside0.mk (blk_below (bkn BK491) hb)
           have n3_ := Aside0.mk (blk_below (bkn BK499) hb)
           have n4_ := Aside0.mk (below_step (bn HB) hb)
           have n5_ := Aside0.mk (hbox)
           have n6_ := Aside0.mk ((by rw [hg]; exact (below_size (bn HB)) : w.heap.size ≤ gb507))
           have n7_ := Aside0.mk ((by rw [hg]; exact (below_size (bn HB)) : w.heap.size ≤ gb507))
           have n8_ := Aside0.mk ((by rw [hg]; exact Nat.ne_of_lt (blk_lt (bkn BK491)) : gb491 ≠ gb507))
           have n9_ := Aside0.mk ((by rw [hg]; exact Nat.ne_of_gt (blk_lt (bkn BK491)) : gb507 ≠ gb491))
           have n10_ := Aside0.mk ((by rw [hg]; exact Nat.ne_of_lt (blk_lt (bkn BK499)) : gb499 ≠ gb507))
           have n11_ := Aside0.mk ((by rw [hg]; exact Nat.ne_of_gt (blk_lt (bkn BK499)) : gb507 ≠ gb499))
           clear HO_500001 HO505 BK491 BK499 HB
           have HO_500001 := n0_
           have HO505 := n1_
           have BK491 := n2_
           have BK499 := n3_
           have HB := n4_
           have BK507 := n5_
           have GW507 := n6_
           have GE507 := n7_
           have NB491_507 := n8_
           have NB507_491 := n9_
           have NB499_507 := n10_
           have NB507_499 := n11_
           clear n0_ n1_ n2_ n3_ n4_ n5_ n6_ n7_ n8_ n9_ n10_ n11_ hb hbox hg
           refine hK.out _ _ ⟨(blk_cell BK499.out 0).trans rfl, (blk_cell BK499.out 1).trans rfl, ((HB.out.cell (World.block_lt_of_cell? w _ hw500_0)).trans hw500_0), ((HB.out.cell (World.block_lt_of_cell? w _ hw500_1)).trans hw500_1), ((HB.out.cell (World.block_lt_of_cell? w _ hw501_0)).trans hw501_0), ((HB.out.cell (World.block_lt_of_cell? w _ hw501_1)).trans hw501_1)⟩ (fun hHeld => ?_)
           clear hK K
           refine norm_ (a' := ?_) ?_ ?_
           rotate_left
           ·show Act.put _ (some 11) _ = _
            simp only [Act.put, List.setIfInBounds_toArray, List.set_cons_zero, List.set_cons_succ, i64_w, i32_w]
            rfl
           exact norm_ (by simp only [putAll, Act.put, List.setIfInBounds_toArray, List.set_cons_zero, List.set_cons_succ]) (hCont (v504, gb507) _ ⟨hHeld, (by (with_reducible repeat (first | apply Kd.R_alloc | apply Kd.R_drewN | apply Kd.R_drew)); exact Kd.R_mono HO505.out (fun _ hk => hk.2)), (by (with_reducible repeat (first | apply Kd.R_alloc | apply Kd.R_drewN | apply Kd.R_drew)); exact Kd.R_mono HO_500001.out (fun _ hk => hk.2)), (bkn BK491), (bkn BK499), (bkn BK507), GW507.out, GE507.out, NB491_507.out, NB507_491.out, NB499_507.out, NB507_499.out, (bn HB)⟩)
          ·skip
           refine box_step ?hg (N := 11) ?hd (cs := #[.int .i64 0, .slice none 0 0]) (t := 34) ?hr ?_; (case hd => rfl); (case hg => rfl); (case hr => first | (go_simp; done) | (go_simp; rfl))
           intro gb507 hg w56 hbox hb
           have n0_ := Aside0.mk (Kd.R_below (onR HO_500001) hb)
           have n1_ := Aside0.mk (blk_below (bkn BK491) hb)
           have n2_ := Aside0.mk (blk_below (bkn BK499) hb)
           have n3_ := Aside0.mk (below_step (bn HB) hb)
           have n4_ := Aside0.mk (hbox)
           have n5_ := Aside0.mk ((by rw [hg]; exact (below_size (bn HB)) : w.heap.size ≤ gb507))
           have n6_ := Aside0.mk ((by rw [hg]; exact (below_size (bn HB)) : w.heap.size ≤ gb507))
           have n7_ := Aside0.mk ((by rw [hg]; exact Nat.ne_of_lt (blk_lt (bkn BK491)) : gb491 ≠ gb507))
           have n8_ := Aside0.mk ((by rw [hg]; exact Nat.ne_of_gt (blk_lt (bkn BK491)) : gb507 ≠ gb491))
           have n9_ := Aside0.mk ((by rw [hg]; exact Nat.ne_of_lt (blk_lt (bkn BK499)) : gb499 ≠ gb507))
           have n10_ := Aside0.mk ((by rw [hg]; exact Nat.ne_of_gt (blk_lt (bkn BK499)) : gb507 ≠ gb499))
           clear HO_500001 BK491 BK499 HB
           have HO_500001 := n0_
           have BK491 := n1_
           have BK499 := n2_
           have HB := n3_
           have BK507 := n4_
           have GW507 := n5_
           have GE507 := n6_
           have NB491_507 := n7_
           have NB507_491 := n8_
           have NB499_507 := n9_
           have NB507_499 := n10_
           clear n0_ n1_ n2_ n3_ n4_ n5_ n6_ n7_ n8_ n9_ n10_ hb hbox hg
           refine hK.out _ _ ⟨(blk_cell BK499.out 0).trans rfl, (blk_cell BK499.out 1).trans rfl, ((HB.out.cell (World.block_lt_of_cell? w _ hw500_0)).trans hw500_0), ((HB.out.cell (World.block_lt_of_cell? w _ hw500_1)).trans hw500_1), ((HB.out.cell (World.block_lt_of_cell? w _ hw501_0)).trans hw501_0), ((HB.out.cell (World.block_lt_of_cell? w _ hw501_1)).trans hw501_1)⟩ (fun hHeld => ?_)
           clear hK K
           refine norm_ (a' := ?_) ?_ ?_
           rotate_left
           ·show Act.put _ (some 11) _ = _
            simp only [Act.put, List.setIfInBounds_toArray, List.set_cons_zero, List.set_cons_succ, i64_w, i32_w]
            rfl
           refine one_ (i := 11) (N := some 56) #[true, true, true, true, true, true, true, true, true, true, true, true, false, false, false, true, false, false] rfl rfl (one_of HT_.out (by kernel_rfl)) (by decide) (fun K hK => ?_)
           refine gg_ Try.func103 #[.agg #[.int .i64 x500000_2, .slice Ao54 x500001_2.length co54], .int .i64 ((rd_T73 l3 x10_2).f0), .int .i64 ((rd_T73 l3 x10_2).f1)] ?_
           with_reducible refine (spec_NetCut.calls k2 x500000_2 _ _ x500001_2 ((rd_T73 l3 x10_2).f0) ((rd_T73 l3 x10_2).f1) t502 t503 false _ ?side1 ?side2 A39.out).mono ?_
           (case side1 => repeat (first | exact (Kd.R_reads' HO_500001.out).2.2 | (with_reducible refine Kd.C_alloc ?_ _) | (with_reducible refine Kd.C_drewN ?_ _) | (with_reducible refine Kd.C_drew ?_)))
           (case side2 => exact (Kd.R_reads' HO_500001.out).2.1)
           rintro e w57 ⟨v504, rfl, ho0, hb⟩
           refine ⟨_, rfl, ?_⟩
           have n0_ := Aside0.mk (Kd.R_elder' (onR HO_500001) (Kd.R_base ho0) hb)
           have n1_ := Aside0.mk (Kd.R_lower (Kd.R_new' ho0 (Kd.R_lt (onR HO_500001))) (below_size (bn HB)))
           have n2_ := Aside0.mk (blk_below (bkn BK491) hb)
           have n3_ := Aside0.mk (blk_below (bkn BK499) hb)
           have n4_ := Aside0.mk (blk_below (bkn BK507) hb)
           have n5_ := Aside0.mk (below_step (bn HB) hb)
           clear HO_500001 BK491 BK499 BK507 HB
           have HO_500001 := n0_
           have HO505 := n1_
           have BK491 := n2_
           have BK499 := n3_
           have BK507 := n4_
           have HB := n5_
           clear n0_ n1_ n2_ n3_ n4_ n5_
           (try clear hb)
           (try clear hb2)
           (try clear hk)
           (try clear hi)
           (try clear ho0)
           refine hK.out _ _ ⟨(blk_cell BK499.out 0).trans rfl, (blk_cell BK499.out 1).trans rfl, ((HB.out.cell (World.block_lt_of_cell? w _ hw500_0)).trans hw500_0), ((HB.out.cell (World.block_lt_of_cell? w _ hw500_1)).trans hw500_1), ((HB.out.cell (World.block_lt_of_cell? w _ hw501_0)).trans hw501_0), ((HB.out.cell (World.block_lt_of_cell? w _ hw501_1)).trans hw501_1)⟩ (fun hHeld => ?_)
           clear hK K
           refine norm_ (a' := ?_) ?_ ?_
           rotate_left
           ·show Act.put _ (some 56) _ = _
            simp only [Act.put, List.setIfInBounds_toArray, List.set_cons_zero, List.set_cons_succ, i64_w, i32_w]
            rfl
           refine pz_ 12 (some 44) HT_ ?_
           refine pz_ 13 (some 57) HT_ ?_
           refine pz_ 14 (some 58) HT_ ?_
           exact norm_ (by simp only [putAll, Act.put, List.setIfInBounds_toArray, List.set_cons_zero, List.set_cons_succ]) (hCont (v504, gb507) _ ⟨hHeld, (by (with_reducible repeat (first | apply Kd.R_alloc | apply Kd.R_drewN | apply Kd.R_drew)); exact Kd.R_mono HO505.out (fun _ hk => hk.2)), (by (with_reducible repeat (first | apply Kd.R_alloc | apply Kd.R_drewN | apply Kd.R_drew)); exact Kd.R_mono HO_500001.out (fun _ hk => hk.2)), (bkn BK491), (bkn BK499), (bkn BK507), GW507.out, GE507.out, NB491_507.out, NB507_491.out, NB499_507.out, NB507_499.out, (bn HB)⟩)
         rintro ⟨v504, gb507⟩ w58 ⟨hS_, h0_, h1_, h2_, h3_, h4_, h5_, h6_, h7_, h8_, h9_, h10_, h11_⟩
         have n0_ : Aside0 (Kd.R k73 73 w58 w.heap.size (fun k_ => some k_ ≠ (.slice Ao54 x500001_2.length co54 : Value).ownBlock) v504 t503) := ⟨h0_⟩
         have n1_ : Aside0 (Kd.R k73 73 w58 w.heap.size (fun k_ => some k_ ≠ (v504 : Value).ownBlock) (.slice Ao54 x500001_2.length co54) x500001_2) := ⟨h1_⟩
         have n2_ : Aside0 (w58.heap[gb491]? = some (.cells #[.int .i64 a0_0, .slice A0_1 l0_1.length c0_1] 34 (0, 0))) := ⟨h2_⟩
         have n3_ : Aside0 (w58.heap[gb499]? = some (.cells #[.int .i64 x500000_2, .slice Ao54 x500001_2.length co54] 34 (0, 0))) := ⟨h3_⟩
         have n4_ : Aside0 (w58.heap[gb507]? = some (.cells #[.int .i64 0, .slice none 0 0] 34 (0, 0))) := ⟨h4_⟩
         have n5_ : Aside0 (w.heap.size ≤ gb507) := ⟨h5_⟩
         have n6_ : Aside0 (w.heap.size ≤ gb507) := ⟨h6_⟩
         have n7_ : Aside0 (gb491 ≠ gb507) := ⟨h7_⟩
         have n8_ : Aside0 (gb507 ≠ gb491) := ⟨h8_⟩
         have n9_ : Aside0 (gb499 ≠ gb507) := ⟨h9_⟩
         have n10_ : Aside0 (gb507 ≠ gb499) := ⟨h10_⟩
         have n11_ : Aside0 (Below w.heap.size w w58) := ⟨h11_⟩
         clear HO_500001 BK491 BK499 HB h0_ h1_ h2_ h3_ h4_ h5_ h6_ h7_ h8_ h9_ h10_ h11_
         have HO505 := n0_
         have HO_500001 := n1_
         have BK491 := n2_
         have BK499 := n3_
         have BK507 := n4_
         have GW507 := n5_
         have GE507 := n6_
         have NB491_507 := n7_
         have NB507_491 := n8_
         have NB499_507 := n9_
         have NB507_499 := n10_
         have HB := n11_
         clear n0_ n1_ n2_ n3_ n4_ n5_ n6_ n7_ n8_ n9_ n10_ n11_
         have hHeld : w58.cell? ⟨gb499, 0, none⟩ = some (.int .i64 x500000_2) ∧ w58.cell? ⟨gb499, 1, none⟩ = some (.slice Ao54 x500001_2.length co54) ∧ w58.cell? (ad500.add ((x10_2).toNat * 2)) = some (.int .i64 ((rd_T73 l3 x10_2).f0)) ∧ w58.cell? ⟨(ad500.add ((x10_2).toNat * 2)).block, (ad500.add ((x10_2).toNat * 2)).off + 1, none⟩ = some (.int .i64 ((rd_T73 l3 x10_2).f1)) ∧ w58.cell? (ad500.add ((x10_2).toNat * 2)) = some (.int .i64 ((rd_T73 l3 x10_2).f0)) ∧ w58.cell? ⟨(ad500.add ((x10_2).toNat * 2)).block, (ad500.add ((x10_2).toNat * 2)).off + 1, none⟩ = some (.int .i64 ((rd_T73 l3 x10_2).f1)) := hS_
         obtain ⟨Ao60, co60, eo60⟩ := Kd.R_slice HO505.out
         (first | subst eo60 | (injection eo60 with f1_ f2_ f3_; have f4_ := f1_.symm; have f5_ := f3_.symm; clear f1_ f2_ f3_; subst f4_; subst f5_))
         refine norm_ (a' := ?_) ?_ ?_
         rotate_left
         ·simp only [putAll, Act.put, List.setIfInBounds_toArray, List.set_cons_zero, List.set_cons_succ]
          rfl
         refine one_ (i := 16) (N := none) #[true, true, true, true, true, true, true, true, true, true, true, true, true, true, true, true, true, false] rfl rfl (one_of HT_.out (by kernel_rfl)) (by decide) (fun K hK => ?_)
         have hs59 := bc BK507 0
         have hfs59 := blk_frozen BK507.out 0
         have hns59_0 := NB491_507.out
         have hns59_1 := NB499_507.out
         have hms59_0 := NB507_491.out
         have hms59_1 := NB507_499.out
         have hs61 := bc BK507 1
         have hfs61 := blk_frozen BK507.out 1
         have hns61_0 := NB491_507.out
         have hns61_1 := NB499_507.out
         have hms61_0 := NB507_491.out
         have hms61_1 := NB507_499.out
         refine skip_ (w1 := ?_) (by rfl) rfl ?_ ?_
         rotate_left
         ·go_simp
          rfl
         refine hK.out _ _ ⟨((cell_far (p := ⟨gb507, _, none⟩) NB499_507.out _).trans (((cell_far (p := ⟨gb507, _, none⟩) NB499_507.out _).trans (hHeld.1)))), ((cell_far (p := ⟨gb507, _, none⟩) NB499_507.out _).trans (((cell_far (p := ⟨gb507, _, none⟩) NB499_507.out _).trans (hHeld.2.1)))), ((cell_far (p := ⟨gb507, _, none⟩) (by first | exact Nat.ne_of_lt (Nat.lt_of_lt_of_le (by have := World.block_lt_of_cell? _ _ hw500_0; first | rwa [add_block] at this | exact this) GW507.out) | (rw [add_block]; exact Nat.ne_of_lt (Nat.lt_of_lt_of_le (by have := World.block_lt_of_cell? _ _ hw500_0; first | rwa [add_block] at this | exact this) GW507.out)) | (show (Addr.add _ _).block ≠ _; rw [add_block]; exact Nat.ne_of_lt (Nat.lt_of_lt_of_le (by have := World.block_lt_of_cell? _ _ hw500_0; first | rwa [add_block] at this | exact this) GW507.out)) | (dsimp only; exact Nat.ne_of_lt (Nat.lt_of_lt_of_le (by have := World.block_lt_of_cell? _ _ hw500_0; first | rwa [add_block] at this | exact this) GW507.out))) _).trans (((cell_far (p := ⟨gb507, _, none⟩) (by first | exact Nat.ne_of_lt (Nat.lt_of_lt_of_le (by have := World.block_lt_of_cell? _ _ hw500_0; first | rwa [add_block] at this | exact this) GW507.out) | (rw [add_block]; exact Nat.ne_of_lt (Nat.lt_of_lt_of_le (by have := World.block_lt_of_cell? _ _ hw500_0; first | rwa [add_block] at this | exact this) GW507.out)) | (show (Addr.add _ _).block ≠ _; rw [add_block]; exact Nat.ne_of_lt (Nat.lt_of_lt_of_le (by have := World.block_lt_of_cell? _ _ hw500_0; first | rwa [add_block] at this | exact this) GW507.out)) | (dsimp only; exact Nat.ne_of_lt (Nat.lt_of_lt_of_le (by have := World.block_lt_of_cell? _ _ hw500_0; first | rwa [add_block] at this | exact this) GW507.out))) _).trans (hHeld.2.2.1)))), ((cell_far (p := ⟨gb507, _, none⟩) (by first | exact Nat.ne_of_lt (Nat.lt_of_lt_of_le (by have := World.block_lt_of_cell? _ _ hw500_1; first | rwa [add_block] at this | exact this) GW507.out) | (rw [add_block]; exact Nat.ne_of_lt (Nat.lt_of_lt_of_le (by have := World.block_lt_of_cell? _ _ hw500_1; first | rwa [add_block] at this | exact this) GW507.out)) | (show (Addr.add _ _).block ≠ _; rw [add_block]; exact Nat.ne_of_lt (Nat.lt_of_lt_of_le (by have := World.block_lt_of_cell? _ _ hw500_1; first | rwa [add_block] at this | exact this) GW507.out)) | (dsimp only; exact Nat.ne_of_lt (Nat.lt_of_lt_of_le (by have := World.block_lt_of_cell? _ _ hw500_1; first | rwa [add_block] at this | exact this) GW507.out))) _).trans (((cell_far (p := ⟨gb507, _, none⟩) (by first | exact Nat.ne_of_lt (Nat.lt_of_lt_of_le (by have := World.block_lt_of_cell? _ _ hw500_1; first | rwa [add_block] at this | exact this) GW507.out) | (rw [add_block]; exact Nat.ne_of_lt (Nat.lt_of_lt_of_le (by have := World.block_lt_of_cell? _ _ hw500_1; first | rwa [add_block] at this | exact this) GW507.out)) | (show (Addr.add _ _).block ≠ _; rw [add_block]; exact Nat.ne_of_lt (Nat.lt_of_lt_of_le (by have := World.block_lt_of_cell? _ _ hw500_1; first | rwa [add_block] at this | exact this) GW507.out)) | (dsimp only; exact Nat.ne_of_lt (Nat.lt_of_lt_of_le (by have := World.block_lt_of_cell? _ _ hw500_1; first | rwa [add_block] at this | exact this) GW507.out))) _).trans (hHeld.2.2.2.1)))), ((cell_far (p := ⟨gb507, _, none⟩) (by first | exact Nat.ne_of_lt (Nat.lt_of_lt_of_le (by have := World.block_lt_of_cell? _ _ hw501_0; first | rwa [add_block] at this | exact this) GW507.out) | (rw [add_block]; exact Nat.ne_of_lt (Nat.lt_of_lt_of_le (by have := World.block_lt_of_cell? _ _ hw501_0; first | rwa [add_block] at this | exact this) GW507.out)) | (show (Addr.add _ _).block ≠ _; rw [add_block]; exact Nat.ne_of_lt (Nat.lt_of_lt_of_le (by have := World.block_lt_of_cell? _ _ hw501_0; first | rwa [add_block] at this | exact this) GW507.out)) | (dsimp only; exact Nat.ne_of_lt (Nat.lt_of_lt_of_le (by have := World.block_lt_of_cell? _ _ hw501_0; first | rwa [add_block] at this | exact this) GW507.out))) _).trans (((cell_far (p := ⟨gb507, _, none⟩) (by first | exact Nat.ne_of_lt (Nat.lt_of_lt_of_le (by have := World.block_lt_of_cell? _ _ hw501_0; first | rwa [add_block] at this | exact this) GW507.out) | (rw [add_block]; exact Nat.ne_of_lt (Nat.lt_of_lt_of_le (by have := World.block_lt_of_cell? _ _ hw501_0; first | rwa [add_block] at this | exact this) GW507.out)) | (show (Addr.add _ _).block ≠ _; rw [add_block]; exact Nat.ne_of_lt (Nat.lt_of_lt_of_le (by have := World.block_lt_of_cell? _ _ hw501_0; first | rwa [add_block] at this | exact this) GW507.out)) | (dsimp only; exact Nat.ne_of_lt (Nat.lt_of_lt_of_le (by have := World.block_lt_of_cell? _ _ hw501_0; first | rwa [add_block] at this | exact this) GW507.out))) _).trans (hHeld.2.2.2.2.1)))), ((cell_far (p := ⟨gb507, _, none⟩) (by first | exact Nat.ne_of_lt (Nat.lt_of_lt_of_le (by have := World.block_lt_of_cell? _ _ hw501_1; first | rwa [add_block] at this | exact this) GW507.out) | (rw [add_block]; exact Nat.ne_of_lt (Nat.lt_of_lt_of_le (by have := World.block_lt_of_cell? _ _ hw501_1; first | rwa [add_block] at this | exact this) GW507.out)) | (show (Addr.add _ _).block ≠ _; rw [add_block]; exact Nat.ne_of_lt (Nat.lt_of_lt_of_le (by have := World.block_lt_of_cell? _ _ hw501_1; first | rwa [add_block] at this | exact this) GW507.out)) | (dsimp only; exact Nat.ne_of_lt (Nat.lt_of_lt_of_le (by have := World.block_lt_of_cell? _ _ hw501_1; first | rwa [add_block] at this | exact this) GW507.out))) _).trans (((cell_far (p := ⟨gb507, _, none⟩) (by first | exact Nat.ne_of_lt (Nat.lt_of_lt_of_le (by have := World.block_lt_of_cell? _ _ hw501_1; first | rwa [add_block] at this | exact this) GW507.out) | (rw [add_block]; exact Nat.ne_of_lt (Nat.lt_of_lt_of_le (by have := World.block_lt_of_cell? _ _ hw501_1; first | rwa [add_block] at this | exact this) GW507.out)) | (show (Addr.add _ _).block ≠ _; rw [add_block]; exact Nat.ne_of_lt (Nat.lt_of_lt_of_le (by have := World.block_lt_of_cell? _ _ hw501_1; first | rwa [add_block] at this | exact this) GW507.out)) | (dsimp only; exact Nat.ne_of_lt (Nat.lt_of_lt_of_le (by have := World.block_lt_of_cell? _ _ hw501_1; first | rwa [add_block] at this | exact this) GW507.out))) _).trans (hHeld.2.2.2.2.2))))⟩ (fun hHeld => ?_)
         clear hK K
         refine pz_ 17 (some 12) HT_ ?_
         refine done_ (done_of HT_.out (by kernel_rfl)) ?_
         try go_wp2
         go_ret
         exact ⟨by first | rfl | (simp [errW_none, errW_some] <;> rfl) | (simp [*, errW_none, errW_some] <;> rfl), bn HB⟩
       ·rw [if_neg c38] at H
        exact absurd H (by simp)
      ·rw [if_neg c37] at H
       have c37b0 := decide_eq_false c37
       clear c37
       replace H := Option.bind_eq_some_iff.mp H
       obtain ⟨t508, A620, H⟩ := H
       (try dsimp only at H)
       have A62 := Aside0.mk A620
       clear A620
       by_cases c63 : 0 ≤ a2
       ·rw [if_pos c63] at H
        have c63b0 := decide_eq_true c63
        clear c63
        by_cases c64 : a2 < (t508.length : Int)
        ·rw [if_pos c64] at H
         have c64b0 := decide_eq_true c64
         clear c64
         obtain rfl := Option.some.inj H
         have hnb65 := NB499_491.out
         have hnc65 := NB491_499.out
         have hcz66_0 := bc BK499 0
         have hcz66_1 := bc BK499 1
         have hfz66_0 := blk_frozen BK499.out 0
         have hfz66_1 := blk_frozen BK499.out 1
         obtain ⟨Ao67, co67, eo67⟩ := Kd.R_slice HO_500001.out
         subst eo67
         go_wp2_with (first | ((with_reducible refine gate_callee (f := 97) rfl ?_); refine gl_ (some 64) Try.func97 #[.agg #[.int .i64 x500000_2, .slice Ao67 x500001_2.length co67], .int .i64 a1] ?_; (with_reducible refine (spec_WayReach.calls k2 x500000_2 _ _ x500001_2 a1 t508 _ ?side1 ?side2 A62.out).mono ?_); (case side1 => repeat (first | exact (Kd.R_reads' HO_500001.out).2.2 | (with_reducible refine Kd.C_alloc ?_ _) | (with_reducible refine Kd.C_drewN ?_ _) | (with_reducible refine Kd.C_drew ?_))); (case side2 => exact (Kd.R_reads' HO_500001.out).2.1); rintro e w68 ⟨v509, rfl, ho0, hb⟩; refine ⟨_, rfl, ?_⟩; have n0_ := Aside0.mk (Kd.R_below (onR HO_500001) hb); have n1_ := Aside0.mk (Kd.R_lower ho0 (below_size (bn HB))); have n2_ := Aside0.mk (blk_below (bkn BK491) hb); have n3_ := Aside0.mk (blk_below (bkn BK499) hb); have n4_ := Aside0.mk (below_step (bn HB) hb); clear HO_500001; clear BK491; clear BK499; clear HB; have HO_500001 := n0_; have HO510 := n1_; have BK491 := n2_; have BK499 := n3_; have HB := n4_; clear n0_ n1_ n2_ n3_ n4_; (try clear hb); (try clear ho0); obtain ⟨Ao69, co69, eo69⟩ := Kd.R_slice HO510.out; subst eo69; have p511 : 0 ≤ (a2 : Int) := oa; have q511 : a2 < (t508.length : Int) := oa; obtain ⟨ad511, e511, hx511_0⟩ := Kd.at_bool (Kd.R_reads' HO510.out).2.2 a2 p511 q511; cases e511; replace p511 := eq_true p511; replace q511 := eq_true q511))
         go_ret
         exact ⟨by first | rfl | (simp [errW_none, errW_some] <;> rfl) | (simp [*, errW_none, errW_some] <;> rfl), bn HB⟩
        ·rw [if_neg c64] at H
         exact absurd H (by simp)
       ·rw [if_neg c63] at H
        exact absurd H (by simp)

end Go.Proofs.Ytdlnnjgjfngccaa.F
