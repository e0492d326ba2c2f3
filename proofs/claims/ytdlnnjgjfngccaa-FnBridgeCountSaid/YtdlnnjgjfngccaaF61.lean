-- Written by oprint.py (wip/tools) over the kit's print program, for this seat.
import Derived.Test.YtdlnnjgjfngccaaF0
import Derived.Test.YtdlnnjgjfngccaaF14
import Derived.Test.YtdlnnjgjfngccaaF28
namespace Go.Proofs.Ytdlnnjgjfngccaa.F
open Go.RowKit Go.Proofs.YtdlnnjgjfngccaaW.PrintWords Go.Proofs.YtdlnnjgjfngccaaW.PrintLast Go.Proofs.YtdlnnjgjfngccaaW.PrintMore
attribute [local go_sem] max2_int min2_int max_two min_two max_three min_three max_four min_four   -- for this text's walks alone
set_option linter.unusedVariables false
set_option linter.unusedSimpArgs false

/-! ### spec_WayParts: function 124 -/
mutual
def spec_WayParts.l0 : Nat → List Int → Int → Int → List (S73) → Option (List Int)
 | 0, _, _, _, _ => none
 | k + 1, x3, x4, x909000, x909001 => if x4 < x909000 then ((spec_WayReach.f k x909000 x909001 x4).bind fun t913 => (spec_WayParts.l1 k x3 x4 t913 0 x909000 x909001)) else (some x3)
def spec_WayParts.l1 : Nat → List Int → Int → List Bool → Int → Int → List (S73) → Option (List Int)
 | 0, _, _, _, _, _, _ => none
 | k + 1, x3, x4, x5, x6, x909000, x909001 => if 0 ≤ x6 then (if x6 < (x5.length : Int) then (if rdOf false x5 x6 = true then (if x3.length < 17592186044416 then (spec_WayParts.l0 k (x3 ++ [x6]) (wrap64 (x4 + 1)) x909000 x909001) else (none)) else (spec_WayParts.l1 k x3 x4 x5 (wrap64 (x6 + 1)) x909000 x909001)) else (none)) else (none)
end
def spec_WayParts.f (k : Nat) (a0_0 : Int) (l0_1 : List (S73)) : Option (List Int) := (some (([] : List Int) : List Int)).bind fun y909 => ((spec_NetOk.f k a0_0 l0_1).bind fun t912 => (if t912 = true then (spec_WayParts.l0 k y909 0 a0_0 l0_1) else (some y909)))
theorem spec_WayParts.mono_l : ∀ k, (∀ y0 y1 y2 y3, LeO (spec_WayParts.l0 k y0 y1 y2 y3) (spec_WayParts.l0 (k + 1) y0 y1 y2 y3)) ∧ (∀ y0 y1 y2 y3 y4 y5, LeO (spec_WayParts.l1 k y0 y1 y2 y3 y4 y5) (spec_WayParts.l1 (k + 1) y0 y1 y2 y3 y4 y5))
 | 0 => ⟨fun _ _ _ _ r h => by simp [spec_WayParts.l0] at h, fun _ _ _ _ _ _ r h => by simp [spec_WayParts.l1] at h⟩
 | k + 1 => by
  obtain ⟨ih0, ih1⟩ := spec_WayParts.mono_l k
  refine ⟨?_, ?_⟩
  ·intro y0 y1 y2 y3
   unfold spec_WayParts.l0
   repeat' first
   | (with_reducible exact ih0 _ _ _ _)
   | (with_reducible exact ih1 _ _ _ _ _ _)
   | (with_reducible exact spec_NetOk.mono _ _ _)
   | (with_reducible exact spec_WayReach.mono _ _ _ _)
   | (with_reducible exact LeO.refl _)
   | (with_reducible exact LeO.none _)
   | (with_reducible refine LeO.ite ?_ ?_)
   | (with_reducible refine LeO.bind ?_ (fun _ => ?_))
   | exact ih0 _ _ _ _
   | exact ih1 _ _ _ _ _ _
   | exact spec_NetOk.mono _ _ _
   | exact spec_WayReach.mono _ _ _ _
   | exact LeO.none _
   | refine LeO.ite ?_ ?_
   | refine LeO.bind ?_ (fun _ => ?_)
  ·intro y0 y1 y2 y3 y4 y5
   unfold spec_WayParts.l1
   repeat' first
   | (with_reducible exact ih0 _ _ _ _)
   | (with_reducible exact ih1 _ _ _ _ _ _)
   | (with_reducible exact spec_NetOk.mono _ _ _)
   | (with_reducible exact spec_WayReach.mono _ _ _ _)
   | (with_reducible exact LeO.refl _)
   | (with_reducible exact LeO.none _)
   | (with_reducible refine LeO.ite ?_ ?_)
   | (with_reducible refine LeO.bind ?_ (fun _ => ?_))
   | exact ih0 _ _ _ _
   | exact ih1 _ _ _ _ _ _
   | exact spec_NetOk.mono _ _ _
   | exact spec_WayReach.mono _ _ _ _
   | exact LeO.none _
   | refine LeO.ite ?_ ?_
   | refine LeO.bind ?_ (fun _ => ?_)
theorem spec_WayParts.mono : ∀ a0 a1 k, LeO (spec_WayParts.f k a0 a1) (spec_WayParts.f (k + 1) a0 a1) := by
 intro a0 a1 k
 obtain ⟨ih0, ih1⟩ := spec_WayParts.mono_l k
 unfold spec_WayParts.f
 repeat' first
   | (with_reducible exact ih0 _ _ _ _)
   | (with_reducible exact ih1 _ _ _ _ _ _)
   | (with_reducible exact spec_NetOk.mono _ _ _)
   | (with_reducible exact spec_WayReach.mono _ _ _ _)
   | (with_reducible exact LeO.refl _)
   | (with_reducible exact LeO.none _)
   | (with_reducible refine LeO.ite ?_ ?_)
   | (with_reducible refine LeO.bind ?_ (fun _ => ?_))
   | exact ih0 _ _ _ _
   | exact ih1 _ _ _ _ _ _
   | exact spec_NetOk.mono _ _ _
   | exact spec_WayReach.mono _ _ _ _
   | exact LeO.none _
   | refine LeO.ite ?_ ?_
   | refine LeO.bind ?_ (fun _ => ?_)
set_option maxHeartbeats 8000000 in
set_option maxRecDepth 100000 in
theorem spec_WayParts.calls (k : Nat) (a0_0 : Int) (A0_1 : Option Addr) (c0_1 : Nat) (l0_1 : List (S73)) (r : List Int) (w : World) (hr0_1 : Kd.C k73 w A0_1 l0_1.length l0_1) (hc0_1 : l0_1.length ≤ c0_1) (h : spec_WayParts.f k a0_0 l0_1 = some r) :
  Calls Try.prog 124 #[.agg #[.int .i64 a0_0, .slice A0_1 l0_1.length c0_1]] w fun e w' => ∃ v0_ : Value, e = .returned (v0_) ∧ Kd.R (Kd.int .i64) 3 w' w.heap.size (fun _ => True) v0_ r ∧ Below w.heap.size w w' := by
 have hu34 := Try.underlying34
 have HR0_1 := Aside0.mk hr0_1
 have HC0_1 := Aside0.mk hc0_1
 clear hr0_1 hc0_1
 have HB := Aside0.mk (Below.refl w.heap.size w)
 have H : ((some (([] : List Int) : List Int)).bind fun y909 => ((spec_NetOk.f k a0_0 l0_1).bind fun t912 => (if t912 = true then (spec_WayParts.l0 k y909 0 a0_0 l0_1) else (some y909)))) = some r := h
 clear h
 obtain ⟨y909, hy909⟩ : ∃ y_ : List Int, y_ = (([] : List Int)) := ⟨_, rfl⟩
 replace H : ((spec_NetOk.f k a0_0 l0_1).bind fun t912 => (if t912 = true then (spec_WayParts.l0 k y909 0 a0_0 l0_1) else (some y909))) = some r := by first | (rw [hy909]; with_reducible exact H) | (have H2_ := (Option.bind_some _ _).symm.trans H; rw [hy909]; with_reducible exact H2_) | (have H2_ := (Option.bind_some _ _).symm.trans H; with_reducible exact H2_) | with_reducible exact H | (rw [hy909]; exact H) | exact H
 have Ny909 := Aside0.mk hy909
 clear hy909
 replace H := Option.bind_eq_some_iff.mp H
 obtain ⟨t912, A20, H⟩ := H
 (try dsimp only at H)
 have A2 := Aside0.mk A20
 clear A20
 by_cases c3 : t912 = true
 ·subst c3
  rw [if_pos rfl] at H
  have H' := Aside0.mk H
  clear H
  go_enter Try.func124, Try.ntmps124
  go_wp2_with (first | ((with_reducible refine gate_dst (N := 1) rfl ?_); refine box_event ?hg (N := 1) ?hd (cs := #[.int .i64 a0_0, .slice A0_1 l0_1.length c0_1]) (t := 34) ?hr ?_; (case hd => rfl); (case hg => rfl); (case hr => first | (go_simp; done) | (go_simp; rfl)); intro gb908 hg w4 hbox hb; have n0_ := Aside0.mk (below_step (bn HB) hb); have n1_ := Aside0.mk (hbox); have n2_ := Aside0.mk ((by rw [hg]; exact (below_size (bn HB)) : w.heap.size ≤ gb908)); have n3_ := Aside0.mk ((by rw [hg]; exact (below_size (bn HB)) : w.heap.size ≤ gb908)); clear HB; have HB := n0_; have BK908 := n1_; have GW908 := n2_; have GE908 := n3_; clear n0_ n1_ n2_ n3_; clear hb hbox hg) | ((with_reducible refine gate_dst (N := 7) rfl ?_); refine Kd.R_lit (Kd.int .i64) _ 3 ?hg (N := 7) ?hd (xs := ([] : List Int)) (inner := []) (ok := fun _ => True) (okp := fun _ => True) ?hr ?hp (fun _ hk => hk) trivial (Below.refl _ _) (Nat.le_refl _) (by simp) ?_; (case hd => rfl); (case hg => rfl); (case hr => first | (go_simp; done) | (go_simp; rfl)); (case hp => exact (Reps.none _ _)); intro v910 w5 ho6 hb hg_ hnew_; clear hg_ hnew_; (first | rw [← Ny909.out] at ho6 | (simp only [Int.reduceToNat] at ho6; rw [← Ny909.out] at ho6)); have n0_ := Aside0.mk (Kd.R_lower ho6 (below_size (bn HB))); have n1_ := Aside0.mk (blk_below (bkn BK908) hb); have n2_ := Aside0.mk (below_step (bn HB) hb); clear BK908; clear HB; have HO911 := n0_; have BK908 := n1_; have HB := n2_; clear n0_ n1_ n2_; clear hb ho6; have hcz7_0 := bc BK908 0; have hcz7_1 := bc BK908 1; have hfz7_0 := blk_frozen BK908.out 0; have hfz7_1 := blk_frozen BK908.out 1) | ((with_reducible refine gate_callee (f := 66) rfl ?_); refine gl_ (some 9) Try.func66 #[.agg #[.int .i64 a0_0, .slice A0_1 l0_1.length c0_1]] ?_; (with_reducible refine (spec_NetOk.calls k a0_0 _ _ l0_1 true _ ?side1 ?side2 A2.out).mono ?_); (case side1 => repeat (first | exact (Kd.C_below HR0_1.out HB.out) | (with_reducible refine Kd.C_alloc ?_ _) | (with_reducible refine Kd.C_drewN ?_ _) | (with_reducible refine Kd.C_drew ?_))); (case side2 => exact HC0_1.out); rintro e w8 ⟨rfl, hb⟩; refine ⟨_, rfl, ?_⟩; have n0_ := Aside0.mk (Kd.R_below (onR HO911) hb); have n1_ := Aside0.mk (blk_below (bkn BK908) hb); have n2_ := Aside0.mk (below_step (bn HB) hb); clear HO911; clear BK908; clear HB; have HO911 := n0_; have BK908 := n1_; have HB := n2_; clear n0_ n1_ n2_; (try clear hb); (try clear hi)))
  go_loopg [3, 4] k (fun kq v3 v4 w' => ∃ (x3_1 : List Int) (x4_1 : Int), v4 = .int .i64 x4_1 ∧ Aside0 (spec_WayParts.l0 kq x3_1 x4_1 a0_0 l0_1 = some r) ∧ Aside0 (kq ≤ k) ∧ Aside0 (Kd.R (Kd.int .i64) 3 w' w.heap.size (fun _ => True) v3 x3_1) ∧ Aside0 (w'.heap[gb908]? = some (.cells #[.int .i64 a0_0, (.slice A0_1 l0_1.length c0_1)] 34 (0, 0))) ∧ Aside0 (Below w.heap.size w w'))
  case atStart => exact ⟨(y909), (0), (by first | rfl | (simp; done) | (simp [*]; done)), H', ⟨Nat.le_refl _⟩, ⟨onR HO911⟩, ⟨bkn BK908⟩, ⟨bn HB⟩⟩
  case round =>
   clear H'
   try clear c1
   try clear p2
   try clear c3
   try clear c6
   try clear hcz7_0
   try clear hcz7_1
   try clear hfz7_0
   try clear hfz7_1
   obtain ⟨x3_1, x4_1, rfl, HA, HK1, HO_3, BK908, HB⟩ := hrel
   cases gk with
   | zero => exact absurd HA.out (by simp [spec_WayParts.l0])
   | succ k1 =>
    have H := HA.out
    clear HA
    simp only [spec_WayParts.l0] at H
    by_cases c9 : x4_1 < a0_0
    ·rw [if_pos c9] at H
     have c9b0 := decide_eq_true c9
     clear c9
     replace H := Option.bind_eq_some_iff.mp H
     obtain ⟨t913, A100, H⟩ := H
     (try dsimp only at H)
     have A10 := Aside0.mk A100
     clear A100
     have H' := Aside0.mk H
     clear H
     have hcz11_0 := bc BK908 0
     have hcz11_1 := bc BK908 1
     have hfz11_0 := blk_frozen BK908.out 0
     have hfz11_1 := blk_frozen BK908.out 1
     go_wp2_with (first | ((with_reducible refine gate_callee (f := 97) rfl ?_); refine gl_ (some 20) Try.func97 #[.agg #[.int .i64 a0_0, .slice A0_1 l0_1.length c0_1], .int .i64 x4_1] ?_; (with_reducible refine (spec_WayReach.calls k1 a0_0 _ _ l0_1 x4_1 t913 _ ?side1 ?side2 A10.out).mono ?_); (case side1 => repeat (first | exact (Kd.C_below HR0_1.out HB.out) | (with_reducible refine Kd.C_alloc ?_ _) | (with_reducible refine Kd.C_drewN ?_ _) | (with_reducible refine Kd.C_drew ?_))); (case side2 => exact HC0_1.out); rintro e w12 ⟨v914, rfl, ho0, hb⟩; refine ⟨_, rfl, ?_⟩; have n0_ := Aside0.mk (Kd.R_below (onR HO_3) hb); have n1_ := Aside0.mk (Kd.R_lower ho0 (below_size (bn HB))); have n2_ := Aside0.mk (blk_below (bkn BK908) hb); have n3_ := Aside0.mk (below_step (bn HB) hb); clear HO_3; clear BK908; clear HB; have HO_3 := n0_; have HO915 := n1_; have BK908 := n2_; have HB := n3_; clear n0_ n1_ n2_ n3_; (try clear hb); (try clear ho0)))
     go_loopg [6] k1 (fun kq v6 w' => ∃ (x6_2 : Int), v6 = .int .i64 x6_2 ∧ Aside0 (spec_WayParts.l1 kq x3_1 x4_1 t913 x6_2 a0_0 l0_1 = some r) ∧ Aside0 (kq ≤ k1) ∧ Aside0 (Kd.R (Kd.int .i64) 3 w' w.heap.size (fun _ => True) u3 x3_1) ∧ Aside0 (Kd.R Kd.bool 4 w' w.heap.size (fun _ => True) v914 t913) ∧ Aside0 (w'.heap[gb908]? = some (.cells #[.int .i64 a0_0, (.slice A0_1 l0_1.length c0_1)] 34 (0, 0))) ∧ Aside0 (Below w.heap.size w w'))
     case atStart => exact ⟨(0), (by first | rfl | (simp; done) | (simp [*]; done)), H', ⟨Nat.le_refl _⟩, ⟨onR HO_3⟩, ⟨onR HO915⟩, ⟨bkn BK908⟩, ⟨bn HB⟩⟩
     case round =>
      clear H'
      try clear c1
      try clear p2
      try clear c3
      try clear c6
      try clear c9
      try clear c9b0
      try clear c12
      try clear hcz11_0
      try clear hcz11_1
      try clear hcz7_0
      try clear hcz7_1
      try clear hfz11_0
      try clear hfz11_1
      try clear hfz7_0
      try clear hfz7_1
      try clear p2
      obtain ⟨x6_2, rfl, HA, HK2, HO_3, HO_5, BK908, HB⟩ := hrel
      cases gk with
      | zero => exact absurd HA.out (by simp [spec_WayParts.l1])
      | succ k2 =>
       have H := HA.out
       clear HA
       simp only [spec_WayParts.l1] at H
       by_cases c13 : 0 ≤ x6_2
       ·rw [if_pos c13] at H
        have c13b0 := decide_eq_true c13
        clear c13
        by_cases c14 : x6_2 < (t913.length : Int)
        ·rw [if_pos c14] at H
         have c14b0 := decide_eq_true c14
         clear c14
         obtain ⟨bq15, hbq15⟩ : ∃ b_ : Bool, b_ = (rdOf false t913 x6_2) := ⟨_, rfl⟩
         replace H : (if bq15 = true then (if x3_1.length < 17592186044416 then (spec_WayParts.l0 k2 (x3_1 ++ [x6_2]) (wrap64 (x4_1 + 1)) a0_0 l0_1) else (none)) else (spec_WayParts.l1 k2 x3_1 x4_1 t913 (wrap64 (x6_2 + 1)) a0_0 l0_1)) = some r := by rw [← hbq15] at H; exact H
         have Nbq15 := Aside0.mk hbq15
         clear hbq15
         by_cases c16 : bq15 = true
         ·subst c16
          rw [if_pos rfl] at H
          by_cases c17 : x3_1.length < 17592186044416
          ·rw [if_pos c17] at H
           have LMc17 := Aside0.mk c17
           clear c17
           obtain ⟨y917, hy917⟩ : ∃ y_ : List Int, y_ = (x3_1 ++ [x6_2]) := ⟨_, rfl⟩
           replace H : (spec_WayParts.l0 k2 y917 (wrap64 (x4_1 + 1)) a0_0 l0_1) = some r := by first | (rw [hy917]; with_reducible exact H) | (have H2_ := (Option.bind_some _ _).symm.trans H; rw [hy917]; with_reducible exact H2_) | (have H2_ := (Option.bind_some _ _).symm.trans H; with_reducible exact H2_) | with_reducible exact H | (rw [hy917]; exact H) | exact H
           have Ny917 := Aside0.mk hy917
           clear hy917
           have H' := Aside0.mk H
           clear H
           obtain ⟨Ao18, co18, eo18⟩ := Kd.R_slice HO_5.out
           subst eo18
           have p916 : 0 ≤ (x6_2 : Int) := oa
           have q916 : x6_2 < (t913.length : Int) := oa
           obtain ⟨ad916, e916, hx916_0⟩ := Kd.at_bool (Kd.R_reads' HO_5.out).2.2 x6_2 p916 q916
           (try rw [← Nbq15.out] at hx916_0)
           cases e916
           replace p916 := eq_true p916
           replace q916 := eq_true q916
           go_wp2_with (first | ((with_reducible refine gate_builtin (b := .append) (xs := #[.tmp 28, .tmp 30]) rfl ?_); at_builtin; refine Kd.R_append (Kd.int .i64) (w0 := w) w.heap.size rfl (.tmp 28) (.tmp 30) 40 3 (.int .i64 0) 8 rfl Try.underlying40 info3 rfl (by decide) (by omega) u3 x3_1 x6_2 [.int .i64 x6_2] (fun _ => True) (fun _ => False) rfl rfl ?aP (fun _ hk => hk.elim) ?aF ?aO ?aB ?aS ?aL ?_; (case aP => exact rfl); (case aB => exact (bn HB)); (case aF => exact (fun _ _ => trivial)); (case aO => exact (onR HO_3)); (case aS => exact (below_size (bn HB))); (case aL => have := LMc17.out; omega); intro v918 w19 ho hb hg hat; rw [← Ny917.out] at ho; have n0_ := Aside0.mk (Kd.R_over' (onR HO_5) (Kd.R_typed (onR HO_3)) (by decide) hg); have n1_ := Aside0.mk (blk_grown (bkn BK908) hg (Kd.R_ne HO_3.out BK908.out (by decide))); have n2_ := Aside0.mk (hb); have n3_ := Aside0.mk (ho); clear HO_5; clear BK908; clear HB; clear HO_3; have HO_5 := n0_; have BK908 := n1_; have HB := n2_; have HO919 := n3_; clear n0_ n1_ n2_ n3_; clear ho hb hg hat))
           go_roundg k2
           case measure => have := HK1.out; have := HK2.out; omega
           case rel => exact ⟨(y917), (wrap64 (x4_1 + 1)), (by first | rfl | (simp; done) | (simp [*]; done)), H', ⟨by have := HK1.out; have := HK2.out; omega⟩, ⟨onR HO919⟩, ⟨bkn BK908⟩, ⟨bn HB⟩⟩
          ·rw [if_neg c17] at H
           exact absurd H (by simp)
         ·replace c16 := Bool.eq_false_iff.mpr c16
          subst c16
          rw [if_neg (show ¬ (false = true) by decide)] at H
          have H' := Aside0.mk H
          clear H
          obtain ⟨Ao20, co20, eo20⟩ := Kd.R_slice HO_5.out
          subst eo20
          have p916 : 0 ≤ (x6_2 : Int) := oa
          have q916 : x6_2 < (t913.length : Int) := oa
          obtain ⟨ad916, e916, hx916_0⟩ := Kd.at_bool (Kd.R_reads' HO_5.out).2.2 x6_2 p916 q916
          (try rw [← Nbq15.out] at hx916_0)
          cases e916
          replace p916 := eq_true p916
          replace q916 := eq_true q916
          go_wp2
          go_roundg k2
          case measure => have := HK1.out; have := HK2.out; omega
          case rel => exact ⟨(wrap64 (x6_2 + 1)), (by first | rfl | (simp; done) | (simp [*]; done)), H', ⟨by have := HK1.out; have := HK2.out; omega⟩, ⟨onR HO_3⟩, ⟨onR HO_5⟩, ⟨bkn BK908⟩, ⟨bn HB⟩⟩
        ·rw [if_neg c14] at H
         exact absurd H (by simp)
       ·rw [if_neg c13] at H
        exact absurd H (by simp)
    ·rw [if_neg c9] at H
     have c9b0 := decide_eq_false c9
     clear c9
     obtain rfl := Option.some.inj H
     have hcz21_0 := bc BK908 0
     have hcz21_1 := bc BK908 1
     have hfz21_0 := blk_frozen BK908.out 0
     have hfz21_1 := blk_frozen BK908.out 1
     go_wp2
     go_ret
     exact ⟨_, by first | rfl | (simp [errW_none, errW_some] <;> rfl) | (simp [*, errW_none, errW_some] <;> rfl), onR HO_3, bn HB⟩
 ·replace c3 := Bool.eq_false_iff.mpr c3
  subst c3
  rw [if_neg (show ¬ (false = true) by decide)] at H
  obtain rfl := Option.some.inj H
  go_enter Try.func124, Try.ntmps124
  go_wp2_with (first | ((with_reducible refine gate_dst (N := 1) rfl ?_); refine box_event ?hg (N := 1) ?hd (cs := #[.int .i64 a0_0, .slice A0_1 l0_1.length c0_1]) (t := 34) ?hr ?_; (case hd => rfl); (case hg => rfl); (case hr => first | (go_simp; done) | (go_simp; rfl)); intro gb908 hg w22 hbox hb; have n0_ := Aside0.mk (below_step (bn HB) hb); have n1_ := Aside0.mk (hbox); have n2_ := Aside0.mk ((by rw [hg]; exact (below_size (bn HB)) : w.heap.size ≤ gb908)); have n3_ := Aside0.mk ((by rw [hg]; exact (below_size (bn HB)) : w.heap.size ≤ gb908)); clear HB; have HB := n0_; have BK908 := n1_; have GW908 := n2_; have GE908 := n3_; clear n0_ n1_ n2_ n3_; clear hb hbox hg) | ((with_reducible refine gate_dst (N := 7) rfl ?_); refine Kd.R_lit (Kd.int .i64) _ 3 ?hg (N := 7) ?hd (xs := ([] : List Int)) (inner := []) (ok := fun _ => True) (okp := fun _ => True) ?hr ?hp (fun _ hk => hk) trivial (Below.refl _ _) (Nat.le_refl _) (by simp) ?_; (case hd => rfl); (case hg => rfl); (case hr => first | (go_simp; done) | (go_simp; rfl)); (case hp => exact (Reps.none _ _)); intro v910 w23 ho24 hb hg_ hnew_; clear hg_ hnew_; (first | rw [← Ny909.out] at ho24 | (simp only [Int.reduceToNat] at ho24; rw [← Ny909.out] at ho24)); have n0_ := Aside0.mk (Kd.R_lower ho24 (below_size (bn HB))); have n1_ := Aside0.mk (blk_below (bkn BK908) hb); have n2_ := Aside0.mk (below_step (bn HB) hb); clear BK908; clear HB; have HO911 := n0_; have BK908 := n1_; have HB := n2_; clear n0_ n1_ n2_; clear hb ho24; have hcz25_0 := bc BK908 0; have hcz25_1 := bc BK908 1; have hfz25_0 := blk_frozen BK908.out 0; have hfz25_1 := blk_frozen BK908.out 1) | ((with_reducible refine gate_callee (f := 66) rfl ?_); refine gl_ (some 9) Try.func66 #[.agg #[.int .i64 a0_0, .slice A0_1 l0_1.length c0_1]] ?_; (with_reducible refine (spec_NetOk.calls k a0_0 _ _ l0_1 false _ ?side1 ?side2 A2.out).mono ?_); (case side1 => repeat (first | exact (Kd.C_below HR0_1.out HB.out) | (with_reducible refine Kd.C_alloc ?_ _) | (with_reducible refine Kd.C_drewN ?_ _) | (with_reducible refine Kd.C_drew ?_))); (case side2 => exact HC0_1.out); rintro e w26 ⟨rfl, hb⟩; refine ⟨_, rfl, ?_⟩; have n0_ := Aside0.mk (Kd.R_below (onR HO911) hb); have n1_ := Aside0.mk (blk_below (bkn BK908) hb); have n2_ := Aside0.mk (below_step (bn HB) hb); clear HO911; clear BK908; clear HB; have HO911 := n0_; have BK908 := n1_; have HB := n2_; clear n0_ n1_ n2_; (try clear hb); (try clear hi)))
  go_ret
  exact ⟨_, by first | rfl | (simp [errW_none, errW_some] <;> rfl) | (simp [*, errW_none, errW_some] <;> rfl), onR HO911, bn HB⟩

/-! ### spec_WayCount: function 115 -/
def spec_WayCount.l0 : Nat → List Int → Int → Int → Option (Int)
 | 0, _, _, _ => none
 | k + 1, x3, x4, x5 => if x5 < (x3.length : Int) then (if 0 ≤ x5 then (if (rd x3 x5) = x5 then (spec_WayCount.l0 k x3 (wrap64 (x4 + 1)) (wrap64 (x5 + 1))) else (spec_WayCount.l0 k x3 x4 (wrap64 (x5 + 1)))) else (none)) else (some x4)
def spec_WayCount.f (k : Nat) (a0_0 : Int) (l0_1 : List (S73)) : Option (Int) := (spec_NetOk.f k a0_0 l0_1).bind fun t921 => (if t921 = true then ((spec_WayParts.f k a0_0 l0_1).bind fun t922 => (spec_WayCount.l0 k t922 0 0)) else (some (-1)))
theorem spec_WayCount.mono_l : ∀ k, (∀ y0 y1 y2, LeO (spec_WayCount.l0 k y0 y1 y2) (spec_WayCount.l0 (k + 1) y0 y1 y2))
 | 0 => fun _ _ _ r h => by simp [spec_WayCount.l0] at h
 | k + 1 => by
  have ih0 := spec_WayCount.mono_l k
  ·intro y0 y1 y2
   unfold spec_WayCount.l0
   repeat' first
   | (with_reducible exact ih0 _ _ _)
   | (with_reducible exact spec_NetOk.mono _ _ _)
   | (with_reducible exact spec_WayParts.mono _ _ _)
   | (with_reducible exact LeO.refl _)
   | (with_reducible exact LeO.none _)
   | (with_reducible refine LeO.ite ?_ ?_)
   | (with_reducible refine LeO.bind ?_ (fun _ => ?_))
   | exact ih0 _ _ _
   | exact spec_NetOk.mono _ _ _
   | exact spec_WayParts.mono _ _ _
   | exact LeO.none _
   | refine LeO.ite ?_ ?_
   | refine LeO.bind ?_ (fun _ => ?_)
theorem spec_WayCount.mono : ∀ a0 a1 k, LeO (spec_WayCount.f k a0 a1) (spec_WayCount.f (k + 1) a0 a1) := by
 intro a0 a1 k
 have ih0 := spec_WayCount.mono_l k
 unfold spec_WayCount.f
 repeat' first
   | (with_reducible exact ih0 _ _ _)
   | (with_reducible exact spec_NetOk.mono _ _ _)
   | (with_reducible exact spec_WayParts.mono _ _ _)
   | (with_reducible exact LeO.refl _)
   | (with_reducible exact LeO.none _)
   | (with_reducible refine LeO.ite ?_ ?_)
   | (with_reducible refine LeO.bind ?_ (fun _ => ?_))
   | exact ih0 _ _ _
   | exact spec_NetOk.mono _ _ _
   | exact spec_WayParts.mono _ _ _
   | exact LeO.none _
   | refine LeO.ite ?_ ?_
   | refine LeO.bind ?_ (fun _ => ?_)
set_option maxHeartbeats 8000000 in
set_option maxRecDepth 100000 in
theorem spec_WayCount.calls (k : Nat) (a0_0 : Int) (A0_1 : Option Addr) (c0_1 : Nat) (l0_1 : List (S73)) (r : Int) (w : World) (hr0_1 : Kd.C k73 w A0_1 l0_1.length l0_1) (hc0_1 : l0_1.length ≤ c0_1) (h : spec_WayCount.f k a0_0 l0_1 = some r) :
  Calls Try.prog 115 #[.agg #[.int .i64 a0_0, .slice A0_1 l0_1.length c0_1]] w fun e w' => e = .returned (.int .i64 r) ∧ Below w.heap.size w w' := by
 have hu34 := Try.underlying34
 have HR0_1 := Aside0.mk hr0_1
 have HC0_1 := Aside0.mk hc0_1
 clear hr0_1 hc0_1
 have HB := Aside0.mk (Below.refl w.heap.size w)
 have H : ((spec_NetOk.f k a0_0 l0_1).bind fun t921 => (if t921 = true then ((spec_WayParts.f k a0_0 l0_1).bind fun t922 => (spec_WayCount.l0 k t922 0 0)) else (some (-1)))) = some r := h
 clear h
 replace H := Option.bind_eq_some_iff.mp H
 obtain ⟨t921, A20, H⟩ := H
 (try dsimp only at H)
 have A2 := Aside0.mk A20
 clear A20
 by_cases c3 : t921 = true
 ·subst c3
  rw [if_pos rfl] at H
  replace H := Option.bind_eq_some_iff.mp H
  obtain ⟨t922, A40, H⟩ := H
  (try dsimp only at H)
  have A4 := Aside0.mk A40
  clear A40
  have H' := Aside0.mk H
  clear H
  go_enter Try.func115, Try.ntmps115
  go_wp2_with (first | ((with_reducible refine gate_dst (N := 1) rfl ?_); refine box_event ?hg (N := 1) ?hd (cs := #[.int .i64 a0_0, .slice A0_1 l0_1.length c0_1]) (t := 34) ?hr ?_; (case hd => rfl); (case hg => rfl); (case hr => first | (go_simp; done) | (go_simp; rfl)); intro gb920 hg w5 hbox hb; have n0_ := Aside0.mk (below_step (bn HB) hb); have n1_ := Aside0.mk (hbox); have n2_ := Aside0.mk ((by rw [hg]; exact (below_size (bn HB)) : w.heap.size ≤ gb920)); have n3_ := Aside0.mk ((by rw [hg]; exact (below_size (bn HB)) : w.heap.size ≤ gb920)); clear HB; have HB := n0_; have BK920 := n1_; have GW920 := n2_; have GE920 := n3_; clear n0_ n1_ n2_ n3_; clear hb hbox hg; have hcz6_0 := bc BK920 0; have hcz6_1 := bc BK920 1; have hfz6_0 := blk_frozen BK920.out 0; have hfz6_1 := blk_frozen BK920.out 1) | ((with_reducible refine gate_callee (f := 66) rfl ?_); refine gl_ (some 7) Try.func66 #[.agg #[.int .i64 a0_0, .slice A0_1 l0_1.length c0_1]] ?_; (with_reducible refine (spec_NetOk.calls k a0_0 _ _ l0_1 true _ ?side1 ?side2 A2.out).mono ?_); (case side1 => repeat (first | exact (Kd.C_below HR0_1.out HB.out) | (with_reducible refine Kd.C_alloc ?_ _) | (with_reducible refine Kd.C_drewN ?_ _) | (with_reducible refine Kd.C_drew ?_))); (case side2 => exact HC0_1.out); rintro e w7 ⟨rfl, hb⟩; refine ⟨_, rfl, ?_⟩; have n0_ := Aside0.mk (blk_below (bkn BK920) hb); have n1_ := Aside0.mk (below_step (bn HB) hb); clear BK920; clear HB; have BK920 := n0_; have HB := n1_; clear n0_ n1_; (try clear hb); have hcz8_0 := bc BK920 0; have hcz8_1 := bc BK920 1; have hfz8_0 := blk_frozen BK920.out 0; have hfz8_1 := blk_frozen BK920.out 1) | ((with_reducible refine gate_callee (f := 124) rfl ?_); refine gl_ (some 10) Try.func124 #[.agg #[.int .i64 a0_0, .slice A0_1 l0_1.length c0_1]] ?_; (with_reducible refine (spec_WayParts.calls k a0_0 _ _ l0_1 t922 _ ?side1 ?side2 A4.out).mono ?_); (case side1 => repeat (first | exact (Kd.C_below HR0_1.out HB.out) | (with_reducible refine Kd.C_alloc ?_ _) | (with_reducible refine Kd.C_drewN ?_ _) | (with_reducible refine Kd.C_drew ?_))); (case side2 => exact HC0_1.out); rintro e w9 ⟨v923, rfl, ho0, hb⟩; refine ⟨_, rfl, ?_⟩; have n0_ := Aside0.mk (Kd.R_lower ho0 (below_size (bn HB))); have n1_ := Aside0.mk (blk_below (bkn BK920) hb); have n2_ := Aside0.mk (below_step (bn HB) hb); clear BK920; clear HB; have HO924 := n0_; have BK920 := n1_; have HB := n2_; clear n0_ n1_ n2_; (try clear hb); (try clear ho0)))
  go_loopg [4, 5] k (fun kq v4 v5 w' => ∃ (x4_1 : Int) (x5_1 : Int), v4 = .int .i64 x4_1 ∧ v5 = .int .i64 x5_1 ∧ Aside0 (spec_WayCount.l0 kq t922 x4_1 x5_1 = some r) ∧ Aside0 (kq ≤ k) ∧ Aside0 (Kd.R (Kd.int .i64) 3 w' w.heap.size (fun _ => True) v923 t922) ∧ Aside0 (w'.heap[gb920]? = some (.cells #[.int .i64 a0_0, (.slice A0_1 l0_1.length c0_1)] 34 (0, 0))) ∧ Aside0 (Below w.heap.size w w'))
  case atStart => exact ⟨(0), (0), (by first | rfl | (simp; done) | (simp [*]; done)), (by first | rfl | (simp; done) | (simp [*]; done)), H', ⟨Nat.le_refl _⟩, ⟨onR HO924⟩, ⟨bkn BK920⟩, ⟨bn HB⟩⟩
  case round =>
   clear H'
   try clear c1
   try clear p2
   try clear c3
   try clear c6
   try clear hcz6_0
   try clear hcz6_1
   try clear hcz8_0
   try clear hcz8_1
   try clear hfz6_0
   try clear hfz6_1
   try clear hfz8_0
   try clear hfz8_1
   obtain ⟨x4_1, x5_1, rfl, rfl, HA, HK1, HO_3, BK920, HB⟩ := hrel
   cases gk with
   | zero => exact absurd HA.out (by simp [spec_WayCount.l0])
   | succ k1 =>
    have H := HA.out
    clear HA
    simp only [spec_WayCount.l0] at H
    by_cases c10 : x5_1 < (t922.length : Int)
    ·rw [if_pos c10] at H
     have c10b0 := decide_eq_true c10
     clear c10
     by_cases c11 : 0 ≤ x5_1
     ·rw [if_pos c11] at H
      have c11b0 := decide_eq_true c11
      clear c11
      by_cases c12 : (rd t922 x5_1) = x5_1
      ·rw [if_pos c12] at H
       have c12b0 : ((rd t922 x5_1) == x5_1) = true := beq_iff_eq.mpr c12
       have c12b1 : ((rd t922 x5_1) != x5_1) = false := bne_eq_false_iff_eq.mpr c12
       clear c12
       have H' := Aside0.mk H
       clear H
       obtain ⟨Ao13, co13, eo13⟩ := Kd.R_slice HO_3.out
       subst eo13
       have p925 : 0 ≤ (x5_1 : Int) := oa
       have q925 : x5_1 < (t922.length : Int) := oa
       obtain ⟨ad925, e925, hx925_0⟩ := Kd.at_int (Kd.R_reads' HO_3.out).2.2 x5_1 p925 q925
       cases e925
       replace p925 := eq_true p925
       replace q925 := eq_true q925
       go_wp2
       go_roundg k1
       case measure => have := HK1.out; omega
       case rel => exact ⟨(wrap64 (x4_1 + 1)), (wrap64 (x5_1 + 1)), (by first | rfl | (simp; done) | (simp [*]; done)), (by first | rfl | (simp; done) | (simp [*]; done)), H', ⟨by have := HK1.out; omega⟩, ⟨onR HO_3⟩, ⟨bkn BK920⟩, ⟨bn HB⟩⟩
      ·rw [if_neg c12] at H
       have c12b0 : ((rd t922 x5_1) == x5_1) = false := beq_eq_false_iff_ne.mpr c12
       have c12b1 : ((rd t922 x5_1) != x5_1) = true := bne_iff_ne.mpr c12
       have H' := Aside0.mk H
       clear H
       obtain ⟨Ao14, co14, eo14⟩ := Kd.R_slice HO_3.out
       subst eo14
       have p925 : 0 ≤ (x5_1 : Int) := oa
       have q925 : x5_1 < (t922.length : Int) := oa
       obtain ⟨ad925, e925, hx925_0⟩ := Kd.at_int (Kd.R_reads' HO_3.out).2.2 x5_1 p925 q925
       cases e925
       replace p925 := eq_true p925
       replace q925 := eq_true q925
       go_wp2
       go_roundg k1
       case measure => have := HK1.out; omega
       case rel => exact ⟨(x4_1), (wrap64 (x5_1 + 1)), (by first | rfl | (simp; done) | (simp [*]; done)), (by first | rfl | (simp; done) | (simp [*]; done)), H', ⟨by have := HK1.out; omega⟩, ⟨onR HO_3⟩, ⟨bkn BK920⟩, ⟨bn HB⟩⟩
     ·rw [if_neg c11] at H
      exact absurd H (by simp)
    ·rw [if_neg c10] at H
     have c10b0 := decide_eq_false c10
     clear c10
     obtain rfl := Option.some.inj H
     obtain ⟨Ao15, co15, eo15⟩ := Kd.R_slice HO_3.out
     subst eo15
     go_wp2
     go_ret
     exact ⟨by first | rfl | (simp [errW_none, errW_some] <;> rfl) | (simp [*, errW_none, errW_some] <;> rfl), bn HB⟩
 ·replace c3 := Bool.eq_false_iff.mpr c3
  subst c3
  rw [if_neg (show ¬ (false = true) by decide)] at H
  obtain rfl := Option.some.inj H
  go_enter Try.func115, Try.ntmps115
  go_wp2_with (first | ((with_reducible refine gate_dst (N := 1) rfl ?_); refine box_event ?hg (N := 1) ?hd (cs := #[.int .i64 a0_0, .slice A0_1 l0_1.length c0_1]) (t := 34) ?hr ?_; (case hd => rfl); (case hg => rfl); (case hr => first | (go_simp; done) | (go_simp; rfl)); intro gb920 hg w16 hbox hb; have n0_ := Aside0.mk (below_step (bn HB) hb); have n1_ := Aside0.mk (hbox); have n2_ := Aside0.mk ((by rw [hg]; exact (below_size (bn HB)) : w.heap.size ≤ gb920)); have n3_ := Aside0.mk ((by rw [hg]; exact (below_size (bn HB)) : w.heap.size ≤ gb920)); clear HB; have HB := n0_; have BK920 := n1_; have GW920 := n2_; have GE920 := n3_; clear n0_ n1_ n2_ n3_; clear hb hbox hg; have hcz17_0 := bc BK920 0; have hcz17_1 := bc BK920 1; have hfz17_0 := blk_frozen BK920.out 0; have hfz17_1 := blk_frozen BK920.out 1) | ((with_reducible refine gate_callee (f := 66) rfl ?_); refine gl_ (some 7) Try.func66 #[.agg #[.int .i64 a0_0, .slice A0_1 l0_1.length c0_1]] ?_; (with_reducible refine (spec_NetOk.calls k a0_0 _ _ l0_1 false _ ?side1 ?side2 A2.out).mono ?_); (case side1 => repeat (first | exact (Kd.C_below HR0_1.out HB.out) | (with_reducible refine Kd.C_alloc ?_ _) | (with_reducible refine Kd.C_drewN ?_ _) | (with_reducible refine Kd.C_drew ?_))); (case side2 => exact HC0_1.out); rintro e w18 ⟨rfl, hb⟩; refine ⟨_, rfl, ?_⟩; have n0_ := Aside0.mk (blk_below (bkn BK920) hb); have n1_ := Aside0.mk (below_step (bn HB) hb); clear BK920; clear HB; have BK920 := n0_; have HB := n1_; clear n0_ n1_; (try clear hb); (try clear hi)))
  go_ret
  exact ⟨by first | rfl | (simp [errW_none, errW_some] <;> rfl) | (simp [*, errW_none, errW_some] <;> rfl), bn HB⟩

end Go.Proofs.Ytdlnnjgjfngccaa.F
