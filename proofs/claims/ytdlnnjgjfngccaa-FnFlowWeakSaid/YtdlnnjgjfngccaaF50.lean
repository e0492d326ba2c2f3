-- Written by oprint.py (wip/tools) over the kit's print program, for this seat.
import Derived.Test.YtdlnnjgjfngccaaF0
import Derived.Test.YtdlnnjgjfngccaaF11
import Derived.Test.YtdlnnjgjfngccaaF15
import Derived.Test.YtdlnnjgjfngccaaF49
namespace Go.Proofs.Ytdlnnjgjfngccaa.F
open Go.RowKit Go.Proofs.YtdlnnjgjfngccaaW.PrintWords Go.Proofs.YtdlnnjgjfngccaaW.PrintLast Go.Proofs.YtdlnnjgjfngccaaW.PrintMore
attribute [local go_sem] max2_int min2_int max_two min_two max_three min_three max_four min_four   -- for this text's walks alone
set_option linter.unusedVariables false
set_option linter.unusedSimpArgs false

/-! ### laws_FnFlowWeak: function 10 -/
mutual
def laws_FnFlowWeak.j0 : Nat → Int → Bool → Int → List (S73) → Option (Bool)
 | 0, _, _, _, _ => none
 | k + 1, x4, x23, x745000, x745001 => if x23 = true then ((spec_FlowWeak.f k x745000 x745001).bind fun t747 => (some (x4 == t747))) else (laws_FnFlowWeak.l0 k x4 false 0 x745000 x745001)
def laws_FnFlowWeak.l0 : Nat → Int → Bool → Int → Int → List (S73) → Option (Bool)
 | 0, _, _, _, _, _ => none
 | k + 1, x4, x5, x6, x745000, x745001 => if x6 < x745000 then (laws_FnFlowWeak.l1 k x4 x5 x6 0 x745000 x745001) else (some x5)
def laws_FnFlowWeak.l1 : Nat → Int → Bool → Int → Int → Int → List (S73) → Option (Bool)
 | 0, _, _, _, _, _, _ => none
 | k + 1, x4, x5, x6, x7, x745000, x745001 => if x7 < x6 then ((impl_FlowCount.f k x745000 x745001 x6 x7).bind fun t748 => (if t748 < x4 then (some false) else (if x5 = true then (laws_FnFlowWeak.l1 k x4 true x6 (wrap64 (x7 + 1)) x745000 x745001) else (laws_FnFlowWeak.l1 k x4 (t748 == x4) x6 (wrap64 (x7 + 1)) x745000 x745001)))) else (laws_FnFlowWeak.l0 k x4 x5 (wrap64 (x6 + 1)) x745000 x745001)
end
def laws_FnFlowWeak.f (k : Nat) (l0 : List Int) : Option (Bool) := if (l0.length : Int) > 1048576 then (some true) else ((spec_DrawFlowWeak.f k l0).bind fun bt740 => ((impl_FlowWeak.f k bt740.1 bt740.2).bind fun t745 => ((spec_FlowWeak.f k bt740.1 bt740.2).bind fun t746 => (if t745 = t746 then (laws_FnFlowWeak.j0 k t745 (decide (t745 < 0)) bt740.1 bt740.2) else (laws_FnFlowWeak.j0 k t745 true bt740.1 bt740.2)))))
theorem laws_FnFlowWeak.mono_l : ∀ k, (∀ y0 y1 y2 y3, LeO (laws_FnFlowWeak.j0 k y0 y1 y2 y3) (laws_FnFlowWeak.j0 (k + 1) y0 y1 y2 y3)) ∧ (∀ y0 y1 y2 y3 y4, LeO (laws_FnFlowWeak.l0 k y0 y1 y2 y3 y4) (laws_FnFlowWeak.l0 (k + 1) y0 y1 y2 y3 y4)) ∧ (∀ y0 y1 y2 y3 y4 y5, LeO (laws_FnFlowWeak.l1 k y0 y1 y2 y3 y4 y5) (laws_FnFlowWeak.l1 (k + 1) y0 y1 y2 y3 y4 y5))
 | 0 => ⟨fun _ _ _ _ r h => by simp [laws_FnFlowWeak.j0] at h, fun _ _ _ _ _ r h => by simp [laws_FnFlowWeak.l0] at h, fun _ _ _ _ _ _ r h => by simp [laws_FnFlowWeak.l1] at h⟩
 | k + 1 => by
  obtain ⟨ih0, ih1, ih2⟩ := laws_FnFlowWeak.mono_l k
  refine ⟨?_, ?_, ?_⟩
  ·intro y0 y1 y2 y3
   unfold laws_FnFlowWeak.j0
   have m0_ := @impl_FlowCount.mono
   have m1_ := @impl_FlowWeak.mono
   have m2_ := @spec_DrawFlowWeak.mono
   have m3_ := @spec_FlowWeak.mono
   exact mo_
  ·intro y0 y1 y2 y3 y4
   unfold laws_FnFlowWeak.l0
   have m0_ := @impl_FlowCount.mono
   have m1_ := @impl_FlowWeak.mono
   have m2_ := @spec_DrawFlowWeak.mono
   have m3_ := @spec_FlowWeak.mono
   exact mo_
  ·intro y0 y1 y2 y3 y4 y5
   unfold laws_FnFlowWeak.l1
   have m0_ := @impl_FlowCount.mono
   have m1_ := @impl_FlowWeak.mono
   have m2_ := @spec_DrawFlowWeak.mono
   have m3_ := @spec_FlowWeak.mono
   exact mo_
theorem laws_FnFlowWeak.mono : ∀ a0 k, LeO (laws_FnFlowWeak.f k a0) (laws_FnFlowWeak.f (k + 1) a0) := by
 intro a0 k
 obtain ⟨ih0, ih1, ih2⟩ := laws_FnFlowWeak.mono_l k
 unfold laws_FnFlowWeak.f
 have m0_ := @impl_FlowCount.mono
 have m1_ := @impl_FlowWeak.mono
 have m2_ := @spec_DrawFlowWeak.mono
 have m3_ := @spec_FlowWeak.mono
 exact mo_
set_option maxHeartbeats 8000000 in
set_option maxRecDepth 100000 in
theorem laws_FnFlowWeak.calls (k : Nat) (A0 : Option Addr) (c0 : Nat) (l0 : List Int) (r : Bool) (w : World) (hr0 : Kd.C (Kd.int .u8) w A0 l0.length l0) (hc0 : l0.length ≤ c0) (hrt : Aside0 (r = true)) (h : laws_FnFlowWeak.f k l0 = some r) :
  Calls Try.prog 10 #[.slice A0 l0.length c0] w fun e w' => e = .returned (.bool r) ∧ Below w.heap.size w w' := by
 have hu34 := Try.underlying34
 have HR0 := am hr0
 have HC0 := am hc0
 clear hr0 hc0
 have HB := am (Below.refl w.heap.size w)
 have H : (if (l0.length : Int) > 1048576 then (some true) else ((spec_DrawFlowWeak.f k l0).bind fun bt740 => ((impl_FlowWeak.f k bt740.1 bt740.2).bind fun t745 => ((spec_FlowWeak.f k bt740.1 bt740.2).bind fun t746 => (if t745 = t746 then (laws_FnFlowWeak.j0 k t745 (decide (t745 < 0)) bt740.1 bt740.2) else (laws_FnFlowWeak.j0 k t745 true bt740.1 bt740.2)))))) = some r := h
 clear h
 by_cases c2 : (l0.length : Int) > 1048576
 ·rw [if_pos c2] at H
  have c2b0 := decide_eq_true c2
  have c2b1 : decide (1048576 < l0.length) = true := decide_eq_true (by omega)
  clear c2
  obtain rfl := Option.some.inj H
  go_enter Try.func10, Try.ntmps10
  go_wp2
  go_ret
  exact ⟨by first | rfl | (simp [errW_none, errW_some] <;> rfl) | (simp [*, errW_none, errW_some] <;> rfl), bn HB⟩
 ·rw [if_neg c2] at H
  have c2b0 := decide_eq_false c2
  have c2b1 : decide (1048576 < l0.length) = false := decide_eq_false (by omega)
  clear c2
  replace H := Option.bind_eq_some_iff.mp H
  obtain ⟨⟨t740, t741⟩, A30, H⟩ := H
  (try dsimp only at H)
  have A3 := am A30
  clear A30
  replace H := Option.bind_eq_some_iff.mp H
  obtain ⟨t745, A40, H⟩ := H
  (try dsimp only at H)
  have A4 := am A40
  clear A40
  have HC5 := am H
  clear H
  go_enter Try.func10, Try.ntmps10
  go_upto_region 5 with (first | ((with_reducible refine gate_callee (f := 49) rfl ?_); refine gl_ (some 13) Try.func49 #[.slice A0 l0.length c0] ?_; (with_reducible refine (spec_DrawFlowWeak.calls k _ _ l0 t740 t741 _ ?side1 ?side2 A3.out).mono ?_); (case side1 => repeat (first | exact HR0.out | (with_reducible refine Kd.C_alloc ?_ _) | (with_reducible refine Kd.C_drewN ?_ _) | (with_reducible refine Kd.C_drew ?_))); (case side2 => exact HC0.out); rintro e w6 ⟨v742, rfl, ho0, hb⟩; refine ⟨_, rfl, ?_⟩; have HO743 := am (Kd.R_lower ho0 (below_size (bn HB))); replace HB := bs HB hb; (try clear hb); (try clear ho0)) | ((with_reducible refine gate_dst (N := 3) rfl ?_); refine be_ 3 #[.int .i64 0, .slice none 0 0] 34 ?_; intro gb744 hg w7 hbox hb; replace HO743 := am (Kd.R_below (onR HO743) hb); have BK744 := am hbox; have GW744 := am (ge_ hg HB); have GE744 := am (ge_ hg HB); replace HB := bs HB hb; clear hb hbox hg; obtain ⟨hcz8_0, hcz8_1, hfz8_0, hfz8_1⟩ := c2 BK744; obtain ⟨Ao9, co9, eo9⟩ := Kd.R_slice HO743.out; subst eo9) | ((with_reducible refine gate_callee (f := 36) rfl ?_); refine gl_ (some 15) Try.func36 #[.agg #[.int .i64 t740, .slice Ao9 t741.length co9]] ?_; (with_reducible refine (impl_FlowWeak.calls k t740 _ _ t741 t745 _ ?side1 ?side2 A4.out).mono ?_); (case side1 => refine (Kd.R_reads' (e := 73) (base := w.heap.size) (ok := fun k_ => True) (n := t741.length) (c := co9) ?_).2.2; exact (by (with_reducible repeat (first | apply Kd.R_alloc | apply Kd.R_drewN | apply Kd.R_drew)); exact (Kd.R_mono (Kd.R_far (p := ⟨gb744, 1, none⟩) (Kd.R_far (p := ⟨gb744, 0, none⟩) (Kd.R_types HO743.out BK744.out (by decide)) (fun _ hk => hk.2) (.int .i64 t740)) (fun _ hk => hk.2) (.slice Ao9 t741.length co9)) (fun _ h_ => h_.1)))); (case side2 => exact (Kd.R_reads' HO743.out).2.1); rintro e w10 ⟨rfl, hb⟩; refine ⟨_, rfl, ?_⟩; replace HO743 := am (Kd.R_below (by (with_reducible repeat (first | apply Kd.R_alloc | apply Kd.R_drewN | apply Kd.R_drew)); exact (Kd.R_mono (Kd.R_far (p := ⟨gb744, 1, none⟩) (Kd.R_far (p := ⟨gb744, 0, none⟩) (Kd.R_types HO743.out BK744.out (by decide)) (fun _ hk => hk.2) (.int .i64 t740)) (fun _ hk => hk.2) (.slice Ao9 t741.length co9)) (fun _ h_ => h_.1))) hb); replace BK744 := am (blk_below (g := gb744) (o := .cells #[.int .i64 t740, .slice Ao9 t741.length co9] 34 (0, 0)) (by (with_reducible repeat (first | refine blk_drewN ?_ _ | refine blk_drew ?_ | refine blk_alloc ?_ _)); refine blk_put (cs := #[.int .i64 t740, .slice none 0 0]) ?_ 1 _ rfl; (with_reducible repeat (first | refine blk_drewN ?_ _ | refine blk_drew ?_ | refine blk_alloc ?_ _)); refine blk_put (cs := #[.int .i64 0, .slice none 0 0]) ?_ 0 _ rfl; (with_reducible repeat (first | refine blk_drewN ?_ _ | refine blk_drew ?_ | refine blk_alloc ?_ _)); exact BK744.out) hb); replace HB := bs HB hb; (try clear hb); (try clear hi)))
  (try simp only [Act.put, List.setIfInBounds_toArray, List.set_cons_zero, List.set_cons_succ])
  go_cut [23] (fun v23 wc => ∃ (kq : Nat) (x23_4 : Bool), v23 = .bool x23_4 ∧ Aside0 (laws_FnFlowWeak.j0 kq t745 x23_4 t740 t741 = some r) ∧ Aside0 (kq ≤ k) ∧ Aside0 (Kd.R k73 73 wc w.heap.size (fun _ => True) (.slice Ao9 t741.length co9) t741) ∧ Aside0 (wc.heap[gb744]? = some (.cells #[.int .i64 t740, (.slice Ao9 t741.length co9)] 34 (0, 0))) ∧ Aside0 (Below w.heap.size w wc))
  case first =>
   have H := HC5.out
   clear HC5
   replace H := Option.bind_eq_some_iff.mp H
   obtain ⟨t746, A110, H⟩ := H
   (try dsimp only at H)
   have A11 := am A110
   clear A110
   by_cases c12 : t745 = t746
   ·rw [if_pos c12] at H
    have c12b0 : (t745 == t746) = true := beq_iff_eq.mpr c12
    have c12b1 : (t745 != t746) = false := bne_eq_false_iff_eq.mpr c12
    clear c12
    (first | rw [c12b0] | (simp only [i64_w, i32_w]; rw [c12b0]) | skip)
    have H' := am H
    clear H
    obtain ⟨hcz13_0, hcz13_1, hfz13_0, hfz13_1⟩ := c2 BK744
    go_wp2_with (first | ((with_reducible refine gate_callee (f := 35) rfl ?_); refine gl_ (some 18) Try.func35 #[.agg #[.int .i64 t740, .slice Ao9 t741.length co9]] ?_; (with_reducible refine (spec_FlowWeak.calls k t740 _ _ t741 t746 _ ?side1 ?side2 A11.out).mono ?_); (case side1 => exact (Kd.R_reads' (onR HO743)).2.2); (case side2 => exact (Kd.R_reads' HO743.out).2.1); rintro e w14 ⟨rfl, hb⟩; refine ⟨_, rfl, ?_⟩; replace HO743 := am (Kd.R_below (onR HO743) hb); replace BK744 := bb BK744 hb; replace HB := bs HB hb; (try clear hb); (try clear hi)))
    go_meet
    case rel => exact ⟨_, (decide (t745 < 0)), (by first | rfl | (simp; done) | (simp [*]; done)), H', ⟨by first | omega | exact Nat.le_refl _⟩, ⟨onR HO743⟩, ⟨bkn BK744⟩, ⟨bn HB⟩⟩
   ·rw [if_neg c12] at H
    have c12b0 : (t745 == t746) = false := beq_eq_false_iff_ne.mpr c12
    have c12b1 : (t745 != t746) = true := bne_iff_ne.mpr c12
    (first | rw [c12b0] | (simp only [i64_w, i32_w]; rw [c12b0]) | skip)
    have H' := am H
    clear H
    obtain ⟨hcz15_0, hcz15_1, hfz15_0, hfz15_1⟩ := c2 BK744
    go_wp2_with (first | ((with_reducible refine gate_callee (f := 35) rfl ?_); refine gl_ (some 18) Try.func35 #[.agg #[.int .i64 t740, .slice Ao9 t741.length co9]] ?_; (with_reducible refine (spec_FlowWeak.calls k t740 _ _ t741 t746 _ ?side1 ?side2 A11.out).mono ?_); (case side1 => exact (Kd.R_reads' (onR HO743)).2.2); (case side2 => exact (Kd.R_reads' HO743.out).2.1); rintro e w16 ⟨rfl, hb⟩; refine ⟨_, rfl, ?_⟩; replace HO743 := am (Kd.R_below (onR HO743) hb); replace BK744 := bb BK744 hb; replace HB := bs HB hb; (try clear hb); (try clear hi)))
    go_meet
    case rel => exact ⟨_, (true), (by first | rfl | (simp; done) | (simp [*]; done)), H', ⟨by first | omega | exact Nat.le_refl _⟩, ⟨onR HO743⟩, ⟨bkn BK744⟩, ⟨bn HB⟩⟩
  case rest =>
   clear HC5
   try clear c1
   try clear c2
   try clear c2b0
   try clear c2b1
   try clear p2
   try clear c3
   try clear c4
   try clear c10
   try clear c12
   try clear c12b0
   try clear c12b1
   try clear hcz13_0 hcz13_1 hfz13_0 hfz13_1
   try clear hcz15_0 hcz15_1 hfz15_0 hfz15_1
   try clear hcz8_0 hcz8_1 hfz8_0 hfz8_1
   obtain ⟨kq, x23_4, rfl, HA, HJ4, HO_745001, BK744, HB⟩ := hcut
   cases kq with
   | zero => exact absurd HA.out (by simp [laws_FnFlowWeak.j0])
   | succ kj4 =>
    have H := HA.out
    clear HA
    simp only [laws_FnFlowWeak.j0] at H
    by_cases c17 : x23_4 = true
    ·subst c17
     rw [if_pos rfl] at H
     replace H := Option.bind_eq_some_iff.mp H
     obtain ⟨t747, A180, H⟩ := H
     (try dsimp only at H)
     have A18 := am A180
     clear A180
     obtain rfl := Option.some.inj H
     obtain ⟨hcz19_0, hcz19_1, hfz19_0, hfz19_1⟩ := c2 BK744
     go_wp2_with (first | ((with_reducible refine gate_callee (f := 35) rfl ?_); refine gl_ (some 26) Try.func35 #[.agg #[.int .i64 t740, .slice Ao9 t741.length co9]] ?_; (with_reducible refine (spec_FlowWeak.calls kj4 t740 _ _ t741 t747 _ ?side1 ?side2 A18.out).mono ?_); (case side1 => exact (Kd.R_reads' (onR HO_745001)).2.2); (case side2 => exact (Kd.R_reads' HO_745001.out).2.1); rintro e w20 ⟨rfl, hb⟩; refine ⟨_, rfl, ?_⟩; replace HO_745001 := am (Kd.R_below (onR HO_745001) hb); replace BK744 := bb BK744 hb; replace HB := bs HB hb; (try clear hb); (try clear hi)))
     go_ret
     exact ⟨by first | rfl | (simp [errW_none, errW_some] <;> rfl) | (simp [*, errW_none, errW_some] <;> rfl), bn HB⟩
    ·replace c17 := Bool.eq_false_iff.mpr c17
     subst c17
     rw [if_neg (show ¬ (false = true) by decide)] at H
     have H' := am H
     clear H
     go_wp2
     go_loopg [5, 6] kj4 (fun kq v5 v6 w' => ∃ (x5_2 : Bool) (x6_2 : Int), v5 = .bool x5_2 ∧ v6 = .int .i64 x6_2 ∧ Aside0 (laws_FnFlowWeak.l0 kq t745 x5_2 x6_2 t740 t741 = some r) ∧ Aside0 (kq ≤ kj4) ∧ Aside0 (Kd.R k73 73 w' w.heap.size (fun _ => True) (.slice Ao9 t741.length co9) t741) ∧ Aside0 (w'.heap[gb744]? = some (.cells #[.int .i64 t740, (.slice Ao9 t741.length co9)] 34 (0, 0))) ∧ Aside0 (Below w.heap.size w w'))
     case atStart => exact ⟨(false), (0), (by first | rfl | (simp; done) | (simp [*]; done)), (by first | rfl | (simp; done) | (simp [*]; done)), H', ⟨Nat.le_refl _⟩, ⟨onR HO_745001⟩, ⟨bkn BK744⟩, ⟨bn HB⟩⟩
     case round =>
      clear H'
      try clear c1
      try clear c2
      try clear c2b0
      try clear c2b1
      try clear p2
      try clear c3
      try clear c4
      try clear c10
      try clear c12
      try clear c12b0
      try clear c12b1
      try clear c17
      try clear hcz13_0 hcz13_1 hfz13_0 hfz13_1
      try clear hcz15_0 hcz15_1 hfz15_0 hfz15_1
      try clear hcz19_0 hcz19_1 hfz19_0 hfz19_1
      try clear hcz8_0 hcz8_1 hfz8_0 hfz8_1
      try clear p2
      obtain ⟨x5_2, x6_2, rfl, rfl, HA, HK2, HO_745001, BK744, HB⟩ := hrel
      cases gk with
      | zero => exact absurd HA.out (by simp [laws_FnFlowWeak.l0])
      | succ k2 =>
       have H := HA.out
       clear HA
       simp only [laws_FnFlowWeak.l0] at H
       by_cases c21 : x6_2 < t740
       ·rw [if_pos c21] at H
        have c21b0 := decide_eq_true c21
        clear c21
        have H' := am H
        clear H
        obtain ⟨hcz22_0, hcz22_1, hfz22_0, hfz22_1⟩ := c2 BK744
        go_wp2
        go_loopg [5, 7] k2 (fun kq v5 v7 w' => ∃ (x5_3 : Bool) (x7_3 : Int), v5 = .bool x5_3 ∧ v7 = .int .i64 x7_3 ∧ Aside0 (laws_FnFlowWeak.l1 kq t745 x5_3 x6_2 x7_3 t740 t741 = some r) ∧ Aside0 (kq ≤ k2) ∧ Aside0 (Kd.R k73 73 w' w.heap.size (fun _ => True) (.slice Ao9 t741.length co9) t741) ∧ Aside0 (w'.heap[gb744]? = some (.cells #[.int .i64 t740, (.slice Ao9 t741.length co9)] 34 (0, 0))) ∧ Aside0 (Below w.heap.size w w'))
        case atStart => exact ⟨(x5_2), (0), (by first | rfl | (simp; done) | (simp [*]; done)), (by first | rfl | (simp; done) | (simp [*]; done)), H', ⟨Nat.le_refl _⟩, ⟨onR HO_745001⟩, ⟨bkn BK744⟩, ⟨bn HB⟩⟩
        case round =>
         clear H'
         try clear c1
         try clear c2
         try clear c2b0
         try clear c2b1
         try clear p2
         try clear c3
         try clear c4
         try clear c10
         try clear c12
         try clear c12b0
         try clear c12b1
         try clear c17
         try clear c21
         try clear c21b0
         try clear hcz13_0 hcz13_1 hfz13_0 hfz13_1
         try clear hcz15_0 hcz15_1 hfz15_0 hfz15_1
         try clear hcz19_0 hcz19_1 hfz19_0 hfz19_1
         try clear hcz22_0 hcz22_1 hfz22_0 hfz22_1
         try clear hcz8_0 hcz8_1 hfz8_0 hfz8_1
         try clear p2
         obtain ⟨x5_3, x7_3, rfl, rfl, HA, HK3, HO_745001, BK744, HB⟩ := hrel
         cases gk with
         | zero => exact absurd HA.out (by simp [laws_FnFlowWeak.l1])
         | succ k3 =>
          have H := HA.out
          clear HA
          simp only [laws_FnFlowWeak.l1] at H
          by_cases c23 : x7_3 < x6_2
          ·rw [if_pos c23] at H
           have c23b0 := decide_eq_true c23
           clear c23
           replace H := Option.bind_eq_some_iff.mp H
           obtain ⟨t748, A240, H⟩ := H
           (try dsimp only at H)
           have A24 := am A240
           clear A240
           by_cases c25 : t748 < t745
           ·rw [if_pos c25] at H
            have c25b0 := decide_eq_true c25
            clear c25
            exact absurd (Option.some.inj H) (by rw [hrt.out]; decide)
           ·rw [if_neg c25] at H
            have c25b0 := decide_eq_false c25
            clear c25
            by_cases c26 : x5_3 = true
            ·subst c26
             rw [if_pos rfl] at H
             have H' := am H
             clear H
             obtain ⟨hcz27_0, hcz27_1, hfz27_0, hfz27_1⟩ := c2 BK744
             go_wp2_with (first | ((with_reducible refine gate_callee (f := 33) rfl ?_); refine gl_ (some 42) Try.func33 #[.agg #[.int .i64 t740, .slice Ao9 t741.length co9], .int .i64 x6_2, .int .i64 x7_3] ?_; (with_reducible refine (impl_FlowCount.calls k3 t740 _ _ t741 x6_2 x7_3 t748 _ ?side1 ?side2 A24.out).mono ?_); (case side1 => exact (Kd.R_reads' (onR HO_745001)).2.2); (case side2 => exact (Kd.R_reads' HO_745001.out).2.1); rintro e w28 ⟨rfl, hb⟩; refine ⟨_, rfl, ?_⟩; replace HO_745001 := am (Kd.R_below (onR HO_745001) hb); replace BK744 := bb BK744 hb; replace HB := bs HB hb; (try clear hb); (try clear hi)))
             go_roundg k3
             case measure => have := HJ4.out; have := HK2.out; have := HK3.out; omega
             case rel => exact ⟨(true), (wrap64 (x7_3 + 1)), (by first | rfl | (simp; done) | (simp [*]; done)), (by first | rfl | (simp; done) | (simp [*]; done)), H', ⟨by have := HJ4.out; have := HK2.out; have := HK3.out; omega⟩, ⟨onR HO_745001⟩, ⟨bkn BK744⟩, ⟨bn HB⟩⟩
            ·replace c26 := Bool.eq_false_iff.mpr c26
             subst c26
             rw [if_neg (show ¬ (false = true) by decide)] at H
             have H' := am H
             clear H
             obtain ⟨hcz29_0, hcz29_1, hfz29_0, hfz29_1⟩ := c2 BK744
             go_wp2_with (first | ((with_reducible refine gate_callee (f := 33) rfl ?_); refine gl_ (some 42) Try.func33 #[.agg #[.int .i64 t740, .slice Ao9 t741.length co9], .int .i64 x6_2, .int .i64 x7_3] ?_; (with_reducible refine (impl_FlowCount.calls k3 t740 _ _ t741 x6_2 x7_3 t748 _ ?side1 ?side2 A24.out).mono ?_); (case side1 => exact (Kd.R_reads' (onR HO_745001)).2.2); (case side2 => exact (Kd.R_reads' HO_745001.out).2.1); rintro e w30 ⟨rfl, hb⟩; refine ⟨_, rfl, ?_⟩; replace HO_745001 := am (Kd.R_below (onR HO_745001) hb); replace BK744 := bb BK744 hb; replace HB := bs HB hb; (try clear hb); (try clear hi)))
             go_roundg k3
             case measure => have := HJ4.out; have := HK2.out; have := HK3.out; omega
             case rel => exact ⟨((t748 == t745)), (wrap64 (x7_3 + 1)), (by first | rfl | (simp; done) | (simp [*]; done)), (by first | rfl | (simp; done) | (simp [*]; done)), H', ⟨by have := HJ4.out; have := HK2.out; have := HK3.out; omega⟩, ⟨onR HO_745001⟩, ⟨bkn BK744⟩, ⟨bn HB⟩⟩
          ·rw [if_neg c23] at H
           have c23b0 := decide_eq_false c23
           clear c23
           have H' := am H
           clear H
           go_wp2
           go_roundg k3
           case measure => have := HJ4.out; have := HK2.out; have := HK3.out; omega
           case rel => exact ⟨(x5_3), (wrap64 (x6_2 + 1)), (by first | rfl | (simp; done) | (simp [*]; done)), (by first | rfl | (simp; done) | (simp [*]; done)), H', ⟨by have := HJ4.out; have := HK2.out; have := HK3.out; omega⟩, ⟨onR HO_745001⟩, ⟨bkn BK744⟩, ⟨bn HB⟩⟩
       ·rw [if_neg c21] at H
        have c21b0 := decide_eq_false c21
        clear c21
        obtain rfl := Option.some.inj H
        obtain ⟨hcz31_0, hcz31_1, hfz31_0, hfz31_1⟩ := c2 BK744
        go_wp2
        go_ret
        exact ⟨by first | rfl | (simp [errW_none, errW_some] <;> rfl) | (simp [*, errW_none, errW_some] <;> rfl), bn HB⟩

/-- what is to be proved of laws_FnFlowWeak, without Go -/
def laws_FnFlowWeak.Pure : Prop := ∀ (l0 : List Int), (l0.length ≤ maxLen ∧ ∀ l0_ ∈ l0, ((Lit.int .u8 l0_).wf = true)) → ∃ k, laws_FnFlowWeak.f k l0 = some true

end Go.Proofs.Ytdlnnjgjfngccaa.F
