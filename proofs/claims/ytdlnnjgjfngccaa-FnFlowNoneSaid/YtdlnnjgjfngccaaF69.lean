-- Written by oprint.py (wip/tools) over the kit's print program, for this seat.
import Derived.Test.YtdlnnjgjfngccaaF0
import Derived.Test.YtdlnnjgjfngccaaF15
import Derived.Test.YtdlnnjgjfngccaaF49
import Derived.Test.YtdlnnjgjfngccaaF66
import Derived.Test.YtdlnnjgjfngccaaF68
namespace Go.Proofs.Ytdlnnjgjfngccaa.F
open Go.RowKit Go.Proofs.YtdlnnjgjfngccaaW.PrintWords Go.Proofs.YtdlnnjgjfngccaaW.PrintLast Go.Proofs.YtdlnnjgjfngccaaW.PrintMore
attribute [local go_sem] max2_int min2_int max_two min_two max_three min_three max_four min_four   -- for this text's walks alone
set_option linter.unusedVariables false
set_option linter.unusedSimpArgs false

/-! ### laws_FnFlowNone: function 15 -/
def laws_FnFlowNone.j0 : Nat → Int → Bool → Int → List (S73) → Option (Bool)
 | 0, _, _, _, _ => none
 | k + 1, x4, x19, x1036000, x1036001 => if x19 = true then ((spec_FlowWeak.f k x1036000 x1036001).bind fun t1038 => (some (x4 == t1038))) else ((impl_WayCount.f k x1036000 x1036001).bind fun t1039 => (if ((x4 == 0) == (decide (t1039 > 1))) = true then ((impl_WayCount.f k x1036000 x1036001).bind fun t1040 => (if t1040 = 1 then ((impl_BridgeList.f k x1036000 x1036001).bind fun t1041 => (some ((x4 == 1) == (decide ((t1041.length : Int) > 0))))) else (some ((x4 == 1) == false)))) else (some false)))
def laws_FnFlowNone.f (k : Nat) (l0 : List Int) : Option (Bool) := if (l0.length : Int) > 1048576 then (some true) else ((spec_DrawFlowWeak.f k l0).bind fun bt1031 => ((impl_FlowWeak.f k bt1031.1 bt1031.2).bind fun t1036 => ((spec_FlowWeak.f k bt1031.1 bt1031.2).bind fun t1037 => (if t1036 = t1037 then (laws_FnFlowNone.j0 k t1036 (decide (t1036 < 0)) bt1031.1 bt1031.2) else (laws_FnFlowNone.j0 k t1036 true bt1031.1 bt1031.2)))))
theorem laws_FnFlowNone.mono_l : ∀ k, (∀ y0 y1 y2 y3, LeO (laws_FnFlowNone.j0 k y0 y1 y2 y3) (laws_FnFlowNone.j0 (k + 1) y0 y1 y2 y3))
 | 0 => fun _ _ _ _ r h => by simp [laws_FnFlowNone.j0] at h
 | k + 1 => by
  have ih0 := laws_FnFlowNone.mono_l k
  ·intro y0 y1 y2 y3
   unfold laws_FnFlowNone.j0
   have m0_ := @impl_BridgeList.mono
   have m1_ := @impl_FlowWeak.mono
   have m2_ := @impl_WayCount.mono
   have m3_ := @spec_DrawFlowWeak.mono
   have m4_ := @spec_FlowWeak.mono
   exact mo_
theorem laws_FnFlowNone.mono : ∀ a0 k, LeO (laws_FnFlowNone.f k a0) (laws_FnFlowNone.f (k + 1) a0) := by
 intro a0 k
 have ih0 := laws_FnFlowNone.mono_l k
 unfold laws_FnFlowNone.f
 have m0_ := @impl_BridgeList.mono
 have m1_ := @impl_FlowWeak.mono
 have m2_ := @impl_WayCount.mono
 have m3_ := @spec_DrawFlowWeak.mono
 have m4_ := @spec_FlowWeak.mono
 exact mo_
set_option maxHeartbeats 8000000 in
set_option maxRecDepth 100000 in
theorem laws_FnFlowNone.calls (k : Nat) (A0 : Option Addr) (c0 : Nat) (l0 : List Int) (r : Bool) (w : World) (hr0 : Kd.C (Kd.int .u8) w A0 l0.length l0) (hc0 : l0.length ≤ c0) (hrt : Aside0 (r = true)) (h : laws_FnFlowNone.f k l0 = some r) :
  Calls Try.prog 15 #[.slice A0 l0.length c0] w fun e w' => e = .returned (.bool r) ∧ Below w.heap.size w w' := by
 have hu34 := Try.underlying34
 have HR0 := am hr0
 have HC0 := am hc0
 clear hr0 hc0
 have HB := am (Below.refl w.heap.size w)
 have H : (if (l0.length : Int) > 1048576 then (some true) else ((spec_DrawFlowWeak.f k l0).bind fun bt1031 => ((impl_FlowWeak.f k bt1031.1 bt1031.2).bind fun t1036 => ((spec_FlowWeak.f k bt1031.1 bt1031.2).bind fun t1037 => (if t1036 = t1037 then (laws_FnFlowNone.j0 k t1036 (decide (t1036 < 0)) bt1031.1 bt1031.2) else (laws_FnFlowNone.j0 k t1036 true bt1031.1 bt1031.2)))))) = some r := h
 clear h
 by_cases c2 : (l0.length : Int) > 1048576
 ·rw [if_pos c2] at H
  have c2b0 := decide_eq_true c2
  have c2b1 : decide (1048576 < l0.length) = true := decide_eq_true (by omega)
  clear c2
  obtain rfl := Option.some.inj H
  go_enter Try.func15, Try.ntmps15
  go_wp2
  go_ret
  exact ⟨by first | rfl | (simp [errW_none, errW_some] <;> rfl) | (simp [*, errW_none, errW_some] <;> rfl), bn HB⟩
 ·rw [if_neg c2] at H
  have c2b0 := decide_eq_false c2
  have c2b1 : decide (1048576 < l0.length) = false := decide_eq_false (by omega)
  clear c2
  replace H := Option.bind_eq_some_iff.mp H
  obtain ⟨⟨t1031, t1032⟩, A30, H⟩ := H
  (try dsimp only at H)
  have A3 := am A30
  clear A30
  replace H := Option.bind_eq_some_iff.mp H
  obtain ⟨t1036, A40, H⟩ := H
  (try dsimp only at H)
  have A4 := am A40
  clear A40
  have HC5 := am H
  clear H
  go_enter Try.func15, Try.ntmps15
  go_upto_region 5 with (first | ((with_reducible refine gate_callee (f := 49) rfl ?_); refine gl_ (some 9) Try.func49 #[.slice A0 l0.length c0] ?_; (with_reducible refine (spec_DrawFlowWeak.calls k _ _ l0 t1031 t1032 _ ?side1 ?side2 A3.out).mono ?_); (case side1 => repeat (first | exact HR0.out | (with_reducible refine Kd.C_alloc ?_ _) | (with_reducible refine Kd.C_drewN ?_ _) | (with_reducible refine Kd.C_drew ?_))); (case side2 => exact HC0.out); rintro e w6 ⟨v1033, rfl, ho0, hb⟩; refine ⟨_, rfl, ?_⟩; have HO1034 := am (Kd.R_lower ho0 (below_size (bn HB))); replace HB := bs HB hb; (try clear hb); (try clear ho0)) | ((with_reducible refine gate_dst (N := 3) rfl ?_); refine be_ 3 #[.int .i64 0, .slice none 0 0] 34 ?_; intro gb1035 hg w7 hbox hb; replace HO1034 := am (Kd.R_below (onR HO1034) hb); have BK1035 := am hbox; have GW1035 := am (ge_ hg HB); have GE1035 := am (ge_ hg HB); replace HB := bs HB hb; clear hb hbox hg; obtain ⟨hcz8_0, hcz8_1, hfz8_0, hfz8_1⟩ := c2 BK1035; obtain ⟨Ao9, co9, eo9⟩ := Kd.R_slice HO1034.out; subst eo9) | ((with_reducible refine gate_callee (f := 36) rfl ?_); refine gl_ (some 11) Try.func36 #[.agg #[.int .i64 t1031, .slice Ao9 t1032.length co9]] ?_; (with_reducible refine (impl_FlowWeak.calls k t1031 _ _ t1032 t1036 _ ?side1 ?side2 A4.out).mono ?_); (case side1 => refine (Kd.R_reads' (e := 73) (base := w.heap.size) (ok := fun k_ => True) (n := t1032.length) (c := co9) ?_).2.2; exact (by (with_reducible repeat (first | apply Kd.R_alloc | apply Kd.R_drewN | apply Kd.R_drew)); exact (Kd.R_mono (Kd.R_far (p := ⟨gb1035, 1, none⟩) (Kd.R_far (p := ⟨gb1035, 0, none⟩) (Kd.R_types HO1034.out BK1035.out (by decide)) (fun _ hk => hk.2) (.int .i64 t1031)) (fun _ hk => hk.2) (.slice Ao9 t1032.length co9)) (fun _ h_ => h_.1)))); (case side2 => exact (Kd.R_reads' HO1034.out).2.1); rintro e w10 ⟨rfl, hb⟩; refine ⟨_, rfl, ?_⟩; replace HO1034 := am (Kd.R_below (by (with_reducible repeat (first | apply Kd.R_alloc | apply Kd.R_drewN | apply Kd.R_drew)); exact (Kd.R_mono (Kd.R_far (p := ⟨gb1035, 1, none⟩) (Kd.R_far (p := ⟨gb1035, 0, none⟩) (Kd.R_types HO1034.out BK1035.out (by decide)) (fun _ hk => hk.2) (.int .i64 t1031)) (fun _ hk => hk.2) (.slice Ao9 t1032.length co9)) (fun _ h_ => h_.1))) hb); replace BK1035 := am (blk_below (g := gb1035) (o := .cells #[.int .i64 t1031, .slice Ao9 t1032.length co9] 34 (0, 0)) (by (with_reducible repeat (first | refine blk_drewN ?_ _ | refine blk_drew ?_ | refine blk_alloc ?_ _)); refine blk_put (cs := #[.int .i64 t1031, .slice none 0 0]) ?_ 1 _ rfl; (with_reducible repeat (first | refine blk_drewN ?_ _ | refine blk_drew ?_ | refine blk_alloc ?_ _)); refine blk_put (cs := #[.int .i64 0, .slice none 0 0]) ?_ 0 _ rfl; (with_reducible repeat (first | refine blk_drewN ?_ _ | refine blk_drew ?_ | refine blk_alloc ?_ _)); exact BK1035.out) hb); replace HB := bs HB hb; (try clear hb); (try clear hi)))
  (try simp only [Act.put, List.setIfInBounds_toArray, List.set_cons_zero, List.set_cons_succ])
  go_cut [19] (fun v19 wc => ∃ (kq : Nat) (x19_4 : Bool), v19 = .bool x19_4 ∧ Aside0 (laws_FnFlowNone.j0 kq t1036 x19_4 t1031 t1032 = some r) ∧ Aside0 (kq ≤ k) ∧ Aside0 (Kd.R k73 73 wc w.heap.size (fun _ => True) (.slice Ao9 t1032.length co9) t1032) ∧ Aside0 (wc.heap[gb1035]? = some (.cells #[.int .i64 t1031, (.slice Ao9 t1032.length co9)] 34 (0, 0))) ∧ Aside0 (Below w.heap.size w wc))
  case first =>
   have H := HC5.out
   clear HC5
   replace H := Option.bind_eq_some_iff.mp H
   obtain ⟨t1037, A110, H⟩ := H
   (try dsimp only at H)
   have A11 := am A110
   clear A110
   by_cases c12 : t1036 = t1037
   ·rw [if_pos c12] at H
    have c12b0 : (t1036 == t1037) = true := beq_iff_eq.mpr c12
    have c12b1 : (t1036 != t1037) = false := bne_eq_false_iff_eq.mpr c12
    clear c12
    (first | rw [c12b0] | (simp only [i64_w, i32_w]; rw [c12b0]) | skip)
    have H' := am H
    clear H
    obtain ⟨hcz13_0, hcz13_1, hfz13_0, hfz13_1⟩ := c2 BK1035
    go_wp2_with (first | ((with_reducible refine gate_callee (f := 35) rfl ?_); refine gl_ (some 14) Try.func35 #[.agg #[.int .i64 t1031, .slice Ao9 t1032.length co9]] ?_; (with_reducible refine (spec_FlowWeak.calls k t1031 _ _ t1032 t1037 _ ?side1 ?side2 A11.out).mono ?_); (case side1 => exact (Kd.R_reads' (onR HO1034)).2.2); (case side2 => exact (Kd.R_reads' HO1034.out).2.1); rintro e w14 ⟨rfl, hb⟩; refine ⟨_, rfl, ?_⟩; replace HO1034 := am (Kd.R_below (onR HO1034) hb); replace BK1035 := bb BK1035 hb; replace HB := bs HB hb; (try clear hb); (try clear hi)))
    go_meet
    case rel => exact ⟨_, (decide (t1036 < 0)), (by first | rfl | (simp; done) | (simp [*]; done)), H', ⟨by first | omega | exact Nat.le_refl _⟩, ⟨onR HO1034⟩, ⟨bkn BK1035⟩, ⟨bn HB⟩⟩
   ·rw [if_neg c12] at H
    have c12b0 : (t1036 == t1037) = false := beq_eq_false_iff_ne.mpr c12
    have c12b1 : (t1036 != t1037) = true := bne_iff_ne.mpr c12
    (first | rw [c12b0] | (simp only [i64_w, i32_w]; rw [c12b0]) | skip)
    have H' := am H
    clear H
    obtain ⟨hcz15_0, hcz15_1, hfz15_0, hfz15_1⟩ := c2 BK1035
    go_wp2_with (first | ((with_reducible refine gate_callee (f := 35) rfl ?_); refine gl_ (some 14) Try.func35 #[.agg #[.int .i64 t1031, .slice Ao9 t1032.length co9]] ?_; (with_reducible refine (spec_FlowWeak.calls k t1031 _ _ t1032 t1037 _ ?side1 ?side2 A11.out).mono ?_); (case side1 => exact (Kd.R_reads' (onR HO1034)).2.2); (case side2 => exact (Kd.R_reads' HO1034.out).2.1); rintro e w16 ⟨rfl, hb⟩; refine ⟨_, rfl, ?_⟩; replace HO1034 := am (Kd.R_below (onR HO1034) hb); replace BK1035 := bb BK1035 hb; replace HB := bs HB hb; (try clear hb); (try clear hi)))
    go_meet
    case rel => exact ⟨_, (true), (by first | rfl | (simp; done) | (simp [*]; done)), H', ⟨by first | omega | exact Nat.le_refl _⟩, ⟨onR HO1034⟩, ⟨bkn BK1035⟩, ⟨bn HB⟩⟩
  case rest =>
   clear HC5
   try clear c1
   try clear c2
   try clear c2b0
   try clear c2b1
   try clear p2
   try clear c3
   try clear c4
   try clear c12
   try clear c12b0
   try clear c12b1
   try clear c15
   try clear hcz13_0 hcz13_1 hfz13_0 hfz13_1
   try clear hcz15_0 hcz15_1 hfz15_0 hfz15_1
   try clear hcz8_0 hcz8_1 hfz8_0 hfz8_1
   obtain ⟨kq, x19_4, rfl, HA, HJ4, HO_1036001, BK1035, HB⟩ := hcut
   cases kq with
   | zero => exact absurd HA.out (by simp [laws_FnFlowNone.j0])
   | succ kj4 =>
    have H := HA.out
    clear HA
    simp only [laws_FnFlowNone.j0] at H
    by_cases c17 : x19_4 = true
    ·subst c17
     rw [if_pos rfl] at H
     replace H := Option.bind_eq_some_iff.mp H
     obtain ⟨t1038, A180, H⟩ := H
     (try dsimp only at H)
     have A18 := am A180
     clear A180
     obtain rfl := Option.some.inj H
     obtain ⟨hcz19_0, hcz19_1, hfz19_0, hfz19_1⟩ := c2 BK1035
     go_wp2_with (first | ((with_reducible refine gate_callee (f := 35) rfl ?_); refine gl_ (some 22) Try.func35 #[.agg #[.int .i64 t1031, .slice Ao9 t1032.length co9]] ?_; (with_reducible refine (spec_FlowWeak.calls kj4 t1031 _ _ t1032 t1038 _ ?side1 ?side2 A18.out).mono ?_); (case side1 => exact (Kd.R_reads' (onR HO_1036001)).2.2); (case side2 => exact (Kd.R_reads' HO_1036001.out).2.1); rintro e w20 ⟨rfl, hb⟩; refine ⟨_, rfl, ?_⟩; replace HO_1036001 := am (Kd.R_below (onR HO_1036001) hb); replace BK1035 := bb BK1035 hb; replace HB := bs HB hb; (try clear hb); (try clear hi)))
     go_ret
     exact ⟨by first | rfl | (simp [errW_none, errW_some] <;> rfl) | (simp [*, errW_none, errW_some] <;> rfl), bn HB⟩
    ·replace c17 := Bool.eq_false_iff.mpr c17
     subst c17
     rw [if_neg (show ¬ (false = true) by decide)] at H
     replace H := Option.bind_eq_some_iff.mp H
     obtain ⟨t1039, A210, H⟩ := H
     (try dsimp only at H)
     have A21 := am A210
     clear A210
     by_cases c22 : ((t1036 == 0) == (decide (t1039 > 1))) = true
     ·rw [if_pos c22] at H
      have c22b0 : ((t1036 == 0) == (decide (t1039 > 1))) = true := c22
      (try (have c22b1 : decide ((t1036 == 0) = (decide (t1039 > 1))) = true := by simpa using c22))
      (try (have c22b2 : ((t1036 == 0) == (decide (t1039 > 1))) = true := by simpa using c22))
      clear c22
      replace H := Option.bind_eq_some_iff.mp H
      obtain ⟨t1040, A230, H⟩ := H
      (try dsimp only at H)
      have A23 := am A230
      clear A230
      by_cases c24 : t1040 = 1
      ·rw [if_pos c24] at H
       have c24b0 : (t1040 == 1) = true := beq_iff_eq.mpr c24
       have c24b1 : (t1040 != 1) = false := bne_eq_false_iff_eq.mpr c24
       clear c24
       replace H := Option.bind_eq_some_iff.mp H
       obtain ⟨t1041, A250, H⟩ := H
       (try dsimp only at H)
       have A25 := am A250
       clear A250
       obtain rfl := Option.some.inj H
       obtain ⟨hcz26_0, hcz26_1, hfz26_0, hfz26_1⟩ := c2 BK1035
       go_wp2_with (first | ((with_reducible refine gate_callee (f := 62) rfl ?_); refine gl_ (some 27) Try.func62 #[.agg #[.int .i64 t1031, .slice Ao9 t1032.length co9]] ?_; (with_reducible refine (impl_WayCount.calls kj4 t1031 _ _ t1032 t1039 _ ?side1 ?side2 A21.out).mono ?_); (case side1 => exact (Kd.R_reads' (onR HO_1036001)).2.2); (case side2 => exact (Kd.R_reads' HO_1036001.out).2.1); rintro e w27 ⟨rfl, hb⟩; refine ⟨_, rfl, ?_⟩; replace HO_1036001 := am (Kd.R_below (onR HO_1036001) hb); replace BK1035 := bb BK1035 hb; replace HB := bs HB hb; (try clear hb); obtain ⟨hcz28_0, hcz28_1, hfz28_0, hfz28_1⟩ := c2 BK1035) | (go_at_call 62; (with_reducible refine (impl_WayCount.calls kj4 t1031 _ _ t1032 t1040 _ ?side1 ?side2 A23.out).mono ?_); (case side1 => exact (Kd.R_reads' (onR HO_1036001)).2.2); (case side2 => exact (Kd.R_reads' HO_1036001.out).2.1); rintro e w29 ⟨rfl, hb⟩; replace HO_1036001 := am (Kd.R_below (onR HO_1036001) hb); replace BK1035 := bb BK1035 hb; replace HB := bs HB hb; (try clear hb); obtain ⟨hcz30_0, hcz30_1, hfz30_0, hfz30_1⟩ := c2 BK1035) | (go_at_call 63; (with_reducible refine (impl_BridgeList.calls kj4 t1031 _ _ t1032 t1041 _ ?side1 ?side2 A25.out).mono ?_); (case side1 => exact (Kd.R_reads' (onR HO_1036001)).2.2); (case side2 => exact (Kd.R_reads' HO_1036001.out).2.1); rintro e w31 ⟨v1042, rfl, ho0, hb⟩; have HO1043 := am (Kd.R_lower (Kd.R_new' ho0 (Kd.R_lt (onR HO_1036001))) (below_size (bn HB))); replace HO_1036001 := am (Kd.R_elder' (onR HO_1036001) (Kd.R_base ho0) hb); replace BK1035 := bb BK1035 hb; replace HB := bs HB hb; (try clear hb); (try clear ho0); obtain ⟨Ao32, co32, eo32⟩ := Kd.R_slice HO1043.out; subst eo32))
       go_ret
       exact ⟨by first | rfl | (simp [errW_none, errW_some] <;> rfl) | (simp [*, errW_none, errW_some] <;> rfl), bn HB⟩
      ·rw [if_neg c24] at H
       have c24b0 : (t1040 == 1) = false := beq_eq_false_iff_ne.mpr c24
       have c24b1 : (t1040 != 1) = true := bne_iff_ne.mpr c24
       obtain rfl := Option.some.inj H
       obtain ⟨hcz33_0, hcz33_1, hfz33_0, hfz33_1⟩ := c2 BK1035
       go_wp2_with (first | ((with_reducible refine gate_callee (f := 62) rfl ?_); refine gl_ (some 27) Try.func62 #[.agg #[.int .i64 t1031, .slice Ao9 t1032.length co9]] ?_; (with_reducible refine (impl_WayCount.calls kj4 t1031 _ _ t1032 t1039 _ ?side1 ?side2 A21.out).mono ?_); (case side1 => exact (Kd.R_reads' (onR HO_1036001)).2.2); (case side2 => exact (Kd.R_reads' HO_1036001.out).2.1); rintro e w34 ⟨rfl, hb⟩; refine ⟨_, rfl, ?_⟩; replace HO_1036001 := am (Kd.R_below (onR HO_1036001) hb); replace BK1035 := bb BK1035 hb; replace HB := bs HB hb; (try clear hb); obtain ⟨hcz35_0, hcz35_1, hfz35_0, hfz35_1⟩ := c2 BK1035) | (go_at_call 62; (with_reducible refine (impl_WayCount.calls kj4 t1031 _ _ t1032 t1040 _ ?side1 ?side2 A23.out).mono ?_); (case side1 => exact (Kd.R_reads' (onR HO_1036001)).2.2); (case side2 => exact (Kd.R_reads' HO_1036001.out).2.1); rintro e w36 ⟨rfl, hb⟩; replace HO_1036001 := am (Kd.R_below (onR HO_1036001) hb); replace BK1035 := bb BK1035 hb; replace HB := bs HB hb; (try clear hb); (try clear hi)))
       go_ret
       exact ⟨by first | rfl | (simp [errW_none, errW_some] <;> rfl) | (simp [*, errW_none, errW_some] <;> rfl), bn HB⟩
     ·rw [if_neg c22] at H
      have c22b0 : ((t1036 == 0) == (decide (t1039 > 1))) = false := by simpa using c22
      (try (have c22b1 : decide ((t1036 == 0) = (decide (t1039 > 1))) = false := by simpa using c22))
      (try (have c22b2 : ((t1036 == 0) == (decide (t1039 > 1))) = false := by simpa using c22))
      (try (have c22b3 : ¬ ((t1036 == 0) = (decide (t1039 > 1))) := by simpa using c22))
      clear c22
      exact absurd (Option.some.inj H) (by rw [hrt.out]; decide)

/-- what is to be proved of laws_FnFlowNone, without Go -/
def laws_FnFlowNone.Pure : Prop := ∀ (l0 : List Int), (l0.length ≤ maxLen ∧ ∀ l0_ ∈ l0, ((Lit.int .u8 l0_).wf = true)) → ∃ k, laws_FnFlowNone.f k l0 = some true

end Go.Proofs.Ytdlnnjgjfngccaa.F
