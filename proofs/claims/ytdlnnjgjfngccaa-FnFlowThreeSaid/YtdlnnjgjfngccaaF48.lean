-- Written by oprint.py (wip/tools) over the kit's print program, for this seat.
import Derived.Test.YtdlnnjgjfngccaaF0
import Derived.Test.YtdlnnjgjfngccaaF11
import Derived.Test.YtdlnnjgjfngccaaF47
import Derived.Test.YtdlnnjgjfngccaaXFlowS
namespace Go.Proofs.Ytdlnnjgjfngccaa.F
open Go.RowKit Go.Proofs.YtdlnnjgjfngccaaW.PrintWords Go.Proofs.YtdlnnjgjfngccaaW.PrintLast Go.Proofs.YtdlnnjgjfngccaaW.PrintMore
attribute [local go_sem] max2_int min2_int max_two min_two max_three min_three max_four min_four   -- for this text's walks alone
set_option linter.unusedVariables false
set_option linter.unusedSimpArgs false

/-! ### laws_FnFlowThree: function 9 -/
mutual
def laws_FnFlowThree.j0 : Nat → List Int → List Int → Bool → Option (Bool)
 | 0, _, _, _ => none
 | k + 1, x0, x1, x17 => if x17 = true then (some true) else ((spec_DrawFlowCount.f k x0).bind fun bt719 => ((impl_FlowCount.f k bt719.1 bt719.2.1 bt719.2.2.1 bt719.2.2.2).bind fun t726 => ((spec_FlowCount.f k bt719.1 bt719.2.1 bt719.2.2.1 bt719.2.2.2).bind fun t727 => (if t726 = t727 then (laws_FnFlowThree.j1 k x1 bt719.2.2.1 bt719.2.2.2 t726 (decide (t726 < 0)) bt719.1 bt719.2.1) else (laws_FnFlowThree.j1 k x1 bt719.2.2.1 bt719.2.2.2 t726 true bt719.1 bt719.2.1)))))
def laws_FnFlowThree.j1 : Nat → List Int → Int → Int → Int → Bool → Int → List (S73) → Option (Bool)
 | 0, _, _, _, _, _, _, _ => none
 | k + 1, x1, x6, x7, x8, x37, x726000, x726001 => if x37 = true then ((spec_FlowCount.f k x726000 x726001 x6 x7).bind fun t728 => (some (x8 == t728))) else (if x726000 = 0 then (none) else (if ((x1.length : Int) % x726000) = x6 then (laws_FnFlowThree.j2 k x6 x7 x8 ((x1.length : Int) % x726000) true x726000 x726001) else (laws_FnFlowThree.j2 k x6 x7 x8 ((x1.length : Int) % x726000) (((x1.length : Int) % x726000) == x7) x726000 x726001)))
def laws_FnFlowThree.j2 : Nat → Int → Int → Int → Int → Bool → Int → List (S73) → Option (Bool)
 | 0, _, _, _, _, _, _, _ => none
 | k + 1, x6, x7, x8, x9, x56, x726000, x726001 => if x56 = true then (some true) else ((impl_FlowCount.f k x726000 x726001 x6 x9).bind fun t729 => ((impl_FlowCount.f k x726000 x726001 x9 x7).bind fun t730 => (some (decide (x8 ≥ (mn t729 t730))))))
end
def laws_FnFlowThree.f (k : Nat) (l0 : List Int) (l1 : List Int) : Option (Bool) := if (l0.length : Int) > 1048576 then (laws_FnFlowThree.j0 k l0 l1 true) else (laws_FnFlowThree.j0 k l0 l1 (decide ((l1.length : Int) > 1048576)))
theorem laws_FnFlowThree.mono_l : ∀ k, (∀ y0 y1 y2, LeO (laws_FnFlowThree.j0 k y0 y1 y2) (laws_FnFlowThree.j0 (k + 1) y0 y1 y2)) ∧ (∀ y0 y1 y2 y3 y4 y5 y6, LeO (laws_FnFlowThree.j1 k y0 y1 y2 y3 y4 y5 y6) (laws_FnFlowThree.j1 (k + 1) y0 y1 y2 y3 y4 y5 y6)) ∧ (∀ y0 y1 y2 y3 y4 y5 y6, LeO (laws_FnFlowThree.j2 k y0 y1 y2 y3 y4 y5 y6) (laws_FnFlowThree.j2 (k + 1) y0 y1 y2 y3 y4 y5 y6))
 | 0 => ⟨fun _ _ _ r h => by simp [laws_FnFlowThree.j0] at h, fun _ _ _ _ _ _ _ r h => by simp [laws_FnFlowThree.j1] at h, fun _ _ _ _ _ _ _ r h => by simp [laws_FnFlowThree.j2] at h⟩
 | k + 1 => by
  obtain ⟨ih0, ih1, ih2⟩ := laws_FnFlowThree.mono_l k
  refine ⟨?_, ?_, ?_⟩
  ·intro y0 y1 y2
   unfold laws_FnFlowThree.j0
   have m0_ := @impl_FlowCount.mono
   have m1_ := @spec_DrawFlowCount.mono
   have m2_ := @spec_FlowCount.mono
   exact mo_
  ·intro y0 y1 y2 y3 y4 y5 y6
   unfold laws_FnFlowThree.j1
   have m0_ := @impl_FlowCount.mono
   have m1_ := @spec_DrawFlowCount.mono
   have m2_ := @spec_FlowCount.mono
   exact mo_
  ·intro y0 y1 y2 y3 y4 y5 y6
   unfold laws_FnFlowThree.j2
   have m0_ := @impl_FlowCount.mono
   have m1_ := @spec_DrawFlowCount.mono
   have m2_ := @spec_FlowCount.mono
   exact mo_
theorem laws_FnFlowThree.mono : ∀ a0 a1 k, LeO (laws_FnFlowThree.f k a0 a1) (laws_FnFlowThree.f (k + 1) a0 a1) := by
 intro a0 a1 k
 obtain ⟨ih0, ih1, ih2⟩ := laws_FnFlowThree.mono_l k
 unfold laws_FnFlowThree.f
 have m0_ := @impl_FlowCount.mono
 have m1_ := @spec_DrawFlowCount.mono
 have m2_ := @spec_FlowCount.mono
 exact mo_
def laws_FnFlowThree.T10 : Bool × List (List Nat × List Nat) := (true, [([], []), ([], []), ([], []), ([], []), ([1, 2, 3], [1, 2, 3]), ([], []), ([], []), ([], []), ([5, 6, 7, 4], [5, 6, 7]), ([4, 8], [4, 8]), ([0, 9], [0, 9]), ([10, 8, 0, 1, 2, 3, 4, 5, 6, 7, 8, 9, 10], [10])])
def laws_FnFlowThree.B10 : List Nat := [0, 0, 0, 0, 14, 0, 0, 0, 254, 510, 1023, 2047]
theorem laws_FnFlowThree.tab10 : rtab .any (opsOf Try.f9 10) = laws_FnFlowThree.T10 := by kernel_rfl
theorem laws_FnFlowThree.bits10 : waitsOk laws_FnFlowThree.T10.2 laws_FnFlowThree.B10 = true := by kernel_rfl
set_option maxHeartbeats 8000000 in
set_option maxRecDepth 100000 in
theorem laws_FnFlowThree.calls (k : Nat) (A0 : Option Addr) (c0 : Nat) (l0 : List Int) (A1 : Option Addr) (c1 : Nat) (l1 : List Int) (r : Bool) (w : World) (hr0 : Kd.C (Kd.int .u8) w A0 l0.length l0) (hc0 : l0.length ≤ c0) (hr1 : Kd.C (Kd.int .u8) w A1 l1.length l1) (hc1 : l1.length ≤ c1) (hrt : Aside0 (r = true)) (h : laws_FnFlowThree.f k l0 l1 = some r) :
  Calls Try.prog 9 #[.slice A0 l0.length c0, .slice A1 l1.length c1] w fun e w' => e = .returned (.bool r) ∧ Below w.heap.size w w' := by
 have hu34 := Try.underlying34
 have HR0 := am hr0
 have HC0 := am hc0
 clear hr0 hc0
 have HR1 := am hr1
 have HC1 := am hc1
 clear hr1 hc1
 have HB := am (Below.refl w.heap.size w)
 have H : (if (l0.length : Int) > 1048576 then (laws_FnFlowThree.j0 k l0 l1 true) else (laws_FnFlowThree.j0 k l0 l1 (decide ((l1.length : Int) > 1048576)))) = some r := h
 clear h
 have HC3 := am H
 clear H
 go_enter Try.func9, Try.ntmps9
 go_upto_region 1 with (fail)
 go_cut [17] (fun v17 wc => ∃ (kq : Nat) (x17_2 : Bool), v17 = .bool x17_2 ∧ Aside0 (laws_FnFlowThree.j0 kq l0 l1 x17_2 = some r) ∧ Aside0 (kq ≤ k) ∧ Aside0 (Below w.heap.size w wc))
 case first =>
  have H := HC3.out
  clear HC3
  by_cases c4 : (l0.length : Int) > 1048576
  ·rw [if_pos c4] at H
   have c4b0 := decide_eq_true c4
   have c4b1 : decide (1048576 < l0.length) = true := decide_eq_true (by omega)
   clear c4
   (first | rw [c4b0] | (simp only [i64_w, i32_w]; rw [c4b0]) | skip)
   have H' := am H
   clear H
   go_wp2
   go_meet
   case rel => exact ⟨_, (true), (by first | rfl | (simp; done) | (simp [*]; done)), H', ⟨by first | omega | exact Nat.le_refl _⟩, ⟨bn HB⟩⟩
  ·rw [if_neg c4] at H
   have c4b0 := decide_eq_false c4
   have c4b1 : decide (1048576 < l0.length) = false := decide_eq_false (by omega)
   clear c4
   (first | rw [c4b0] | (simp only [i64_w, i32_w]; rw [c4b0]) | skip)
   have H' := am H
   clear H
   go_wp2
   go_meet
   case rel => exact ⟨_, (decide ((l1.length : Int) > 1048576)), (by first | rfl | (simp; done) | (simp [*]; done)), H', ⟨by first | omega | exact Nat.le_refl _⟩, ⟨bn HB⟩⟩
 case rest =>
  clear HC3
  try clear c1
  try clear p2
  try clear c4
  try clear c4b0
  try clear c4b1
  obtain ⟨kq, x17_2, rfl, HA, HJ2, HB⟩ := hcut
  cases kq with
  | zero => exact absurd HA.out (by simp [laws_FnFlowThree.j0])
  | succ kj2 =>
   have H := HA.out
   clear HA
   simp only [laws_FnFlowThree.j0] at H
   by_cases c5 : x17_2 = true
   ·subst c5
    rw [if_pos rfl] at H
    obtain rfl := Option.some.inj H
    go_wp2
    go_ret
    exact ⟨by first | rfl | (simp [errW_none, errW_some] <;> rfl) | (simp [*, errW_none, errW_some] <;> rfl), bn HB⟩
   ·replace c5 := Bool.eq_false_iff.mpr c5
    subst c5
    rw [if_neg (show ¬ (false = true) by decide)] at H
    replace H := Option.bind_eq_some_iff.mp H
    obtain ⟨⟨t719, t720, t723, t724⟩, A60, H⟩ := H
    (try dsimp only at H)
    have A6 := am A60
    clear A60
    replace H := Option.bind_eq_some_iff.mp H
    obtain ⟨t726, A70, H⟩ := H
    (try dsimp only at H)
    have A7 := am A70
    clear A70
    have HC8 := am H
    clear H
    go_upto_region 5 with (first | ((with_reducible refine gate_callee (f := 48) rfl ?_); refine gl_ (some 20) Try.func48 #[.slice A0 l0.length c0] ?_; (with_reducible refine (spec_DrawFlowCount.calls kj2 _ _ l0 t719 t720 t723 t724 _ ?side1 ?side2 A6.out).mono ?_); (case side1 => exact cb HR0 HB); (case side2 => exact HC0.out); rintro e w9 ⟨v721, rfl, ho0, hb⟩; refine ⟨_, rfl, ?_⟩; have HO722 := am (Kd.R_lower ho0 (below_size (bn HB))); replace HB := bs HB hb; (try clear hb); (try clear ho0)) | ((with_reducible refine gate_dst (N := 5) rfl ?_); refine be_ 5 #[.int .i64 0, .slice none 0 0] 34 ?_; intro gb725 hg w10 hbox hb; replace HO722 := am (Kd.R_below (onR HO722) hb); have BK725 := am hbox; have GW725 := am (ge_ hg HB); have GE725 := am (ge_ hg HB); replace HB := bs HB hb; clear hb hbox hg; obtain ⟨hcz11_0, hcz11_1, hfz11_0, hfz11_1⟩ := c2 BK725; obtain ⟨Ao12, co12, eo12⟩ := Kd.R_slice HO722.out; subst eo12) | ((with_reducible refine gate_callee (f := 33) rfl ?_); refine gl_ (some 27) Try.func33 #[.agg #[.int .i64 t719, .slice Ao12 t720.length co12], .int .i64 t723, .int .i64 t724] ?_; (with_reducible refine (impl_FlowCount.calls kj2 t719 _ _ t720 t723 t724 t726 _ ?side1 ?side2 A7.out).mono ?_); (case side1 => refine (Kd.R_reads' (e := 73) (base := w.heap.size) (ok := fun k_ => True) (n := t720.length) (c := co12) ?_).2.2; exact (by (with_reducible repeat (first | apply Kd.R_alloc | apply Kd.R_drewN | apply Kd.R_drew)); exact (Kd.R_mono (Kd.R_far (p := ⟨gb725, 1, none⟩) (Kd.R_far (p := ⟨gb725, 0, none⟩) (Kd.R_types HO722.out BK725.out (by decide)) (fun _ hk => hk.2) (.int .i64 t719)) (fun _ hk => hk.2) (.slice Ao12 t720.length co12)) (fun _ h_ => h_.1)))); (case side2 => exact (Kd.R_reads' HO722.out).2.1); rintro e w13 ⟨rfl, hb⟩; refine ⟨_, rfl, ?_⟩; replace HO722 := am (Kd.R_below (by (with_reducible repeat (first | apply Kd.R_alloc | apply Kd.R_drewN | apply Kd.R_drew)); exact (Kd.R_mono (Kd.R_far (p := ⟨gb725, 1, none⟩) (Kd.R_far (p := ⟨gb725, 0, none⟩) (Kd.R_types HO722.out BK725.out (by decide)) (fun _ hk => hk.2) (.int .i64 t719)) (fun _ hk => hk.2) (.slice Ao12 t720.length co12)) (fun _ h_ => h_.1))) hb); replace BK725 := am (blk_below (g := gb725) (o := .cells #[.int .i64 t719, .slice Ao12 t720.length co12] 34 (0, 0)) (by (with_reducible repeat (first | refine blk_drewN ?_ _ | refine blk_drew ?_ | refine blk_alloc ?_ _)); refine blk_put (cs := #[.int .i64 t719, .slice none 0 0]) ?_ 1 _ rfl; (with_reducible repeat (first | refine blk_drewN ?_ _ | refine blk_drew ?_ | refine blk_alloc ?_ _)); refine blk_put (cs := #[.int .i64 0, .slice none 0 0]) ?_ 0 _ rfl; (with_reducible repeat (first | refine blk_drewN ?_ _ | refine blk_drew ?_ | refine blk_alloc ?_ _)); exact BK725.out) hb); replace HB := bs HB hb; (try clear hb); (try clear hi)))
    (try simp only [Act.put, List.setIfInBounds_toArray, List.set_cons_zero, List.set_cons_succ])
    go_cut [37] (fun v37 wc => ∃ (kq : Nat) (x37_7 : Bool), v37 = .bool x37_7 ∧ Aside0 (laws_FnFlowThree.j1 kq l1 t723 t724 t726 x37_7 t719 t720 = some r) ∧ Aside0 (kq ≤ kj2) ∧ Aside0 (Kd.R k73 73 wc w.heap.size (fun _ => True) (.slice Ao12 t720.length co12) t720) ∧ Aside0 (wc.heap[gb725]? = some (.cells #[.int .i64 t719, (.slice Ao12 t720.length co12)] 34 (0, 0))) ∧ Aside0 (Below w.heap.size w wc))
    case first =>
     have H := HC8.out
     clear HC8
     replace H := Option.bind_eq_some_iff.mp H
     obtain ⟨t727, A140, H⟩ := H
     (try dsimp only at H)
     have A14 := am A140
     clear A140
     by_cases c15 : t726 = t727
     ·rw [if_pos c15] at H
      have c15b0 : (t726 == t727) = true := beq_iff_eq.mpr c15
      have c15b1 : (t726 != t727) = false := bne_eq_false_iff_eq.mpr c15
      clear c15
      (first | rw [c15b0] | (simp only [i64_w, i32_w]; rw [c15b0]) | skip)
      have H' := am H
      clear H
      obtain ⟨hcz16_0, hcz16_1, hfz16_0, hfz16_1⟩ := c2 BK725
      go_wp2_with (first | ((with_reducible refine gate_callee (f := 31) rfl ?_); refine gl_ (some 32) Try.func31 #[.agg #[.int .i64 t719, .slice Ao12 t720.length co12], .int .i64 t723, .int .i64 t724] ?_; (with_reducible refine (spec_FlowCount.calls kj2 t719 _ _ t720 t723 t724 t727 _ ?side1 ?side2 A14.out).mono ?_); (case side1 => exact (Kd.R_reads' (onR HO722)).2.2); (case side2 => exact (Kd.R_reads' HO722.out).2.1); rintro e w17 ⟨rfl, hb⟩; refine ⟨_, rfl, ?_⟩; replace HO722 := am (Kd.R_below (onR HO722) hb); replace BK725 := bb BK725 hb; replace HB := bs HB hb; (try clear hb); (try clear hi)))
      go_meet
      case rel => exact ⟨_, (decide (t726 < 0)), (by first | rfl | (simp; done) | (simp [*]; done)), H', ⟨by have := HJ2.out; first | omega | exact Nat.le_refl _⟩, ⟨onR HO722⟩, ⟨bkn BK725⟩, ⟨bn HB⟩⟩
     ·rw [if_neg c15] at H
      have c15b0 : (t726 == t727) = false := beq_eq_false_iff_ne.mpr c15
      have c15b1 : (t726 != t727) = true := bne_iff_ne.mpr c15
      (first | rw [c15b0] | (simp only [i64_w, i32_w]; rw [c15b0]) | skip)
      have H' := am H
      clear H
      obtain ⟨hcz18_0, hcz18_1, hfz18_0, hfz18_1⟩ := c2 BK725
      go_wp2_with (first | ((with_reducible refine gate_callee (f := 31) rfl ?_); refine gl_ (some 32) Try.func31 #[.agg #[.int .i64 t719, .slice Ao12 t720.length co12], .int .i64 t723, .int .i64 t724] ?_; (with_reducible refine (spec_FlowCount.calls kj2 t719 _ _ t720 t723 t724 t727 _ ?side1 ?side2 A14.out).mono ?_); (case side1 => exact (Kd.R_reads' (onR HO722)).2.2); (case side2 => exact (Kd.R_reads' HO722.out).2.1); rintro e w19 ⟨rfl, hb⟩; refine ⟨_, rfl, ?_⟩; replace HO722 := am (Kd.R_below (onR HO722) hb); replace BK725 := bb BK725 hb; replace HB := bs HB hb; (try clear hb); (try clear hi)))
      go_meet
      case rel => exact ⟨_, (true), (by first | rfl | (simp; done) | (simp [*]; done)), H', ⟨by have := HJ2.out; first | omega | exact Nat.le_refl _⟩, ⟨onR HO722⟩, ⟨bkn BK725⟩, ⟨bn HB⟩⟩
    case rest =>
     clear HC8
     try clear c1
     try clear p2
     try clear c3
     try clear c4
     try clear c4b0
     try clear c4b1
     try clear c5
     try clear c9
     try clear c15
     try clear c15b0
     try clear c15b1
     try clear hcz11_0 hcz11_1 hfz11_0 hfz11_1
     try clear hcz16_0 hcz16_1 hfz16_0 hfz16_1
     try clear hcz18_0 hcz18_1 hfz18_0 hfz18_1
     try clear p2
     obtain ⟨kq, x37_7, rfl, HA, HJ7, HO_726001, BK725, HB⟩ := hcut
     cases kq with
     | zero => exact absurd HA.out (by simp [laws_FnFlowThree.j1])
     | succ kj7 =>
      have H := HA.out
      clear HA
      simp only [laws_FnFlowThree.j1] at H
      by_cases c20 : x37_7 = true
      ·subst c20
       rw [if_pos rfl] at H
       replace H := Option.bind_eq_some_iff.mp H
       obtain ⟨t728, A210, H⟩ := H
       (try dsimp only at H)
       have A21 := am A210
       clear A210
       obtain rfl := Option.some.inj H
       obtain ⟨hcz22_0, hcz22_1, hfz22_0, hfz22_1⟩ := c2 BK725
       go_wp2_with (first | ((with_reducible refine gate_callee (f := 31) rfl ?_); refine gl_ (some 42) Try.func31 #[.agg #[.int .i64 t719, .slice Ao12 t720.length co12], .int .i64 t723, .int .i64 t724] ?_; (with_reducible refine (spec_FlowCount.calls kj7 t719 _ _ t720 t723 t724 t728 _ ?side1 ?side2 A21.out).mono ?_); (case side1 => exact (Kd.R_reads' (onR HO_726001)).2.2); (case side2 => exact (Kd.R_reads' HO_726001.out).2.1); rintro e w23 ⟨rfl, hb⟩; refine ⟨_, rfl, ?_⟩; replace HO_726001 := am (Kd.R_below (onR HO_726001) hb); replace BK725 := bb BK725 hb; replace HB := bs HB hb; (try clear hb); (try clear hi)))
       go_ret
       exact ⟨by first | rfl | (simp [errW_none, errW_some] <;> rfl) | (simp [*, errW_none, errW_some] <;> rfl), bn HB⟩
      ·replace c20 := Bool.eq_false_iff.mpr c20
       subst c20
       rw [if_neg (show ¬ (false = true) by decide)] at H
       by_cases c24 : t719 = 0
       ·rw [if_pos c24] at H
        exact absurd H (by simp)
       ·rw [if_neg c24] at H
        have c24b0 : (t719 == 0) = false := beq_eq_false_iff_ne.mpr c24
        have c24b1 : (t719 != 0) = true := bne_iff_ne.mpr c24
        have HC25 := am H
        clear H
        obtain ⟨hcz26_0, hcz26_1, hfz26_0, hfz26_1⟩ := c2 BK725
        go_upto_region 8 with (fail)
        go_cut [56] (fun v56 wc => ∃ (kq : Nat) (x56_24 : Bool), v56 = .bool x56_24 ∧ Aside0 (laws_FnFlowThree.j2 kq t723 t724 t726 ((l1.length : Int) % t719) x56_24 t719 t720 = some r) ∧ Aside0 (kq ≤ kj7) ∧ Aside0 (Kd.R k73 73 wc w.heap.size (fun _ => True) (.slice Ao12 t720.length co12) t720) ∧ Aside0 (wc.heap[gb725]? = some (.cells #[.int .i64 t719, (.slice Ao12 t720.length co12)] 34 (0, 0))) ∧ Aside0 (Below w.heap.size w wc))
        case first =>
         have H := HC25.out
         clear HC25
         by_cases c27 : ((l1.length : Int) % t719) = t723
         ·rw [if_pos c27] at H
          have c27b0 : (((l1.length : Int) % t719) == t723) = true := beq_iff_eq.mpr c27
          have c27b1 : (((l1.length : Int) % t719) != t723) = false := bne_eq_false_iff_eq.mpr c27
          clear c27
          (first | rw [c27b0] | (simp only [i64_w, i32_w]; rw [c27b0]) | skip)
          have H' := am H
          clear H
          go_wp2
          go_meet
          case rel => exact ⟨_, (true), (by first | rfl | (simp; done) | (simp [*]; done)), H', ⟨by have := HJ2.out; have := HJ7.out; first | omega | exact Nat.le_refl _⟩, ⟨onR HO_726001⟩, ⟨bkn BK725⟩, ⟨bn HB⟩⟩
         ·rw [if_neg c27] at H
          have c27b0 : (((l1.length : Int) % t719) == t723) = false := beq_eq_false_iff_ne.mpr c27
          have c27b1 : (((l1.length : Int) % t719) != t723) = true := bne_iff_ne.mpr c27
          (first | rw [c27b0] | (simp only [i64_w, i32_w]; rw [c27b0]) | skip)
          have H' := am H
          clear H
          go_wp2
          go_meet
          case rel => exact ⟨_, ((((l1.length : Int) % t719) == t724)), (by first | rfl | (simp; done) | (simp [*]; done)), H', ⟨by have := HJ2.out; have := HJ7.out; first | omega | exact Nat.le_refl _⟩, ⟨onR HO_726001⟩, ⟨bkn BK725⟩, ⟨bn HB⟩⟩
        case rest =>
         clear HC25
         try clear c1
         try clear c2
         try clear p2
         try clear c3
         try clear c4
         try clear c4b0
         try clear c4b1
         try clear c5
         try clear c9
         try clear c15
         try clear c15b0
         try clear c15b1
         try clear c20
         try clear c24
         try clear c24b0
         try clear c24b1
         try clear c27
         try clear c27b0
         try clear c27b1
         try clear hcz11_0 hcz11_1 hfz11_0 hfz11_1
         try clear hcz16_0 hcz16_1 hfz16_0 hfz16_1
         try clear hcz18_0 hcz18_1 hfz18_0 hfz18_1
         try clear hcz22_0 hcz22_1 hfz22_0 hfz22_1
         try clear hcz26_0 hcz26_1 hfz26_0 hfz26_1
         try clear p2
         obtain ⟨kq, x56_24, rfl, HA, HJ24, HO_726001, BK725, HB⟩ := hcut
         cases kq with
         | zero => exact absurd HA.out (by simp [laws_FnFlowThree.j2])
         | succ kj24 =>
          have H := HA.out
          clear HA
          simp only [laws_FnFlowThree.j2] at H
          by_cases c28 : x56_24 = true
          ·subst c28
           rw [if_pos rfl] at H
           obtain rfl := Option.some.inj H
           go_wp2
           go_ret
           exact ⟨by first | rfl | (simp [errW_none, errW_some] <;> rfl) | (simp [*, errW_none, errW_some] <;> rfl), bn HB⟩
          ·replace c28 := Bool.eq_false_iff.mpr c28
           subst c28
           rw [if_neg (show ¬ (false = true) by decide)] at H
           replace H := Option.bind_eq_some_iff.mp H
           obtain ⟨t729, A290, H⟩ := H
           (try dsimp only at H)
           have A29 := am A290
           clear A290
           replace H := Option.bind_eq_some_iff.mp H
           obtain ⟨t730, A300, H⟩ := H
           (try dsimp only at H)
           have A30 := am A300
           clear A300
           obtain ⟨ji31, hji31⟩ : ∃ j_ : Int, (mn t729 t730) = j_ := ⟨_, rfl⟩
           replace H : (some (decide (t726 ≥ (ji31)))) = some r := by first | (rw [hji31] at H; exact H) | (simp only [hji31] at H ⊢; exact H)
           (try rw [hji31] at A29)
           (try rw [hji31] at A30)
           have hji31_ : (if t730 < t729 then t730 else t729) = ji31 := hji31
           obtain rfl := Option.some.inj H
           try go_wp2
           replace HO_726001 := am (Kd.R_drew HO_726001.out)
           replace BK725 := am (blk_drew BK725.out)
           replace HB := am (below_drew1 HB.out)
           refine start_ (n := 12) (S := fun w' => w'.cell? ⟨gb725, 0, none⟩ = some (.int .i64 t719) ∧ w'.cell? ⟨gb725, 1, none⟩ = some (.slice Ao12 t720.length co12)) (ds := []) #[false, false, false, false, false, false, false, false, false, false, false, false] (by kernel_rfl) rfl rfl ⟨(bc BK725 0), (bc BK725 1)⟩ (fun hHeld => ?_); refine with_tabW laws_FnFlowThree.tab10 laws_FnFlowThree.bits10 (fun HT_ HW_ => ?_)
           generalize wc.drew = w32 at HO_726001 BK725 HB hHeld ⊢
           refine pz_ 0 (some 57) HT_ ?_
           refine pz_ 2 (some 59) HT_ ?_
           refine pz_ 3 (some 60) HT_ ?_
           refine pz_ 6 (some 63) HT_ ?_
           refine pz_ 7 (some 64) HT_ ?_
           refine tz_ 1 (some 58) HT_ HW_ hHeld ?_
           refine tz_ 5 (some 62) HT_ HW_ hHeld ?_
           refine one_ (i := 4) (N := some 61) #[true, true, true, true, true, true, true, true, false, false, false, false] rfl rfl (one_of HT_.out (by kernel_rfl)) (by decide) (fun K hK => ?_)
           refine gg_ Try.func33 #[.agg #[.int .i64 t719, .slice Ao12 t720.length co12], .int .i64 t723, .int .i64 ((l1.length : Int) % t719)] ?_
           with_reducible refine (impl_FlowCount.calls kj24 t719 _ _ t720 t723 ((l1.length : Int) % t719) t729 _ ?side1 ?side2 A29.out).mono ?_
           (case side1 => exact (Kd.R_reads' (onR HO_726001)).2.2)
           (case side2 => exact (Kd.R_reads' HO_726001.out).2.1)
           rintro e w33 ⟨rfl, hb⟩
           refine ⟨_, rfl, ?_⟩
           replace HO_726001 := am (Kd.R_below (onR HO_726001) hb)
           replace BK725 := bb BK725 hb
           replace HB := bs HB hb
           (try clear hb)
           (try clear hb2)
           (try clear hk)
           (try clear hi)
           refine hK.out _ _ ⟨(bc BK725 0), (bc BK725 1)⟩ (fun hHeld => ?_)
           clear hK K
           refine nz_ 61 ?_
           refine one_ (i := 8) (N := some 65) #[true, true, true, true, true, true, true, true, true, false, false, false] rfl rfl (one_of HT_.out (by kernel_rfl)) (by decide) (fun K hK => ?_)
           refine gg_ Try.func33 #[.agg #[.int .i64 t719, .slice Ao12 t720.length co12], .int .i64 ((l1.length : Int) % t719), .int .i64 t724] ?_
           with_reducible refine (impl_FlowCount.calls kj24 t719 _ _ t720 ((l1.length : Int) % t719) t724 t730 _ ?side1 ?side2 A30.out).mono ?_
           (case side1 => exact (Kd.R_reads' (onR HO_726001)).2.2)
           (case side2 => exact (Kd.R_reads' HO_726001.out).2.1)
           rintro e w34 ⟨rfl, hb⟩
           refine ⟨_, rfl, ?_⟩
           replace HO_726001 := am (Kd.R_below (onR HO_726001) hb)
           replace BK725 := bb BK725 hb
           replace HB := bs HB hb
           (try clear hb)
           (try clear hb2)
           (try clear hk)
           (try clear hi)
           refine hK.out _ _ ⟨(bc BK725 0), (bc BK725 1)⟩ (fun hHeld => ?_)
           clear hK K
           refine nz_ 65 ?_
           refine pz_ 9 (some 66) HT_ ?_
           refine pz_ 10 (some 67) HT_ ?_
           refine pz_ 11 (some 4) HT_ ?_
           refine done_ (done_of HT_.out (by kernel_rfl)) ?_
           try go_wp2
           go_ret
           exact ⟨by first | rfl | (simp [errW_none, errW_some] <;> rfl) | (simp only [← hji31]; first | rfl | (simp [errW_none, errW_some] <;> rfl)) | (simp [*, errW_none, errW_some] <;> rfl), bn HB⟩

/-- what is to be proved of laws_FnFlowThree, without Go -/
def laws_FnFlowThree.Pure : Prop := ∀ (l0 : List Int) (l1 : List Int), (l0.length ≤ maxLen ∧ ∀ l0_ ∈ l0, ((Lit.int .u8 l0_).wf = true)) → (l1.length ≤ maxLen ∧ ∀ l1_ ∈ l1, ((Lit.int .u8 l1_).wf = true)) → ∃ k, laws_FnFlowThree.f k l0 l1 = some true

end Go.Proofs.Ytdlnnjgjfngccaa.F
