-- Written by oprint.py (wip/tools) over the kit's print program, for this seat.
import Derived.Test.YtdlnnjgjfngccaaF0
import Derived.Test.YtdlnnjgjfngccaaF1
import Derived.Test.YtdlnnjgjfngccaaF11
import Derived.Test.YtdlnnjgjfngccaaF47
import Derived.Test.YtdlnnjgjfngccaaF52
import Derived.Test.YtdlnnjgjfngccaaF72
import Derived.Test.YtdlnnjgjfngccaaF78
import Derived.Test.YtdlnnjgjfngccaaXFlowS
namespace Go.Proofs.Ytdlnnjgjfngccaa.F
open Go.RowKit Go.Proofs.YtdlnnjgjfngccaaW.PrintWords Go.Proofs.YtdlnnjgjfngccaaW.PrintLast Go.Proofs.YtdlnnjgjfngccaaW.PrintMore
attribute [local go_sem] max2_int min2_int max_two min_two max_three min_three max_four min_four   -- for this text's walks alone
set_option linter.unusedVariables false
set_option linter.unusedSimpArgs false

attribute [local go_sem high] eqA73
/-! ### laws_FnFlowBridge: function 18 -/
def laws_FnFlowBridge.j0 : Nat → Int → Int → Int → Bool → Int → List (S73) → Option (Bool)
 | 0, _, _, _, _, _, _ => none
 | k + 1, x4, x5, x6, x33, x1187000, x1187001 => if x33 = true then ((spec_FlowCount.f k x1187000 x1187001 x4 x5).bind fun t1189 => (some (x6 == t1189))) else ((impl_BridgeApart.f k x1187000 x1187001 x4 x5).bind fun bt1190 => ((impl_FlowCut.f k x1187000 x1187001 x4 x5).bind fun bt1194 => (if ((x6 == 1) == bt1190.2.2) = true then ((impl_WayReach.f k x1187000 x1187001 x4).bind fun t1198 => (if 0 ≤ x5 then (if x5 < (t1198.length : Int) then (if ((x6 == 0) == (!(rdOf false t1198 x5))) = true then (if bt1190.2.2 = true then (if (bt1194.1.length : Int) = 1 then (if 0 < (bt1194.1.length : Int) then (some (((rd_T73 bt1194.1 0).f0) == bt1190.1 && (((rd_T73 bt1194.1 0).f1) == bt1190.2.1))) else (none)) else (some false)) else (some true)) else (some false)) else (none)) else (none))) else (some false))))
def laws_FnFlowBridge.f (k : Nat) (l0 : List Int) : Option (Bool) := if (l0.length : Int) > 1048576 then (some true) else ((spec_DrawFlowCount.f k l0).bind fun bt1180 => ((impl_FlowCount.f k bt1180.1 bt1180.2.1 bt1180.2.2.1 bt1180.2.2.2).bind fun t1187 => ((spec_FlowCount.f k bt1180.1 bt1180.2.1 bt1180.2.2.1 bt1180.2.2.2).bind fun t1188 => (if t1187 = t1188 then (laws_FnFlowBridge.j0 k bt1180.2.2.1 bt1180.2.2.2 t1187 (decide (t1187 < 0)) bt1180.1 bt1180.2.1) else (laws_FnFlowBridge.j0 k bt1180.2.2.1 bt1180.2.2.2 t1187 true bt1180.1 bt1180.2.1)))))
theorem laws_FnFlowBridge.mono_l : ∀ k, (∀ y0 y1 y2 y3 y4 y5, LeO (laws_FnFlowBridge.j0 k y0 y1 y2 y3 y4 y5) (laws_FnFlowBridge.j0 (k + 1) y0 y1 y2 y3 y4 y5))
 | 0 => fun _ _ _ _ _ _ r h => by simp [laws_FnFlowBridge.j0] at h
 | k + 1 => by
  have ih0 := laws_FnFlowBridge.mono_l k
  ·intro y0 y1 y2 y3 y4 y5
   unfold laws_FnFlowBridge.j0
   have m0_ := @impl_BridgeApart.mono
   have m1_ := @impl_FlowCount.mono
   have m2_ := @impl_FlowCut.mono
   have m3_ := @impl_WayReach.mono
   have m4_ := @spec_DrawFlowCount.mono
   have m5_ := @spec_FlowCount.mono
   exact mo_
theorem laws_FnFlowBridge.mono : ∀ a0 k, LeO (laws_FnFlowBridge.f k a0) (laws_FnFlowBridge.f (k + 1) a0) := by
 intro a0 k
 have ih0 := laws_FnFlowBridge.mono_l k
 unfold laws_FnFlowBridge.f
 have m0_ := @impl_BridgeApart.mono
 have m1_ := @impl_FlowCount.mono
 have m2_ := @impl_FlowCut.mono
 have m3_ := @impl_WayReach.mono
 have m4_ := @spec_DrawFlowCount.mono
 have m5_ := @spec_FlowCount.mono
 exact mo_
def laws_FnFlowBridge.T9 : Bool × List (List Nat × List Nat) := (true, [([], []), ([0], [0]), ([], []), ([1, 2], [1, 2]), ([3], [3]), ([4], [4]), ([5, 4], [4, 5]), ([4], [4]), ([4], [4]), ([7, 8, 4, 4], [4, 7, 8]), ([4], [4]), ([9, 10, 4], [4, 9, 10]), ([11, 4], [4, 11]), ([12, 4], [4, 12]), ([6, 13, 4], [4, 6, 13]), ([4, 14], [4, 14]), ([15, 9], [15]), ([16], [16]), ([17, 16], [16, 17]), ([18, 16, 16], [16, 18]), ([19], [19]), ([20, 19], [19, 20]), ([21, 19], [19, 21]), ([22, 19, 19], [19, 22]), ([23], [23]), ([24, 23], [23, 24]), ([25, 23], [23, 25]), ([23], [23]), ([26, 27, 23], [23, 26, 27]), ([23, 28, 19], [19, 23, 28]), ([19, 29, 16], [16, 19, 29]), ([16, 30], [16, 30]), ([31, 23, 0, 1, 2, 3, 4, 5, 6, 7, 8, 9, 10, 11, 12, 13, 14, 15, 16, 17, 18, 19, 20, 21, 22, 23, 24, 25, 26, 27, 28, 29, 30, 31], [31])])
def laws_FnFlowBridge.B9 : List Nat := [0, 1, 0, 7, 15, 31, 63, 31, 31, 415, 31, 1951, 3999, 8095, 16383, 32767, 65535, 131071, 262143, 524287, 1048575, 2097151, 4194303, 8388607, 16777215, 33554431, 67108863, 16777215, 268435455, 536870911, 1073741823, 2147483647, 4294967295]
theorem laws_FnFlowBridge.tab9 : rtab .any (opsOf Try.f18 9) = laws_FnFlowBridge.T9 := by kernel_rfl
theorem laws_FnFlowBridge.bits9 : waitsOk laws_FnFlowBridge.T9.2 laws_FnFlowBridge.B9 = true := by kernel_rfl
set_option maxHeartbeats 8000000 in
set_option maxRecDepth 100000 in
theorem laws_FnFlowBridge.calls (k : Nat) (A0 : Option Addr) (c0 : Nat) (l0 : List Int) (r : Bool) (w : World) (hr0 : Kd.C (Kd.int .u8) w A0 l0.length l0) (hc0 : l0.length ≤ c0) (hrt : Aside0 (r = true)) (h : laws_FnFlowBridge.f k l0 = some r) :
  Calls Try.prog 18 #[.slice A0 l0.length c0] w fun e w' => e = .returned (.bool r) ∧ Below w.heap.size w w' := by
 have hu34 := Try.underlying34
 have hu73 := Try.underlying73
 have HR0 := am hr0
 have HC0 := am hc0
 clear hr0 hc0
 have HB := am (Below.refl w.heap.size w)
 have H : (if (l0.length : Int) > 1048576 then (some true) else ((spec_DrawFlowCount.f k l0).bind fun bt1180 => ((impl_FlowCount.f k bt1180.1 bt1180.2.1 bt1180.2.2.1 bt1180.2.2.2).bind fun t1187 => ((spec_FlowCount.f k bt1180.1 bt1180.2.1 bt1180.2.2.1 bt1180.2.2.2).bind fun t1188 => (if t1187 = t1188 then (laws_FnFlowBridge.j0 k bt1180.2.2.1 bt1180.2.2.2 t1187 (decide (t1187 < 0)) bt1180.1 bt1180.2.1) else (laws_FnFlowBridge.j0 k bt1180.2.2.1 bt1180.2.2.2 t1187 true bt1180.1 bt1180.2.1)))))) = some r := h
 clear h
 by_cases c2 : (l0.length : Int) > 1048576
 ·rw [if_pos c2] at H
  have c2b0 := decide_eq_true c2
  have c2b1 : decide (1048576 < l0.length) = true := decide_eq_true (by omega)
  clear c2
  obtain rfl := Option.some.inj H
  go_enter Try.func18, Try.ntmps18
  go_wp2
  go_ret
  exact ⟨by first | rfl | (simp [errW_none, errW_some] <;> rfl) | (simp [*, errW_none, errW_some] <;> rfl), bn HB⟩
 ·rw [if_neg c2] at H
  have c2b0 := decide_eq_false c2
  have c2b1 : decide (1048576 < l0.length) = false := decide_eq_false (by omega)
  clear c2
  replace H := Option.bind_eq_some_iff.mp H
  obtain ⟨⟨t1180, t1181, t1184, t1185⟩, A30, H⟩ := H
  (try dsimp only at H)
  have A3 := am A30
  clear A30
  replace H := Option.bind_eq_some_iff.mp H
  obtain ⟨t1187, A40, H⟩ := H
  (try dsimp only at H)
  have A4 := am A40
  clear A40
  have HC5 := am H
  clear H
  go_enter Try.func18, Try.ntmps18
  go_upto_region 5 with (first | ((with_reducible refine gate_callee (f := 48) rfl ?_); refine gl_ (some 16) Try.func48 #[.slice A0 l0.length c0] ?_; (with_reducible refine (spec_DrawFlowCount.calls k _ _ l0 t1180 t1181 t1184 t1185 _ ?side1 ?side2 A3.out).mono ?_); (case side1 => repeat (first | exact HR0.out | (with_reducible refine Kd.C_alloc ?_ _) | (with_reducible refine Kd.C_drewN ?_ _) | (with_reducible refine Kd.C_drew ?_))); (case side2 => exact HC0.out); rintro e w6 ⟨v1182, rfl, ho0, hb⟩; refine ⟨_, rfl, ?_⟩; have HO1183 := am (Kd.R_lower ho0 (below_size (bn HB))); replace HB := bs HB hb; (try clear hb); (try clear ho0)) | ((with_reducible refine gate_dst (N := 3) rfl ?_); refine be_ 3 #[.int .i64 0, .slice none 0 0] 34 ?_; intro gb1186 hg w7 hbox hb; replace HO1183 := am (Kd.R_below (onR HO1183) hb); have BK1186 := am hbox; have GW1186 := am (ge_ hg HB); have GE1186 := am (ge_ hg HB); replace HB := bs HB hb; clear hb hbox hg; obtain ⟨hcz8_0, hcz8_1, hfz8_0, hfz8_1⟩ := c2 BK1186; obtain ⟨Ao9, co9, eo9⟩ := Kd.R_slice HO1183.out; subst eo9) | ((with_reducible refine gate_callee (f := 33) rfl ?_); refine gl_ (some 23) Try.func33 #[.agg #[.int .i64 t1180, .slice Ao9 t1181.length co9], .int .i64 t1184, .int .i64 t1185] ?_; (with_reducible refine (impl_FlowCount.calls k t1180 _ _ t1181 t1184 t1185 t1187 _ ?side1 ?side2 A4.out).mono ?_); (case side1 => refine (Kd.R_reads' (e := 73) (base := w.heap.size) (ok := fun k_ => True) (n := t1181.length) (c := co9) ?_).2.2; exact (by (with_reducible repeat (first | apply Kd.R_alloc | apply Kd.R_drewN | apply Kd.R_drew)); exact (Kd.R_mono (Kd.R_far (p := ⟨gb1186, 1, none⟩) (Kd.R_far (p := ⟨gb1186, 0, none⟩) (Kd.R_types HO1183.out BK1186.out (by decide)) (fun _ hk => hk.2) (.int .i64 t1180)) (fun _ hk => hk.2) (.slice Ao9 t1181.length co9)) (fun _ h_ => h_.1)))); (case side2 => exact (Kd.R_reads' HO1183.out).2.1); rintro e w10 ⟨rfl, hb⟩; refine ⟨_, rfl, ?_⟩; replace HO1183 := am (Kd.R_below (by (with_reducible repeat (first | apply Kd.R_alloc | apply Kd.R_drewN | apply Kd.R_drew)); exact (Kd.R_mono (Kd.R_far (p := ⟨gb1186, 1, none⟩) (Kd.R_far (p := ⟨gb1186, 0, none⟩) (Kd.R_types HO1183.out BK1186.out (by decide)) (fun _ hk => hk.2) (.int .i64 t1180)) (fun _ hk => hk.2) (.slice Ao9 t1181.length co9)) (fun _ h_ => h_.1))) hb); replace BK1186 := am (blk_below (g := gb1186) (o := .cells #[.int .i64 t1180, .slice Ao9 t1181.length co9] 34 (0, 0)) (by (with_reducible repeat (first | refine blk_drewN ?_ _ | refine blk_drew ?_ | refine blk_alloc ?_ _)); refine blk_put (cs := #[.int .i64 t1180, .slice none 0 0]) ?_ 1 _ rfl; (with_reducible repeat (first | refine blk_drewN ?_ _ | refine blk_drew ?_ | refine blk_alloc ?_ _)); refine blk_put (cs := #[.int .i64 0, .slice none 0 0]) ?_ 0 _ rfl; (with_reducible repeat (first | refine blk_drewN ?_ _ | refine blk_drew ?_ | refine blk_alloc ?_ _)); exact BK1186.out) hb); replace HB := bs HB hb; (try clear hb); (try clear hi)))
  (try simp only [Act.put, List.setIfInBounds_toArray, List.set_cons_zero, List.set_cons_succ])
  go_cut [33] (fun v33 wc => ∃ (kq : Nat) (x33_4 : Bool), v33 = .bool x33_4 ∧ Aside0 (laws_FnFlowBridge.j0 kq t1184 t1185 t1187 x33_4 t1180 t1181 = some r) ∧ Aside0 (kq ≤ k) ∧ Aside0 (Kd.R k73 73 wc w.heap.size (fun _ => True) (.slice Ao9 t1181.length co9) t1181) ∧ Aside0 (wc.heap[gb1186]? = some (.cells #[.int .i64 t1180, (.slice Ao9 t1181.length co9)] 34 (0, 0))) ∧ Aside0 (Below w.heap.size w wc))
  case first =>
   have H := HC5.out
   clear HC5
   replace H := Option.bind_eq_some_iff.mp H
   obtain ⟨t1188, A110, H⟩ := H
   (try dsimp only at H)
   have A11 := am A110
   clear A110
   by_cases c12 : t1187 = t1188
   ·rw [if_pos c12] at H
    have c12b0 : (t1187 == t1188) = true := beq_iff_eq.mpr c12
    have c12b1 : (t1187 != t1188) = false := bne_eq_false_iff_eq.mpr c12
    clear c12
    (first | rw [c12b0] | (simp only [i64_w, i32_w]; rw [c12b0]) | skip)
    have H' := am H
    clear H
    obtain ⟨hcz13_0, hcz13_1, hfz13_0, hfz13_1⟩ := c2 BK1186
    go_wp2_with (first | ((with_reducible refine gate_callee (f := 31) rfl ?_); refine gl_ (some 28) Try.func31 #[.agg #[.int .i64 t1180, .slice Ao9 t1181.length co9], .int .i64 t1184, .int .i64 t1185] ?_; (with_reducible refine (spec_FlowCount.calls k t1180 _ _ t1181 t1184 t1185 t1188 _ ?side1 ?side2 A11.out).mono ?_); (case side1 => exact (Kd.R_reads' (onR HO1183)).2.2); (case side2 => exact (Kd.R_reads' HO1183.out).2.1); rintro e w14 ⟨rfl, hb⟩; refine ⟨_, rfl, ?_⟩; replace HO1183 := am (Kd.R_below (onR HO1183) hb); replace BK1186 := bb BK1186 hb; replace HB := bs HB hb; (try clear hb); (try clear hi)))
    go_meet
    case rel => exact ⟨_, (decide (t1187 < 0)), (by first | rfl | (simp; done) | (simp [*]; done)), H', ⟨by first | omega | exact Nat.le_refl _⟩, ⟨onR HO1183⟩, ⟨bkn BK1186⟩, ⟨bn HB⟩⟩
   ·rw [if_neg c12] at H
    have c12b0 : (t1187 == t1188) = false := beq_eq_false_iff_ne.mpr c12
    have c12b1 : (t1187 != t1188) = true := bne_iff_ne.mpr c12
    (first | rw [c12b0] | (simp only [i64_w, i32_w]; rw [c12b0]) | skip)
    have H' := am H
    clear H
    obtain ⟨hcz15_0, hcz15_1, hfz15_0, hfz15_1⟩ := c2 BK1186
    go_wp2_with (first | ((with_reducible refine gate_callee (f := 31) rfl ?_); refine gl_ (some 28) Try.func31 #[.agg #[.int .i64 t1180, .slice Ao9 t1181.length co9], .int .i64 t1184, .int .i64 t1185] ?_; (with_reducible refine (spec_FlowCount.calls k t1180 _ _ t1181 t1184 t1185 t1188 _ ?side1 ?side2 A11.out).mono ?_); (case side1 => exact (Kd.R_reads' (onR HO1183)).2.2); (case side2 => exact (Kd.R_reads' HO1183.out).2.1); rintro e w16 ⟨rfl, hb⟩; refine ⟨_, rfl, ?_⟩; replace HO1183 := am (Kd.R_below (onR HO1183) hb); replace BK1186 := bb BK1186 hb; replace HB := bs HB hb; (try clear hb); (try clear hi)))
    go_meet
    case rel => exact ⟨_, (true), (by first | rfl | (simp; done) | (simp [*]; done)), H', ⟨by first | omega | exact Nat.le_refl _⟩, ⟨onR HO1183⟩, ⟨bkn BK1186⟩, ⟨bn HB⟩⟩
  case rest =>
   clear HC5
   try clear c1
   try clear c2
   try clear c2b0
   try clear c2b1
   try clear p2
   try clear c3
   try clear c4
   try clear c12
   try clear c12b0
   try clear c12b1
   try clear hcz13_0 hcz13_1 hfz13_0 hfz13_1
   try clear hcz15_0 hcz15_1 hfz15_0 hfz15_1
   try clear hcz8_0 hcz8_1 hfz8_0 hfz8_1
   obtain ⟨kq, x33_4, rfl, HA, HJ4, HO_1187001, BK1186, HB⟩ := hcut
   cases kq with
   | zero => exact absurd HA.out (by simp [laws_FnFlowBridge.j0])
   | succ kj4 =>
    have H := HA.out
    clear HA
    simp only [laws_FnFlowBridge.j0] at H
    by_cases c17 : x33_4 = true
    ·subst c17
     rw [if_pos rfl] at H
     replace H := Option.bind_eq_some_iff.mp H
     obtain ⟨t1189, A180, H⟩ := H
     (try dsimp only at H)
     have A18 := am A180
     clear A180
     obtain rfl := Option.some.inj H
     obtain ⟨hcz19_0, hcz19_1, hfz19_0, hfz19_1⟩ := c2 BK1186
     go_wp2_with (first | ((with_reducible refine gate_callee (f := 31) rfl ?_); refine gl_ (some 38) Try.func31 #[.agg #[.int .i64 t1180, .slice Ao9 t1181.length co9], .int .i64 t1184, .int .i64 t1185] ?_; (with_reducible refine (spec_FlowCount.calls kj4 t1180 _ _ t1181 t1184 t1185 t1189 _ ?side1 ?side2 A18.out).mono ?_); (case side1 => exact (Kd.R_reads' (onR HO_1187001)).2.2); (case side2 => exact (Kd.R_reads' HO_1187001.out).2.1); rintro e w20 ⟨rfl, hb⟩; refine ⟨_, rfl, ?_⟩; replace HO_1187001 := am (Kd.R_below (onR HO_1187001) hb); replace BK1186 := bb BK1186 hb; replace HB := bs HB hb; (try clear hb); (try clear hi)))
     go_ret
     exact ⟨by first | rfl | (simp [errW_none, errW_some] <;> rfl) | (simp [*, errW_none, errW_some] <;> rfl), bn HB⟩
    ·replace c17 := Bool.eq_false_iff.mpr c17
     subst c17
     rw [if_neg (show ¬ (false = true) by decide)] at H
     replace H := Option.bind_eq_some_iff.mp H
     obtain ⟨⟨t1190, t1191, t1192⟩, A210, H⟩ := H
     (try dsimp only at H)
     have A21 := am A210
     clear A210
     replace H := Option.bind_eq_some_iff.mp H
     obtain ⟨⟨t1194, t1197⟩, A220, H⟩ := H
     (try dsimp only at H)
     have A22 := am A220
     clear A220
     by_cases c23 : ((t1187 == 1) == t1192) = true
     ·rw [if_pos c23] at H
      have c23b0 : ((t1187 == 1) == t1192) = true := c23
      (try (have c23b1 : decide ((t1187 == 1) = t1192) = true := by simpa using c23))
      (try (have c23b2 : ((t1187 == 1) == t1192) = true := by simpa using c23))
      clear c23
      replace H := Option.bind_eq_some_iff.mp H
      obtain ⟨t1198, A240, H⟩ := H
      (try dsimp only at H)
      have A24 := am A240
      clear A240
      obtain ⟨c25, H⟩ := ig_ H
      have c25b0 := decide_eq_true c25
      clear c25
      obtain ⟨c26, H⟩ := ig_ H
      have c26b0 := decide_eq_true c26
      clear c26
      by_cases c27 : ((t1187 == 0) == (!(rdOf false t1198 t1185))) = true
      ·rw [if_pos c27] at H
       have c27b0 : ((t1187 == 0) == (!(rdOf false t1198 t1185))) = true := c27
       (try (have c27b1 : decide ((t1187 == 0) = (!(rdOf false t1198 t1185))) = true := by simpa using c27))
       (try (have c27b2 : ((t1187 == 0) == (!(rdOf false t1198 t1185))) = true := by simpa using c27))
       clear c27
       by_cases c28 : t1192 = true
       ·subst c28
        rw [if_pos rfl] at H
        by_cases c29 : (t1194.length : Int) = 1
        ·rw [if_pos c29] at H
         have c29b0 : ((t1194.length : Int) == 1) = true := beq_iff_eq.mpr c29
         have c29b1 : ((t1194.length : Int) != 1) = false := bne_eq_false_iff_eq.mpr c29
         clear c29
         obtain ⟨c30, H⟩ := ig_ H
         have c30b0 := decide_eq_true c30
         have c30b1 : decide (0 < t1194.length) = true := decide_eq_true (by omega)
         clear c30
         obtain rfl := Option.some.inj H
         obtain ⟨hcz31_0, hcz31_1, hfz31_0, hfz31_1⟩ := c2 BK1186
         try go_wp2_with (first | ((with_reducible refine gate_callee (f := 72) rfl ?_); refine gl_ (some 44) Try.func72 #[.agg #[.int .i64 t1180, .slice Ao9 t1181.length co9], .int .i64 t1184, .int .i64 t1185] ?_; (with_reducible refine (impl_BridgeApart.calls kj4 t1180 _ _ t1181 t1184 t1185 t1190 t1191 true _ ?side1 ?side2 A21.out).mono ?_); (case side1 => exact (Kd.R_reads' (onR HO_1187001)).2.2); (case side2 => exact (Kd.R_reads' HO_1187001.out).2.1); rintro e w32 ⟨rfl, hb⟩; refine ⟨_, rfl, ?_⟩; replace HO_1187001 := am (Kd.R_below (onR HO_1187001) hb); replace BK1186 := bb BK1186 hb; replace HB := bs HB hb; (try clear hb); (try clear hi)) | ((with_reducible refine gate_dst (N := 7) rfl ?_); refine be_ 7 #[.int .i64 0, .int .i64 0] 73 ?_; intro gb1193 hg w33 hbox hb; replace HO_1187001 := am (Kd.R_below (Kd.R_elderB (onR HO_1187001) gb1193 (Nat.le_of_eq hg.symm)) hb); have BK1193 := am hbox; have GW1193 := am (ge_ hg HB); have GE1193 := am (ge_ hg HB); replace HB := bs HB hb; obtain ⟨NB1186_1193, NB1193_1186⟩ := nb_ hg BK1186; replace BK1186 := bb BK1186 hb; clear hb hbox hg; obtain ⟨hnb34, hnc34⟩ := n2 NB1193_1186 NB1186_1193; obtain ⟨hcz35_0, hcz35_1, hfz35_0, hfz35_1⟩ := c2 BK1193) | ((with_reducible refine gate_store (t := 73) (p := 7) rfl ?_); refine store_event (t := 73) (p := 7) (v := ?vo_w36) (w1 := ((w33.setCell ⟨gb1193, 0, none⟩ (.int .i64 t1190)).setCell ⟨gb1193, 1, none⟩ (.int .i64 t1191))) ?hg ?ho ?hn ?hr ?_; (case ho => rfl); (case hg => rfl); (case hn => rfl); (case hr => first | (go_simp; done) | (go_simp; rfl)); intro w36 hw; have n0_ : Aside0 (Kd.R k73 73 w36 w.heap.size (fun k_ => k_ ≠ gb1193) (.slice Ao9 t1181.length co9) t1181) := ⟨(by rw [hw]; exact (by (with_reducible repeat (first | apply Kd.R_alloc | apply Kd.R_drewN | apply Kd.R_drew)); exact Kd.R_mono (Kd.R_far (p := ⟨gb1193, 1, none⟩) (Kd.R_far (p := ⟨gb1193, 0, none⟩) (Kd.R_mono HO_1187001.out (fun k_ hk => (⟨hk, hk.2⟩ : _ ∧ k_ ≠ gb1193))) (fun _ hk => hk.2) (.int .i64 t1190)) (fun _ hk => hk.2) (.int .i64 t1191)) (fun _ hk => hk.1.2)))⟩; have n1_ : Aside0 (w36.heap[gb1186]? = some (.cells #[.int .i64 t1180, .slice Ao9 t1181.length co9] 34 (0, 0))) := ⟨(by rw [hw]; exact (bkn BK1186))⟩; have n2_ : Aside0 (w36.heap[gb1193]? = some (.cells #[.int .i64 t1190, .int .i64 t1191] 73 (0, 0))) := ⟨(by rw [hw]; exact (by (with_reducible repeat (first | refine blk_drewN ?_ _ | refine blk_drew ?_ | refine blk_alloc ?_ _)); refine blk_put (cs := #[.int .i64 t1190, .int .i64 0]) ?_ 1 _ rfl; (with_reducible repeat (first | refine blk_drewN ?_ _ | refine blk_drew ?_ | refine blk_alloc ?_ _)); refine blk_put (cs := #[.int .i64 0, .int .i64 0]) ?_ 0 _ rfl; (with_reducible repeat (first | refine blk_drewN ?_ _ | refine blk_drew ?_ | refine blk_alloc ?_ _)); exact BK1193.out))⟩; have n3_ : Aside0 (Below w.heap.size w w36) := ⟨(by rw [hw]; exact (bn HB))⟩; clear hw; clear HO_1187001; clear BK1186; clear BK1193; clear HB; have HO_1187001 := n0_; have BK1186 := n1_; have BK1193 := n2_; have HB := n3_; clear n0_ n1_ n2_ n3_; obtain ⟨hcz37_0, hcz37_1, hfz37_0, hfz37_1⟩ := c2 BK1186) | ((with_reducible refine gate_callee (f := 51) rfl ?_); refine gl_ (some 51) Try.func51 #[.agg #[.int .i64 t1180, .slice Ao9 t1181.length co9], .int .i64 t1184, .int .i64 t1185] ?_; (with_reducible refine (impl_FlowCut.calls kj4 t1180 (fun k_ => some k_ = (.slice Ao9 t1181.length co9 : Value).ownBlock) _ _ t1181 t1184 t1185 t1194 t1197 _ ?side1 A22.out).mono ?_); (case side1 => exact Kd.R_V (Kd.R_tight rfl (Kd.R_types (HO_1187001.out) BK1186.out (by decide)))); rintro e w38 ⟨v1195, rfl, ho0, hb⟩; refine ⟨_, rfl, ?_⟩; have HO1196 := am (Kd.R_lower (Kd.R_newB (Kd.R_new' (Kd.R_mono (ok' := fun k_ => True) ho0 (fun _ hk_ => trivial)) (Kd.R_lt (onR HO_1187001))) (bkn BK1193)) (below_size (bn HB))); replace HO_1187001 := am (Kd.R_elder' (onR HO_1187001) (Kd.R_base ho0) hb); replace BK1186 := bb BK1186 hb; replace BK1193 := bb BK1193 hb; replace HB := bs HB hb; (try clear hb); (try clear ho0)))
         replace HO_1187001 := am (Kd.R_drew HO_1187001.out)
         replace HO1196 := am (Kd.R_drew HO1196.out)
         replace BK1186 := am (blk_drew BK1186.out)
         replace BK1193 := am (blk_drew BK1193.out)
         replace HB := am (below_drew1 HB.out)
         have p1202 : 0 ≤ (0 : Int) := (by omega)
         have q1202 : 0 < (t1194.length : Int) := oa
         obtain ⟨Ao42, co42, eo42⟩ := Kd.R_slice HO1196.out
         subst eo42
         obtain ⟨ad1202, e1202, hx1202_0, hx1202_1⟩ := at_T73 (Kd.R_reads' HO1196.out).2.2 0 p1202 q1202
         cases e1202
         have qi1202 : (0 < t1194.length) = True := eq_true (by omega)
         (try rw [show ((0 : Int)).toNat = 0 from rfl] at hx1202_0)
         (try rw [show 0 * 2 = 0 from rfl] at hx1202_0)
         (try rw [Addr.add_zero'] at hx1202_0)
         (try rw [show ((0 : Int)).toNat = 0 from rfl] at hx1202_1)
         (try rw [show 0 * 2 = 0 from rfl] at hx1202_1)
         (try rw [Addr.add_zero'] at hx1202_1)
         replace p1202 := eq_true p1202
         replace q1202 := eq_true q1202
         refine start_ (n := 33) (S := fun w' => w'.cell? ⟨gb1186, 0, none⟩ = some (.int .i64 t1180) ∧ w'.cell? ⟨gb1186, 1, none⟩ = some (.slice Ao9 t1181.length co9) ∧ w'.cell? ⟨gb1193, 0, none⟩ = some (.int .i64 t1190) ∧ w'.cell? ⟨gb1193, 1, none⟩ = some (.int .i64 t1191) ∧ w'.cell? ad1202 = some (.int .i64 ((rd_T73 t1194 0).f0)) ∧ w'.cell? ⟨ad1202.block, ad1202.off + 1, none⟩ = some (.int .i64 ((rd_T73 t1194 0).f1))) (ds := []) #[false, false, false, false, false, false, false, false, false, false, false, false, false, false, false, false, false, false, false, false, false, false, false, false, false, false, false, false, false, false, false, false, false] (by kernel_rfl) rfl rfl ⟨(bc BK1186 0), (bc BK1186 1), (bc BK1193 0), (bc BK1193 1), hx1202_0, hx1202_1⟩ (fun hHeld => ?_); refine with_tabW laws_FnFlowBridge.tab9 laws_FnFlowBridge.bits9 (fun HT_ HW_ => ?_)
         generalize w38.drew = w39 at HO_1187001 HO1196 BK1186 BK1193 HB hx1202_0 hx1202_1 hHeld ⊢
         refine pz_ 0 (some 54) HT_ ?_
         refine pz_ 1 (some 55) HT_ ?_
         refine pz_ 2 (some 56) HT_ ?_
         refine pz_ 3 (some 57) HT_ ?_
         refine pz_ 4 (some 58) HT_ ?_
         refine pz_ 5 (some 59) HT_ ?_
         refine pz_ 6 (some 60) HT_ ?_
         refine pz_ 8 (some 62) HT_ ?_
         refine pz_ 10 (some 64) HT_ ?_
         refine tz_ 7 (some 61) HT_ HW_ hHeld ?_
         refine one_ (i := 9) (N := some 63) #[true, true, true, true, true, true, true, true, true, true, true, false, false, false, false, false, false, false, false, false, false, false, false, false, false, false, false, false, false, false, false, false, false] rfl rfl (one_of HT_.out (by kernel_rfl)) (by decide) (fun K hK => ?_)
         refine gg_ Try.func68 #[.agg #[.int .i64 t1180, .slice Ao9 t1181.length co9], .int .i64 t1184] ?_
         with_reducible refine (impl_WayReach.calls kj4 t1180 _ _ t1181 t1184 t1198 _ ?side1 ?side2 A24.out).mono ?_
         (case side1 => exact (Kd.R_reads' (onR HO_1187001)).2.2)
         (case side2 => exact (Kd.R_reads' HO_1187001.out).2.1)
         rintro e w40 ⟨v1199, rfl, ho0, hb⟩
         have HS5_ := (hb.cell (World.block_lt_of_cell? _ _ (hHeld.2.2.2.2.1))).trans (hHeld.2.2.2.2.1)
         have HS6_ := (hb.cell (World.block_lt_of_cell? _ _ (hHeld.2.2.2.2.2))).trans (hHeld.2.2.2.2.2)
         refine ⟨_, rfl, ?_⟩
         replace HO_1187001 := am (Kd.R_below (onR HO_1187001) hb)
         replace HO1196 := am (Kd.R_below (onR HO1196) hb)
         have HO1200 := am (Kd.R_lower ho0 (below_size (bn HB)))
         replace BK1186 := bb BK1186 hb
         replace BK1193 := bb BK1193 hb
         replace HB := bs HB hb
         (try clear hb)
         (try clear hb2)
         (try clear hk)
         (try clear hi)
         (try clear ho0)
         obtain ⟨Ao41, co41, eo41⟩ := Kd.R_slice HO1200.out
         (first | subst eo41 | (injection eo41 with f1_ f2_ f3_; have f4_ := f1_.symm; have f5_ := f3_.symm; clear f1_ f2_ f3_; subst f4_; subst f5_))
         have p1201 : 0 ≤ (t1185 : Int) := oa
         have q1201 : t1185 < (t1198.length : Int) := oa
         obtain ⟨ad1201, e1201, hx1201_0⟩ := Kd.at_bool (Kd.R_reads' HO1200.out).2.2 t1185 p1201 q1201
         cases e1201
         replace p1201 := eq_true p1201
         replace q1201 := eq_true q1201
         refine hK.out _ _ ⟨(bc BK1186 0), (bc BK1186 1), (bc BK1193 0), (bc BK1193 1), HS5_, HS6_⟩ (fun hHeld => ?_)
         clear hK K
         refine nz_ 63 ?_
         refine pz_ 11 (some 65) HT_ ?_
         refine one_ (i := 12) (N := some 66) #[true, true, true, true, true, true, true, true, true, true, true, true, true, false, false, false, false, false, false, false, false, false, false, false, false, false, false, false, false, false, false, false, false] rfl rfl (one_of HT_.out (by kernel_rfl)) (by decide) (fun K hK => ?_)
         refine value_ (w1 := ?_) (v := ?_) (by rfl) rfl ?_ ?_
         rotate_left 2
         ·go_simp
          constructor
          ·rfl
          ·rfl
         refine hK.out _ _ hHeld (fun hHeld => ?_)
         clear hK K
         refine nz_ 66 ?_
         refine pz_ 13 (some 67) HT_ ?_
         refine pz_ 14 (some 68) HT_ ?_
         refine pz_ 15 (some 69) HT_ ?_
         refine pz_ 16 (some 70) HT_ ?_
         refine pz_ 17 (some 71) HT_ ?_
         refine pz_ 18 (some 72) HT_ ?_
         refine pz_ 19 (some 73) HT_ ?_
         refine pz_ 20 (some 74) HT_ ?_
         refine pz_ 21 (some 75) HT_ ?_
         refine pz_ 22 (some 76) HT_ ?_
         refine pz_ 23 (some 77) HT_ ?_
         refine pz_ 24 (some 78) HT_ ?_
         refine pz_ 25 (some 79) HT_ ?_
         refine tz_ 26 (some 80) HT_ HW_ hHeld ?_
         refine tz_ 27 (some 81) HT_ HW_ hHeld ?_
         refine pz_ 28 (some 82) HT_ ?_
         refine pz_ 29 (some 83) HT_ ?_
         refine pz_ 30 (some 84) HT_ ?_
         refine pz_ 31 (some 85) HT_ ?_
         refine pz_ 32 (some 2) HT_ ?_
         refine done_ (done_of HT_.out (by kernel_rfl)) ?_
         try go_wp2
         go_ret
         exact ⟨by first | rfl | (simp [errW_none, errW_some] <;> rfl) | (simp [*, errW_none, errW_some] <;> rfl), bn HB⟩
        ·rw [if_neg c29] at H
         have c29b0 : ((t1194.length : Int) == 1) = false := beq_eq_false_iff_ne.mpr c29
         have c29b1 : ((t1194.length : Int) != 1) = true := bne_iff_ne.mpr c29
         exact absurd (Option.some.inj H) (by rw [hrt.out]; decide)
       ·replace c28 := Bool.eq_false_iff.mpr c28
        subst c28
        rw [if_neg (show ¬ (false = true) by decide)] at H
        obtain rfl := Option.some.inj H
        obtain ⟨hcz43_0, hcz43_1, hfz43_0, hfz43_1⟩ := c2 BK1186
        try go_wp2_with (first | ((with_reducible refine gate_callee (f := 72) rfl ?_); refine gl_ (some 44) Try.func72 #[.agg #[.int .i64 t1180, .slice Ao9 t1181.length co9], .int .i64 t1184, .int .i64 t1185] ?_; (with_reducible refine (impl_BridgeApart.calls kj4 t1180 _ _ t1181 t1184 t1185 t1190 t1191 false _ ?side1 ?side2 A21.out).mono ?_); (case side1 => exact (Kd.R_reads' (onR HO_1187001)).2.2); (case side2 => exact (Kd.R_reads' HO_1187001.out).2.1); rintro e w44 ⟨rfl, hb⟩; refine ⟨_, rfl, ?_⟩; replace HO_1187001 := am (Kd.R_below (onR HO_1187001) hb); replace BK1186 := bb BK1186 hb; replace HB := bs HB hb; (try clear hb); (try clear hi)) | ((with_reducible refine gate_dst (N := 7) rfl ?_); refine be_ 7 #[.int .i64 0, .int .i64 0] 73 ?_; intro gb1193 hg w45 hbox hb; replace HO_1187001 := am (Kd.R_below (Kd.R_elderB (onR HO_1187001) gb1193 (Nat.le_of_eq hg.symm)) hb); have BK1193 := am hbox; have GW1193 := am (ge_ hg HB); have GE1193 := am (ge_ hg HB); replace HB := bs HB hb; obtain ⟨NB1186_1193, NB1193_1186⟩ := nb_ hg BK1186; replace BK1186 := bb BK1186 hb; clear hb hbox hg; obtain ⟨hnb46, hnc46⟩ := n2 NB1193_1186 NB1186_1193; obtain ⟨hcz47_0, hcz47_1, hfz47_0, hfz47_1⟩ := c2 BK1193) | ((with_reducible refine gate_store (t := 73) (p := 7) rfl ?_); refine store_event (t := 73) (p := 7) (v := ?vo_w48) (w1 := ((w45.setCell ⟨gb1193, 0, none⟩ (.int .i64 t1190)).setCell ⟨gb1193, 1, none⟩ (.int .i64 t1191))) ?hg ?ho ?hn ?hr ?_; (case ho => rfl); (case hg => rfl); (case hn => rfl); (case hr => first | (go_simp; done) | (go_simp; rfl)); intro w48 hw; have n0_ : Aside0 (Kd.R k73 73 w48 w.heap.size (fun k_ => k_ ≠ gb1193) (.slice Ao9 t1181.length co9) t1181) := ⟨(by rw [hw]; exact (by (with_reducible repeat (first | apply Kd.R_alloc | apply Kd.R_drewN | apply Kd.R_drew)); exact Kd.R_mono (Kd.R_far (p := ⟨gb1193, 1, none⟩) (Kd.R_far (p := ⟨gb1193, 0, none⟩) (Kd.R_mono HO_1187001.out (fun k_ hk => (⟨hk, hk.2⟩ : _ ∧ k_ ≠ gb1193))) (fun _ hk => hk.2) (.int .i64 t1190)) (fun _ hk => hk.2) (.int .i64 t1191)) (fun _ hk => hk.1.2)))⟩; have n1_ : Aside0 (w48.heap[gb1186]? = some (.cells #[.int .i64 t1180, .slice Ao9 t1181.length co9] 34 (0, 0))) := ⟨(by rw [hw]; exact (bkn BK1186))⟩; have n2_ : Aside0 (w48.heap[gb1193]? = some (.cells #[.int .i64 t1190, .int .i64 t1191] 73 (0, 0))) := ⟨(by rw [hw]; exact (by (with_reducible repeat (first | refine blk_drewN ?_ _ | refine blk_drew ?_ | refine blk_alloc ?_ _)); refine blk_put (cs := #[.int .i64 t1190, .int .i64 0]) ?_ 1 _ rfl; (with_reducible repeat (first | refine blk_drewN ?_ _ | refine blk_drew ?_ | refine blk_alloc ?_ _)); refine blk_put (cs := #[.int .i64 0, .int .i64 0]) ?_ 0 _ rfl; (with_reducible repeat (first | refine blk_drewN ?_ _ | refine blk_drew ?_ | refine blk_alloc ?_ _)); exact BK1193.out))⟩; have n3_ : Aside0 (Below w.heap.size w w48) := ⟨(by rw [hw]; exact (bn HB))⟩; clear hw; clear HO_1187001; clear BK1186; clear BK1193; clear HB; have HO_1187001 := n0_; have BK1186 := n1_; have BK1193 := n2_; have HB := n3_; clear n0_ n1_ n2_ n3_; obtain ⟨hcz49_0, hcz49_1, hfz49_0, hfz49_1⟩ := c2 BK1186) | ((with_reducible refine gate_callee (f := 51) rfl ?_); refine gl_ (some 51) Try.func51 #[.agg #[.int .i64 t1180, .slice Ao9 t1181.length co9], .int .i64 t1184, .int .i64 t1185] ?_; (with_reducible refine (impl_FlowCut.calls kj4 t1180 (fun k_ => some k_ = (.slice Ao9 t1181.length co9 : Value).ownBlock) _ _ t1181 t1184 t1185 t1194 t1197 _ ?side1 A22.out).mono ?_); (case side1 => exact Kd.R_V (Kd.R_tight rfl (Kd.R_types (HO_1187001.out) BK1186.out (by decide)))); rintro e w50 ⟨v1195, rfl, ho0, hb⟩; refine ⟨_, rfl, ?_⟩; have HO1196 := am (Kd.R_lower (Kd.R_newB (Kd.R_new' (Kd.R_mono (ok' := fun k_ => True) ho0 (fun _ hk_ => trivial)) (Kd.R_lt (onR HO_1187001))) (bkn BK1193)) (below_size (bn HB))); replace HO_1187001 := am (Kd.R_elder' (onR HO_1187001) (Kd.R_base ho0) hb); replace BK1186 := bb BK1186 hb; replace BK1193 := bb BK1193 hb; replace HB := bs HB hb; (try clear hb); (try clear ho0)))
        replace HO_1187001 := am (Kd.R_drew HO_1187001.out)
        replace HO1196 := am (Kd.R_drew HO1196.out)
        replace BK1186 := am (blk_drew BK1186.out)
        replace BK1193 := am (blk_drew BK1193.out)
        replace HB := am (below_drew1 HB.out)
        refine start_ (n := 33) (S := fun w' => w'.cell? ⟨gb1186, 0, none⟩ = some (.int .i64 t1180) ∧ w'.cell? ⟨gb1186, 1, none⟩ = some (.slice Ao9 t1181.length co9)) (ds := []) #[false, false, false, false, false, false, false, false, false, false, false, false, false, false, false, false, false, false, false, false, false, false, false, false, false, false, false, false, false, false, false, false, false] (by kernel_rfl) rfl rfl ⟨(bc BK1186 0), (bc BK1186 1)⟩ (fun hHeld => ?_); refine with_tabW laws_FnFlowBridge.tab9 laws_FnFlowBridge.bits9 (fun HT_ HW_ => ?_)
        generalize w50.drew = w51 at HO_1187001 HO1196 BK1186 BK1193 HB hHeld ⊢
        refine pz_ 0 (some 54) HT_ ?_
        refine pz_ 1 (some 55) HT_ ?_
        refine pz_ 2 (some 56) HT_ ?_
        refine pz_ 3 (some 57) HT_ ?_
        refine pz_ 4 (some 58) HT_ ?_
        refine pz_ 5 (some 59) HT_ ?_
        refine pz_ 6 (some 60) HT_ ?_
        refine pz_ 8 (some 62) HT_ ?_
        refine pz_ 10 (some 64) HT_ ?_
        refine tz_ 7 (some 61) HT_ HW_ hHeld ?_
        refine one_ (i := 9) (N := some 63) #[true, true, true, true, true, true, true, true, true, true, true, false, false, false, false, false, false, false, false, false, false, false, false, false, false, false, false, false, false, false, false, false, false] rfl rfl (one_of HT_.out (by kernel_rfl)) (by decide) (fun K hK => ?_)
        refine gg_ Try.func68 #[.agg #[.int .i64 t1180, .slice Ao9 t1181.length co9], .int .i64 t1184] ?_
        with_reducible refine (impl_WayReach.calls kj4 t1180 _ _ t1181 t1184 t1198 _ ?side1 ?side2 A24.out).mono ?_
        (case side1 => exact (Kd.R_reads' (onR HO_1187001)).2.2)
        (case side2 => exact (Kd.R_reads' HO_1187001.out).2.1)
        rintro e w52 ⟨v1199, rfl, ho0, hb⟩
        refine ⟨_, rfl, ?_⟩
        replace HO_1187001 := am (Kd.R_below (onR HO_1187001) hb)
        replace HO1196 := am (Kd.R_below (onR HO1196) hb)
        have HO1200 := am (Kd.R_lower ho0 (below_size (bn HB)))
        replace BK1186 := bb BK1186 hb
        replace BK1193 := bb BK1193 hb
        replace HB := bs HB hb
        (try clear hb)
        (try clear hb2)
        (try clear hk)
        (try clear hi)
        (try clear ho0)
        obtain ⟨Ao53, co53, eo53⟩ := Kd.R_slice HO1200.out
        (first | subst eo53 | (injection eo53 with f1_ f2_ f3_; have f4_ := f1_.symm; have f5_ := f3_.symm; clear f1_ f2_ f3_; subst f4_; subst f5_))
        have p1201 : 0 ≤ (t1185 : Int) := oa
        have q1201 : t1185 < (t1198.length : Int) := oa
        obtain ⟨ad1201, e1201, hx1201_0⟩ := Kd.at_bool (Kd.R_reads' HO1200.out).2.2 t1185 p1201 q1201
        cases e1201
        replace p1201 := eq_true p1201
        replace q1201 := eq_true q1201
        refine hK.out _ _ ⟨(bc BK1186 0), (bc BK1186 1)⟩ (fun hHeld => ?_)
        clear hK K
        refine nz_ 63 ?_
        refine pz_ 11 (some 65) HT_ ?_
        refine one_ (i := 12) (N := some 66) #[true, true, true, true, true, true, true, true, true, true, true, true, true, false, false, false, false, false, false, false, false, false, false, false, false, false, false, false, false, false, false, false, false] rfl rfl (one_of HT_.out (by kernel_rfl)) (by decide) (fun K hK => ?_)
        refine value_ (w1 := ?_) (v := ?_) (by rfl) rfl ?_ ?_
        rotate_left 2
        ·go_simp
         constructor
         ·rfl
         ·rfl
        refine hK.out _ _ hHeld (fun hHeld => ?_)
        clear hK K
        refine nz_ 66 ?_
        refine pz_ 13 (some 67) HT_ ?_
        refine pz_ 14 (some 68) HT_ ?_
        refine pz_ 15 (some 69) HT_ ?_
        refine pz_ 16 (some 70) HT_ ?_
        refine pz_ 17 (some 71) HT_ ?_
        refine pz_ 18 (some 72) HT_ ?_
        refine pz_ 19 (some 73) HT_ ?_
        refine pu_ 20 (some 74) HT_ ?_
        refine pu_ 21 (some 75) HT_ ?_
        refine pu_ 22 (some 76) HT_ ?_
        refine pu_ 23 (some 77) HT_ ?_
        refine pu_ 24 (some 78) HT_ ?_
        refine pu_ 25 (some 79) HT_ ?_
        refine pu_ 26 (some 80) HT_ ?_
        refine pu_ 27 (some 81) HT_ ?_
        refine pu_ 28 (some 82) HT_ ?_
        refine pu_ 29 (some 83) HT_ ?_
        refine pz_ 30 (some 84) HT_ ?_
        refine pz_ 31 (some 85) HT_ ?_
        refine pz_ 32 (some 2) HT_ ?_
        refine done_ (done_of HT_.out (by kernel_rfl)) ?_
        try go_wp2
        go_ret
        exact ⟨by first | rfl | (simp [errW_none, errW_some] <;> rfl) | (simp [*, errW_none, errW_some] <;> rfl), bn HB⟩
      ·rw [if_neg c27] at H
       have c27b0 : ((t1187 == 0) == (!(rdOf false t1198 t1185))) = false := by simpa using c27
       (try (have c27b1 : decide ((t1187 == 0) = (!(rdOf false t1198 t1185))) = false := by simpa using c27))
       (try (have c27b2 : ((t1187 == 0) == (!(rdOf false t1198 t1185))) = false := by simpa using c27))
       (try (have c27b3 : ¬ ((t1187 == 0) = (!(rdOf false t1198 t1185))) := by simpa using c27))
       clear c27
       exact absurd (Option.some.inj H) (by rw [hrt.out]; decide)
     ·rw [if_neg c23] at H
      have c23b0 : ((t1187 == 1) == t1192) = false := by simpa using c23
      (try (have c23b1 : decide ((t1187 == 1) = t1192) = false := by simpa using c23))
      (try (have c23b2 : ((t1187 == 1) == t1192) = false := by simpa using c23))
      (try (have c23b3 : ¬ ((t1187 == 1) = t1192) := by simpa using c23))
      clear c23
      exact absurd (Option.some.inj H) (by rw [hrt.out]; decide)

/-- what is to be proved of laws_FnFlowBridge, without Go -/
def laws_FnFlowBridge.Pure : Prop := ∀ (l0 : List Int), (l0.length ≤ maxLen ∧ ∀ l0_ ∈ l0, ((Lit.int .u8 l0_).wf = true)) → ∃ k, laws_FnFlowBridge.f k l0 = some true

end Go.Proofs.Ytdlnnjgjfngccaa.F
