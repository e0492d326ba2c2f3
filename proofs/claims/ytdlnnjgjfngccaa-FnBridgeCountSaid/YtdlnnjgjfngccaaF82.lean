-- Written by oprint.py (wip/tools) over the kit's print program, for this seat.
import Derived.Test.YtdlnnjgjfngccaaF0
import Derived.Test.YtdlnnjgjfngccaaF14
import Derived.Test.YtdlnnjgjfngccaaF66
import Derived.Test.YtdlnnjgjfngccaaF68
import Derived.Test.YtdlnnjgjfngccaaF71
import Derived.Test.YtdlnnjgjfngccaaF80
namespace Go.Proofs.Ytdlnnjgjfngccaa.F
open Go.RowKit Go.Proofs.YtdlnnjgjfngccaaW.PrintWords Go.Proofs.YtdlnnjgjfngccaaW.PrintLast Go.Proofs.YtdlnnjgjfngccaaW.PrintMore
attribute [local go_sem] max2_int min2_int max_two min_two max_three min_three max_four min_four   -- for this text's walks alone
set_option linter.unusedVariables false
set_option linter.unusedSimpArgs false

/-! ### laws_FnBridgeCount: function 19 -/
mutual
def laws_FnBridgeCount.j0 : Nat → List Int → Bool → Int → List (S73) → Option (Bool)
 | 0, _, _, _, _ => none
 | k + 1, x4, x23, x1276000, x1276001 => if x23 = true then ((spec_BridgeParts.f k x1276000 x1276001).bind fun t1284 => ((laws_loInts.f k x4 t1284).bind fun t1287 => (some t1287))) else (laws_FnBridgeCount.l0 k x4 0 0 x1276000 x1276001)
def laws_FnBridgeCount.l0 : Nat → List Int → Int → Int → Int → List (S73) → Option (Bool)
 | 0, _, _, _, _, _ => none
 | k + 1, x4, x5, x6, x1276000, x1276001 => if x6 < (x4.length : Int) then (if 0 ≤ x6 then (if (rd x4 x6) = x6 then (laws_FnBridgeCount.l0 k x4 (wrap64 (x5 + 1)) (wrap64 (x6 + 1)) x1276000 x1276001) else (laws_FnBridgeCount.l0 k x4 x5 (wrap64 (x6 + 1)) x1276000 x1276001)) else (none)) else ((impl_WayCount.f k x1276000 x1276001).bind fun t1289 => ((impl_BridgeList.f k x1276000 x1276001).bind fun t1290 => (some (x5 == (wrap64 (t1289 + (t1290.length : Int)))))))
end
def laws_FnBridgeCount.f (k : Nat) (l0 : List Int) : Option (Bool) := if (l0.length : Int) > 1048576 then (some true) else ((spec_DrawBridgeParts.f k l0).bind fun bt1271 => ((impl_BridgeParts.f k bt1271.1 bt1271.2).bind fun t1276 => ((spec_BridgeParts.f k bt1271.1 bt1271.2).bind fun t1279 => ((laws_loInts.f k t1276 t1279).bind fun t1282 => (if t1282 = true then ((spec_NetOk.f k bt1271.1 bt1271.2).bind fun t1283 => (laws_FnBridgeCount.j0 k t1276 (!t1283) bt1271.1 bt1271.2)) else (laws_FnBridgeCount.j0 k t1276 true bt1271.1 bt1271.2))))))
theorem laws_FnBridgeCount.mono_l : ∀ k, (∀ y0 y1 y2 y3, LeO (laws_FnBridgeCount.j0 k y0 y1 y2 y3) (laws_FnBridgeCount.j0 (k + 1) y0 y1 y2 y3)) ∧ (∀ y0 y1 y2 y3 y4, LeO (laws_FnBridgeCount.l0 k y0 y1 y2 y3 y4) (laws_FnBridgeCount.l0 (k + 1) y0 y1 y2 y3 y4))
 | 0 => ⟨fun _ _ _ _ r h => by simp [laws_FnBridgeCount.j0] at h, fun _ _ _ _ _ r h => by simp [laws_FnBridgeCount.l0] at h⟩
 | k + 1 => by
  obtain ⟨ih0, ih1⟩ := laws_FnBridgeCount.mono_l k
  refine ⟨?_, ?_⟩
  ·intro y0 y1 y2 y3
   unfold laws_FnBridgeCount.j0
   repeat' first
   | (with_reducible exact ih0 _ _ _ _)
   | (with_reducible exact ih1 _ _ _ _ _)
   | (with_reducible exact impl_BridgeList.mono _ _ _)
   | (with_reducible exact impl_BridgeParts.mono _ _ _)
   | (with_reducible exact impl_WayCount.mono _ _ _)
   | (with_reducible exact laws_loInts.mono _ _ _)
   | (with_reducible exact spec_BridgeParts.mono _ _ _)
   | (with_reducible exact spec_DrawBridgeParts.mono _ _)
   | (with_reducible exact spec_NetOk.mono _ _ _)
   | (with_reducible exact LeO.refl _)
   | (with_reducible exact LeO.none _)
   | (with_reducible refine LeO.ite ?_ ?_)
   | (with_reducible refine LeO.bind ?_ (fun _ => ?_))
   | exact ih0 _ _ _ _
   | exact ih1 _ _ _ _ _
   | exact impl_BridgeList.mono _ _ _
   | exact impl_BridgeParts.mono _ _ _
   | exact impl_WayCount.mono _ _ _
   | exact laws_loInts.mono _ _ _
   | exact spec_BridgeParts.mono _ _ _
   | exact spec_DrawBridgeParts.mono _ _
   | exact spec_NetOk.mono _ _ _
   | exact LeO.none _
   | refine LeO.ite ?_ ?_
   | refine LeO.bind ?_ (fun _ => ?_)
  ·intro y0 y1 y2 y3 y4
   unfold laws_FnBridgeCount.l0
   repeat' first
   | (with_reducible exact ih0 _ _ _ _)
   | (with_reducible exact ih1 _ _ _ _ _)
   | (with_reducible exact impl_BridgeList.mono _ _ _)
   | (with_reducible exact impl_BridgeParts.mono _ _ _)
   | (with_reducible exact impl_WayCount.mono _ _ _)
   | (with_reducible exact laws_loInts.mono _ _ _)
   | (with_reducible exact spec_BridgeParts.mono _ _ _)
   | (with_reducible exact spec_DrawBridgeParts.mono _ _)
   | (with_reducible exact spec_NetOk.mono _ _ _)
   | (with_reducible exact LeO.refl _)
   | (with_reducible exact LeO.none _)
   | (with_reducible refine LeO.ite ?_ ?_)
   | (with_reducible refine LeO.bind ?_ (fun _ => ?_))
   | exact ih0 _ _ _ _
   | exact ih1 _ _ _ _ _
   | exact impl_BridgeList.mono _ _ _
   | exact impl_BridgeParts.mono _ _ _
   | exact impl_WayCount.mono _ _ _
   | exact laws_loInts.mono _ _ _
   | exact spec_BridgeParts.mono _ _ _
   | exact spec_DrawBridgeParts.mono _ _
   | exact spec_NetOk.mono _ _ _
   | exact LeO.none _
   | refine LeO.ite ?_ ?_
   | refine LeO.bind ?_ (fun _ => ?_)
theorem laws_FnBridgeCount.mono : ∀ a0 k, LeO (laws_FnBridgeCount.f k a0) (laws_FnBridgeCount.f (k + 1) a0) := by
 intro a0 k
 obtain ⟨ih0, ih1⟩ := laws_FnBridgeCount.mono_l k
 unfold laws_FnBridgeCount.f
 repeat' first
   | (with_reducible exact ih0 _ _ _ _)
   | (with_reducible exact ih1 _ _ _ _ _)
   | (with_reducible exact impl_BridgeList.mono _ _ _)
   | (with_reducible exact impl_BridgeParts.mono _ _ _)
   | (with_reducible exact impl_WayCount.mono _ _ _)
   | (with_reducible exact laws_loInts.mono _ _ _)
   | (with_reducible exact spec_BridgeParts.mono _ _ _)
   | (with_reducible exact spec_DrawBridgeParts.mono _ _)
   | (with_reducible exact spec_NetOk.mono _ _ _)
   | (with_reducible exact LeO.refl _)
   | (with_reducible exact LeO.none _)
   | (with_reducible refine LeO.ite ?_ ?_)
   | (with_reducible refine LeO.bind ?_ (fun _ => ?_))
   | exact ih0 _ _ _ _
   | exact ih1 _ _ _ _ _
   | exact impl_BridgeList.mono _ _ _
   | exact impl_BridgeParts.mono _ _ _
   | exact impl_WayCount.mono _ _ _
   | exact laws_loInts.mono _ _ _
   | exact spec_BridgeParts.mono _ _ _
   | exact spec_DrawBridgeParts.mono _ _
   | exact spec_NetOk.mono _ _ _
   | exact LeO.none _
   | refine LeO.ite ?_ ?_
   | refine LeO.bind ?_ (fun _ => ?_)
def laws_FnBridgeCount.T13 : Bool × List (List Nat × List Nat) := (true, [([], []), ([], []), ([1], [1]), ([], []), ([3, 2], [3]), ([4], [4]), ([2, 5], [2, 5]), ([0, 6], [0, 6]), ([7, 4, 0, 1, 2, 3, 4, 5, 6, 7], [7])])
def laws_FnBridgeCount.B13 : List Nat := [0, 0, 2, 0, 14, 30, 62, 127, 255]
theorem laws_FnBridgeCount.tab13 : rtab .any (opsOf Try.f19 13) = laws_FnBridgeCount.T13 := by kernel_rfl
theorem laws_FnBridgeCount.bits13 : waitsOk laws_FnBridgeCount.T13.2 laws_FnBridgeCount.B13 = true := by kernel_rfl
set_option maxHeartbeats 8000000 in
set_option maxRecDepth 100000 in
theorem laws_FnBridgeCount.calls (k : Nat) (A0 : Option Addr) (c0 : Nat) (l0 : List Int) (r : Bool) (w : World) (hr0 : Kd.C (Kd.int .u8) w A0 l0.length l0) (hc0 : l0.length ≤ c0) (hrt : Aside0 (r = true)) (h : laws_FnBridgeCount.f k l0 = some r) :
  Calls Try.prog 19 #[.slice A0 l0.length c0] w fun e w' => e = .returned (.bool r) ∧ Below w.heap.size w w' := by
 have hu34 := Try.underlying34
 have HR0 := Aside0.mk hr0
 have HC0 := Aside0.mk hc0
 clear hr0 hc0
 have HB := Aside0.mk (Below.refl w.heap.size w)
 have H : (if (l0.length : Int) > 1048576 then (some true) else ((spec_DrawBridgeParts.f k l0).bind fun bt1271 => ((impl_BridgeParts.f k bt1271.1 bt1271.2).bind fun t1276 => ((spec_BridgeParts.f k bt1271.1 bt1271.2).bind fun t1279 => ((laws_loInts.f k t1276 t1279).bind fun t1282 => (if t1282 = true then ((spec_NetOk.f k bt1271.1 bt1271.2).bind fun t1283 => (laws_FnBridgeCount.j0 k t1276 (!t1283) bt1271.1 bt1271.2)) else (laws_FnBridgeCount.j0 k t1276 true bt1271.1 bt1271.2))))))) = some r := h
 clear h
 by_cases c2 : (l0.length : Int) > 1048576
 ·rw [if_pos c2] at H
  have c2b0 := decide_eq_true c2
  have c2b1 : decide (1048576 < l0.length) = true := decide_eq_true (by omega)
  clear c2
  obtain rfl := Option.some.inj H
  go_enter Try.func19, Try.ntmps19
  go_wp2
  go_ret
  exact ⟨by first | rfl | (simp [errW_none, errW_some] <;> rfl) | (simp [*, errW_none, errW_some] <;> rfl), bn HB⟩
 ·rw [if_neg c2] at H
  have c2b0 := decide_eq_false c2
  have c2b1 : decide (1048576 < l0.length) = false := decide_eq_false (by omega)
  clear c2
  replace H := Option.bind_eq_some_iff.mp H
  obtain ⟨⟨t1271, t1272⟩, A30, H⟩ := H
  (try dsimp only at H)
  have A3 := Aside0.mk A30
  clear A30
  replace H := Option.bind_eq_some_iff.mp H
  obtain ⟨t1276, A40, H⟩ := H
  (try dsimp only at H)
  have A4 := Aside0.mk A40
  clear A40
  have HC5 := Aside0.mk H
  clear H
  go_enter Try.func19, Try.ntmps19
  go_upto_region 5 with (first | ((with_reducible refine gate_callee (f := 73) rfl ?_); refine gl_ (some 11) Try.func73 #[.slice A0 l0.length c0] ?_; (with_reducible refine (spec_DrawBridgeParts.calls k _ _ l0 t1271 t1272 _ ?side1 ?side2 A3.out).mono ?_); (case side1 => repeat (first | exact HR0.out | (with_reducible refine Kd.C_alloc ?_ _) | (with_reducible refine Kd.C_drewN ?_ _) | (with_reducible refine Kd.C_drew ?_))); (case side2 => exact HC0.out); rintro e w6 ⟨v1273, rfl, ho0, hb⟩; refine ⟨_, rfl, ?_⟩; have n0_ := Aside0.mk (Kd.R_lower ho0 (below_size (bn HB))); have n1_ := Aside0.mk (below_step (bn HB) hb); clear HB; have HO1274 := n0_; have HB := n1_; clear n0_ n1_; (try clear hb); (try clear ho0)) | ((with_reducible refine gate_dst (N := 3) rfl ?_); refine box_event ?hg (N := 3) ?hd (cs := #[.int .i64 0, .slice none 0 0]) (t := 34) ?hr ?_; (case hd => rfl); (case hg => rfl); (case hr => first | (go_simp; done) | (go_simp; rfl)); intro gb1275 hg w7 hbox hb; have n0_ := Aside0.mk (Kd.R_below (onR HO1274) hb); have n1_ := Aside0.mk (below_step (bn HB) hb); have n2_ := Aside0.mk (hbox); have n3_ := Aside0.mk ((by rw [hg]; exact (below_size (bn HB)) : w.heap.size ≤ gb1275)); have n4_ := Aside0.mk ((by rw [hg]; exact (below_size (bn HB)) : w.heap.size ≤ gb1275)); clear HO1274; clear HB; have HO1274 := n0_; have HB := n1_; have BK1275 := n2_; have GW1275 := n3_; have GE1275 := n4_; clear n0_ n1_ n2_ n3_ n4_; clear hb hbox hg; have hcz8_0 := bc BK1275 0; have hcz8_1 := bc BK1275 1; have hfz8_0 := blk_frozen BK1275.out 0; have hfz8_1 := blk_frozen BK1275.out 1; obtain ⟨Ao9, co9, eo9⟩ := Kd.R_slice HO1274.out; subst eo9) | ((with_reducible refine gate_callee (f := 74) rfl ?_); refine gl_ (some 13) Try.func74 #[.agg #[.int .i64 t1271, .slice Ao9 t1272.length co9]] ?_; (with_reducible refine (impl_BridgeParts.calls k t1271 _ _ t1272 t1276 _ ?side1 ?side2 A4.out).mono ?_); (case side1 => refine (Kd.R_reads' (e := 73) (base := w.heap.size) (ok := fun k_ => True) (n := t1272.length) (c := co9) ?_).2.2; exact (by (with_reducible repeat (first | apply Kd.R_alloc | apply Kd.R_drewN | apply Kd.R_drew)); exact (Kd.R_mono (Kd.R_far (p := ⟨gb1275, 1, none⟩) (Kd.R_far (p := ⟨gb1275, 0, none⟩) (Kd.R_types HO1274.out BK1275.out (by decide)) (fun _ hk => hk.2) (.int .i64 t1271)) (fun _ hk => hk.2) (.slice Ao9 t1272.length co9)) (fun _ h_ => h_.1)))); (case side2 => exact (Kd.R_reads' HO1274.out).2.1); rintro e w10 ⟨v1277, rfl, ho0, hb⟩; refine ⟨_, rfl, ?_⟩; have n0_ := Aside0.mk (Kd.R_below (by (with_reducible repeat (first | apply Kd.R_alloc | apply Kd.R_drewN | apply Kd.R_drew)); exact (Kd.R_mono (Kd.R_far (p := ⟨gb1275, 1, none⟩) (Kd.R_far (p := ⟨gb1275, 0, none⟩) (Kd.R_types HO1274.out BK1275.out (by decide)) (fun _ hk => hk.2) (.int .i64 t1271)) (fun _ hk => hk.2) (.slice Ao9 t1272.length co9)) (fun _ h_ => h_.1))) hb); have n1_ := Aside0.mk (Kd.R_lower ho0 (below_size (bn HB))); have n2_ := Aside0.mk (blk_below (g := gb1275) (o := .cells #[.int .i64 t1271, .slice Ao9 t1272.length co9] 34 (0, 0)) (by (with_reducible repeat (first | refine blk_drewN ?_ _ | refine blk_drew ?_ | refine blk_alloc ?_ _)); refine blk_put (cs := #[.int .i64 t1271, .slice none 0 0]) ?_ 1 _ rfl; (with_reducible repeat (first | refine blk_drewN ?_ _ | refine blk_drew ?_ | refine blk_alloc ?_ _)); refine blk_put (cs := #[.int .i64 0, .slice none 0 0]) ?_ 0 _ rfl; (with_reducible repeat (first | refine blk_drewN ?_ _ | refine blk_drew ?_ | refine blk_alloc ?_ _)); exact BK1275.out) hb); have n3_ := Aside0.mk (below_step (bn HB) hb); clear HO1274; clear BK1275; clear HB; have HO1274 := n0_; have HO1278 := n1_; have BK1275 := n2_; have HB := n3_; clear n0_ n1_ n2_ n3_; (try clear hb); (try clear ho0)))
  (try simp only [Act.put, List.setIfInBounds_toArray, List.set_cons_zero, List.set_cons_succ])
  go_cut [23] (fun v23 wc => ∃ (kq : Nat) (x23_4 : Bool), v23 = .bool x23_4 ∧ Aside0 (laws_FnBridgeCount.j0 kq t1276 x23_4 t1271 t1272 = some r) ∧ Aside0 (kq ≤ k) ∧ Aside0 (Kd.R (Kd.int .i64) 3 wc w.heap.size (fun _ => True) v1277 t1276) ∧ Aside0 (Kd.R k73 73 wc w.heap.size (fun _ => True) (.slice Ao9 t1272.length co9) t1272) ∧ Aside0 (wc.heap[gb1275]? = some (.cells #[.int .i64 t1271, (.slice Ao9 t1272.length co9)] 34 (0, 0))) ∧ Aside0 (Below w.heap.size w wc))
  case first =>
   have H := HC5.out
   clear HC5
   replace H := Option.bind_eq_some_iff.mp H
   obtain ⟨t1279, A110, H⟩ := H
   (try dsimp only at H)
   have A11 := Aside0.mk A110
   clear A110
   replace H := Option.bind_eq_some_iff.mp H
   obtain ⟨t1282, A120, H⟩ := H
   (try dsimp only at H)
   have A12 := Aside0.mk A120
   clear A120
   by_cases c13 : t1282 = true
   ·subst c13
    rw [if_pos rfl] at H
    replace H := Option.bind_eq_some_iff.mp H
    obtain ⟨t1283, A140, H⟩ := H
    (try dsimp only at H)
    have A14 := Aside0.mk A140
    clear A140
    have H' := Aside0.mk H
    clear H
    have hcz15_0 := bc BK1275 0
    have hcz15_1 := bc BK1275 1
    have hfz15_0 := blk_frozen BK1275.out 0
    have hfz15_1 := blk_frozen BK1275.out 1
    go_wp2_with (first | ((with_reducible refine gate_callee (f := 75) rfl ?_); refine gl_ (some 16) Try.func75 #[.agg #[.int .i64 t1271, .slice Ao9 t1272.length co9]] ?_; (with_reducible refine (spec_BridgeParts.calls k t1271 _ _ t1272 t1279 _ ?side1 ?side2 A11.out).mono ?_); (case side1 => repeat (first | exact (Kd.R_reads' HO1274.out).2.2 | (with_reducible refine Kd.C_alloc ?_ _) | (with_reducible refine Kd.C_drewN ?_ _) | (with_reducible refine Kd.C_drew ?_))); (case side2 => exact (Kd.R_reads' HO1274.out).2.1); rintro e w16 ⟨v1280, rfl, ho0, hb⟩; refine ⟨_, rfl, ?_⟩; have n0_ := Aside0.mk (Kd.R_below (onR HO1274) hb); have n1_ := Aside0.mk (Kd.R_elder' (onR HO1278) (Kd.R_base ho0) hb); have n2_ := Aside0.mk (Kd.R_lower (Kd.R_new' ho0 (Kd.R_lt (onR HO1278))) (below_size (bn HB))); have n3_ := Aside0.mk (blk_below (bkn BK1275) hb); have n4_ := Aside0.mk (below_step (bn HB) hb); clear HO1274; clear HO1278; clear BK1275; clear HB; have HO1274 := n0_; have HO1278 := n1_; have HO1281 := n2_; have BK1275 := n3_; have HB := n4_; clear n0_ n1_ n2_ n3_ n4_; (try clear hb); (try clear ho0); obtain ⟨Ao17, co17, eo17⟩ := Kd.R_slice HO1278.out; subst eo17; obtain ⟨Ao18, co18, eo18⟩ := Kd.R_slice HO1281.out; subst eo18) | ((with_reducible refine gate_callee (f := 65) rfl ?_); refine gl_ (some 17) Try.func65 #[.slice Ao17 t1276.length co17, .slice Ao18 t1279.length co18] ?_; (with_reducible refine (laws_loInts.calls k _ _ t1276 _ _ t1279 true _ ?side1 ?side2 ?side3 ?side4 A12.out).mono ?_); (case side1 => repeat (first | exact (Kd.R_reads' HO1278.out).2.2 | (with_reducible refine Kd.C_alloc ?_ _) | (with_reducible refine Kd.C_drewN ?_ _) | (with_reducible refine Kd.C_drew ?_))); (case side2 => exact (Kd.R_reads' HO1278.out).2.1); (case side3 => repeat (first | exact (Kd.R_reads' HO1281.out).2.2 | (with_reducible refine Kd.C_alloc ?_ _) | (with_reducible refine Kd.C_drewN ?_ _) | (with_reducible refine Kd.C_drew ?_))); (case side4 => exact (Kd.R_reads' HO1281.out).2.1); rintro e w' ⟨rfl, ⟨nd, rfl⟩⟩; refine ⟨_, rfl, ?_⟩; have hcz19_0 := bc BK1275 0; have hcz19_1 := bc BK1275 1; have hfz19_0 := blk_frozen BK1275.out 0; have hfz19_1 := blk_frozen BK1275.out 1) | (go_at_call 66; (with_reducible refine (spec_NetOk.calls k t1271 _ _ t1272 t1283 _ ?side1 ?side2 A14.out).mono ?_); (case side1 => repeat (first | exact (Kd.R_reads' HO1274.out).2.2 | (with_reducible refine Kd.C_alloc ?_ _) | (with_reducible refine Kd.C_drewN ?_ _) | (with_reducible refine Kd.C_drew ?_))); (case side2 => exact (Kd.R_reads' HO1274.out).2.1); rintro e w20 ⟨rfl, hb⟩; have n0_ := Aside0.mk (Kd.R_below (onR HO1274) hb); have n1_ := Aside0.mk (Kd.R_below (onR HO1278) hb); have n2_ := Aside0.mk (Kd.R_below (onR HO1281) hb); have n3_ := Aside0.mk (blk_below (bkn BK1275) hb); have n4_ := Aside0.mk (below_step (bn HB) hb); clear HO1274; clear HO1278; clear HO1281; clear BK1275; clear HB; have HO1274 := n0_; have HO1278 := n1_; have HO1281 := n2_; have BK1275 := n3_; have HB := n4_; clear n0_ n1_ n2_ n3_ n4_; (try clear hb); (try clear hi)))
    go_meet
    case rel => exact ⟨_, (!t1283), (by first | rfl | (simp; done) | (simp [*]; done)), H', ⟨by first | omega | exact Nat.le_refl _⟩, ⟨by (with_reducible repeat (first | apply Kd.R_alloc | apply Kd.R_drewN | apply Kd.R_drew)); exact Kd.R_mono HO1278.out (fun _ hk => trivial)⟩, ⟨onR HO1274⟩, ⟨bkn BK1275⟩, ⟨bn HB⟩⟩
   ·replace c13 := Bool.eq_false_iff.mpr c13
    subst c13
    rw [if_neg (show ¬ (false = true) by decide)] at H
    have H' := Aside0.mk H
    clear H
    have hcz21_0 := bc BK1275 0
    have hcz21_1 := bc BK1275 1
    have hfz21_0 := blk_frozen BK1275.out 0
    have hfz21_1 := blk_frozen BK1275.out 1
    go_wp2_with (first | ((with_reducible refine gate_callee (f := 75) rfl ?_); refine gl_ (some 16) Try.func75 #[.agg #[.int .i64 t1271, .slice Ao9 t1272.length co9]] ?_; (with_reducible refine (spec_BridgeParts.calls k t1271 _ _ t1272 t1279 _ ?side1 ?side2 A11.out).mono ?_); (case side1 => repeat (first | exact (Kd.R_reads' HO1274.out).2.2 | (with_reducible refine Kd.C_alloc ?_ _) | (with_reducible refine Kd.C_drewN ?_ _) | (with_reducible refine Kd.C_drew ?_))); (case side2 => exact (Kd.R_reads' HO1274.out).2.1); rintro e w22 ⟨v1280, rfl, ho0, hb⟩; refine ⟨_, rfl, ?_⟩; have n0_ := Aside0.mk (Kd.R_below (onR HO1274) hb); have n1_ := Aside0.mk (Kd.R_elder' (onR HO1278) (Kd.R_base ho0) hb); have n2_ := Aside0.mk (Kd.R_lower (Kd.R_new' ho0 (Kd.R_lt (onR HO1278))) (below_size (bn HB))); have n3_ := Aside0.mk (blk_below (bkn BK1275) hb); have n4_ := Aside0.mk (below_step (bn HB) hb); clear HO1274; clear HO1278; clear BK1275; clear HB; have HO1274 := n0_; have HO1278 := n1_; have HO1281 := n2_; have BK1275 := n3_; have HB := n4_; clear n0_ n1_ n2_ n3_ n4_; (try clear hb); (try clear ho0); obtain ⟨Ao23, co23, eo23⟩ := Kd.R_slice HO1278.out; subst eo23; obtain ⟨Ao24, co24, eo24⟩ := Kd.R_slice HO1281.out; subst eo24) | ((with_reducible refine gate_callee (f := 65) rfl ?_); refine gl_ (some 17) Try.func65 #[.slice Ao23 t1276.length co23, .slice Ao24 t1279.length co24] ?_; (with_reducible refine (laws_loInts.calls k _ _ t1276 _ _ t1279 false _ ?side1 ?side2 ?side3 ?side4 A12.out).mono ?_); (case side1 => repeat (first | exact (Kd.R_reads' HO1278.out).2.2 | (with_reducible refine Kd.C_alloc ?_ _) | (with_reducible refine Kd.C_drewN ?_ _) | (with_reducible refine Kd.C_drew ?_))); (case side2 => exact (Kd.R_reads' HO1278.out).2.1); (case side3 => repeat (first | exact (Kd.R_reads' HO1281.out).2.2 | (with_reducible refine Kd.C_alloc ?_ _) | (with_reducible refine Kd.C_drewN ?_ _) | (with_reducible refine Kd.C_drew ?_))); (case side4 => exact (Kd.R_reads' HO1281.out).2.1); rintro e w' ⟨rfl, ⟨nd, rfl⟩⟩; refine ⟨_, rfl, ?_⟩))
    go_meet
    case rel => exact ⟨_, (true), (by first | rfl | (simp; done) | (simp [*]; done)), H', ⟨by first | omega | exact Nat.le_refl _⟩, ⟨by (with_reducible repeat (first | apply Kd.R_alloc | apply Kd.R_drewN | apply Kd.R_drew)); exact Kd.R_mono HO1278.out (fun _ hk => trivial)⟩, ⟨onR HO1274⟩, ⟨bkn BK1275⟩, ⟨bn HB⟩⟩
  case rest =>
   clear HC5
   try clear c1
   try clear c2
   try clear c2b0
   try clear c2b1
   try clear p2
   try clear c6
   try clear c7
   try clear c13
   try clear c19
   try clear hcz15_0
   try clear hcz15_1
   try clear hcz19_0
   try clear hcz19_1
   try clear hcz21_0
   try clear hcz21_1
   try clear hcz8_0
   try clear hcz8_1
   try clear hfz15_0
   try clear hfz15_1
   try clear hfz19_0
   try clear hfz19_1
   try clear hfz21_0
   try clear hfz21_1
   try clear hfz8_0
   try clear hfz8_1
   obtain ⟨kq, x23_4, rfl, HA, HJ4, HO_4, HO_1276001, BK1275, HB⟩ := hcut
   cases kq with
   | zero => exact absurd HA.out (by simp [laws_FnBridgeCount.j0])
   | succ kj4 =>
    have H := HA.out
    clear HA
    simp only [laws_FnBridgeCount.j0] at H
    by_cases c25 : x23_4 = true
    ·subst c25
     rw [if_pos rfl] at H
     replace H := Option.bind_eq_some_iff.mp H
     obtain ⟨t1284, A260, H⟩ := H
     (try dsimp only at H)
     have A26 := Aside0.mk A260
     clear A260
     replace H := Option.bind_eq_some_iff.mp H
     obtain ⟨t1287, A270, H⟩ := H
     (try dsimp only at H)
     have A27 := Aside0.mk A270
     clear A270
     obtain rfl := Option.some.inj H
     have hcz28_0 := bc BK1275 0
     have hcz28_1 := bc BK1275 1
     have hfz28_0 := blk_frozen BK1275.out 0
     have hfz28_1 := blk_frozen BK1275.out 1
     go_wp2_with (first | ((with_reducible refine gate_callee (f := 75) rfl ?_); refine gl_ (some 26) Try.func75 #[.agg #[.int .i64 t1271, .slice Ao9 t1272.length co9]] ?_; (with_reducible refine (spec_BridgeParts.calls kj4 t1271 _ _ t1272 t1284 _ ?side1 ?side2 A26.out).mono ?_); (case side1 => repeat (first | exact (Kd.R_reads' HO_1276001.out).2.2 | (with_reducible refine Kd.C_alloc ?_ _) | (with_reducible refine Kd.C_drewN ?_ _) | (with_reducible refine Kd.C_drew ?_))); (case side2 => exact (Kd.R_reads' HO_1276001.out).2.1); rintro e w29 ⟨v1285, rfl, ho0, hb⟩; refine ⟨_, rfl, ?_⟩; have n0_ := Aside0.mk (Kd.R_elder' (onR HO_4) (Kd.R_base ho0) hb); have n1_ := Aside0.mk (Kd.R_below (onR HO_1276001) hb); have n2_ := Aside0.mk (Kd.R_lower (Kd.R_new' ho0 (Kd.R_lt (onR HO_4))) (below_size (bn HB))); have n3_ := Aside0.mk (blk_below (bkn BK1275) hb); have n4_ := Aside0.mk (below_step (bn HB) hb); clear HO_4; clear HO_1276001; clear BK1275; clear HB; have HO_4 := n0_; have HO_1276001 := n1_; have HO1286 := n2_; have BK1275 := n3_; have HB := n4_; clear n0_ n1_ n2_ n3_ n4_; (try clear hb); (try clear ho0); obtain ⟨Ao30, co30, eo30⟩ := Kd.R_slice HO_4.out; subst eo30; obtain ⟨Ao31, co31, eo31⟩ := Kd.R_slice HO1286.out; subst eo31) | ((with_reducible refine gate_callee (f := 65) rfl ?_); refine gl_ (some 27) Try.func65 #[.slice Ao30 t1276.length co30, .slice Ao31 t1284.length co31] ?_; (with_reducible refine (laws_loInts.calls kj4 _ _ t1276 _ _ t1284 t1287 _ ?side1 ?side2 ?side3 ?side4 A27.out).mono ?_); (case side1 => repeat (first | exact (Kd.R_reads' HO_4.out).2.2 | (with_reducible refine Kd.C_alloc ?_ _) | (with_reducible refine Kd.C_drewN ?_ _) | (with_reducible refine Kd.C_drew ?_))); (case side2 => exact (Kd.R_reads' HO_4.out).2.1); (case side3 => repeat (first | exact (Kd.R_reads' HO1286.out).2.2 | (with_reducible refine Kd.C_alloc ?_ _) | (with_reducible refine Kd.C_drewN ?_ _) | (with_reducible refine Kd.C_drew ?_))); (case side4 => exact (Kd.R_reads' HO1286.out).2.1); rintro e w' ⟨rfl, ⟨nd, rfl⟩⟩; refine ⟨_, rfl, ?_⟩))
     go_ret
     exact ⟨by first | rfl | (simp [errW_none, errW_some] <;> rfl) | (simp [*, errW_none, errW_some] <;> rfl), bn HB⟩
    ·replace c25 := Bool.eq_false_iff.mpr c25
     subst c25
     rw [if_neg (show ¬ (false = true) by decide)] at H
     have H' := Aside0.mk H
     clear H
     go_wp2
     go_loopg [5, 6] kj4 (fun kq v5 v6 w' => ∃ (x5_2 : Int) (x6_2 : Int), v5 = .int .i64 x5_2 ∧ v6 = .int .i64 x6_2 ∧ Aside0 (laws_FnBridgeCount.l0 kq t1276 x5_2 x6_2 t1271 t1272 = some r) ∧ Aside0 (kq ≤ kj4) ∧ Aside0 (Kd.R (Kd.int .i64) 3 w' w.heap.size (fun _ => True) v1277 t1276) ∧ Aside0 (Kd.R k73 73 w' w.heap.size (fun _ => True) (.slice Ao9 t1272.length co9) t1272) ∧ Aside0 (w'.heap[gb1275]? = some (.cells #[.int .i64 t1271, (.slice Ao9 t1272.length co9)] 34 (0, 0))) ∧ Aside0 (Below w.heap.size w w'))
     case atStart => exact ⟨(0), (0), (by first | rfl | (simp; done) | (simp [*]; done)), (by first | rfl | (simp; done) | (simp [*]; done)), H', ⟨Nat.le_refl _⟩, ⟨onR HO_4⟩, ⟨onR HO_1276001⟩, ⟨bkn BK1275⟩, ⟨bn HB⟩⟩
     case round =>
      clear H'
      try clear c1
      try clear c2
      try clear c2b0
      try clear c2b1
      try clear p2
      try clear c6
      try clear c7
      try clear c13
      try clear c19
      try clear c25
      try clear hcz15_0
      try clear hcz15_1
      try clear hcz19_0
      try clear hcz19_1
      try clear hcz21_0
      try clear hcz21_1
      try clear hcz28_0
      try clear hcz28_1
      try clear hcz8_0
      try clear hcz8_1
      try clear hfz15_0
      try clear hfz15_1
      try clear hfz19_0
      try clear hfz19_1
      try clear hfz21_0
      try clear hfz21_1
      try clear hfz28_0
      try clear hfz28_1
      try clear hfz8_0
      try clear hfz8_1
      try clear p2
      obtain ⟨x5_2, x6_2, rfl, rfl, HA, HK2, HO_4, HO_1276001, BK1275, HB⟩ := hrel
      cases gk with
      | zero => exact absurd HA.out (by simp [laws_FnBridgeCount.l0])
      | succ k2 =>
       have H := HA.out
       clear HA
       simp only [laws_FnBridgeCount.l0] at H
       by_cases c32 : x6_2 < (t1276.length : Int)
       ·rw [if_pos c32] at H
        have c32b0 := decide_eq_true c32
        clear c32
        by_cases c33 : 0 ≤ x6_2
        ·rw [if_pos c33] at H
         have c33b0 := decide_eq_true c33
         clear c33
         by_cases c34 : (rd t1276 x6_2) = x6_2
         ·rw [if_pos c34] at H
          have c34b0 : ((rd t1276 x6_2) == x6_2) = true := beq_iff_eq.mpr c34
          have c34b1 : ((rd t1276 x6_2) != x6_2) = false := bne_eq_false_iff_eq.mpr c34
          clear c34
          have H' := Aside0.mk H
          clear H
          obtain ⟨Ao35, co35, eo35⟩ := Kd.R_slice HO_4.out
          subst eo35
          have p1288 : 0 ≤ (x6_2 : Int) := oa
          have q1288 : x6_2 < (t1276.length : Int) := oa
          obtain ⟨ad1288, e1288, hx1288_0⟩ := Kd.at_int (Kd.R_reads' HO_4.out).2.2 x6_2 p1288 q1288
          cases e1288
          replace p1288 := eq_true p1288
          replace q1288 := eq_true q1288
          go_wp2
          go_roundg k2
          case measure => have := HJ4.out; have := HK2.out; omega
          case rel => exact ⟨(wrap64 (x5_2 + 1)), (wrap64 (x6_2 + 1)), (by first | rfl | (simp; done) | (simp [*]; done)), (by first | rfl | (simp; done) | (simp [*]; done)), H', ⟨by have := HJ4.out; have := HK2.out; omega⟩, ⟨onR HO_4⟩, ⟨onR HO_1276001⟩, ⟨bkn BK1275⟩, ⟨bn HB⟩⟩
         ·rw [if_neg c34] at H
          have c34b0 : ((rd t1276 x6_2) == x6_2) = false := beq_eq_false_iff_ne.mpr c34
          have c34b1 : ((rd t1276 x6_2) != x6_2) = true := bne_iff_ne.mpr c34
          have H' := Aside0.mk H
          clear H
          obtain ⟨Ao36, co36, eo36⟩ := Kd.R_slice HO_4.out
          subst eo36
          have p1288 : 0 ≤ (x6_2 : Int) := oa
          have q1288 : x6_2 < (t1276.length : Int) := oa
          obtain ⟨ad1288, e1288, hx1288_0⟩ := Kd.at_int (Kd.R_reads' HO_4.out).2.2 x6_2 p1288 q1288
          cases e1288
          replace p1288 := eq_true p1288
          replace q1288 := eq_true q1288
          go_wp2
          go_roundg k2
          case measure => have := HJ4.out; have := HK2.out; omega
          case rel => exact ⟨(x5_2), (wrap64 (x6_2 + 1)), (by first | rfl | (simp; done) | (simp [*]; done)), (by first | rfl | (simp; done) | (simp [*]; done)), H', ⟨by have := HJ4.out; have := HK2.out; omega⟩, ⟨onR HO_4⟩, ⟨onR HO_1276001⟩, ⟨bkn BK1275⟩, ⟨bn HB⟩⟩
        ·rw [if_neg c33] at H
         exact absurd H (by simp)
       ·rw [if_neg c32] at H
        have c32b0 := decide_eq_false c32
        clear c32
        replace H := Option.bind_eq_some_iff.mp H
        obtain ⟨t1289, A370, H⟩ := H
        (try dsimp only at H)
        have A37 := Aside0.mk A370
        clear A370
        replace H := Option.bind_eq_some_iff.mp H
        obtain ⟨t1290, A380, H⟩ := H
        (try dsimp only at H)
        have A38 := Aside0.mk A380
        clear A380
        obtain rfl := Option.some.inj H
        obtain ⟨Ao39, co39, eo39⟩ := Kd.R_slice HO_4.out
        subst eo39
        try go_wp2
        have n0_ := Aside0.mk (Kd.R_drew HO_4.out)
        have n1_ := Aside0.mk (Kd.R_drew HO_1276001.out)
        have n2_ := Aside0.mk (blk_drew BK1275.out)
        have n3_ := Aside0.mk (below_drew1 HB.out)
        clear HO_4 HO_1276001 BK1275 HB
        have HO_4 := n0_
        have HO_1276001 := n1_
        have BK1275 := n2_
        have HB := n3_
        clear n0_ n1_ n2_ n3_
        refine start_ (n := 9) (S := fun w' => w'.cell? ⟨gb1275, 0, none⟩ = some (.int .i64 t1271) ∧ w'.cell? ⟨gb1275, 1, none⟩ = some (.slice Ao9 t1272.length co9)) (ds := []) #[false, false, false, false, false, false, false, false, false] (by kernel_rfl) rfl rfl ⟨(blk_cell BK1275.out 0).trans rfl, (blk_cell BK1275.out 1).trans rfl⟩ (fun hHeld => ?_); refine with_tabW laws_FnBridgeCount.tab13 laws_FnBridgeCount.bits13 (fun HT_ HW_ => ?_)
        generalize wr.drew = w40 at HO_4 HO_1276001 BK1275 HB hHeld ⊢
        refine pz_ 0 (some 42) HT_ ?_
        refine tz_ 1 (some 43) HT_ HW_ hHeld ?_
        refine tz_ 3 (some 45) HT_ HW_ hHeld ?_
        refine one_ (i := 2) (N := some 44) #[true, true, true, true, false, false, false, false, false] rfl rfl (one_of HT_.out (by kernel_rfl)) (by decide) (fun K hK => ?_)
        refine gg_ Try.func62 #[.agg #[.int .i64 t1271, .slice Ao9 t1272.length co9]] ?_
        with_reducible refine (impl_WayCount.calls k2 t1271 _ _ t1272 t1289 _ ?side1 ?side2 A37.out).mono ?_
        (case side1 => repeat (first | exact (Kd.R_reads' HO_1276001.out).2.2 | (with_reducible refine Kd.C_alloc ?_ _) | (with_reducible refine Kd.C_drewN ?_ _) | (with_reducible refine Kd.C_drew ?_)))
        (case side2 => exact (Kd.R_reads' HO_1276001.out).2.1)
        rintro e w41 ⟨rfl, hb⟩
        refine ⟨_, rfl, ?_⟩
        have n0_ := Aside0.mk (Kd.R_below (onR HO_4) hb)
        have n1_ := Aside0.mk (Kd.R_below (onR HO_1276001) hb)
        have n2_ := Aside0.mk (blk_below (bkn BK1275) hb)
        have n3_ := Aside0.mk (below_step (bn HB) hb)
        clear HO_4 HO_1276001 BK1275 HB
        have HO_4 := n0_
        have HO_1276001 := n1_
        have BK1275 := n2_
        have HB := n3_
        clear n0_ n1_ n2_ n3_
        (try clear hb)
        (try clear hb2)
        (try clear hk)
        (try clear hi)
        refine hK.out _ _ ⟨(blk_cell BK1275.out 0).trans rfl, (blk_cell BK1275.out 1).trans rfl⟩ (fun hHeld => ?_)
        clear hK K
        refine norm_ (a' := ?_) ?_ ?_
        rotate_left
        ·show Act.put _ (some 44) _ = _
         simp only [Act.put, List.setIfInBounds_toArray, List.set_cons_zero, List.set_cons_succ, i64_w, i32_w]
         rfl
        refine one_ (i := 4) (N := some 46) #[true, true, true, true, true, false, false, false, false] rfl rfl (one_of HT_.out (by kernel_rfl)) (by decide) (fun K hK => ?_)
        refine gg_ Try.func63 #[.agg #[.int .i64 t1271, .slice Ao9 t1272.length co9]] ?_
        with_reducible refine (impl_BridgeList.calls k2 t1271 _ _ t1272 t1290 _ ?side1 ?side2 A38.out).mono ?_
        (case side1 => repeat (first | exact (Kd.R_reads' HO_1276001.out).2.2 | (with_reducible refine Kd.C_alloc ?_ _) | (with_reducible refine Kd.C_drewN ?_ _) | (with_reducible refine Kd.C_drew ?_)))
        (case side2 => exact (Kd.R_reads' HO_1276001.out).2.1)
        rintro e w42 ⟨v1291, rfl, ho0, hb⟩
        refine ⟨_, rfl, ?_⟩
        have n0_ := Aside0.mk (Kd.R_below (onR HO_4) hb)
        have n1_ := Aside0.mk (Kd.R_elder' (onR HO_1276001) (Kd.R_base ho0) hb)
        have n2_ := Aside0.mk (Kd.R_lower (Kd.R_new' ho0 (Kd.R_lt (onR HO_1276001))) (below_size (bn HB)))
        have n3_ := Aside0.mk (blk_below (bkn BK1275) hb)
        have n4_ := Aside0.mk (below_step (bn HB) hb)
        clear HO_4 HO_1276001 BK1275 HB
        have HO_4 := n0_
        have HO_1276001 := n1_
        have HO1292 := n2_
        have BK1275 := n3_
        have HB := n4_
        clear n0_ n1_ n2_ n3_ n4_
        (try clear hb)
        (try clear hb2)
        (try clear hk)
        (try clear hi)
        (try clear ho0)
        obtain ⟨Ao43, co43, eo43⟩ := Kd.R_slice HO1292.out
        (first | subst eo43 | (injection eo43 with f1_ f2_ f3_; have f4_ := f1_.symm; have f5_ := f3_.symm; clear f1_ f2_ f3_; subst f4_; subst f5_))
        refine hK.out _ _ ⟨(blk_cell BK1275.out 0).trans rfl, (blk_cell BK1275.out 1).trans rfl⟩ (fun hHeld => ?_)
        clear hK K
        refine norm_ (a' := ?_) ?_ ?_
        rotate_left
        ·show Act.put _ (some 46) _ = _
         simp only [Act.put, List.setIfInBounds_toArray, List.set_cons_zero, List.set_cons_succ, i64_w, i32_w]
         rfl
        refine pz_ 5 (some 47) HT_ ?_
        refine pz_ 6 (some 48) HT_ ?_
        refine pz_ 7 (some 49) HT_ ?_
        refine pz_ 8 (some 2) HT_ ?_
        refine done_ (done_of HT_.out (by kernel_rfl)) ?_
        try go_wp2
        go_ret
        exact ⟨by first | rfl | (simp [errW_none, errW_some] <;> rfl) | (simp [*, errW_none, errW_some] <;> rfl), bn HB⟩

/-- what is to be proved of laws_FnBridgeCount, without Go -/
def laws_FnBridgeCount.Pure : Prop := ∀ (l0 : List Int), (l0.length ≤ maxLen ∧ ∀ l0_ ∈ l0, ((Lit.int .u8 l0_).wf = true)) → ∃ k, laws_FnBridgeCount.f k l0 = some true

end Go.Proofs.Ytdlnnjgjfngccaa.F
