-- Written by oprint.py (wip/tools) over the kit's print program, for this seat.
import Derived.Test.YtdlnnjgjfngccaaF0
import Derived.Test.YtdlnnjgjfngccaaF14
import Derived.Test.YtdlnnjgjfngccaaF60
import Derived.Test.YtdlnnjgjfngccaaF63
import Derived.Test.YtdlnnjgjfngccaaF70
import Derived.Test.YtdlnnjgjfngccaaF71
import Derived.Test.YtdlnnjgjfngccaaF72
namespace Go.Proofs.Ytdlnnjgjfngccaa.F
open Go.RowKit Go.Proofs.YtdlnnjgjfngccaaW.PrintWords Go.Proofs.YtdlnnjgjfngccaaW.PrintLast Go.Proofs.YtdlnnjgjfngccaaW.PrintMore
attribute [local go_sem] max2_int min2_int max_two min_two max_three min_three max_four min_four   -- for this text's walks alone
set_option linter.unusedVariables false
set_option linter.unusedSimpArgs false

/-! ### laws_FnBlockCuts: function 16 -/
mutual
def laws_FnBlockCuts.j0 : Nat → List Int → Bool → Int → List (S73) → Option (Bool)
 | 0, _, _, _, _ => none
 | k + 1, x4, x26, x1083000, x1083001 => if x26 = true then ((spec_BlockCuts.f k x1083000 x1083001).bind fun t1091 => ((laws_loInts.f k x4 t1091).bind fun t1094 => (some t1094))) else (laws_FnBlockCuts.l0 k x4 0 x1083000 x1083001)
def laws_FnBlockCuts.l0 : Nat → List Int → Int → Int → List (S73) → Option (Bool)
 | 0, _, _, _, _ => none
 | k + 1, x4, x5, x1083000, x1083001 => if x5 < x1083000 then ((impl_NetWithout.f k x1083000 x1083001 x5).bind fun bt1095 => (laws_FnBlockCuts.l1 k x4 x5 false 0 x1083000 x1083001 bt1095.1 bt1095.2)) else (some true)
def laws_FnBlockCuts.l1 : Nat → List Int → Int → Bool → Int → Int → List (S73) → Int → List (S73) → Option (Bool)
 | 0, _, _, _, _, _, _, _, _ => none
 | k + 1, x4, x5, x7, x8, x1083000, x1083001, x1100000, x1100001 => if x8 < x1083000 then (laws_FnBlockCuts.l2 k x4 x5 x7 x8 0 x1083000 x1083001 x1100000 x1100001) else ((laws_loIn.f k x4 x5).bind fun t1100 => (if (t1100 != x7) = true then (some false) else (laws_FnBlockCuts.l0 k x4 (wrap64 (x5 + 1)) x1083000 x1083001)))
def laws_FnBlockCuts.l2 : Nat → List Int → Int → Bool → Int → Int → Int → List (S73) → Int → List (S73) → Option (Bool)
 | 0, _, _, _, _, _, _, _, _, _ => none
 | k + 1, x4, x5, x7, x8, x9, x1083000, x1083001, x1100000, x1100001 => if x9 < x8 then (if x8 = x5 then (laws_FnBlockCuts.l2 k x4 x5 x7 x8 (wrap64 (x9 + 1)) x1083000 x1083001 x1100000 x1100001) else (if x9 = x5 then (laws_FnBlockCuts.l2 k x4 x5 x7 x8 (wrap64 (x9 + 1)) x1083000 x1083001 x1100000 x1100001) else ((impl_WayReach.f k x1083000 x1083001 x8).bind fun t1101 => (if 0 ≤ x9 then (if x9 < (t1101.length : Int) then (if rdOf false t1101 x9 = true then ((impl_WayReach.f k x1100000 x1100001 x8).bind fun t1105 => (if x9 < (t1105.length : Int) then (if rdOf false t1105 x9 = true then (laws_FnBlockCuts.l2 k x4 x5 x7 x8 (wrap64 (x9 + 1)) x1083000 x1083001 x1100000 x1100001) else (laws_FnBlockCuts.l2 k x4 x5 true x8 (wrap64 (x9 + 1)) x1083000 x1083001 x1100000 x1100001)) else (none))) else (laws_FnBlockCuts.l2 k x4 x5 x7 x8 (wrap64 (x9 + 1)) x1083000 x1083001 x1100000 x1100001)) else (none)) else (none))))) else (laws_FnBlockCuts.l1 k x4 x5 x7 (wrap64 (x8 + 1)) x1083000 x1083001 x1100000 x1100001)
end
def laws_FnBlockCuts.f (k : Nat) (l0 : List Int) : Option (Bool) := if (l0.length : Int) > 1048576 then (some true) else ((spec_DrawBlockCuts.f k l0).bind fun bt1078 => ((impl_BlockCuts.f k bt1078.1 bt1078.2).bind fun t1083 => ((spec_BlockCuts.f k bt1078.1 bt1078.2).bind fun t1086 => ((laws_loInts.f k t1083 t1086).bind fun t1089 => (if t1089 = true then ((spec_NetOk.f k bt1078.1 bt1078.2).bind fun t1090 => (laws_FnBlockCuts.j0 k t1083 (!t1090) bt1078.1 bt1078.2)) else (laws_FnBlockCuts.j0 k t1083 true bt1078.1 bt1078.2))))))
theorem laws_FnBlockCuts.mono_l : ∀ k, (∀ y0 y1 y2 y3, LeO (laws_FnBlockCuts.j0 k y0 y1 y2 y3) (laws_FnBlockCuts.j0 (k + 1) y0 y1 y2 y3)) ∧ (∀ y0 y1 y2 y3, LeO (laws_FnBlockCuts.l0 k y0 y1 y2 y3) (laws_FnBlockCuts.l0 (k + 1) y0 y1 y2 y3)) ∧ (∀ y0 y1 y2 y3 y4 y5 y6 y7, LeO (laws_FnBlockCuts.l1 k y0 y1 y2 y3 y4 y5 y6 y7) (laws_FnBlockCuts.l1 (k + 1) y0 y1 y2 y3 y4 y5 y6 y7)) ∧ (∀ y0 y1 y2 y3 y4 y5 y6 y7 y8, LeO (laws_FnBlockCuts.l2 k y0 y1 y2 y3 y4 y5 y6 y7 y8) (laws_FnBlockCuts.l2 (k + 1) y0 y1 y2 y3 y4 y5 y6 y7 y8))
 | 0 => ⟨fun _ _ _ _ r h => by simp [laws_FnBlockCuts.j0] at h, fun _ _ _ _ r h => by simp [laws_FnBlockCuts.l0] at h, fun _ _ _ _ _ _ _ _ r h => by simp [laws_FnBlockCuts.l1] at h, fun _ _ _ _ _ _ _ _ _ r h => by simp [laws_FnBlockCuts.l2] at h⟩
 | k + 1 => by
  obtain ⟨ih0, ih1, ih2, ih3⟩ := laws_FnBlockCuts.mono_l k
  refine ⟨?_, ?_, ?_, ?_⟩
  ·intro y0 y1 y2 y3
   unfold laws_FnBlockCuts.j0
   repeat' first
   | (with_reducible exact ih0 _ _ _ _)
   | (with_reducible exact ih1 _ _ _ _)
   | (with_reducible exact ih2 _ _ _ _ _ _ _ _)
   | (with_reducible exact ih3 _ _ _ _ _ _ _ _ _)
   | (with_reducible exact impl_BlockCuts.mono _ _ _)
   | (with_reducible exact impl_NetWithout.mono _ _ _ _)
   | (with_reducible exact impl_WayReach.mono _ _ _ _)
   | (with_reducible exact laws_loIn.mono _ _ _)
   | (with_reducible exact laws_loInts.mono _ _ _)
   | (with_reducible exact spec_BlockCuts.mono _ _ _)
   | (with_reducible exact spec_DrawBlockCuts.mono _ _)
   | (with_reducible exact spec_NetOk.mono _ _ _)
   | (with_reducible exact LeO.refl _)
   | (with_reducible exact LeO.none _)
   | (with_reducible refine LeO.ite ?_ ?_)
   | (with_reducible refine LeO.bind ?_ (fun _ => ?_))
   | exact ih0 _ _ _ _
   | exact ih1 _ _ _ _
   | exact ih2 _ _ _ _ _ _ _ _
   | exact ih3 _ _ _ _ _ _ _ _ _
   | exact impl_BlockCuts.mono _ _ _
   | exact impl_NetWithout.mono _ _ _ _
   | exact impl_WayReach.mono _ _ _ _
   | exact laws_loIn.mono _ _ _
   | exact laws_loInts.mono _ _ _
   | exact spec_BlockCuts.mono _ _ _
   | exact spec_DrawBlockCuts.mono _ _
   | exact spec_NetOk.mono _ _ _
   | exact LeO.none _
   | refine LeO.ite ?_ ?_
   | refine LeO.bind ?_ (fun _ => ?_)
  ·intro y0 y1 y2 y3
   unfold laws_FnBlockCuts.l0
   repeat' first
   | (with_reducible exact ih0 _ _ _ _)
   | (with_reducible exact ih1 _ _ _ _)
   | (with_reducible exact ih2 _ _ _ _ _ _ _ _)
   | (with_reducible exact ih3 _ _ _ _ _ _ _ _ _)
   | (with_reducible exact impl_BlockCuts.mono _ _ _)
   | (with_reducible exact impl_NetWithout.mono _ _ _ _)
   | (with_reducible exact impl_WayReach.mono _ _ _ _)
   | (with_reducible exact laws_loIn.mono _ _ _)
   | (with_reducible exact laws_loInts.mono _ _ _)
   | (with_reducible exact spec_BlockCuts.mono _ _ _)
   | (with_reducible exact spec_DrawBlockCuts.mono _ _)
   | (with_reducible exact spec_NetOk.mono _ _ _)
   | (with_reducible exact LeO.refl _)
   | (with_reducible exact LeO.none _)
   | (with_reducible refine LeO.ite ?_ ?_)
   | (with_reducible refine LeO.bind ?_ (fun _ => ?_))
   | exact ih0 _ _ _ _
   | exact ih1 _ _ _ _
   | exact ih2 _ _ _ _ _ _ _ _
   | exact ih3 _ _ _ _ _ _ _ _ _
   | exact impl_BlockCuts.mono _ _ _
   | exact impl_NetWithout.mono _ _ _ _
   | exact impl_WayReach.mono _ _ _ _
   | exact laws_loIn.mono _ _ _
   | exact laws_loInts.mono _ _ _
   | exact spec_BlockCuts.mono _ _ _
   | exact spec_DrawBlockCuts.mono _ _
   | exact spec_NetOk.mono _ _ _
   | exact LeO.none _
   | refine LeO.ite ?_ ?_
   | refine LeO.bind ?_ (fun _ => ?_)
  ·intro y0 y1 y2 y3 y4 y5 y6 y7
   unfold laws_FnBlockCuts.l1
   repeat' first
   | (with_reducible exact ih0 _ _ _ _)
   | (with_reducible exact ih1 _ _ _ _)
   | (with_reducible exact ih2 _ _ _ _ _ _ _ _)
   | (with_reducible exact ih3 _ _ _ _ _ _ _ _ _)
   | (with_reducible exact impl_BlockCuts.mono _ _ _)
   | (with_reducible exact impl_NetWithout.mono _ _ _ _)
   | (with_reducible exact impl_WayReach.mono _ _ _ _)
   | (with_reducible exact laws_loIn.mono _ _ _)
   | (with_reducible exact laws_loInts.mono _ _ _)
   | (with_reducible exact spec_BlockCuts.mono _ _ _)
   | (with_reducible exact spec_DrawBlockCuts.mono _ _)
   | (with_reducible exact spec_NetOk.mono _ _ _)
   | (with_reducible exact LeO.refl _)
   | (with_reducible exact LeO.none _)
   | (with_reducible refine LeO.ite ?_ ?_)
   | (with_reducible refine LeO.bind ?_ (fun _ => ?_))
   | exact ih0 _ _ _ _
   | exact ih1 _ _ _ _
   | exact ih2 _ _ _ _ _ _ _ _
   | exact ih3 _ _ _ _ _ _ _ _ _
   | exact impl_BlockCuts.mono _ _ _
   | exact impl_NetWithout.mono _ _ _ _
   | exact impl_WayReach.mono _ _ _ _
   | exact laws_loIn.mono _ _ _
   | exact laws_loInts.mono _ _ _
   | exact spec_BlockCuts.mono _ _ _
   | exact spec_DrawBlockCuts.mono _ _
   | exact spec_NetOk.mono _ _ _
   | exact LeO.none _
   | refine LeO.ite ?_ ?_
   | refine LeO.bind ?_ (fun _ => ?_)
  ·intro y0 y1 y2 y3 y4 y5 y6 y7 y8
   unfold laws_FnBlockCuts.l2
   repeat' first
   | (with_reducible exact ih0 _ _ _ _)
   | (with_reducible exact ih1 _ _ _ _)
   | (with_reducible exact ih2 _ _ _ _ _ _ _ _)
   | (with_reducible exact ih3 _ _ _ _ _ _ _ _ _)
   | (with_reducible exact impl_BlockCuts.mono _ _ _)
   | (with_reducible exact impl_NetWithout.mono _ _ _ _)
   | (with_reducible exact impl_WayReach.mono _ _ _ _)
   | (with_reducible exact laws_loIn.mono _ _ _)
   | (with_reducible exact laws_loInts.mono _ _ _)
   | (with_reducible exact spec_BlockCuts.mono _ _ _)
   | (with_reducible exact spec_DrawBlockCuts.mono _ _)
   | (with_reducible exact spec_NetOk.mono _ _ _)
   | (with_reducible exact LeO.refl _)
   | (with_reducible exact LeO.none _)
   | (with_reducible refine LeO.ite ?_ ?_)
   | (with_reducible refine LeO.bind ?_ (fun _ => ?_))
   | exact ih0 _ _ _ _
   | exact ih1 _ _ _ _
   | exact ih2 _ _ _ _ _ _ _ _
   | exact ih3 _ _ _ _ _ _ _ _ _
   | exact impl_BlockCuts.mono _ _ _
   | exact impl_NetWithout.mono _ _ _ _
   | exact impl_WayReach.mono _ _ _ _
   | exact laws_loIn.mono _ _ _
   | exact laws_loInts.mono _ _ _
   | exact spec_BlockCuts.mono _ _ _
   | exact spec_DrawBlockCuts.mono _ _
   | exact spec_NetOk.mono _ _ _
   | exact LeO.none _
   | refine LeO.ite ?_ ?_
   | refine LeO.bind ?_ (fun _ => ?_)
theorem laws_FnBlockCuts.mono : ∀ a0 k, LeO (laws_FnBlockCuts.f k a0) (laws_FnBlockCuts.f (k + 1) a0) := by
 intro a0 k
 obtain ⟨ih0, ih1, ih2, ih3⟩ := laws_FnBlockCuts.mono_l k
 unfold laws_FnBlockCuts.f
 repeat' first
   | (with_reducible exact ih0 _ _ _ _)
   | (with_reducible exact ih1 _ _ _ _)
   | (with_reducible exact ih2 _ _ _ _ _ _ _ _)
   | (with_reducible exact ih3 _ _ _ _ _ _ _ _ _)
   | (with_reducible exact impl_BlockCuts.mono _ _ _)
   | (with_reducible exact impl_NetWithout.mono _ _ _ _)
   | (with_reducible exact impl_WayReach.mono _ _ _ _)
   | (with_reducible exact laws_loIn.mono _ _ _)
   | (with_reducible exact laws_loInts.mono _ _ _)
   | (with_reducible exact spec_BlockCuts.mono _ _ _)
   | (with_reducible exact spec_DrawBlockCuts.mono _ _)
   | (with_reducible exact spec_NetOk.mono _ _ _)
   | (with_reducible exact LeO.refl _)
   | (with_reducible exact LeO.none _)
   | (with_reducible refine LeO.ite ?_ ?_)
   | (with_reducible refine LeO.bind ?_ (fun _ => ?_))
   | exact ih0 _ _ _ _
   | exact ih1 _ _ _ _
   | exact ih2 _ _ _ _ _ _ _ _
   | exact ih3 _ _ _ _ _ _ _ _ _
   | exact impl_BlockCuts.mono _ _ _
   | exact impl_NetWithout.mono _ _ _ _
   | exact impl_WayReach.mono _ _ _ _
   | exact laws_loIn.mono _ _ _
   | exact laws_loInts.mono _ _ _
   | exact spec_BlockCuts.mono _ _ _
   | exact spec_DrawBlockCuts.mono _ _
   | exact spec_NetOk.mono _ _ _
   | exact LeO.none _
   | refine LeO.ite ?_ ?_
   | refine LeO.bind ?_ (fun _ => ?_)
set_option maxHeartbeats 8000000 in
set_option maxRecDepth 100000 in
theorem laws_FnBlockCuts.calls (k : Nat) (A0 : Option Addr) (c0 : Nat) (l0 : List Int) (r : Bool) (w : World) (hr0 : Kd.C (Kd.int .u8) w A0 l0.length l0) (hc0 : l0.length ≤ c0) (hrt : Aside0 (r = true)) (h : laws_FnBlockCuts.f k l0 = some r) :
  Calls Try.prog 16 #[.slice A0 l0.length c0] w fun e w' => e = .returned (.bool r) ∧ Below w.heap.size w w' := by
 have hu34 := Try.underlying34
 have HR0 := Aside0.mk hr0
 have HC0 := Aside0.mk hc0
 clear hr0 hc0
 have HB := Aside0.mk (Below.refl w.heap.size w)
 have H : (if (l0.length : Int) > 1048576 then (some true) else ((spec_DrawBlockCuts.f k l0).bind fun bt1078 => ((impl_BlockCuts.f k bt1078.1 bt1078.2).bind fun t1083 => ((spec_BlockCuts.f k bt1078.1 bt1078.2).bind fun t1086 => ((laws_loInts.f k t1083 t1086).bind fun t1089 => (if t1089 = true then ((spec_NetOk.f k bt1078.1 bt1078.2).bind fun t1090 => (laws_FnBlockCuts.j0 k t1083 (!t1090) bt1078.1 bt1078.2)) else (laws_FnBlockCuts.j0 k t1083 true bt1078.1 bt1078.2))))))) = some r := h
 clear h
 by_cases c2 : (l0.length : Int) > 1048576
 ·rw [if_pos c2] at H
  have c2b0 := decide_eq_true c2
  have c2b1 : decide (1048576 < l0.length) = true := decide_eq_true (by omega)
  clear c2
  obtain rfl := Option.some.inj H
  go_enter Try.func16, Try.ntmps16
  go_wp2
  go_ret
  exact ⟨by first | rfl | (simp [errW_none, errW_some] <;> rfl) | (simp [*, errW_none, errW_some] <;> rfl), bn HB⟩
 ·rw [if_neg c2] at H
  have c2b0 := decide_eq_false c2
  have c2b1 : decide (1048576 < l0.length) = false := decide_eq_false (by omega)
  clear c2
  replace H := Option.bind_eq_some_iff.mp H
  obtain ⟨⟨t1078, t1079⟩, A30, H⟩ := H
  (try dsimp only at H)
  have A3 := Aside0.mk A30
  clear A30
  replace H := Option.bind_eq_some_iff.mp H
  obtain ⟨t1083, A40, H⟩ := H
  (try dsimp only at H)
  have A4 := Aside0.mk A40
  clear A40
  have HC5 := Aside0.mk H
  clear H
  go_enter Try.func16, Try.ntmps16
  go_upto_region 5 with (first | ((with_reducible refine gate_callee (f := 64) rfl ?_); refine gl_ (some 14) Try.func64 #[.slice A0 l0.length c0] ?_; (with_reducible refine (spec_DrawBlockCuts.calls k _ _ l0 t1078 t1079 _ ?side1 ?side2 A3.out).mono ?_); (case side1 => repeat (first | exact HR0.out | (with_reducible refine Kd.C_alloc ?_ _) | (with_reducible refine Kd.C_drewN ?_ _) | (with_reducible refine Kd.C_drew ?_))); (case side2 => exact HC0.out); rintro e w6 ⟨v1080, rfl, ho0, hb⟩; refine ⟨_, rfl, ?_⟩; have n0_ := Aside0.mk (Kd.R_lower ho0 (below_size (bn HB))); have n1_ := Aside0.mk (below_step (bn HB) hb); clear HB; have HO1081 := n0_; have HB := n1_; clear n0_ n1_; (try clear hb); (try clear ho0)) | ((with_reducible refine gate_dst (N := 3) rfl ?_); refine box_event ?hg (N := 3) ?hd (cs := #[.int .i64 0, .slice none 0 0]) (t := 34) ?hr ?_; (case hd => rfl); (case hg => rfl); (case hr => first | (go_simp; done) | (go_simp; rfl)); intro gb1082 hg w7 hbox hb; have n0_ := Aside0.mk (Kd.R_below (onR HO1081) hb); have n1_ := Aside0.mk (below_step (bn HB) hb); have n2_ := Aside0.mk (hbox); have n3_ := Aside0.mk ((by rw [hg]; exact (below_size (bn HB)) : w.heap.size ≤ gb1082)); have n4_ := Aside0.mk ((by rw [hg]; exact (below_size (bn HB)) : w.heap.size ≤ gb1082)); clear HO1081; clear HB; have HO1081 := n0_; have HB := n1_; have BK1082 := n2_; have GW1082 := n3_; have GE1082 := n4_; clear n0_ n1_ n2_ n3_ n4_; clear hb hbox hg; have hcz8_0 := bc BK1082 0; have hcz8_1 := bc BK1082 1; have hfz8_0 := blk_frozen BK1082.out 0; have hfz8_1 := blk_frozen BK1082.out 1; obtain ⟨Ao9, co9, eo9⟩ := Kd.R_slice HO1081.out; subst eo9) | ((with_reducible refine gate_callee (f := 59) rfl ?_); refine gl_ (some 16) Try.func59 #[.agg #[.int .i64 t1078, .slice Ao9 t1079.length co9]] ?_; (with_reducible refine (impl_BlockCuts.calls k t1078 _ _ t1079 t1083 _ ?side1 ?side2 A4.out).mono ?_); (case side1 => refine (Kd.R_reads' (e := 73) (base := w.heap.size) (ok := fun k_ => True) (n := t1079.length) (c := co9) ?_).2.2; exact (by (with_reducible repeat (first | apply Kd.R_alloc | apply Kd.R_drewN | apply Kd.R_drew)); exact (Kd.R_mono (Kd.R_far (p := ⟨gb1082, 1, none⟩) (Kd.R_far (p := ⟨gb1082, 0, none⟩) (Kd.R_types HO1081.out BK1082.out (by decide)) (fun _ hk => hk.2) (.int .i64 t1078)) (fun _ hk => hk.2) (.slice Ao9 t1079.length co9)) (fun _ h_ => h_.1)))); (case side2 => exact (Kd.R_reads' HO1081.out).2.1); rintro e w10 ⟨v1084, rfl, ho0, hb⟩; refine ⟨_, rfl, ?_⟩; have n0_ := Aside0.mk (Kd.R_below (by (with_reducible repeat (first | apply Kd.R_alloc | apply Kd.R_drewN | apply Kd.R_drew)); exact (Kd.R_mono (Kd.R_far (p := ⟨gb1082, 1, none⟩) (Kd.R_far (p := ⟨gb1082, 0, none⟩) (Kd.R_types HO1081.out BK1082.out (by decide)) (fun _ hk => hk.2) (.int .i64 t1078)) (fun _ hk => hk.2) (.slice Ao9 t1079.length co9)) (fun _ h_ => h_.1))) hb); have n1_ := Aside0.mk (Kd.R_lower ho0 (below_size (bn HB))); have n2_ := Aside0.mk (blk_below (g := gb1082) (o := .cells #[.int .i64 t1078, .slice Ao9 t1079.length co9] 34 (0, 0)) (by (with_reducible repeat (first | refine blk_drewN ?_ _ | refine blk_drew ?_ | refine blk_alloc ?_ _)); refine blk_put (cs := #[.int .i64 t1078, .slice none 0 0]) ?_ 1 _ rfl; (with_reducible repeat (first | refine blk_drewN ?_ _ | refine blk_drew ?_ | refine blk_alloc ?_ _)); refine blk_put (cs := #[.int .i64 0, .slice none 0 0]) ?_ 0 _ rfl; (with_reducible repeat (first | refine blk_drewN ?_ _ | refine blk_drew ?_ | refine blk_alloc ?_ _)); exact BK1082.out) hb); have n3_ := Aside0.mk (below_step (bn HB) hb); clear HO1081; clear BK1082; clear HB; have HO1081 := n0_; have HO1085 := n1_; have BK1082 := n2_; have HB := n3_; clear n0_ n1_ n2_ n3_; (try clear hb); (try clear ho0)))
  (try simp only [Act.put, List.setIfInBounds_toArray, List.set_cons_zero, List.set_cons_succ])
  go_cut [26] (fun v26 wc => ∃ (kq : Nat) (x26_4 : Bool), v26 = .bool x26_4 ∧ Aside0 (laws_FnBlockCuts.j0 kq t1083 x26_4 t1078 t1079 = some r) ∧ Aside0 (kq ≤ k) ∧ Aside0 (Kd.R (Kd.int .i64) 3 wc w.heap.size (fun _ => True) v1084 t1083) ∧ Aside0 (Kd.R k73 73 wc w.heap.size (fun _ => True) (.slice Ao9 t1079.length co9) t1079) ∧ Aside0 (wc.heap[gb1082]? = some (.cells #[.int .i64 t1078, (.slice Ao9 t1079.length co9)] 34 (0, 0))) ∧ Aside0 (Below w.heap.size w wc))
  case first =>
   have H := HC5.out
   clear HC5
   replace H := Option.bind_eq_some_iff.mp H
   obtain ⟨t1086, A110, H⟩ := H
   (try dsimp only at H)
   have A11 := Aside0.mk A110
   clear A110
   replace H := Option.bind_eq_some_iff.mp H
   obtain ⟨t1089, A120, H⟩ := H
   (try dsimp only at H)
   have A12 := Aside0.mk A120
   clear A120
   by_cases c13 : t1089 = true
   ·subst c13
    rw [if_pos rfl] at H
    replace H := Option.bind_eq_some_iff.mp H
    obtain ⟨t1090, A140, H⟩ := H
    (try dsimp only at H)
    have A14 := Aside0.mk A140
    clear A140
    have H' := Aside0.mk H
    clear H
    have hcz15_0 := bc BK1082 0
    have hcz15_1 := bc BK1082 1
    have hfz15_0 := blk_frozen BK1082.out 0
    have hfz15_1 := blk_frozen BK1082.out 1
    go_wp2_with (first | ((with_reducible refine gate_callee (f := 58) rfl ?_); refine gl_ (some 19) Try.func58 #[.agg #[.int .i64 t1078, .slice Ao9 t1079.length co9]] ?_; (with_reducible refine (spec_BlockCuts.calls k t1078 _ _ t1079 t1086 _ ?side1 ?side2 A11.out).mono ?_); (case side1 => repeat (first | exact (Kd.R_reads' HO1081.out).2.2 | (with_reducible refine Kd.C_alloc ?_ _) | (with_reducible refine Kd.C_drewN ?_ _) | (with_reducible refine Kd.C_drew ?_))); (case side2 => exact (Kd.R_reads' HO1081.out).2.1); rintro e w16 ⟨v1087, rfl, ho0, hb⟩; refine ⟨_, rfl, ?_⟩; have n0_ := Aside0.mk (Kd.R_below (onR HO1081) hb); have n1_ := Aside0.mk (Kd.R_elder' (onR HO1085) (Kd.R_base ho0) hb); have n2_ := Aside0.mk (Kd.R_lower (Kd.R_new' ho0 (Kd.R_lt (onR HO1085))) (below_size (bn HB))); have n3_ := Aside0.mk (blk_below (bkn BK1082) hb); have n4_ := Aside0.mk (below_step (bn HB) hb); clear HO1081; clear HO1085; clear BK1082; clear HB; have HO1081 := n0_; have HO1085 := n1_; have HO1088 := n2_; have BK1082 := n3_; have HB := n4_; clear n0_ n1_ n2_ n3_ n4_; (try clear hb); (try clear ho0); obtain ⟨Ao17, co17, eo17⟩ := Kd.R_slice HO1085.out; subst eo17; obtain ⟨Ao18, co18, eo18⟩ := Kd.R_slice HO1088.out; subst eo18) | ((with_reducible refine gate_callee (f := 65) rfl ?_); refine gl_ (some 20) Try.func65 #[.slice Ao17 t1083.length co17, .slice Ao18 t1086.length co18] ?_; (with_reducible refine (laws_loInts.calls k _ _ t1083 _ _ t1086 true _ ?side1 ?side2 ?side3 ?side4 A12.out).mono ?_); (case side1 => repeat (first | exact (Kd.R_reads' HO1085.out).2.2 | (with_reducible refine Kd.C_alloc ?_ _) | (with_reducible refine Kd.C_drewN ?_ _) | (with_reducible refine Kd.C_drew ?_))); (case side2 => exact (Kd.R_reads' HO1085.out).2.1); (case side3 => repeat (first | exact (Kd.R_reads' HO1088.out).2.2 | (with_reducible refine Kd.C_alloc ?_ _) | (with_reducible refine Kd.C_drewN ?_ _) | (with_reducible refine Kd.C_drew ?_))); (case side4 => exact (Kd.R_reads' HO1088.out).2.1); rintro e w' ⟨rfl, ⟨nd, rfl⟩⟩; refine ⟨_, rfl, ?_⟩; have hcz19_0 := bc BK1082 0; have hcz19_1 := bc BK1082 1; have hfz19_0 := blk_frozen BK1082.out 0; have hfz19_1 := blk_frozen BK1082.out 1) | (go_at_call 66; (with_reducible refine (spec_NetOk.calls k t1078 _ _ t1079 t1090 _ ?side1 ?side2 A14.out).mono ?_); (case side1 => repeat (first | exact (Kd.R_reads' HO1081.out).2.2 | (with_reducible refine Kd.C_alloc ?_ _) | (with_reducible refine Kd.C_drewN ?_ _) | (with_reducible refine Kd.C_drew ?_))); (case side2 => exact (Kd.R_reads' HO1081.out).2.1); rintro e w20 ⟨rfl, hb⟩; have n0_ := Aside0.mk (Kd.R_below (onR HO1081) hb); have n1_ := Aside0.mk (Kd.R_below (onR HO1085) hb); have n2_ := Aside0.mk (Kd.R_below (onR HO1088) hb); have n3_ := Aside0.mk (blk_below (bkn BK1082) hb); have n4_ := Aside0.mk (below_step (bn HB) hb); clear HO1081; clear HO1085; clear HO1088; clear BK1082; clear HB; have HO1081 := n0_; have HO1085 := n1_; have HO1088 := n2_; have BK1082 := n3_; have HB := n4_; clear n0_ n1_ n2_ n3_ n4_; (try clear hb); (try clear hi)))
    go_meet
    case rel => exact ⟨_, (!t1090), (by first | rfl | (simp; done) | (simp [*]; done)), H', ⟨by first | omega | exact Nat.le_refl _⟩, ⟨by (with_reducible repeat (first | apply Kd.R_alloc | apply Kd.R_drewN | apply Kd.R_drew)); exact Kd.R_mono HO1085.out (fun _ hk => trivial)⟩, ⟨onR HO1081⟩, ⟨bkn BK1082⟩, ⟨bn HB⟩⟩
   ·replace c13 := Bool.eq_false_iff.mpr c13
    subst c13
    rw [if_neg (show ¬ (false = true) by decide)] at H
    have H' := Aside0.mk H
    clear H
    have hcz21_0 := bc BK1082 0
    have hcz21_1 := bc BK1082 1
    have hfz21_0 := blk_frozen BK1082.out 0
    have hfz21_1 := blk_frozen BK1082.out 1
    go_wp2_with (first | ((with_reducible refine gate_callee (f := 58) rfl ?_); refine gl_ (some 19) Try.func58 #[.agg #[.int .i64 t1078, .slice Ao9 t1079.length co9]] ?_; (with_reducible refine (spec_BlockCuts.calls k t1078 _ _ t1079 t1086 _ ?side1 ?side2 A11.out).mono ?_); (case side1 => repeat (first | exact (Kd.R_reads' HO1081.out).2.2 | (with_reducible refine Kd.C_alloc ?_ _) | (with_reducible refine Kd.C_drewN ?_ _) | (with_reducible refine Kd.C_drew ?_))); (case side2 => exact (Kd.R_reads' HO1081.out).2.1); rintro e w22 ⟨v1087, rfl, ho0, hb⟩; refine ⟨_, rfl, ?_⟩; have n0_ := Aside0.mk (Kd.R_below (onR HO1081) hb); have n1_ := Aside0.mk (Kd.R_elder' (onR HO1085) (Kd.R_base ho0) hb); have n2_ := Aside0.mk (Kd.R_lower (Kd.R_new' ho0 (Kd.R_lt (onR HO1085))) (below_size (bn HB))); have n3_ := Aside0.mk (blk_below (bkn BK1082) hb); have n4_ := Aside0.mk (below_step (bn HB) hb); clear HO1081; clear HO1085; clear BK1082; clear HB; have HO1081 := n0_; have HO1085 := n1_; have HO1088 := n2_; have BK1082 := n3_; have HB := n4_; clear n0_ n1_ n2_ n3_ n4_; (try clear hb); (try clear ho0); obtain ⟨Ao23, co23, eo23⟩ := Kd.R_slice HO1085.out; subst eo23; obtain ⟨Ao24, co24, eo24⟩ := Kd.R_slice HO1088.out; subst eo24) | ((with_reducible refine gate_callee (f := 65) rfl ?_); refine gl_ (some 20) Try.func65 #[.slice Ao23 t1083.length co23, .slice Ao24 t1086.length co24] ?_; (with_reducible refine (laws_loInts.calls k _ _ t1083 _ _ t1086 false _ ?side1 ?side2 ?side3 ?side4 A12.out).mono ?_); (case side1 => repeat (first | exact (Kd.R_reads' HO1085.out).2.2 | (with_reducible refine Kd.C_alloc ?_ _) | (with_reducible refine Kd.C_drewN ?_ _) | (with_reducible refine Kd.C_drew ?_))); (case side2 => exact (Kd.R_reads' HO1085.out).2.1); (case side3 => repeat (first | exact (Kd.R_reads' HO1088.out).2.2 | (with_reducible refine Kd.C_alloc ?_ _) | (with_reducible refine Kd.C_drewN ?_ _) | (with_reducible refine Kd.C_drew ?_))); (case side4 => exact (Kd.R_reads' HO1088.out).2.1); rintro e w' ⟨rfl, ⟨nd, rfl⟩⟩; refine ⟨_, rfl, ?_⟩))
    go_meet
    case rel => exact ⟨_, (true), (by first | rfl | (simp; done) | (simp [*]; done)), H', ⟨by first | omega | exact Nat.le_refl _⟩, ⟨by (with_reducible repeat (first | apply Kd.R_alloc | apply Kd.R_drewN | apply Kd.R_drew)); exact Kd.R_mono HO1085.out (fun _ hk => trivial)⟩, ⟨onR HO1081⟩, ⟨bkn BK1082⟩, ⟨bn HB⟩⟩
  case rest =>
   clear HC5
   try clear c1
   try clear c2
   try clear c2b0
   try clear c2b1
   try clear p2
   try clear c5
   try clear c6
   try clear c13
   try clear c16
   try clear hcz15_0
   try clear hcz15_1
   try clear hcz19_0
   try clear hcz19_1
   try clear hcz21_0
   try clear hcz21_1
   try clear hcz8_0
   try clear hcz8_1
   try clear hfz15_0
   try clear hfz15_1
   try clear hfz19_0
   try clear hfz19_1
   try clear hfz21_0
   try clear hfz21_1
   try clear hfz8_0
   try clear hfz8_1
   obtain ⟨kq, x26_4, rfl, HA, HJ4, HO_4, HO_1083001, BK1082, HB⟩ := hcut
   cases kq with
   | zero => exact absurd HA.out (by simp [laws_FnBlockCuts.j0])
   | succ kj4 =>
    have H := HA.out
    clear HA
    simp only [laws_FnBlockCuts.j0] at H
    by_cases c25 : x26_4 = true
    ·subst c25
     rw [if_pos rfl] at H
     replace H := Option.bind_eq_some_iff.mp H
     obtain ⟨t1091, A260, H⟩ := H
     (try dsimp only at H)
     have A26 := Aside0.mk A260
     clear A260
     replace H := Option.bind_eq_some_iff.mp H
     obtain ⟨t1094, A270, H⟩ := H
     (try dsimp only at H)
     have A27 := Aside0.mk A270
     clear A270
     obtain rfl := Option.some.inj H
     have hcz28_0 := bc BK1082 0
     have hcz28_1 := bc BK1082 1
     have hfz28_0 := blk_frozen BK1082.out 0
     have hfz28_1 := blk_frozen BK1082.out 1
     go_wp2_with (first | ((with_reducible refine gate_callee (f := 58) rfl ?_); refine gl_ (some 29) Try.func58 #[.agg #[.int .i64 t1078, .slice Ao9 t1079.length co9]] ?_; (with_reducible refine (spec_BlockCuts.calls kj4 t1078 _ _ t1079 t1091 _ ?side1 ?side2 A26.out).mono ?_); (case side1 => repeat (first | exact (Kd.R_reads' HO_1083001.out).2.2 | (with_reducible refine Kd.C_alloc ?_ _) | (with_reducible refine Kd.C_drewN ?_ _) | (with_reducible refine Kd.C_drew ?_))); (case side2 => exact (Kd.R_reads' HO_1083001.out).2.1); rintro e w29 ⟨v1092, rfl, ho0, hb⟩; refine ⟨_, rfl, ?_⟩; have n0_ := Aside0.mk (Kd.R_elder' (onR HO_4) (Kd.R_base ho0) hb); have n1_ := Aside0.mk (Kd.R_below (onR HO_1083001) hb); have n2_ := Aside0.mk (Kd.R_lower (Kd.R_new' ho0 (Kd.R_lt (onR HO_4))) (below_size (bn HB))); have n3_ := Aside0.mk (blk_below (bkn BK1082) hb); have n4_ := Aside0.mk (below_step (bn HB) hb); clear HO_4; clear HO_1083001; clear BK1082; clear HB; have HO_4 := n0_; have HO_1083001 := n1_; have HO1093 := n2_; have BK1082 := n3_; have HB := n4_; clear n0_ n1_ n2_ n3_ n4_; (try clear hb); (try clear ho0); obtain ⟨Ao30, co30, eo30⟩ := Kd.R_slice HO_4.out; subst eo30; obtain ⟨Ao31, co31, eo31⟩ := Kd.R_slice HO1093.out; subst eo31) | ((with_reducible refine gate_callee (f := 65) rfl ?_); refine gl_ (some 30) Try.func65 #[.slice Ao30 t1083.length co30, .slice Ao31 t1091.length co31] ?_; (with_reducible refine (laws_loInts.calls kj4 _ _ t1083 _ _ t1091 t1094 _ ?side1 ?side2 ?side3 ?side4 A27.out).mono ?_); (case side1 => repeat (first | exact (Kd.R_reads' HO_4.out).2.2 | (with_reducible refine Kd.C_alloc ?_ _) | (with_reducible refine Kd.C_drewN ?_ _) | (with_reducible refine Kd.C_drew ?_))); (case side2 => exact (Kd.R_reads' HO_4.out).2.1); (case side3 => repeat (first | exact (Kd.R_reads' HO1093.out).2.2 | (with_reducible refine Kd.C_alloc ?_ _) | (with_reducible refine Kd.C_drewN ?_ _) | (with_reducible refine Kd.C_drew ?_))); (case side4 => exact (Kd.R_reads' HO1093.out).2.1); rintro e w' ⟨rfl, ⟨nd, rfl⟩⟩; refine ⟨_, rfl, ?_⟩))
     go_ret
     exact ⟨by first | rfl | (simp [errW_none, errW_some] <;> rfl) | (simp [*, errW_none, errW_some] <;> rfl), bn HB⟩
    ·replace c25 := Bool.eq_false_iff.mpr c25
     subst c25
     rw [if_neg (show ¬ (false = true) by decide)] at H
     have H' := Aside0.mk H
     clear H
     go_wp2
     go_loopg [5] kj4 (fun kq v5 w' => ∃ (x5_2 : Int), v5 = .int .i64 x5_2 ∧ Aside0 (laws_FnBlockCuts.l0 kq t1083 x5_2 t1078 t1079 = some r) ∧ Aside0 (kq ≤ kj4) ∧ Aside0 (Kd.R (Kd.int .i64) 3 w' w.heap.size (fun _ => True) v1084 t1083) ∧ Aside0 (Kd.R k73 73 w' w.heap.size (fun _ => True) (.slice Ao9 t1079.length co9) t1079) ∧ Aside0 (w'.heap[gb1082]? = some (.cells #[.int .i64 t1078, (.slice Ao9 t1079.length co9)] 34 (0, 0))) ∧ Aside0 (Below w.heap.size w w'))
     case atStart => exact ⟨(0), (by first | rfl | (simp; done) | (simp [*]; done)), H', ⟨Nat.le_refl _⟩, ⟨onR HO_4⟩, ⟨onR HO_1083001⟩, ⟨bkn BK1082⟩, ⟨bn HB⟩⟩
     case round =>
      clear H'
      try clear c1
      try clear c2
      try clear c2b0
      try clear c2b1
      try clear p2
      try clear c5
      try clear c6
      try clear c13
      try clear c16
      try clear c25
      try clear hcz15_0
      try clear hcz15_1
      try clear hcz19_0
      try clear hcz19_1
      try clear hcz21_0
      try clear hcz21_1
      try clear hcz28_0
      try clear hcz28_1
      try clear hcz8_0
      try clear hcz8_1
      try clear hfz15_0
      try clear hfz15_1
      try clear hfz19_0
      try clear hfz19_1
      try clear hfz21_0
      try clear hfz21_1
      try clear hfz28_0
      try clear hfz28_1
      try clear hfz8_0
      try clear hfz8_1
      try clear p2
      obtain ⟨x5_2, rfl, HA, HK2, HO_4, HO_1083001, BK1082, HB⟩ := hrel
      cases gk with
      | zero => exact absurd HA.out (by simp [laws_FnBlockCuts.l0])
      | succ k2 =>
       have H := HA.out
       clear HA
       simp only [laws_FnBlockCuts.l0] at H
       by_cases c32 : x5_2 < t1078
       ·rw [if_pos c32] at H
        have c32b0 := decide_eq_true c32
        clear c32
        replace H := Option.bind_eq_some_iff.mp H
        obtain ⟨⟨t1095, t1096⟩, A330, H⟩ := H
        (try dsimp only at H)
        have A33 := Aside0.mk A330
        clear A330
        have H' := Aside0.mk H
        clear H
        have hcz34_0 := bc BK1082 0
        have hcz34_1 := bc BK1082 1
        have hfz34_0 := blk_frozen BK1082.out 0
        have hfz34_1 := blk_frozen BK1082.out 1
        go_wp2_with (first | ((with_reducible refine gate_callee (f := 67) rfl ?_); refine gl_ (some 39) Try.func67 #[.agg #[.int .i64 t1078, .slice Ao9 t1079.length co9], .int .i64 x5_2] ?_; (with_reducible refine (impl_NetWithout.calls k2 t1078 _ _ t1079 x5_2 t1095 t1096 _ ?side1 ?side2 A33.out).mono ?_); (case side1 => repeat (first | exact (Kd.R_reads' HO_1083001.out).2.2 | (with_reducible refine Kd.C_alloc ?_ _) | (with_reducible refine Kd.C_drewN ?_ _) | (with_reducible refine Kd.C_drew ?_))); (case side2 => exact (Kd.R_reads' HO_1083001.out).2.1); rintro e w35 ⟨v1097, rfl, ho0, hb⟩; refine ⟨_, rfl, ?_⟩; have n0_ := Aside0.mk (Kd.R_below (onR HO_4) hb); have n1_ := Aside0.mk (Kd.R_elder' (onR HO_1083001) (Kd.R_base ho0) hb); have n2_ := Aside0.mk (Kd.R_lower (Kd.R_new' ho0 (Kd.R_lt (onR HO_1083001))) (below_size (bn HB))); have n3_ := Aside0.mk (blk_below (bkn BK1082) hb); have n4_ := Aside0.mk (below_step (bn HB) hb); clear HO_4; clear HO_1083001; clear BK1082; clear HB; have HO_4 := n0_; have HO_1083001 := n1_; have HO1098 := n2_; have BK1082 := n3_; have HB := n4_; clear n0_ n1_ n2_ n3_ n4_; (try clear hb); (try clear ho0)) | ((with_reducible refine gate_dst (N := 6) rfl ?_); refine box_event ?hg (N := 6) ?hd (cs := #[.int .i64 0, .slice none 0 0]) (t := 34) ?hr ?_; (case hd => rfl); (case hg => rfl); (case hr => first | (go_simp; done) | (go_simp; rfl)); intro gb1099 hg w36 hbox hb; have n0_ := Aside0.mk (Kd.R_below (onR HO_4) hb); have n1_ := Aside0.mk (Kd.R_below (onR HO_1083001) hb); have n2_ := Aside0.mk (Kd.R_below (onR HO1098) hb); have n3_ := Aside0.mk (blk_below (bkn BK1082) hb); have n4_ := Aside0.mk (below_step (bn HB) hb); have n5_ := Aside0.mk (hbox); have n6_ := Aside0.mk ((by rw [hg]; exact (below_size (bn HB)) : w.heap.size ≤ gb1099)); have n7_ := Aside0.mk ((by rw [hg]; exact (below_size (bn HB)) : w.heap.size ≤ gb1099)); have n8_ := Aside0.mk ((by rw [hg]; exact Nat.ne_of_lt (blk_lt (bkn BK1082)) : gb1082 ≠ gb1099)); have n9_ := Aside0.mk ((by rw [hg]; exact Nat.ne_of_gt (blk_lt (bkn BK1082)) : gb1099 ≠ gb1082)); clear HO_4; clear HO_1083001; clear HO1098; clear BK1082; clear HB; have HO_4 := n0_; have HO_1083001 := n1_; have HO1098 := n2_; have BK1082 := n3_; have HB := n4_; have BK1099 := n5_; have GW1099 := n6_; have GE1099 := n7_; have NB1082_1099 := n8_; have NB1099_1082 := n9_; clear n0_ n1_ n2_ n3_ n4_ n5_ n6_ n7_ n8_ n9_; clear hb hbox hg; have hnb37 := NB1099_1082.out; have hnc37 := NB1082_1099.out; have hcz38_0 := bc BK1099 0; have hcz38_1 := bc BK1099 1; have hfz38_0 := blk_frozen BK1099.out 0; have hfz38_1 := blk_frozen BK1099.out 1; obtain ⟨Ao39, co39, eo39⟩ := Kd.R_slice HO1098.out; subst eo39))
        go_loopg [7, 8] k2 (fun kq v7 v8 w' => ∃ (x7_3 : Bool) (x8_3 : Int), v7 = .bool x7_3 ∧ v8 = .int .i64 x8_3 ∧ Aside0 (laws_FnBlockCuts.l1 kq t1083 x5_2 x7_3 x8_3 t1078 t1079 t1095 t1096 = some r) ∧ Aside0 (kq ≤ k2) ∧ Aside0 (Kd.R (Kd.int .i64) 3 w' w.heap.size (fun _ => True) v1084 t1083) ∧ Aside0 (Kd.R k73 73 w' w.heap.size (fun k_ => some k_ ≠ ((.slice Ao39 t1096.length co39) : Value).ownBlock) (.slice Ao9 t1079.length co9) t1079) ∧ Aside0 (Kd.R k73 73 w' w.heap.size (fun k_ => some k_ ≠ ((.slice Ao9 t1079.length co9) : Value).ownBlock) (.slice Ao39 t1096.length co39) t1096) ∧ Aside0 (w'.heap[gb1082]? = some (.cells #[.int .i64 t1078, (.slice Ao9 t1079.length co9)] 34 (0, 0))) ∧ Aside0 (w'.heap[gb1099]? = some (.cells #[.int .i64 t1095, (.slice Ao39 t1096.length co39)] 34 (0, 0))) ∧ Aside0 (Below w.heap.size w w'))
        case atStart => exact ⟨(false), (0), (by first | rfl | (simp; done) | (simp [*]; done)), (by first | rfl | (simp; done) | (simp [*]; done)), H', ⟨Nat.le_refl _⟩, ⟨by (with_reducible repeat (first | apply Kd.R_alloc | apply Kd.R_drewN | apply Kd.R_drew)); exact Kd.R_mono (Kd.R_far (p := ⟨gb1099, 1, none⟩) (Kd.R_far (p := ⟨gb1099, 0, none⟩) (Kd.R_types HO_4.out BK1099.out (by decide)) (fun _ hk => hk.2) (.int .i64 t1095)) (fun _ hk => hk.2) (.slice Ao39 t1096.length co39)) (fun _ hk => trivial)⟩, ⟨by (with_reducible repeat (first | apply Kd.R_alloc | apply Kd.R_drewN | apply Kd.R_drew)); exact Kd.R_mono (Kd.R_far (p := ⟨gb1099, 1, none⟩) (Kd.R_far (p := ⟨gb1099, 0, none⟩) (Kd.R_types HO_1083001.out BK1099.out (by decide)) (fun _ hk => hk.2) (.int .i64 t1095)) (fun _ hk => hk.2) (.slice Ao39 t1096.length co39)) (fun _ hk => hk.1.2)⟩, ⟨by (with_reducible repeat (first | apply Kd.R_alloc | apply Kd.R_drewN | apply Kd.R_drew)); exact Kd.R_mono (Kd.R_far (p := ⟨gb1099, 1, none⟩) (Kd.R_far (p := ⟨gb1099, 0, none⟩) (Kd.R_types HO1098.out BK1099.out (by decide)) (fun _ hk => hk.2) (.int .i64 t1095)) (fun _ hk => hk.2) (.slice Ao39 t1096.length co39)) (fun _ hk => hk.1.2)⟩, ⟨bkn BK1082⟩, ⟨by (with_reducible repeat (first | refine blk_drewN ?_ _ | refine blk_drew ?_ | refine blk_alloc ?_ _)); refine blk_put (cs := #[.int .i64 t1095, .slice none 0 0]) ?_ 1 _ rfl; (with_reducible repeat (first | refine blk_drewN ?_ _ | refine blk_drew ?_ | refine blk_alloc ?_ _)); refine blk_put (cs := #[.int .i64 0, .slice none 0 0]) ?_ 0 _ rfl; (with_reducible repeat (first | refine blk_drewN ?_ _ | refine blk_drew ?_ | refine blk_alloc ?_ _)); exact BK1099.out⟩, ⟨bn HB⟩⟩
        case round =>
         clear H'
         try clear c1
         try clear c2
         try clear c2b0
         try clear c2b1
         try clear p2
         try clear c3
         try clear c5
         try clear c6
         try clear c13
         try clear c16
         try clear c25
         try clear c32
         try clear c32b0
         try clear c37
         try clear hcz15_0
         try clear hcz15_1
         try clear hcz19_0
         try clear hcz19_1
         try clear hcz21_0
         try clear hcz21_1
         try clear hcz28_0
         try clear hcz28_1
         try clear hcz34_0
         try clear hcz34_1
         try clear hcz38_0
         try clear hcz38_1
         try clear hcz8_0
         try clear hcz8_1
         try clear hfz15_0
         try clear hfz15_1
         try clear hfz19_0
         try clear hfz19_1
         try clear hfz21_0
         try clear hfz21_1
         try clear hfz28_0
         try clear hfz28_1
         try clear hfz34_0
         try clear hfz34_1
         try clear hfz38_0
         try clear hfz38_1
         try clear hfz8_0
         try clear hfz8_1
         try clear p2
         obtain ⟨x7_3, x8_3, rfl, rfl, HA, HK3, HO_4, HO_1083001, HO_1100001, BK1082, BK1099, HB⟩ := hrel
         cases gk with
         | zero => exact absurd HA.out (by simp [laws_FnBlockCuts.l1])
         | succ k3 =>
          have H := HA.out
          clear HA
          simp only [laws_FnBlockCuts.l1] at H
          by_cases c40 : x8_3 < t1078
          ·rw [if_pos c40] at H
           have c40b0 := decide_eq_true c40
           clear c40
           have H' := Aside0.mk H
           clear H
           have hnb41 := NB1082_1099.out
           have hnc41 := NB1099_1082.out
           have hcz42_0 := bc BK1082 0
           have hcz42_1 := bc BK1082 1
           have hfz42_0 := blk_frozen BK1082.out 0
           have hfz42_1 := blk_frozen BK1082.out 1
           go_wp2
           go_loopg [7, 9] k3 (fun kq v7 v9 w' => ∃ (x7_4 : Bool) (x9_4 : Int), v7 = .bool x7_4 ∧ v9 = .int .i64 x9_4 ∧ Aside0 (laws_FnBlockCuts.l2 kq t1083 x5_2 x7_4 x8_3 x9_4 t1078 t1079 t1095 t1096 = some r) ∧ Aside0 (kq ≤ k3) ∧ Aside0 (Kd.R (Kd.int .i64) 3 w' w.heap.size (fun _ => True) v1084 t1083) ∧ Aside0 (Kd.R k73 73 w' w.heap.size (fun k_ => some k_ ≠ ((.slice Ao39 t1096.length co39) : Value).ownBlock) (.slice Ao9 t1079.length co9) t1079) ∧ Aside0 (Kd.R k73 73 w' w.heap.size (fun k_ => some k_ ≠ ((.slice Ao9 t1079.length co9) : Value).ownBlock) (.slice Ao39 t1096.length co39) t1096) ∧ Aside0 (w'.heap[gb1082]? = some (.cells #[.int .i64 t1078, (.slice Ao9 t1079.length co9)] 34 (0, 0))) ∧ Aside0 (w'.heap[gb1099]? = some (.cells #[.int .i64 t1095, (.slice Ao39 t1096.length co39)] 34 (0, 0))) ∧ Aside0 (Below w.heap.size w w'))
           case atStart => exact ⟨(x7_3), (0), (by first | rfl | (simp; done) | (simp [*]; done)), (by first | rfl | (simp; done) | (simp [*]; done)), H', ⟨Nat.le_refl _⟩, ⟨onR HO_4⟩, ⟨onR HO_1083001⟩, ⟨onR HO_1100001⟩, ⟨bkn BK1082⟩, ⟨bkn BK1099⟩, ⟨bn HB⟩⟩
           case round =>
            clear H'
            try clear c1
            try clear c2
            try clear c2b0
            try clear c2b1
            try clear p2
            try clear c3
            try clear c4
            try clear c5
            try clear c6
            try clear c13
            try clear c16
            try clear c25
            try clear c32
            try clear c32b0
            try clear c37
            try clear c40
            try clear c40b0
            try clear c41
            try clear hcz15_0
            try clear hcz15_1
            try clear hcz19_0
            try clear hcz19_1
            try clear hcz21_0
            try clear hcz21_1
            try clear hcz28_0
            try clear hcz28_1
            try clear hcz34_0
            try clear hcz34_1
            try clear hcz38_0
            try clear hcz38_1
            try clear hcz42_0
            try clear hcz42_1
            try clear hcz8_0
            try clear hcz8_1
            try clear hfz15_0
            try clear hfz15_1
            try clear hfz19_0
            try clear hfz19_1
            try clear hfz21_0
            try clear hfz21_1
            try clear hfz28_0
            try clear hfz28_1
            try clear hfz34_0
            try clear hfz34_1
            try clear hfz38_0
            try clear hfz38_1
            try clear hfz42_0
            try clear hfz42_1
            try clear hfz8_0
            try clear hfz8_1
            try clear p2
            obtain ⟨x7_4, x9_4, rfl, rfl, HA, HK4, HO_4, HO_1083001, HO_1100001, BK1082, BK1099, HB⟩ := hrel
            cases gk with
            | zero => exact absurd HA.out (by simp [laws_FnBlockCuts.l2])
            | succ k4 =>
             have H := HA.out
             clear HA
             simp only [laws_FnBlockCuts.l2] at H
             by_cases c43 : x9_4 < x8_3
             ·rw [if_pos c43] at H
              have c43b0 := decide_eq_true c43
              clear c43
              by_cases c44 : x8_3 = x5_2
              ·rw [if_pos c44] at H
               have c44b0 : (x8_3 == x5_2) = true := beq_iff_eq.mpr c44
               have c44b1 : (x8_3 != x5_2) = false := bne_eq_false_iff_eq.mpr c44
               clear c44
               have H' := Aside0.mk H
               clear H
               go_wp2
               go_roundg k4
               case measure => have := HJ4.out; have := HK2.out; have := HK3.out; have := HK4.out; omega
               case rel => exact ⟨(x7_4), (wrap64 (x9_4 + 1)), (by first | rfl | (simp; done) | (simp [*]; done)), (by first | rfl | (simp; done) | (simp [*]; done)), H', ⟨by have := HJ4.out; have := HK2.out; have := HK3.out; have := HK4.out; omega⟩, ⟨onR HO_4⟩, ⟨onR HO_1083001⟩, ⟨onR HO_1100001⟩, ⟨bkn BK1082⟩, ⟨bkn BK1099⟩, ⟨bn HB⟩⟩
              ·rw [if_neg c44] at H
               have c44b0 : (x8_3 == x5_2) = false := beq_eq_false_iff_ne.mpr c44
               have c44b1 : (x8_3 != x5_2) = true := bne_iff_ne.mpr c44
               by_cases c45 : x9_4 = x5_2
               ·rw [if_pos c45] at H
                have c45b0 : (x9_4 == x5_2) = true := beq_iff_eq.mpr c45
                have c45b1 : (x9_4 != x5_2) = false := bne_eq_false_iff_eq.mpr c45
                clear c45
                have H' := Aside0.mk H
                clear H
                go_wp2
                go_roundg k4
                case measure => have := HJ4.out; have := HK2.out; have := HK3.out; have := HK4.out; omega
                case rel => exact ⟨(x7_4), (wrap64 (x9_4 + 1)), (by first | rfl | (simp; done) | (simp [*]; done)), (by first | rfl | (simp; done) | (simp [*]; done)), H', ⟨by have := HJ4.out; have := HK2.out; have := HK3.out; have := HK4.out; omega⟩, ⟨onR HO_4⟩, ⟨onR HO_1083001⟩, ⟨onR HO_1100001⟩, ⟨bkn BK1082⟩, ⟨bkn BK1099⟩, ⟨bn HB⟩⟩
               ·rw [if_neg c45] at H
                have c45b0 : (x9_4 == x5_2) = false := beq_eq_false_iff_ne.mpr c45
                have c45b1 : (x9_4 != x5_2) = true := bne_iff_ne.mpr c45
                replace H := Option.bind_eq_some_iff.mp H
                obtain ⟨t1101, A460, H⟩ := H
                (try dsimp only at H)
                have A46 := Aside0.mk A460
                clear A460
                by_cases c47 : 0 ≤ x9_4
                ·rw [if_pos c47] at H
                 have c47b0 := decide_eq_true c47
                 clear c47
                 by_cases c48 : x9_4 < (t1101.length : Int)
                 ·rw [if_pos c48] at H
                  have c48b0 := decide_eq_true c48
                  clear c48
                  obtain ⟨bq49, hbq49⟩ : ∃ b_ : Bool, b_ = (rdOf false t1101 x9_4) := ⟨_, rfl⟩
                  replace H : (if bq49 = true then ((impl_WayReach.f k4 t1095 t1096 x8_3).bind fun t1105 => (if x9_4 < (t1105.length : Int) then (if rdOf false t1105 x9_4 = true then (laws_FnBlockCuts.l2 k4 t1083 x5_2 x7_4 x8_3 (wrap64 (x9_4 + 1)) t1078 t1079 t1095 t1096) else (laws_FnBlockCuts.l2 k4 t1083 x5_2 true x8_3 (wrap64 (x9_4 + 1)) t1078 t1079 t1095 t1096)) else (none))) else (laws_FnBlockCuts.l2 k4 t1083 x5_2 x7_4 x8_3 (wrap64 (x9_4 + 1)) t1078 t1079 t1095 t1096)) = some r := by rw [← hbq49] at H; exact H
                  have Nbq49 := Aside0.mk hbq49
                  clear hbq49
                  by_cases c50 : bq49 = true
                  ·subst c50
                   rw [if_pos rfl] at H
                   replace H := Option.bind_eq_some_iff.mp H
                   obtain ⟨t1105, A510, H⟩ := H
                   (try dsimp only at H)
                   have A51 := Aside0.mk A510
                   clear A510
                   by_cases c52 : x9_4 < (t1105.length : Int)
                   ·rw [if_pos c52] at H
                    have c52b0 := decide_eq_true c52
                    clear c52
                    obtain ⟨bq53, hbq53⟩ : ∃ b_ : Bool, b_ = (rdOf false t1105 x9_4) := ⟨_, rfl⟩
                    replace H : (if bq53 = true then (laws_FnBlockCuts.l2 k4 t1083 x5_2 x7_4 x8_3 (wrap64 (x9_4 + 1)) t1078 t1079 t1095 t1096) else (laws_FnBlockCuts.l2 k4 t1083 x5_2 true x8_3 (wrap64 (x9_4 + 1)) t1078 t1079 t1095 t1096)) = some r := by rw [← hbq53] at H; exact H
                    have Nbq53 := Aside0.mk hbq53
                    clear hbq53
                    by_cases c54 : bq53 = true
                    ·subst c54
                     rw [if_pos rfl] at H
                     have H' := Aside0.mk H
                     clear H
                     have hnb55 := NB1082_1099.out
                     have hnc55 := NB1099_1082.out
                     have hcz56_0 := bc BK1082 0
                     have hcz56_1 := bc BK1082 1
                     have hfz56_0 := blk_frozen BK1082.out 0
                     have hfz56_1 := blk_frozen BK1082.out 1
                     go_wp2_with (first | (go_at_call 68; (with_reducible refine (impl_WayReach.calls k4 t1078 _ _ t1079 x8_3 t1101 _ ?side1 ?side2 A46.out).mono ?_); (case side1 => repeat (first | exact (Kd.R_reads' HO_1083001.out).2.2 | (with_reducible refine Kd.C_alloc ?_ _) | (with_reducible refine Kd.C_drewN ?_ _) | (with_reducible refine Kd.C_drew ?_))); (case side2 => exact (Kd.R_reads' HO_1083001.out).2.1); rintro e w57 ⟨v1102, rfl, ho0, hb⟩; have n0_ := Aside0.mk (Kd.R_below (onR HO_4) hb); have n1_ := Aside0.mk (Kd.R_below (onR HO_1083001) hb); have n2_ := Aside0.mk (Kd.R_below (onR HO_1100001) hb); have n3_ := Aside0.mk (Kd.R_lower ho0 (below_size (bn HB))); have n4_ := Aside0.mk (blk_below (bkn BK1082) hb); have n5_ := Aside0.mk (blk_below (bkn BK1099) hb); have n6_ := Aside0.mk (below_step (bn HB) hb); clear HO_4; clear HO_1083001; clear HO_1100001; clear BK1082; clear BK1099; clear HB; have HO_4 := n0_; have HO_1083001 := n1_; have HO_1100001 := n2_; have HO1103 := n3_; have BK1082 := n4_; have BK1099 := n5_; have HB := n6_; clear n0_ n1_ n2_ n3_ n4_ n5_ n6_; (try clear hb); (try clear ho0); obtain ⟨Ao58, co58, eo58⟩ := Kd.R_slice HO1103.out; subst eo58; have p1104 : 0 ≤ (x9_4 : Int) := oa; have q1104 : x9_4 < (t1101.length : Int) := oa; obtain ⟨ad1104, e1104, hx1104_0⟩ := Kd.at_bool (Kd.R_reads' HO1103.out).2.2 x9_4 p1104 q1104; (try rw [← Nbq49.out] at hx1104_0); (try rw [← Nbq53.out] at hx1104_0); cases e1104; replace p1104 := eq_true p1104; replace q1104 := eq_true q1104; have hcz59_0 := bc BK1099 0; have hcz59_1 := bc BK1099 1; have hfz59_0 := blk_frozen BK1099.out 0; have hfz59_1 := blk_frozen BK1099.out 1) | (go_at_call 68; (with_reducible refine (impl_WayReach.calls k4 t1095 _ _ t1096 x8_3 t1105 _ ?side1 ?side2 A51.out).mono ?_); (case side1 => repeat (first | exact (Kd.R_reads' HO_1100001.out).2.2 | (with_reducible refine Kd.C_alloc ?_ _) | (with_reducible refine Kd.C_drewN ?_ _) | (with_reducible refine Kd.C_drew ?_))); (case side2 => exact (Kd.R_reads' HO_1100001.out).2.1); rintro e w60 ⟨v1106, rfl, ho0, hb⟩; have n0_ := Aside0.mk (Kd.R_below (onR HO_4) hb); have n1_ := Aside0.mk (Kd.R_below (onR HO_1083001) hb); have n2_ := Aside0.mk (Kd.R_below (onR HO_1100001) hb); have n3_ := Aside0.mk (Kd.R_elder' (onR HO1103) (Kd.R_base ho0) hb); have n4_ := Aside0.mk (Kd.R_lower (Kd.R_new' ho0 (Kd.R_lt (onR HO1103))) (below_size (bn HB))); have n5_ := Aside0.mk (blk_below (bkn BK1082) hb); have n6_ := Aside0.mk (blk_below (bkn BK1099) hb); have n7_ := Aside0.mk (below_step (bn HB) hb); clear HO_4; clear HO_1083001; clear HO_1100001; clear HO1103; clear BK1082; clear BK1099; clear HB; have HO_4 := n0_; have HO_1083001 := n1_; have HO_1100001 := n2_; have HO1103 := n3_; have HO1107 := n4_; have BK1082 := n5_; have BK1099 := n6_; have HB := n7_; clear n0_ n1_ n2_ n3_ n4_ n5_ n6_ n7_; (try clear hb); (try clear ho0); obtain ⟨Ao61, co61, eo61⟩ := Kd.R_slice HO1107.out; subst eo61; have p1108 : 0 ≤ (x9_4 : Int) := oa; have q1108 : x9_4 < (t1105.length : Int) := oa; obtain ⟨ad1108, e1108, hx1108_0⟩ := Kd.at_bool (Kd.R_reads' HO1107.out).2.2 x9_4 p1108 q1108; (try rw [← Nbq49.out] at hx1108_0); (try rw [← Nbq53.out] at hx1108_0); cases e1108; replace p1108 := eq_true p1108; replace q1108 := eq_true q1108))
                     go_roundg k4
                     case measure => have := HJ4.out; have := HK2.out; have := HK3.out; have := HK4.out; omega
                     case rel => exact ⟨(x7_4), (wrap64 (x9_4 + 1)), (by first | rfl | (simp; done) | (simp [*]; done)), (by first | rfl | (simp; done) | (simp [*]; done)), H', ⟨by have := HJ4.out; have := HK2.out; have := HK3.out; have := HK4.out; omega⟩, ⟨onR HO_4⟩, ⟨onR HO_1083001⟩, ⟨onR HO_1100001⟩, ⟨bkn BK1082⟩, ⟨bkn BK1099⟩, ⟨bn HB⟩⟩
                    ·replace c54 := Bool.eq_false_iff.mpr c54
                     subst c54
                     rw [if_neg (show ¬ (false = true) by decide)] at H
                     have H' := Aside0.mk H
                     clear H
                     have hnb62 := NB1082_1099.out
                     have hnc62 := NB1099_1082.out
                     have hcz63_0 := bc BK1082 0
                     have hcz63_1 := bc BK1082 1
                     have hfz63_0 := blk_frozen BK1082.out 0
                     have hfz63_1 := blk_frozen BK1082.out 1
                     go_wp2_with (first | (go_at_call 68; (with_reducible refine (impl_WayReach.calls k4 t1078 _ _ t1079 x8_3 t1101 _ ?side1 ?side2 A46.out).mono ?_); (case side1 => repeat (first | exact (Kd.R_reads' HO_1083001.out).2.2 | (with_reducible refine Kd.C_alloc ?_ _) | (with_reducible refine Kd.C_drewN ?_ _) | (with_reducible refine Kd.C_drew ?_))); (case side2 => exact (Kd.R_reads' HO_1083001.out).2.1); rintro e w64 ⟨v1102, rfl, ho0, hb⟩; have n0_ := Aside0.mk (Kd.R_below (onR HO_4) hb); have n1_ := Aside0.mk (Kd.R_below (onR HO_1083001) hb); have n2_ := Aside0.mk (Kd.R_below (onR HO_1100001) hb); have n3_ := Aside0.mk (Kd.R_lower ho0 (below_size (bn HB))); have n4_ := Aside0.mk (blk_below (bkn BK1082) hb); have n5_ := Aside0.mk (blk_below (bkn BK1099) hb); have n6_ := Aside0.mk (below_step (bn HB) hb); clear HO_4; clear HO_1083001; clear HO_1100001; clear BK1082; clear BK1099; clear HB; have HO_4 := n0_; have HO_1083001 := n1_; have HO_1100001 := n2_; have HO1103 := n3_; have BK1082 := n4_; have BK1099 := n5_; have HB := n6_; clear n0_ n1_ n2_ n3_ n4_ n5_ n6_; (try clear hb); (try clear ho0); obtain ⟨Ao65, co65, eo65⟩ := Kd.R_slice HO1103.out; subst eo65; have p1104 : 0 ≤ (x9_4 : Int) := oa; have q1104 : x9_4 < (t1101.length : Int) := oa; obtain ⟨ad1104, e1104, hx1104_0⟩ := Kd.at_bool (Kd.R_reads' HO1103.out).2.2 x9_4 p1104 q1104; (try rw [← Nbq49.out] at hx1104_0); (try rw [← Nbq53.out] at hx1104_0); cases e1104; replace p1104 := eq_true p1104; replace q1104 := eq_true q1104; have hcz66_0 := bc BK1099 0; have hcz66_1 := bc BK1099 1; have hfz66_0 := blk_frozen BK1099.out 0; have hfz66_1 := blk_frozen BK1099.out 1) | (go_at_call 68; (with_reducible refine (impl_WayReach.calls k4 t1095 _ _ t1096 x8_3 t1105 _ ?side1 ?side2 A51.out).mono ?_); (case side1 => repeat (first | exact (Kd.R_reads' HO_1100001.out).2.2 | (with_reducible refine Kd.C_alloc ?_ _) | (with_reducible refine Kd.C_drewN ?_ _) | (with_reducible refine Kd.C_drew ?_))); (case side2 => exact (Kd.R_reads' HO_1100001.out).2.1); rintro e w67 ⟨v1106, rfl, ho0, hb⟩; have n0_ := Aside0.mk (Kd.R_below (onR HO_4) hb); have n1_ := Aside0.mk (Kd.R_below (onR HO_1083001) hb); have n2_ := Aside0.mk (Kd.R_below (onR HO_1100001) hb); have n3_ := Aside0.mk (Kd.R_elder' (onR HO1103) (Kd.R_base ho0) hb); have n4_ := Aside0.mk (Kd.R_lower (Kd.R_new' ho0 (Kd.R_lt (onR HO1103))) (below_size (bn HB))); have n5_ := Aside0.mk (blk_below (bkn BK1082) hb); have n6_ := Aside0.mk (blk_below (bkn BK1099) hb); have n7_ := Aside0.mk (below_step (bn HB) hb); clear HO_4; clear HO_1083001; clear HO_1100001; clear HO1103; clear BK1082; clear BK1099; clear HB; have HO_4 := n0_; have HO_1083001 := n1_; have HO_1100001 := n2_; have HO1103 := n3_; have HO1107 := n4_; have BK1082 := n5_; have BK1099 := n6_; have HB := n7_; clear n0_ n1_ n2_ n3_ n4_ n5_ n6_ n7_; (try clear hb); (try clear ho0); obtain ⟨Ao68, co68, eo68⟩ := Kd.R_slice HO1107.out; subst eo68; have p1108 : 0 ≤ (x9_4 : Int) := oa; have q1108 : x9_4 < (t1105.length : Int) := oa; obtain ⟨ad1108, e1108, hx1108_0⟩ := Kd.at_bool (Kd.R_reads' HO1107.out).2.2 x9_4 p1108 q1108; (try rw [← Nbq49.out] at hx1108_0); (try rw [← Nbq53.out] at hx1108_0); cases e1108; replace p1108 := eq_true p1108; replace q1108 := eq_true q1108))
                     go_roundg k4
                     case measure => have := HJ4.out; have := HK2.out; have := HK3.out; have := HK4.out; omega
                     case rel => exact ⟨(true), (wrap64 (x9_4 + 1)), (by first | rfl | (simp; done) | (simp [*]; done)), (by first | rfl | (simp; done) | (simp [*]; done)), H', ⟨by have := HJ4.out; have := HK2.out; have := HK3.out; have := HK4.out; omega⟩, ⟨onR HO_4⟩, ⟨onR HO_1083001⟩, ⟨onR HO_1100001⟩, ⟨bkn BK1082⟩, ⟨bkn BK1099⟩, ⟨bn HB⟩⟩
                   ·rw [if_neg c52] at H
                    exact absurd H (by simp)
                  ·replace c50 := Bool.eq_false_iff.mpr c50
                   subst c50
                   rw [if_neg (show ¬ (false = true) by decide)] at H
                   have H' := Aside0.mk H
                   clear H
                   have hnb69 := NB1082_1099.out
                   have hnc69 := NB1099_1082.out
                   have hcz70_0 := bc BK1082 0
                   have hcz70_1 := bc BK1082 1
                   have hfz70_0 := blk_frozen BK1082.out 0
                   have hfz70_1 := blk_frozen BK1082.out 1
                   go_wp2_with (first | (go_at_call 68; (with_reducible refine (impl_WayReach.calls k4 t1078 _ _ t1079 x8_3 t1101 _ ?side1 ?side2 A46.out).mono ?_); (case side1 => repeat (first | exact (Kd.R_reads' HO_1083001.out).2.2 | (with_reducible refine Kd.C_alloc ?_ _) | (with_reducible refine Kd.C_drewN ?_ _) | (with_reducible refine Kd.C_drew ?_))); (case side2 => exact (Kd.R_reads' HO_1083001.out).2.1); rintro e w71 ⟨v1102, rfl, ho0, hb⟩; have n0_ := Aside0.mk (Kd.R_below (onR HO_4) hb); have n1_ := Aside0.mk (Kd.R_below (onR HO_1083001) hb); have n2_ := Aside0.mk (Kd.R_below (onR HO_1100001) hb); have n3_ := Aside0.mk (Kd.R_lower ho0 (below_size (bn HB))); have n4_ := Aside0.mk (blk_below (bkn BK1082) hb); have n5_ := Aside0.mk (blk_below (bkn BK1099) hb); have n6_ := Aside0.mk (below_step (bn HB) hb); clear HO_4; clear HO_1083001; clear HO_1100001; clear BK1082; clear BK1099; clear HB; have HO_4 := n0_; have HO_1083001 := n1_; have HO_1100001 := n2_; have HO1103 := n3_; have BK1082 := n4_; have BK1099 := n5_; have HB := n6_; clear n0_ n1_ n2_ n3_ n4_ n5_ n6_; (try clear hb); (try clear ho0); obtain ⟨Ao72, co72, eo72⟩ := Kd.R_slice HO1103.out; subst eo72; have p1104 : 0 ≤ (x9_4 : Int) := oa; have q1104 : x9_4 < (t1101.length : Int) := oa; obtain ⟨ad1104, e1104, hx1104_0⟩ := Kd.at_bool (Kd.R_reads' HO1103.out).2.2 x9_4 p1104 q1104; (try rw [← Nbq49.out] at hx1104_0); cases e1104; replace p1104 := eq_true p1104; replace q1104 := eq_true q1104))
                   go_roundg k4
                   case measure => have := HJ4.out; have := HK2.out; have := HK3.out; have := HK4.out; omega
                   case rel => exact ⟨(x7_4), (wrap64 (x9_4 + 1)), (by first | rfl | (simp; done) | (simp [*]; done)), (by first | rfl | (simp; done) | (simp [*]; done)), H', ⟨by have := HJ4.out; have := HK2.out; have := HK3.out; have := HK4.out; omega⟩, ⟨onR HO_4⟩, ⟨onR HO_1083001⟩, ⟨onR HO_1100001⟩, ⟨bkn BK1082⟩, ⟨bkn BK1099⟩, ⟨bn HB⟩⟩
                 ·rw [if_neg c48] at H
                  exact absurd H (by simp)
                ·rw [if_neg c47] at H
                 exact absurd H (by simp)
             ·rw [if_neg c43] at H
              have c43b0 := decide_eq_false c43
              clear c43
              have H' := Aside0.mk H
              clear H
              go_wp2
              go_roundg k4
              case measure => have := HJ4.out; have := HK2.out; have := HK3.out; have := HK4.out; omega
              case rel => exact ⟨(x7_4), (wrap64 (x8_3 + 1)), (by first | rfl | (simp; done) | (simp [*]; done)), (by first | rfl | (simp; done) | (simp [*]; done)), H', ⟨by have := HJ4.out; have := HK2.out; have := HK3.out; have := HK4.out; omega⟩, ⟨onR HO_4⟩, ⟨onR HO_1083001⟩, ⟨onR HO_1100001⟩, ⟨bkn BK1082⟩, ⟨bkn BK1099⟩, ⟨bn HB⟩⟩
          ·rw [if_neg c40] at H
           have c40b0 := decide_eq_false c40
           clear c40
           replace H := Option.bind_eq_some_iff.mp H
           obtain ⟨t1100, A730, H⟩ := H
           (try dsimp only at H)
           have A73 := Aside0.mk A730
           clear A730
           by_cases c74 : (t1100 != x7_3) = true
           ·rw [if_pos c74] at H
            have c74b0 : (t1100 != x7_3) = true := c74
            (try (have c74b1 : decide (t1100 = x7_3) = false := by simpa using c74))
            (try (have c74b2 : (t1100 == x7_3) = false := by simpa using c74))
            (try (have c74b3 : ¬ (t1100 = x7_3) := by simpa using c74))
            clear c74
            exact absurd (Option.some.inj H) (by rw [hrt.out]; decide)
           ·rw [if_neg c74] at H
            have c74b0 : (t1100 != x7_3) = false := by simpa using c74
            (try (have c74b1 : decide (t1100 = x7_3) = true := by simpa using c74))
            (try (have c74b2 : (t1100 == x7_3) = true := by simpa using c74))
            clear c74
            have H' := Aside0.mk H
            clear H
            have hnb75 := NB1082_1099.out
            have hnc75 := NB1099_1082.out
            have hcz76_0 := bc BK1082 0
            have hcz76_1 := bc BK1082 1
            have hfz76_0 := blk_frozen BK1082.out 0
            have hfz76_1 := blk_frozen BK1082.out 1
            obtain ⟨Ao77, co77, eo77⟩ := Kd.R_slice HO_4.out
            subst eo77
            go_wp2_with (first | ((with_reducible refine gate_callee (f := 69) rfl ?_); refine gl_ (some 78) Try.func69 #[.slice Ao77 t1083.length co77, .int .i64 x5_2] ?_; (with_reducible refine (laws_loIn.calls k3 _ _ t1083 x5_2 t1100 _ ?side1 ?side2 A73.out).mono ?_); (case side1 => repeat (first | exact (Kd.R_reads' HO_4.out).2.2 | (with_reducible refine Kd.C_alloc ?_ _) | (with_reducible refine Kd.C_drewN ?_ _) | (with_reducible refine Kd.C_drew ?_))); (case side2 => exact (Kd.R_reads' HO_4.out).2.1); rintro e w' ⟨rfl, ⟨nd, rfl⟩⟩; refine ⟨_, rfl, ?_⟩))
            go_roundg k3
            case measure => have := HJ4.out; have := HK2.out; have := HK3.out; omega
            case rel => exact ⟨(wrap64 (x5_2 + 1)), (by first | rfl | (simp; done) | (simp [*]; done)), H', ⟨by have := HJ4.out; have := HK2.out; have := HK3.out; omega⟩, ⟨onR HO_4⟩, ⟨by (with_reducible repeat (first | apply Kd.R_alloc | apply Kd.R_drewN | apply Kd.R_drew)); exact Kd.R_mono HO_1083001.out (fun _ hk => trivial)⟩, ⟨bkn BK1082⟩, ⟨bn HB⟩⟩
       ·rw [if_neg c32] at H
        have c32b0 := decide_eq_false c32
        clear c32
        obtain rfl := Option.some.inj H
        have hcz78_0 := bc BK1082 0
        have hcz78_1 := bc BK1082 1
        have hfz78_0 := blk_frozen BK1082.out 0
        have hfz78_1 := blk_frozen BK1082.out 1
        go_wp2
        go_ret
        exact ⟨by first | rfl | (simp [errW_none, errW_some] <;> rfl) | (simp [*, errW_none, errW_some] <;> rfl), bn HB⟩

/-- what is to be proved of laws_FnBlockCuts, without Go -/
def laws_FnBlockCuts.Pure : Prop := ∀ (l0 : List Int), (l0.length ≤ maxLen ∧ ∀ l0_ ∈ l0, ((Lit.int .u8 l0_).wf = true)) → ∃ k, laws_FnBlockCuts.f k l0 = some true

end Go.Proofs.Ytdlnnjgjfngccaa.F
