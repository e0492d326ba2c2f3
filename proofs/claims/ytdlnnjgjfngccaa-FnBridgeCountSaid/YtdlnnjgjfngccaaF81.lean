-- Written by oprint.py (wip/tools) over the kit's print program, for this seat.
import Derived.Test.YtdlnnjgjfngccaaF0
import Derived.Test.YtdlnnjgjfngccaaF14
import Derived.Test.YtdlnnjgjfngccaaF35
import Derived.Test.YtdlnnjgjfngccaaF61
namespace Go.Proofs.Ytdlnnjgjfngccaa.F
open Go.RowKit Go.Proofs.YtdlnnjgjfngccaaW.PrintWords Go.Proofs.YtdlnnjgjfngccaaW.PrintLast Go.Proofs.YtdlnnjgjfngccaaW.PrintMore
attribute [local go_sem] max2_int min2_int max_two min_two max_three min_three max_four min_four   -- for this text's walks alone
set_option linter.unusedVariables false
set_option linter.unusedSimpArgs false

/-! ### spec_BridgeIs: function 139 -/
def spec_BridgeIs.f (k : Nat) (a0_0 : Int) (l0_1 : List (S73)) (a1 : Int) (a2 : Int) : Option (Bool) := (spec_NetCut.f k a0_0 l0_1 a1 a2).bind fun bt1228 => (if bt1228.2.2 = true then ((spec_WayCount.f k bt1228.1 bt1228.2.1).bind fun t1234 => ((spec_WayCount.f k a0_0 l0_1).bind fun t1235 => (some (decide (t1234 > t1235))))) else (some false))
theorem spec_BridgeIs.mono : ∀ a0 a1 a2 a3 k, LeO (spec_BridgeIs.f k a0 a1 a2 a3) (spec_BridgeIs.f (k + 1) a0 a1 a2 a3) := by
 intro a0 a1 a2 a3 k
 unfold spec_BridgeIs.f
 repeat' first
   | (with_reducible exact spec_NetCut.mono _ _ _ _ _)
   | (with_reducible exact spec_WayCount.mono _ _ _)
   | (with_reducible exact LeO.refl _)
   | (with_reducible exact LeO.none _)
   | (with_reducible refine LeO.ite ?_ ?_)
   | (with_reducible refine LeO.bind ?_ (fun _ => ?_))
   | exact spec_NetCut.mono _ _ _ _ _
   | exact spec_WayCount.mono _ _ _
   | exact LeO.none _
   | refine LeO.ite ?_ ?_
   | refine LeO.bind ?_ (fun _ => ?_)
def spec_BridgeIs.T2 : Bool × List (List Nat × List Nat) := (true, [([], []), ([0], [0]), ([1], [1]), ([2, 1, 1], [1, 2]), ([1], [1]), ([4, 3, 1], [1, 4]), ([3, 5, 1], [1, 3, 5]), ([1, 6], [1, 6]), ([7, 5, 0, 1, 2, 3, 4, 5, 6, 7], [7])])
def spec_BridgeIs.B2 : List Nat := [0, 1, 3, 7, 3, 31, 63, 127, 255]
theorem spec_BridgeIs.tab2 : rtab .any (opsOf Try.f139 2) = spec_BridgeIs.T2 := by kernel_rfl
theorem spec_BridgeIs.bits2 : waitsOk spec_BridgeIs.T2.2 spec_BridgeIs.B2 = true := by kernel_rfl
set_option maxHeartbeats 8000000 in
set_option maxRecDepth 100000 in
theorem spec_BridgeIs.calls (k : Nat) (a0_0 : Int) (A0_1 : Option Addr) (c0_1 : Nat) (l0_1 : List (S73)) (a1 : Int) (a2 : Int) (r : Bool) (w : World) (hr0_1 : Kd.C k73 w A0_1 l0_1.length l0_1) (hc0_1 : l0_1.length ≤ c0_1) (h : spec_BridgeIs.f k a0_0 l0_1 a1 a2 = some r) :
  Calls Try.prog 139 #[.agg #[.int .i64 a0_0, .slice A0_1 l0_1.length c0_1], .int .i64 a1, .int .i64 a2] w fun e w' => e = .returned (.bool r) ∧ Below w.heap.size w w' := by
 have hu34 := Try.underlying34
 have HR0_1 := Aside0.mk hr0_1
 have HC0_1 := Aside0.mk hc0_1
 clear hr0_1 hc0_1
 have HB := Aside0.mk (Below.refl w.heap.size w)
 have H : ((spec_NetCut.f k a0_0 l0_1 a1 a2).bind fun bt1228 => (if bt1228.2.2 = true then ((spec_WayCount.f k bt1228.1 bt1228.2.1).bind fun t1234 => ((spec_WayCount.f k a0_0 l0_1).bind fun t1235 => (some (decide (t1234 > t1235))))) else (some false))) = some r := h
 clear h
 replace H := Option.bind_eq_some_iff.mp H
 obtain ⟨⟨t1228, t1229, t1232⟩, A40, H⟩ := H
 (try dsimp only at H)
 have A4 := Aside0.mk A40
 clear A40
 by_cases c5 : t1232 = true
 ·subst c5
  rw [if_pos rfl] at H
  replace H := Option.bind_eq_some_iff.mp H
  obtain ⟨t1234, A60, H⟩ := H
  (try dsimp only at H)
  have A6 := Aside0.mk A60
  clear A60
  replace H := Option.bind_eq_some_iff.mp H
  obtain ⟨t1235, A70, H⟩ := H
  (try dsimp only at H)
  have A7 := Aside0.mk A70
  clear A70
  obtain rfl := Option.some.inj H
  go_enter Try.func139, Try.ntmps139
  try go_wp2_with (first | ((with_reducible refine gate_dst (N := 3) rfl ?_); refine box_event ?hg (N := 3) ?hd (cs := #[.int .i64 a0_0, .slice A0_1 l0_1.length c0_1]) (t := 34) ?hr ?_; (case hd => rfl); (case hg => rfl); (case hr => first | (go_simp; done) | (go_simp; rfl)); intro gb1227 hg w8 hbox hb; have n0_ := Aside0.mk (below_step (bn HB) hb); have n1_ := Aside0.mk (hbox); have n2_ := Aside0.mk ((by rw [hg]; exact (below_size (bn HB)) : w.heap.size ≤ gb1227)); have n3_ := Aside0.mk ((by rw [hg]; exact (below_size (bn HB)) : w.heap.size ≤ gb1227)); clear HB; have HB := n0_; have BK1227 := n1_; have GW1227 := n2_; have GE1227 := n3_; clear n0_ n1_ n2_ n3_; clear hb hbox hg; have hcz9_0 := bc BK1227 0; have hcz9_1 := bc BK1227 1; have hfz9_0 := blk_frozen BK1227.out 0; have hfz9_1 := blk_frozen BK1227.out 1) | ((with_reducible refine gate_callee (f := 103) rfl ?_); refine gl_ (some 13) Try.func103 #[.agg #[.int .i64 a0_0, .slice A0_1 l0_1.length c0_1], .int .i64 a1, .int .i64 a2] ?_; (with_reducible refine (spec_NetCut.calls k a0_0 _ _ l0_1 a1 a2 t1228 t1229 true _ ?side1 ?side2 A4.out).mono ?_); (case side1 => repeat (first | exact (Kd.C_below HR0_1.out HB.out) | (with_reducible refine Kd.C_alloc ?_ _) | (with_reducible refine Kd.C_drewN ?_ _) | (with_reducible refine Kd.C_drew ?_))); (case side2 => exact HC0_1.out); rintro e w10 ⟨v1230, rfl, ho0, hb⟩; refine ⟨_, rfl, ?_⟩; have n0_ := Aside0.mk (Kd.R_lower ho0 (below_size (bn HB))); have n1_ := Aside0.mk (blk_below (bkn BK1227) hb); have n2_ := Aside0.mk (below_step (bn HB) hb); clear BK1227; clear HB; have HO1231 := n0_; have BK1227 := n1_; have HB := n2_; clear n0_ n1_ n2_; (try clear hb); (try clear ho0)) | ((with_reducible refine gate_dst (N := 7) rfl ?_); refine box_event ?hg (N := 7) ?hd (cs := #[.int .i64 0, .slice none 0 0]) (t := 34) ?hr ?_; (case hd => rfl); (case hg => rfl); (case hr => first | (go_simp; done) | (go_simp; rfl)); intro gb1233 hg w11 hbox hb; have n0_ := Aside0.mk (Kd.R_below (onR HO1231) hb); have n1_ := Aside0.mk (blk_below (bkn BK1227) hb); have n2_ := Aside0.mk (below_step (bn HB) hb); have n3_ := Aside0.mk (hbox); have n4_ := Aside0.mk ((by rw [hg]; exact (below_size (bn HB)) : w.heap.size ≤ gb1233)); have n5_ := Aside0.mk ((by rw [hg]; exact (below_size (bn HB)) : w.heap.size ≤ gb1233)); have n6_ := Aside0.mk ((by rw [hg]; exact Nat.ne_of_lt (blk_lt (bkn BK1227)) : gb1227 ≠ gb1233)); have n7_ := Aside0.mk ((by rw [hg]; exact Nat.ne_of_gt (blk_lt (bkn BK1227)) : gb1233 ≠ gb1227)); clear HO1231; clear BK1227; clear HB; have HO1231 := n0_; have BK1227 := n1_; have HB := n2_; have BK1233 := n3_; have GW1233 := n4_; have GE1233 := n5_; have NB1227_1233 := n6_; have NB1233_1227 := n7_; clear n0_ n1_ n2_ n3_ n4_ n5_ n6_ n7_; clear hb hbox hg; have hnb12 := NB1233_1227.out; have hnc12 := NB1227_1233.out; have hcz13_0 := bc BK1233 0; have hcz13_1 := bc BK1233 1; have hfz13_0 := blk_frozen BK1233.out 0; have hfz13_1 := blk_frozen BK1233.out 1; obtain ⟨Ao14, co14, eo14⟩ := Kd.R_slice HO1231.out; subst eo14))
  have n0_ : Aside0 (Kd.R k73 73 ((w11.setCell ⟨gb1233, 0, none⟩ (.int .i64 t1228)).setCell ⟨gb1233, 1, none⟩ (.slice Ao14 t1229.length co14)) w.heap.size (fun _ => True) (.slice Ao14 t1229.length co14) t1229) := ⟨by (with_reducible repeat (first | apply Kd.R_alloc | apply Kd.R_drewN | apply Kd.R_drew)); exact Kd.R_mono (Kd.R_far (p := ⟨gb1233, 1, none⟩) (Kd.R_far (p := ⟨gb1233, 0, none⟩) (Kd.R_types HO1231.out BK1233.out (by decide)) (fun _ hk => hk.2) (.int .i64 t1228)) (fun _ hk => hk.2) (.slice Ao14 t1229.length co14)) (fun _ hk => trivial)⟩
  have n1_ : Aside0 (((w11.setCell ⟨gb1233, 0, none⟩ (.int .i64 t1228)).setCell ⟨gb1233, 1, none⟩ (.slice Ao14 t1229.length co14)).heap[gb1227]? = some (.cells #[.int .i64 a0_0, .slice A0_1 l0_1.length c0_1] 34 (0, 0))) := ⟨bkn BK1227⟩
  have n2_ : Aside0 (((w11.setCell ⟨gb1233, 0, none⟩ (.int .i64 t1228)).setCell ⟨gb1233, 1, none⟩ (.slice Ao14 t1229.length co14)).heap[gb1233]? = some (.cells #[.int .i64 t1228, .slice Ao14 t1229.length co14] 34 (0, 0))) := ⟨by (with_reducible repeat (first | refine blk_drewN ?_ _ | refine blk_drew ?_ | refine blk_alloc ?_ _)); refine blk_put (cs := #[.int .i64 t1228, .slice none 0 0]) ?_ 1 _ rfl; (with_reducible repeat (first | refine blk_drewN ?_ _ | refine blk_drew ?_ | refine blk_alloc ?_ _)); refine blk_put (cs := #[.int .i64 0, .slice none 0 0]) ?_ 0 _ rfl; (with_reducible repeat (first | refine blk_drewN ?_ _ | refine blk_drew ?_ | refine blk_alloc ?_ _)); exact BK1233.out⟩
  have n3_ : Aside0 (Below w.heap.size w ((w11.setCell ⟨gb1233, 0, none⟩ (.int .i64 t1228)).setCell ⟨gb1233, 1, none⟩ (.slice Ao14 t1229.length co14))) := ⟨bn HB⟩
  (try clear HO1231)
  (try clear BK1227)
  (try clear BK1233)
  (try clear HB)
  generalize ((w11.setCell ⟨gb1233, 0, none⟩ (.int .i64 t1228)).setCell ⟨gb1233, 1, none⟩ (.slice Ao14 t1229.length co14)) = w15 at n0_ n1_ n2_ n3_ ⊢
  have HO1231 := n0_
  have BK1227 := n1_
  have BK1233 := n2_
  have HB := n3_
  clear n0_ n1_ n2_ n3_
  have n0_ := Aside0.mk (Kd.R_drew HO1231.out)
  have n1_ := Aside0.mk (blk_drew BK1227.out)
  have n2_ := Aside0.mk (blk_drew BK1233.out)
  have n3_ := Aside0.mk (below_drew1 HB.out)
  clear HO1231 BK1227 BK1233 HB
  have HO1231 := n0_
  have BK1227 := n1_
  have BK1233 := n2_
  have HB := n3_
  clear n0_ n1_ n2_ n3_
  refine start_ (n := 9) (S := fun w' => w'.cell? ⟨gb1233, 0, none⟩ = some (.int .i64 t1228) ∧ w'.cell? ⟨gb1233, 1, none⟩ = some (.slice Ao14 t1229.length co14) ∧ w'.cell? ⟨gb1227, 0, none⟩ = some (.int .i64 a0_0) ∧ w'.cell? ⟨gb1227, 1, none⟩ = some (.slice A0_1 l0_1.length c0_1)) (ds := []) #[false, false, false, false, false, false, false, false, false] (by kernel_rfl) rfl rfl ⟨(blk_cell BK1233.out 0).trans rfl, (blk_cell BK1233.out 1).trans rfl, (blk_cell BK1227.out 0).trans rfl, (blk_cell BK1227.out 1).trans rfl⟩ (fun hHeld => ?_); refine with_tabW spec_BridgeIs.tab2 spec_BridgeIs.bits2 (fun HT_ HW_ => ?_)
  generalize w15.drew = w16 at HO1231 BK1227 BK1233 HB hHeld ⊢
  refine pz_ 0 (some 16) HT_ ?_
  refine pz_ 1 (some 17) HT_ ?_
  refine tz_ 2 (some 18) HT_ HW_ hHeld ?_
  refine tz_ 4 (some 20) HT_ HW_ hHeld ?_
  refine one_ (i := 3) (N := some 19) #[true, true, true, true, true, false, false, false, false] rfl rfl (one_of HT_.out (by kernel_rfl)) (by decide) (fun K hK => ?_)
  refine gg_ Try.func115 #[.agg #[.int .i64 t1228, .slice Ao14 t1229.length co14]] ?_
  with_reducible refine (spec_WayCount.calls k t1228 _ _ t1229 t1234 _ ?side1 ?side2 A6.out).mono ?_
  (case side1 => repeat (first | exact (Kd.R_reads' HO1231.out).2.2 | (with_reducible refine Kd.C_alloc ?_ _) | (with_reducible refine Kd.C_drewN ?_ _) | (with_reducible refine Kd.C_drew ?_)))
  (case side2 => exact (Kd.R_reads' HO1231.out).2.1)
  rintro e w17 ⟨rfl, hb⟩
  refine ⟨_, rfl, ?_⟩
  have n0_ := Aside0.mk (Kd.R_below (onR HO1231) hb)
  have n1_ := Aside0.mk (blk_below (bkn BK1227) hb)
  have n2_ := Aside0.mk (blk_below (bkn BK1233) hb)
  have n3_ := Aside0.mk (below_step (bn HB) hb)
  clear HO1231 BK1227 BK1233 HB
  have HO1231 := n0_
  have BK1227 := n1_
  have BK1233 := n2_
  have HB := n3_
  clear n0_ n1_ n2_ n3_
  (try clear hb)
  (try clear hb2)
  (try clear hk)
  (try clear hi)
  refine hK.out _ _ ⟨(blk_cell BK1233.out 0).trans rfl, (blk_cell BK1233.out 1).trans rfl, (blk_cell BK1227.out 0).trans rfl, (blk_cell BK1227.out 1).trans rfl⟩ (fun hHeld => ?_)
  clear hK K
  refine norm_ (a' := ?_) ?_ ?_
  rotate_left
  ·show Act.put _ (some 19) _ = _
   simp only [Act.put, List.setIfInBounds_toArray, List.set_cons_zero, List.set_cons_succ, i64_w, i32_w]
   rfl
  refine one_ (i := 5) (N := some 21) #[true, true, true, true, true, true, false, false, false] rfl rfl (one_of HT_.out (by kernel_rfl)) (by decide) (fun K hK => ?_)
  refine gg_ Try.func115 #[.agg #[.int .i64 a0_0, .slice A0_1 l0_1.length c0_1]] ?_
  with_reducible refine (spec_WayCount.calls k a0_0 _ _ l0_1 t1235 _ ?side1 ?side2 A7.out).mono ?_
  (case side1 => repeat (first | exact (Kd.C_below HR0_1.out HB.out) | (with_reducible refine Kd.C_alloc ?_ _) | (with_reducible refine Kd.C_drewN ?_ _) | (with_reducible refine Kd.C_drew ?_)))
  (case side2 => exact HC0_1.out)
  rintro e w18 ⟨rfl, hb⟩
  refine ⟨_, rfl, ?_⟩
  have n0_ := Aside0.mk (Kd.R_below (onR HO1231) hb)
  have n1_ := Aside0.mk (blk_below (bkn BK1227) hb)
  have n2_ := Aside0.mk (blk_below (bkn BK1233) hb)
  have n3_ := Aside0.mk (below_step (bn HB) hb)
  clear HO1231 BK1227 BK1233 HB
  have HO1231 := n0_
  have BK1227 := n1_
  have BK1233 := n2_
  have HB := n3_
  clear n0_ n1_ n2_ n3_
  (try clear hb)
  (try clear hb2)
  (try clear hk)
  (try clear hi)
  refine hK.out _ _ ⟨(blk_cell BK1233.out 0).trans rfl, (blk_cell BK1233.out 1).trans rfl, (blk_cell BK1227.out 0).trans rfl, (blk_cell BK1227.out 1).trans rfl⟩ (fun hHeld => ?_)
  clear hK K
  refine norm_ (a' := ?_) ?_ ?_
  rotate_left
  ·show Act.put _ (some 21) _ = _
   simp only [Act.put, List.setIfInBounds_toArray, List.set_cons_zero, List.set_cons_succ, i64_w, i32_w]
   rfl
  refine pz_ 6 (some 22) HT_ ?_
  refine pz_ 7 (some 23) HT_ ?_
  refine pz_ 8 (some 6) HT_ ?_
  refine done_ (done_of HT_.out (by kernel_rfl)) ?_
  try go_wp2
  go_ret
  exact ⟨by first | rfl | (simp [errW_none, errW_some] <;> rfl) | (simp [*, errW_none, errW_some] <;> rfl), bn HB⟩
 ·replace c5 := Bool.eq_false_iff.mpr c5
  subst c5
  rw [if_neg (show ¬ (false = true) by decide)] at H
  obtain rfl := Option.some.inj H
  go_enter Try.func139, Try.ntmps139
  try go_wp2_with (first | ((with_reducible refine gate_dst (N := 3) rfl ?_); refine box_event ?hg (N := 3) ?hd (cs := #[.int .i64 a0_0, .slice A0_1 l0_1.length c0_1]) (t := 34) ?hr ?_; (case hd => rfl); (case hg => rfl); (case hr => first | (go_simp; done) | (go_simp; rfl)); intro gb1227 hg w19 hbox hb; have n0_ := Aside0.mk (below_step (bn HB) hb); have n1_ := Aside0.mk (hbox); have n2_ := Aside0.mk ((by rw [hg]; exact (below_size (bn HB)) : w.heap.size ≤ gb1227)); have n3_ := Aside0.mk ((by rw [hg]; exact (below_size (bn HB)) : w.heap.size ≤ gb1227)); clear HB; have HB := n0_; have BK1227 := n1_; have GW1227 := n2_; have GE1227 := n3_; clear n0_ n1_ n2_ n3_; clear hb hbox hg; have hcz20_0 := bc BK1227 0; have hcz20_1 := bc BK1227 1; have hfz20_0 := blk_frozen BK1227.out 0; have hfz20_1 := blk_frozen BK1227.out 1) | ((with_reducible refine gate_callee (f := 103) rfl ?_); refine gl_ (some 13) Try.func103 #[.agg #[.int .i64 a0_0, .slice A0_1 l0_1.length c0_1], .int .i64 a1, .int .i64 a2] ?_; (with_reducible refine (spec_NetCut.calls k a0_0 _ _ l0_1 a1 a2 t1228 t1229 false _ ?side1 ?side2 A4.out).mono ?_); (case side1 => repeat (first | exact (Kd.C_below HR0_1.out HB.out) | (with_reducible refine Kd.C_alloc ?_ _) | (with_reducible refine Kd.C_drewN ?_ _) | (with_reducible refine Kd.C_drew ?_))); (case side2 => exact HC0_1.out); rintro e w21 ⟨v1230, rfl, ho0, hb⟩; refine ⟨_, rfl, ?_⟩; have n0_ := Aside0.mk (Kd.R_lower ho0 (below_size (bn HB))); have n1_ := Aside0.mk (blk_below (bkn BK1227) hb); have n2_ := Aside0.mk (below_step (bn HB) hb); clear BK1227; clear HB; have HO1231 := n0_; have BK1227 := n1_; have HB := n2_; clear n0_ n1_ n2_; (try clear hb); (try clear ho0)) | ((with_reducible refine gate_dst (N := 7) rfl ?_); refine box_event ?hg (N := 7) ?hd (cs := #[.int .i64 0, .slice none 0 0]) (t := 34) ?hr ?_; (case hd => rfl); (case hg => rfl); (case hr => first | (go_simp; done) | (go_simp; rfl)); intro gb1233 hg w22 hbox hb; have n0_ := Aside0.mk (Kd.R_below (onR HO1231) hb); have n1_ := Aside0.mk (blk_below (bkn BK1227) hb); have n2_ := Aside0.mk (below_step (bn HB) hb); have n3_ := Aside0.mk (hbox); have n4_ := Aside0.mk ((by rw [hg]; exact (below_size (bn HB)) : w.heap.size ≤ gb1233)); have n5_ := Aside0.mk ((by rw [hg]; exact (below_size (bn HB)) : w.heap.size ≤ gb1233)); have n6_ := Aside0.mk ((by rw [hg]; exact Nat.ne_of_lt (blk_lt (bkn BK1227)) : gb1227 ≠ gb1233)); have n7_ := Aside0.mk ((by rw [hg]; exact Nat.ne_of_gt (blk_lt (bkn BK1227)) : gb1233 ≠ gb1227)); clear HO1231; clear BK1227; clear HB; have HO1231 := n0_; have BK1227 := n1_; have HB := n2_; have BK1233 := n3_; have GW1233 := n4_; have GE1233 := n5_; have NB1227_1233 := n6_; have NB1233_1227 := n7_; clear n0_ n1_ n2_ n3_ n4_ n5_ n6_ n7_; clear hb hbox hg; have hnb23 := NB1233_1227.out; have hnc23 := NB1227_1233.out; have hcz24_0 := bc BK1233 0; have hcz24_1 := bc BK1233 1; have hfz24_0 := blk_frozen BK1233.out 0; have hfz24_1 := blk_frozen BK1233.out 1; obtain ⟨Ao25, co25, eo25⟩ := Kd.R_slice HO1231.out; subst eo25))
  have n0_ : Aside0 (Kd.R k73 73 ((w22.setCell ⟨gb1233, 0, none⟩ (.int .i64 t1228)).setCell ⟨gb1233, 1, none⟩ (.slice Ao25 t1229.length co25)) w.heap.size (fun _ => True) (.slice Ao25 t1229.length co25) t1229) := ⟨by (with_reducible repeat (first | apply Kd.R_alloc | apply Kd.R_drewN | apply Kd.R_drew)); exact Kd.R_mono (Kd.R_far (p := ⟨gb1233, 1, none⟩) (Kd.R_far (p := ⟨gb1233, 0, none⟩) (Kd.R_types HO1231.out BK1233.out (by decide)) (fun _ hk => hk.2) (.int .i64 t1228)) (fun _ hk => hk.2) (.slice Ao25 t1229.length co25)) (fun _ hk => trivial)⟩
  have n1_ : Aside0 (((w22.setCell ⟨gb1233, 0, none⟩ (.int .i64 t1228)).setCell ⟨gb1233, 1, none⟩ (.slice Ao25 t1229.length co25)).heap[gb1227]? = some (.cells #[.int .i64 a0_0, .slice A0_1 l0_1.length c0_1] 34 (0, 0))) := ⟨bkn BK1227⟩
  have n2_ : Aside0 (((w22.setCell ⟨gb1233, 0, none⟩ (.int .i64 t1228)).setCell ⟨gb1233, 1, none⟩ (.slice Ao25 t1229.length co25)).heap[gb1233]? = some (.cells #[.int .i64 t1228, .slice Ao25 t1229.length co25] 34 (0, 0))) := ⟨by (with_reducible repeat (first | refine blk_drewN ?_ _ | refine blk_drew ?_ | refine blk_alloc ?_ _)); refine blk_put (cs := #[.int .i64 t1228, .slice none 0 0]) ?_ 1 _ rfl; (with_reducible repeat (first | refine blk_drewN ?_ _ | refine blk_drew ?_ | refine blk_alloc ?_ _)); refine blk_put (cs := #[.int .i64 0, .slice none 0 0]) ?_ 0 _ rfl; (with_reducible repeat (first | refine blk_drewN ?_ _ | refine blk_drew ?_ | refine blk_alloc ?_ _)); exact BK1233.out⟩
  have n3_ : Aside0 (Below w.heap.size w ((w22.setCell ⟨gb1233, 0, none⟩ (.int .i64 t1228)).setCell ⟨gb1233, 1, none⟩ (.slice Ao25 t1229.length co25))) := ⟨bn HB⟩
  (try clear HO1231)
  (try clear BK1227)
  (try clear BK1233)
  (try clear HB)
  generalize ((w22.setCell ⟨gb1233, 0, none⟩ (.int .i64 t1228)).setCell ⟨gb1233, 1, none⟩ (.slice Ao25 t1229.length co25)) = w26 at n0_ n1_ n2_ n3_ ⊢
  have HO1231 := n0_
  have BK1227 := n1_
  have BK1233 := n2_
  have HB := n3_
  clear n0_ n1_ n2_ n3_
  have n0_ := Aside0.mk (Kd.R_drew HO1231.out)
  have n1_ := Aside0.mk (blk_drew BK1227.out)
  have n2_ := Aside0.mk (blk_drew BK1233.out)
  have n3_ := Aside0.mk (below_drew1 HB.out)
  clear HO1231 BK1227 BK1233 HB
  have HO1231 := n0_
  have BK1227 := n1_
  have BK1233 := n2_
  have HB := n3_
  clear n0_ n1_ n2_ n3_
  refine start_ (n := 9) (S := fun w' => True) (ds := []) #[false, false, false, false, false, false, false, false, false] (by kernel_rfl) rfl rfl trivial (fun hHeld => ?_); refine with_tabW spec_BridgeIs.tab2 spec_BridgeIs.bits2 (fun HT_ HW_ => ?_)
  generalize w26.drew = w27 at HO1231 BK1227 BK1233 HB hHeld ⊢
  refine pz_ 0 (some 16) HT_ ?_
  refine pz_ 1 (some 17) HT_ ?_
  refine pure_ (i := 2) (N := some 18) (v := undef) (a' := ?_) #[true, true, true, false, false, false, false, false, false] rfl rfl (any_of HT_.out (by kernel_rfl)) (fun _ _ _ h => h) (Or.inr ⟨by rfl, rfl⟩) ?_ ?_
  rotate_left
  ·simp only [Act.put, List.setIfInBounds_toArray, List.set_cons_zero, List.set_cons_succ, i64_w, i32_w]
   rfl
  refine pure_ (i := 3) (N := some 19) (v := undef) (a' := ?_) #[true, true, true, true, false, false, false, false, false] rfl rfl (any_of HT_.out (by kernel_rfl)) (fun _ _ _ h => h) (Or.inr ⟨by rfl, rfl⟩) ?_ ?_
  rotate_left
  ·simp only [Act.put, List.setIfInBounds_toArray, List.set_cons_zero, List.set_cons_succ, i64_w, i32_w]
   rfl
  refine pure_ (i := 4) (N := some 20) (v := undef) (a' := ?_) #[true, true, true, true, true, false, false, false, false] rfl rfl (any_of HT_.out (by kernel_rfl)) (fun _ _ _ h => h) (Or.inr ⟨by rfl, rfl⟩) ?_ ?_
  rotate_left
  ·simp only [Act.put, List.setIfInBounds_toArray, List.set_cons_zero, List.set_cons_succ, i64_w, i32_w]
   rfl
  refine pure_ (i := 5) (N := some 21) (v := undef) (a' := ?_) #[true, true, true, true, true, true, false, false, false] rfl rfl (any_of HT_.out (by kernel_rfl)) (fun _ _ _ h => h) (Or.inr ⟨by rfl, rfl⟩) ?_ ?_
  rotate_left
  ·simp only [Act.put, List.setIfInBounds_toArray, List.set_cons_zero, List.set_cons_succ, i64_w, i32_w]
   rfl
  refine pure_ (i := 6) (N := some 22) (v := undef) (a' := ?_) #[true, true, true, true, true, true, true, false, false] rfl rfl (any_of HT_.out (by kernel_rfl)) (fun _ _ _ h => h) (Or.inr ⟨by rfl, rfl⟩) ?_ ?_
  rotate_left
  ·simp only [Act.put, List.setIfInBounds_toArray, List.set_cons_zero, List.set_cons_succ, i64_w, i32_w]
   rfl
  refine pz_ 7 (some 23) HT_ ?_
  refine pz_ 8 (some 6) HT_ ?_
  refine done_ (done_of HT_.out (by kernel_rfl)) ?_
  try go_wp2
  go_ret
  exact ⟨by first | rfl | (simp [errW_none, errW_some] <;> rfl) | (simp [*, errW_none, errW_some] <;> rfl), bn HB⟩

/-! ### spec_BridgeList: function 123 -/
def spec_BridgeList.l0 : Nat → List (S73) → Int → Int → List (S73) → Option ((List (S73)))
 | 0, _, _, _, _ => none
 | k + 1, x3, x4, x1237000, x1237001 => if x4 < (x1237001.length : Int) then (if 0 ≤ x4 then ((spec_BridgeIs.f k x1237000 x1237001 ((rd_T73 x1237001 x4).f0) ((rd_T73 x1237001 x4).f1)).bind fun t1243 => (if t1243 = true then (if x3.length < 8796093022208 then (spec_BridgeList.l0 k (x3 ++ [(⟨(rd_T73 x1237001 x4).f0, (rd_T73 x1237001 x4).f1⟩ : S73)]) (wrap64 (x4 + 1)) x1237000 x1237001) else (none)) else (spec_BridgeList.l0 k x3 (wrap64 (x4 + 1)) x1237000 x1237001))) else (none)) else (some x3)
def spec_BridgeList.f (k : Nat) (a0_0 : Int) (l0_1 : List (S73)) : Option ((List (S73))) := (some (([] : List (S73)) : List (S73))).bind fun y1237 => ((spec_NetOk.f k a0_0 l0_1).bind fun t1240 => (if t1240 = true then (spec_BridgeList.l0 k y1237 0 a0_0 l0_1) else (some y1237)))
theorem spec_BridgeList.mono_l : ∀ k, (∀ y0 y1 y2 y3, LeO (spec_BridgeList.l0 k y0 y1 y2 y3) (spec_BridgeList.l0 (k + 1) y0 y1 y2 y3))
 | 0 => fun _ _ _ _ r h => by simp [spec_BridgeList.l0] at h
 | k + 1 => by
  have ih0 := spec_BridgeList.mono_l k
  ·intro y0 y1 y2 y3
   unfold spec_BridgeList.l0
   repeat' first
   | (with_reducible exact ih0 _ _ _ _)
   | (with_reducible exact spec_BridgeIs.mono _ _ _ _ _)
   | (with_reducible exact spec_NetOk.mono _ _ _)
   | (with_reducible exact LeO.refl _)
   | (with_reducible exact LeO.none _)
   | (with_reducible refine LeO.ite ?_ ?_)
   | (with_reducible refine LeO.bind ?_ (fun _ => ?_))
   | exact ih0 _ _ _ _
   | exact spec_BridgeIs.mono _ _ _ _ _
   | exact spec_NetOk.mono _ _ _
   | exact LeO.none _
   | refine LeO.ite ?_ ?_
   | refine LeO.bind ?_ (fun _ => ?_)
theorem spec_BridgeList.mono : ∀ a0 a1 k, LeO (spec_BridgeList.f k a0 a1) (spec_BridgeList.f (k + 1) a0 a1) := by
 intro a0 a1 k
 have ih0 := spec_BridgeList.mono_l k
 unfold spec_BridgeList.f
 repeat' first
   | (with_reducible exact ih0 _ _ _ _)
   | (with_reducible exact spec_BridgeIs.mono _ _ _ _ _)
   | (with_reducible exact spec_NetOk.mono _ _ _)
   | (with_reducible exact LeO.refl _)
   | (with_reducible exact LeO.none _)
   | (with_reducible refine LeO.ite ?_ ?_)
   | (with_reducible refine LeO.bind ?_ (fun _ => ?_))
   | exact ih0 _ _ _ _
   | exact spec_BridgeIs.mono _ _ _ _ _
   | exact spec_NetOk.mono _ _ _
   | exact LeO.none _
   | refine LeO.ite ?_ ?_
   | refine LeO.bind ?_ (fun _ => ?_)
def spec_BridgeList.T7 : Bool × List (List Nat × List Nat) := (true, [([], []), ([], []), ([1], [1]), ([], []), ([2, 3], [2, 3]), ([4], [4]), ([5], [5]), ([], []), ([7], [7]), ([], []), ([8, 9], [8, 9]), ([10], [10]), ([11], [11]), ([0, 6, 12], [0, 6, 12])])
def spec_BridgeList.B7 : List Nat := [0, 0, 2, 0, 14, 30, 62, 0, 128, 0, 896, 1920, 3968, 8191]
theorem spec_BridgeList.tab7 : rtab .any (opsOf Try.f123 7) = spec_BridgeList.T7 := by kernel_rfl
theorem spec_BridgeList.bits7 : waitsOk spec_BridgeList.T7.2 spec_BridgeList.B7 = true := by kernel_rfl
set_option maxHeartbeats 8000000 in
set_option maxRecDepth 100000 in
theorem spec_BridgeList.calls (k : Nat) (a0_0 : Int) (A0_1 : Option Addr) (c0_1 : Nat) (l0_1 : List (S73)) (r : List (S73)) (w : World) (hr0_1 : Kd.C k73 w A0_1 l0_1.length l0_1) (hc0_1 : l0_1.length ≤ c0_1) (h : spec_BridgeList.f k a0_0 l0_1 = some r) :
  Calls Try.prog 123 #[.agg #[.int .i64 a0_0, .slice A0_1 l0_1.length c0_1]] w fun e w' => ∃ v0_ : Value, e = .returned (v0_) ∧ Kd.R k73 73 w' w.heap.size (fun _ => True) v0_ r ∧ Below w.heap.size w w' := by
 have hu34 := Try.underlying34
 have hu73 := Try.underlying73
 have HR0_1 := Aside0.mk hr0_1
 have HC0_1 := Aside0.mk hc0_1
 clear hr0_1 hc0_1
 have HB := Aside0.mk (Below.refl w.heap.size w)
 have H : ((some (([] : List (S73)) : List (S73))).bind fun y1237 => ((spec_NetOk.f k a0_0 l0_1).bind fun t1240 => (if t1240 = true then (spec_BridgeList.l0 k y1237 0 a0_0 l0_1) else (some y1237)))) = some r := h
 clear h
 obtain ⟨y1237, hy1237⟩ : ∃ y_ : List (S73), y_ = (([] : List (S73))) := ⟨_, rfl⟩
 replace H : ((spec_NetOk.f k a0_0 l0_1).bind fun t1240 => (if t1240 = true then (spec_BridgeList.l0 k y1237 0 a0_0 l0_1) else (some y1237))) = some r := by first | (rw [hy1237]; with_reducible exact H) | (have H2_ := (Option.bind_some _ _).symm.trans H; rw [hy1237]; with_reducible exact H2_) | (have H2_ := (Option.bind_some _ _).symm.trans H; with_reducible exact H2_) | with_reducible exact H | (rw [hy1237]; exact H) | exact H
 have Ny1237 := Aside0.mk hy1237
 clear hy1237
 replace H := Option.bind_eq_some_iff.mp H
 obtain ⟨t1240, A20, H⟩ := H
 (try dsimp only at H)
 have A2 := Aside0.mk A20
 clear A20
 by_cases c3 : t1240 = true
 ·subst c3
  rw [if_pos rfl] at H
  have H' := Aside0.mk H
  clear H
  go_enter Try.func123, Try.ntmps123
  go_wp2_with (first | ((with_reducible refine gate_dst (N := 1) rfl ?_); refine box_event ?hg (N := 1) ?hd (cs := #[.int .i64 a0_0, .slice A0_1 l0_1.length c0_1]) (t := 34) ?hr ?_; (case hd => rfl); (case hg => rfl); (case hr => first | (go_simp; done) | (go_simp; rfl)); intro gb1236 hg w4 hbox hb; have n0_ := Aside0.mk (below_step (bn HB) hb); have n1_ := Aside0.mk (hbox); have n2_ := Aside0.mk ((by rw [hg]; exact (below_size (bn HB)) : w.heap.size ≤ gb1236)); have n3_ := Aside0.mk ((by rw [hg]; exact (below_size (bn HB)) : w.heap.size ≤ gb1236)); clear HB; have HB := n0_; have BK1236 := n1_; have GW1236 := n2_; have GE1236 := n3_; clear n0_ n1_ n2_ n3_; clear hb hbox hg) | ((with_reducible refine gate_dst (N := 5) rfl ?_); refine Kd.R_lit k73 _ 73 ?hg (N := 5) ?hd (xs := ([] : List (S73))) (inner := []) (ok := fun _ => True) (okp := fun _ => True) ?hr ?hp (fun _ hk => hk) trivial (Below.refl _ _) (Nat.le_refl _) (by simp) ?_; (case hd => rfl); (case hg => rfl); (case hr => first | (go_simp; done) | (go_simp; rfl)); (case hp => exact (Reps.none _ _)); intro v1238 w5 ho6 hb hg_ hnew_; clear hg_ hnew_; (first | rw [← Ny1237.out] at ho6 | (simp only [Int.reduceToNat] at ho6; rw [← Ny1237.out] at ho6)); have n0_ := Aside0.mk (Kd.R_lower ho6 (below_size (bn HB))); have n1_ := Aside0.mk (blk_below (bkn BK1236) hb); have n2_ := Aside0.mk (below_step (bn HB) hb); clear BK1236; clear HB; have HO1239 := n0_; have BK1236 := n1_; have HB := n2_; clear n0_ n1_ n2_; clear hb ho6; have hcz7_0 := bc BK1236 0; have hcz7_1 := bc BK1236 1; have hfz7_0 := blk_frozen BK1236.out 0; have hfz7_1 := blk_frozen BK1236.out 1) | ((with_reducible refine gate_callee (f := 66) rfl ?_); refine gl_ (some 7) Try.func66 #[.agg #[.int .i64 a0_0, .slice A0_1 l0_1.length c0_1]] ?_; (with_reducible refine (spec_NetOk.calls k a0_0 _ _ l0_1 true _ ?side1 ?side2 A2.out).mono ?_); (case side1 => repeat (first | exact (Kd.C_below HR0_1.out HB.out) | (with_reducible refine Kd.C_alloc ?_ _) | (with_reducible refine Kd.C_drewN ?_ _) | (with_reducible refine Kd.C_drew ?_))); (case side2 => exact HC0_1.out); rintro e w8 ⟨rfl, hb⟩; refine ⟨_, rfl, ?_⟩; have n0_ := Aside0.mk (Kd.R_below (onR HO1239) hb); have n1_ := Aside0.mk (blk_below (bkn BK1236) hb); have n2_ := Aside0.mk (below_step (bn HB) hb); clear HO1239; clear BK1236; clear HB; have HO1239 := n0_; have BK1236 := n1_; have HB := n2_; clear n0_ n1_ n2_; (try clear hb); (try clear hi)))
  go_loopg [3, 4] k (fun kq v3 v4 w' => ∃ (x3_1 : List (S73)) (x4_1 : Int), v4 = .int .i64 x4_1 ∧ Aside0 (spec_BridgeList.l0 kq x3_1 x4_1 a0_0 l0_1 = some r) ∧ Aside0 (kq ≤ k) ∧ Aside0 (Kd.R k73 73 w' w.heap.size (fun _ => True) v3 x3_1) ∧ Aside0 (w'.heap[gb1236]? = some (.cells #[.int .i64 a0_0, (.slice A0_1 l0_1.length c0_1)] 34 (0, 0))) ∧ Aside0 (Below w.heap.size w w'))
  case atStart => exact ⟨(y1237), (0), (by first | rfl | (simp; done) | (simp [*]; done)), H', ⟨Nat.le_refl _⟩, ⟨onR HO1239⟩, ⟨bkn BK1236⟩, ⟨bn HB⟩⟩
  case round =>
   clear H'
   try clear c1
   try clear p2
   try clear c3
   try clear c6
   try clear hcz7_0
   try clear hcz7_1
   try clear hfz7_0
   try clear hfz7_1
   obtain ⟨x3_1, x4_1, rfl, HA, HK1, HO_3, BK1236, HB⟩ := hrel
   cases gk with
   | zero => exact absurd HA.out (by simp [spec_BridgeList.l0])
   | succ k1 =>
    have H := HA.out
    clear HA
    simp only [spec_BridgeList.l0] at H
    by_cases c9 : x4_1 < (l0_1.length : Int)
    ·rw [if_pos c9] at H
     have c9b0 := decide_eq_true c9
     clear c9
     by_cases c10 : 0 ≤ x4_1
     ·rw [if_pos c10] at H
      have c10b0 := decide_eq_true c10
      clear c10
      replace H := Option.bind_eq_some_iff.mp H
      obtain ⟨t1243, A110, H⟩ := H
      (try dsimp only at H)
      have A11 := Aside0.mk A110
      clear A110
      by_cases c12 : t1243 = true
      ·subst c12
       rw [if_pos rfl] at H
       by_cases c13 : x3_1.length < 8796093022208
       ·rw [if_pos c13] at H
        have LMc13 := Aside0.mk c13
        clear c13
        obtain ⟨y1245, hy1245⟩ : ∃ y_ : List (S73), y_ = (x3_1 ++ [(⟨(rd_T73 l0_1 x4_1).f0, (rd_T73 l0_1 x4_1).f1⟩ : S73)]) := ⟨_, rfl⟩
        replace H : (spec_BridgeList.l0 k1 y1245 (wrap64 (x4_1 + 1)) a0_0 l0_1) = some r := by first | (rw [hy1245]; with_reducible exact H) | (have H2_ := (Option.bind_some _ _).symm.trans H; rw [hy1245]; with_reducible exact H2_) | (have H2_ := (Option.bind_some _ _).symm.trans H; with_reducible exact H2_) | with_reducible exact H | (rw [hy1245]; exact H) | exact H
        have Ny1245 := Aside0.mk hy1245
        clear hy1245
        have H' := Aside0.mk H
        clear H
        have hcz14_0 := bc BK1236 0
        have hcz14_1 := bc BK1236 1
        have hfz14_0 := blk_frozen BK1236.out 0
        have hfz14_1 := blk_frozen BK1236.out 1
        try go_wp2
        have n0_ := Aside0.mk (Kd.R_drew HO_3.out)
        have n1_ := Aside0.mk (blk_drew BK1236.out)
        have n2_ := Aside0.mk (below_drew1 HB.out)
        clear HO_3 BK1236 HB
        have HO_3 := n0_
        have BK1236 := n1_
        have HB := n2_
        clear n0_ n1_ n2_
        have p1241 : 0 ≤ (x4_1 : Int) := oa
        have q1241 : x4_1 < (l0_1.length : Int) := oa
        obtain ⟨ad1241, e1241, hx1241_0, hx1241_1⟩ := at_T73 HR0_1.out x4_1 p1241 q1241
        have hw1241_1 := hx1241_1
        have hw1241_0 := hx1241_0
        cases e1241
        replace hx1241_0 := (HB.out.cell (World.block_lt_of_cell? w _ hx1241_0)).trans hx1241_0
        replace hx1241_1 := (HB.out.cell (World.block_lt_of_cell? w _ hx1241_1)).trans hx1241_1
        replace p1241 := eq_true p1241
        replace q1241 := eq_true q1241
        have p1242 : 0 ≤ (x4_1 : Int) := oa
        have q1242 : x4_1 < (l0_1.length : Int) := oa
        obtain ⟨ad1242, e1242, hx1242_0, hx1242_1⟩ := at_T73 HR0_1.out x4_1 p1242 q1242
        have hw1242_1 := hx1242_1
        have hw1242_0 := hx1242_0
        obtain rfl : ad1241 = ad1242 := (by injection e1242)
        replace hx1242_0 := (HB.out.cell (World.block_lt_of_cell? w _ hx1242_0)).trans hx1242_0
        replace hx1242_1 := (HB.out.cell (World.block_lt_of_cell? w _ hx1242_1)).trans hx1242_1
        replace p1242 := eq_true p1242
        replace q1242 := eq_true q1242
        refine start_ (n := 14) (S := fun w' => w'.cell? ⟨gb1236, 0, none⟩ = some (.int .i64 a0_0) ∧ w'.cell? ⟨gb1236, 1, none⟩ = some (.slice (some ad1241) l0_1.length c0_1) ∧ w'.cell? (ad1241.add ((x4_1).toNat * 2)) = some (.int .i64 ((rd_T73 l0_1 x4_1).f0)) ∧ w'.cell? ⟨(ad1241.add ((x4_1).toNat * 2)).block, (ad1241.add ((x4_1).toNat * 2)).off + 1, none⟩ = some (.int .i64 ((rd_T73 l0_1 x4_1).f1)) ∧ w'.cell? (ad1241.add ((x4_1).toNat * 2)) = some (.int .i64 ((rd_T73 l0_1 x4_1).f0)) ∧ w'.cell? ⟨(ad1241.add ((x4_1).toNat * 2)).block, (ad1241.add ((x4_1).toNat * 2)).off + 1, none⟩ = some (.int .i64 ((rd_T73 l0_1 x4_1).f1))) (ds := []) #[false, false, false, false, false, false, false, false, false, false, false, false, false, false] (by kernel_rfl) rfl rfl ⟨(blk_cell BK1236.out 0).trans rfl, (blk_cell BK1236.out 1).trans rfl, ((HB.out.cell (World.block_lt_of_cell? w _ hw1241_0)).trans hw1241_0), ((HB.out.cell (World.block_lt_of_cell? w _ hw1241_1)).trans hw1241_1), ((HB.out.cell (World.block_lt_of_cell? w _ hw1242_0)).trans hw1242_0), ((HB.out.cell (World.block_lt_of_cell? w _ hw1242_1)).trans hw1242_1)⟩ (fun hHeld => ?_); refine with_tabW spec_BridgeList.tab7 spec_BridgeList.bits7 (fun HT_ HW_ => ?_)
        generalize wr.drew = w15 at HO_3 BK1236 HB hx1241_0 hx1241_1 hx1242_0 hx1242_1 hHeld ⊢
        refine pz_ 1 (some 18) HT_ ?_
        refine pz_ 3 (some 20) HT_ ?_
        refine pz_ 7 (some 24) HT_ ?_
        refine pz_ 9 (some 26) HT_ ?_
        refine tz_ 0 (some 17) HT_ HW_ hHeld ?_
        refine tz_ 2 (some 19) HT_ HW_ hHeld ?_
        refine pz_ 4 (some 21) HT_ ?_
        refine pz_ 5 (some 22) HT_ ?_
        refine tz_ 6 (some 23) HT_ HW_ hHeld ?_
        refine tz_ 8 (some 25) HT_ HW_ hHeld ?_
        refine pz_ 10 (some 27) HT_ ?_
        refine pz_ 11 (some 28) HT_ ?_
        refine tz_ 12 (some 29) HT_ HW_ hHeld ?_
        refine one_ (i := 13) (N := some 30) #[true, true, true, true, true, true, true, true, true, true, true, true, true, true] rfl rfl (one_of HT_.out (by kernel_rfl)) (by decide) (fun K hK => ?_)
        refine gg_ Try.func139 #[.agg #[.int .i64 a0_0, .slice (some ad1241) l0_1.length c0_1], .int .i64 ((rd_T73 l0_1 x4_1).f0), .int .i64 ((rd_T73 l0_1 x4_1).f1)] ?_
        with_reducible refine (spec_BridgeIs.calls k1 a0_0 _ _ l0_1 ((rd_T73 l0_1 x4_1).f0) ((rd_T73 l0_1 x4_1).f1) true _ ?side1 ?side2 A11.out).mono ?_
        (case side1 => repeat (first | exact (Kd.C_below HR0_1.out HB.out) | (with_reducible refine Kd.C_alloc ?_ _) | (with_reducible refine Kd.C_drewN ?_ _) | (with_reducible refine Kd.C_drew ?_)))
        (case side2 => exact HC0_1.out)
        rintro e w16 ⟨rfl, hb⟩
        refine ⟨_, rfl, ?_⟩
        have n0_ := Aside0.mk (Kd.R_below (onR HO_3) hb)
        have n1_ := Aside0.mk (blk_below (bkn BK1236) hb)
        have n2_ := Aside0.mk (below_step (bn HB) hb)
        clear HO_3 BK1236 HB
        have HO_3 := n0_
        have BK1236 := n1_
        have HB := n2_
        clear n0_ n1_ n2_
        (try clear hb)
        (try clear hb2)
        (try clear hk)
        (try clear hi)
        refine hK.out _ _ ⟨(blk_cell BK1236.out 0).trans rfl, (blk_cell BK1236.out 1).trans rfl, ((HB.out.cell (World.block_lt_of_cell? w _ hw1241_0)).trans hw1241_0), ((HB.out.cell (World.block_lt_of_cell? w _ hw1241_1)).trans hw1241_1), ((HB.out.cell (World.block_lt_of_cell? w _ hw1242_0)).trans hw1242_0), ((HB.out.cell (World.block_lt_of_cell? w _ hw1242_1)).trans hw1242_1)⟩ (fun hHeld => ?_)
        clear hK K
        refine norm_ (a' := ?_) ?_ ?_
        rotate_left
        ·show Act.put _ (some 30) _ = _
         simp only [Act.put, List.setIfInBounds_toArray, List.set_cons_zero, List.set_cons_succ, i64_w, i32_w]
         rfl
        refine done_ (done_of HT_.out (by kernel_rfl)) ?_
        have hcz17_0 := bc BK1236 0
        have hcz17_1 := bc BK1236 1
        have hfz17_0 := blk_frozen BK1236.out 0
        have hfz17_1 := blk_frozen BK1236.out 1
        have p1244 : 0 ≤ (x4_1 : Int) := oa
        have q1244 : x4_1 < (l0_1.length : Int) := oa
        obtain ⟨ad1244, e1244, hx1244_0, hx1244_1⟩ := at_T73 HR0_1.out x4_1 p1244 q1244
        obtain rfl : ad1241 = ad1244 := (by injection e1244)
        replace hx1244_0 := (HB.out.cell (World.block_lt_of_cell? w _ hx1244_0)).trans hx1244_0
        replace hx1244_1 := (HB.out.cell (World.block_lt_of_cell? w _ hx1244_1)).trans hx1244_1
        replace p1244 := eq_true p1244
        replace q1244 := eq_true q1244
        try go_wp2_with (first | ((with_reducible refine gate_builtin (b := .append) (xs := #[.tmp 31, .tmp 37]) rfl ?_); at_builtin; refine Kd.R_append k73 (w0 := w) w.heap.size rfl (.tmp 31) (.tmp 37) 32 73 (.agg #[(.int .i64 0), (.int .i64 0)]) 16 rfl Try.underlying32 info73 rfl (by decide) (by omega) u3 x3_1 (⟨(rd_T73 l0_1 x4_1).f0, (rd_T73 l0_1 x4_1).f1⟩ : S73) [.int .i64 ((rd_T73 l0_1 x4_1).f0), .int .i64 ((rd_T73 l0_1 x4_1).f1)] (fun _ => True) (fun _ => False) rfl rfl ?aP (fun _ hk => hk.elim) ?aF ?aO ?aB ?aS ?aL ?_; (case aP => exact k73_mkM _ _ _ (⟨(rd_T73 l0_1 x4_1).f0, (rd_T73 l0_1 x4_1).f1⟩ : S73)); (case aB => exact (bn HB)); (case aF => exact (fun _ _ => trivial)); (case aO => exact (onR HO_3)); (case aS => exact (below_size (bn HB))); (case aL => have := LMc13.out; omega); intro v1246 w18 ho hb hg hat; rw [← Ny1245.out] at ho; have n0_ := Aside0.mk (blk_grown (bkn BK1236) hg (Kd.R_ne HO_3.out BK1236.out (by decide))); have n1_ := Aside0.mk (hb); have n2_ := Aside0.mk (ho); clear BK1236; clear HB; clear HO_3; have BK1236 := n0_; have HB := n1_; have HO1247 := n2_; clear n0_ n1_ n2_; clear ho hb hg hat))
        go_roundg k1
        case measure => have := HK1.out; omega
        case rel => exact ⟨(y1245), (wrap64 (x4_1 + 1)), (by first | rfl | (simp; done) | (simp [*]; done)), H', ⟨by have := HK1.out; omega⟩, ⟨onR HO1247⟩, ⟨bkn BK1236⟩, ⟨bn HB⟩⟩
       ·rw [if_neg c13] at H
        exact absurd H (by simp)
      ·replace c12 := Bool.eq_false_iff.mpr c12
       subst c12
       rw [if_neg (show ¬ (false = true) by decide)] at H
       have H' := Aside0.mk H
       clear H
       have hcz19_0 := bc BK1236 0
       have hcz19_1 := bc BK1236 1
       have hfz19_0 := blk_frozen BK1236.out 0
       have hfz19_1 := blk_frozen BK1236.out 1
       try go_wp2
       have n0_ := Aside0.mk (Kd.R_drew HO_3.out)
       have n1_ := Aside0.mk (blk_drew BK1236.out)
       have n2_ := Aside0.mk (below_drew1 HB.out)
       clear HO_3 BK1236 HB
       have HO_3 := n0_
       have BK1236 := n1_
       have HB := n2_
       clear n0_ n1_ n2_
       have p1241 : 0 ≤ (x4_1 : Int) := oa
       have q1241 : x4_1 < (l0_1.length : Int) := oa
       obtain ⟨ad1241, e1241, hx1241_0, hx1241_1⟩ := at_T73 HR0_1.out x4_1 p1241 q1241
       have hw1241_1 := hx1241_1
       have hw1241_0 := hx1241_0
       cases e1241
       replace hx1241_0 := (HB.out.cell (World.block_lt_of_cell? w _ hx1241_0)).trans hx1241_0
       replace hx1241_1 := (HB.out.cell (World.block_lt_of_cell? w _ hx1241_1)).trans hx1241_1
       replace p1241 := eq_true p1241
       replace q1241 := eq_true q1241
       have p1242 : 0 ≤ (x4_1 : Int) := oa
       have q1242 : x4_1 < (l0_1.length : Int) := oa
       obtain ⟨ad1242, e1242, hx1242_0, hx1242_1⟩ := at_T73 HR0_1.out x4_1 p1242 q1242
       have hw1242_1 := hx1242_1
       have hw1242_0 := hx1242_0
       obtain rfl : ad1241 = ad1242 := (by injection e1242)
       replace hx1242_0 := (HB.out.cell (World.block_lt_of_cell? w _ hx1242_0)).trans hx1242_0
       replace hx1242_1 := (HB.out.cell (World.block_lt_of_cell? w _ hx1242_1)).trans hx1242_1
       replace p1242 := eq_true p1242
       replace q1242 := eq_true q1242
       refine start_ (n := 14) (S := fun w' => w'.cell? ⟨gb1236, 0, none⟩ = some (.int .i64 a0_0) ∧ w'.cell? ⟨gb1236, 1, none⟩ = some (.slice (some ad1241) l0_1.length c0_1) ∧ w'.cell? (ad1241.add ((x4_1).toNat * 2)) = some (.int .i64 ((rd_T73 l0_1 x4_1).f0)) ∧ w'.cell? ⟨(ad1241.add ((x4_1).toNat * 2)).block, (ad1241.add ((x4_1).toNat * 2)).off + 1, none⟩ = some (.int .i64 ((rd_T73 l0_1 x4_1).f1)) ∧ w'.cell? (ad1241.add ((x4_1).toNat * 2)) = some (.int .i64 ((rd_T73 l0_1 x4_1).f0)) ∧ w'.cell? ⟨(ad1241.add ((x4_1).toNat * 2)).block, (ad1241.add ((x4_1).toNat * 2)).off + 1, none⟩ = some (.int .i64 ((rd_T73 l0_1 x4_1).f1))) (ds := []) #[false, false, false, false, false, false, false, false, false, false, false, false, false, false] (by kernel_rfl) rfl rfl ⟨(blk_cell BK1236.out 0).trans rfl, (blk_cell BK1236.out 1).trans rfl, ((HB.out.cell (World.block_lt_of_cell? w _ hw1241_0)).trans hw1241_0), ((HB.out.cell (World.block_lt_of_cell? w _ hw1241_1)).trans hw1241_1), ((HB.out.cell (World.block_lt_of_cell? w _ hw1242_0)).trans hw1242_0), ((HB.out.cell (World.block_lt_of_cell? w _ hw1242_1)).trans hw1242_1)⟩ (fun hHeld => ?_); refine with_tabW spec_BridgeList.tab7 spec_BridgeList.bits7 (fun HT_ HW_ => ?_)
       generalize wr.drew = w20 at HO_3 BK1236 HB hx1241_0 hx1241_1 hx1242_0 hx1242_1 hHeld ⊢
       refine pz_ 1 (some 18) HT_ ?_
       refine pz_ 3 (some 20) HT_ ?_
       refine pz_ 7 (some 24) HT_ ?_
       refine pz_ 9 (some 26) HT_ ?_
       refine tz_ 0 (some 17) HT_ HW_ hHeld ?_
       refine tz_ 2 (some 19) HT_ HW_ hHeld ?_
       refine pz_ 4 (some 21) HT_ ?_
       refine pz_ 5 (some 22) HT_ ?_
       refine tz_ 6 (some 23) HT_ HW_ hHeld ?_
       refine tz_ 8 (some 25) HT_ HW_ hHeld ?_
       refine pz_ 10 (some 27) HT_ ?_
       refine pz_ 11 (some 28) HT_ ?_
       refine tz_ 12 (some 29) HT_ HW_ hHeld ?_
       refine one_ (i := 13) (N := some 30) #[true, true, true, true, true, true, true, true, true, true, true, true, true, true] rfl rfl (one_of HT_.out (by kernel_rfl)) (by decide) (fun K hK => ?_)
       refine gg_ Try.func139 #[.agg #[.int .i64 a0_0, .slice (some ad1241) l0_1.length c0_1], .int .i64 ((rd_T73 l0_1 x4_1).f0), .int .i64 ((rd_T73 l0_1 x4_1).f1)] ?_
       with_reducible refine (spec_BridgeIs.calls k1 a0_0 _ _ l0_1 ((rd_T73 l0_1 x4_1).f0) ((rd_T73 l0_1 x4_1).f1) false _ ?side1 ?side2 A11.out).mono ?_
       (case side1 => repeat (first | exact (Kd.C_below HR0_1.out HB.out) | (with_reducible refine Kd.C_alloc ?_ _) | (with_reducible refine Kd.C_drewN ?_ _) | (with_reducible refine Kd.C_drew ?_)))
       (case side2 => exact HC0_1.out)
       rintro e w21 ⟨rfl, hb⟩
       refine ⟨_, rfl, ?_⟩
       have n0_ := Aside0.mk (Kd.R_below (onR HO_3) hb)
       have n1_ := Aside0.mk (blk_below (bkn BK1236) hb)
       have n2_ := Aside0.mk (below_step (bn HB) hb)
       clear HO_3 BK1236 HB
       have HO_3 := n0_
       have BK1236 := n1_
       have HB := n2_
       clear n0_ n1_ n2_
       (try clear hb)
       (try clear hb2)
       (try clear hk)
       (try clear hi)
       refine hK.out _ _ ⟨(blk_cell BK1236.out 0).trans rfl, (blk_cell BK1236.out 1).trans rfl, ((HB.out.cell (World.block_lt_of_cell? w _ hw1241_0)).trans hw1241_0), ((HB.out.cell (World.block_lt_of_cell? w _ hw1241_1)).trans hw1241_1), ((HB.out.cell (World.block_lt_of_cell? w _ hw1242_0)).trans hw1242_0), ((HB.out.cell (World.block_lt_of_cell? w _ hw1242_1)).trans hw1242_1)⟩ (fun hHeld => ?_)
       clear hK K
       refine norm_ (a' := ?_) ?_ ?_
       rotate_left
       ·show Act.put _ (some 30) _ = _
        simp only [Act.put, List.setIfInBounds_toArray, List.set_cons_zero, List.set_cons_succ, i64_w, i32_w]
        rfl
       refine done_ (done_of HT_.out (by kernel_rfl)) ?_
       try go_wp2
       go_roundg k1
       case measure => have := HK1.out; omega
       case rel => exact ⟨(x3_1), (wrap64 (x4_1 + 1)), (by first | rfl | (simp; done) | (simp [*]; done)), H', ⟨by have := HK1.out; omega⟩, ⟨onR HO_3⟩, ⟨bkn BK1236⟩, ⟨bn HB⟩⟩
     ·rw [if_neg c10] at H
      exact absurd H (by simp)
    ·rw [if_neg c9] at H
     have c9b0 := decide_eq_false c9
     clear c9
     obtain rfl := Option.some.inj H
     have hcz22_0 := bc BK1236 0
     have hcz22_1 := bc BK1236 1
     have hfz22_0 := blk_frozen BK1236.out 0
     have hfz22_1 := blk_frozen BK1236.out 1
     go_wp2
     go_ret
     exact ⟨_, by first | rfl | (simp [errW_none, errW_some] <;> rfl) | (simp [*, errW_none, errW_some] <;> rfl), onR HO_3, bn HB⟩
 ·replace c3 := Bool.eq_false_iff.mpr c3
  subst c3
  rw [if_neg (show ¬ (false = true) by decide)] at H
  obtain rfl := Option.some.inj H
  go_enter Try.func123, Try.ntmps123
  go_wp2_with (first | ((with_reducible refine gate_dst (N := 1) rfl ?_); refine box_event ?hg (N := 1) ?hd (cs := #[.int .i64 a0_0, .slice A0_1 l0_1.length c0_1]) (t := 34) ?hr ?_; (case hd => rfl); (case hg => rfl); (case hr => first | (go_simp; done) | (go_simp; rfl)); intro gb1236 hg w23 hbox hb; have n0_ := Aside0.mk (below_step (bn HB) hb); have n1_ := Aside0.mk (hbox); have n2_ := Aside0.mk ((by rw [hg]; exact (below_size (bn HB)) : w.heap.size ≤ gb1236)); have n3_ := Aside0.mk ((by rw [hg]; exact (below_size (bn HB)) : w.heap.size ≤ gb1236)); clear HB; have HB := n0_; have BK1236 := n1_; have GW1236 := n2_; have GE1236 := n3_; clear n0_ n1_ n2_ n3_; clear hb hbox hg) | ((with_reducible refine gate_dst (N := 5) rfl ?_); refine Kd.R_lit k73 _ 73 ?hg (N := 5) ?hd (xs := ([] : List (S73))) (inner := []) (ok := fun _ => True) (okp := fun _ => True) ?hr ?hp (fun _ hk => hk) trivial (Below.refl _ _) (Nat.le_refl _) (by simp) ?_; (case hd => rfl); (case hg => rfl); (case hr => first | (go_simp; done) | (go_simp; rfl)); (case hp => exact (Reps.none _ _)); intro v1238 w24 ho25 hb hg_ hnew_; clear hg_ hnew_; (first | rw [← Ny1237.out] at ho25 | (simp only [Int.reduceToNat] at ho25; rw [← Ny1237.out] at ho25)); have n0_ := Aside0.mk (Kd.R_lower ho25 (below_size (bn HB))); have n1_ := Aside0.mk (blk_below (bkn BK1236) hb); have n2_ := Aside0.mk (below_step (bn HB) hb); clear BK1236; clear HB; have HO1239 := n0_; have BK1236 := n1_; have HB := n2_; clear n0_ n1_ n2_; clear hb ho25; have hcz26_0 := bc BK1236 0; have hcz26_1 := bc BK1236 1; have hfz26_0 := blk_frozen BK1236.out 0; have hfz26_1 := blk_frozen BK1236.out 1) | ((with_reducible refine gate_callee (f := 66) rfl ?_); refine gl_ (some 7) Try.func66 #[.agg #[.int .i64 a0_0, .slice A0_1 l0_1.length c0_1]] ?_; (with_reducible refine (spec_NetOk.calls k a0_0 _ _ l0_1 false _ ?side1 ?side2 A2.out).mono ?_); (case side1 => repeat (first | exact (Kd.C_below HR0_1.out HB.out) | (with_reducible refine Kd.C_alloc ?_ _) | (with_reducible refine Kd.C_drewN ?_ _) | (with_reducible refine Kd.C_drew ?_))); (case side2 => exact HC0_1.out); rintro e w27 ⟨rfl, hb⟩; refine ⟨_, rfl, ?_⟩; have n0_ := Aside0.mk (Kd.R_below (onR HO1239) hb); have n1_ := Aside0.mk (blk_below (bkn BK1236) hb); have n2_ := Aside0.mk (below_step (bn HB) hb); clear HO1239; clear BK1236; clear HB; have HO1239 := n0_; have BK1236 := n1_; have HB := n2_; clear n0_ n1_ n2_; (try clear hb); (try clear hi)))
  go_ret
  exact ⟨_, by first | rfl | (simp [errW_none, errW_some] <;> rfl) | (simp [*, errW_none, errW_some] <;> rfl), onR HO1239, bn HB⟩

end Go.Proofs.Ytdlnnjgjfngccaa.F
