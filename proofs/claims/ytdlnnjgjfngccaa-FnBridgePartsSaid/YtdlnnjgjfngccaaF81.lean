-- Written by oprint.py (wip/tools) over the kit's print program, for this seat.
import Derived.Test.YtdlnnjgjfngccaaF0
import Derived.Test.YtdlnnjgjfngccaaF14
import Derived.Test.YtdlnnjgjfngccaaF35
import Derived.Test.YtdlnnjgjfngccaaF61
namespace Go.Proofs.Ytdlnnjgjfngccaa.F
open Go.RowKit Go.Proofs.YtdlnnjgjfngccaaW.PrintWords Go.Proofs.YtdlnnjgjfngccaaW.PrintLast Go.Proofs.YtdlnnjgjfngccaaW.PrintMore
attribute [local go_sem] max2_int min2_int max_two min_two max_three min_three max_four min_four   -- for this text's walks alone
set_option linter.unusedVariables false
set_option linter.unusedSimpArgs false

/-! ### spec_BridgeIs: function 139 -/
def spec_BridgeIs.f (k : Nat) (a0_0 : Int) (l0_1 : List (S73)) (a1 : Int) (a2 : Int) : Option (Bool) := (spec_NetCut.f k a0_0 l0_1 a1 a2).bind fun bt1228 => (if bt1228.2.2 = true then ((spec_WayCount.f k bt1228.1 bt1228.2.1).bind fun t1234 => ((spec_WayCount.f k a0_0 l0_1).bind fun t1235 => (some (decide (t1234 > t1235))))) else (some false))
theorem spec_BridgeIs.mono : ∀ a0 a1 a2 a3 k, LeO (spec_BridgeIs.f k a0 a1 a2 a3) (spec_BridgeIs.f (k + 1) a0 a1 a2 a3) := by
 intro a0 a1 a2 a3 k
 unfold spec_BridgeIs.f
 have m0_ := @spec_NetCut.mono
 have m1_ := @spec_WayCount.mono
 exact mo_
def spec_BridgeIs.T2 : Bool × List (List Nat × List Nat) := (true, [([], []), ([0], [0]), ([1], [1]), ([2, 1, 1], [1, 2]), ([1], [1]), ([4, 3, 1], [1, 4]), ([3, 5, 1], [1, 3, 5]), ([1, 6], [1, 6]), ([7, 5, 0, 1, 2, 3, 4, 5, 6, 7], [7])])
def spec_BridgeIs.B2 : List Nat := [0, 1, 3, 7, 3, 31, 63, 127, 255]
theorem spec_BridgeIs.tab2 : rtab .any (opsOf Try.f139 2) = spec_BridgeIs.T2 := by kernel_rfl
theorem spec_BridgeIs.bits2 : waitsOk spec_BridgeIs.T2.2 spec_BridgeIs.B2 = true := by kernel_rfl
set_option maxHeartbeats 8000000 in
set_option maxRecDepth 100000 in
theorem spec_BridgeIs.calls (k : Nat) (a0_0 : Int) (A0_1 : Option Addr) (c0_1 : Nat) (l0_1 : List (S73)) (a1 : Int) (a2 : Int) (r : Bool) (w : World) (hr0_1 : Kd.C k73 w A0_1 l0_1.length l0_1) (hc0_1 : l0_1.length ≤ c0_1) (h : spec_BridgeIs.f k a0_0 l0_1 a1 a2 = some r) :
  Calls Try.prog 139 #[.agg #[.int .i64 a0_0, .slice A0_1 l0_1.length c0_1], .int .i64 a1, .int .i64 a2] w fun e w' => e = .returned (.bool r) ∧ Below w.heap.size w w' := by
 have hu34 := Try.underlying34
 have HR0_1 := am hr0_1
 have HC0_1 := am hc0_1
 clear hr0_1 hc0_1
 have HB := am (Below.refl w.heap.size w)
 have H : ((spec_NetCut.f k a0_0 l0_1 a1 a2).bind fun bt1228 => (if bt1228.2.2 = true then ((spec_WayCount.f k bt1228.1 bt1228.2.1).bind fun t1234 => ((spec_WayCount.f k a0_0 l0_1).bind fun t1235 => (some (decide (t1234 > t1235))))) else (some false))) = some r := h
 clear h
 replace H := Option.bind_eq_some_iff.mp H
 obtain ⟨⟨t1228, t1229, t1232⟩, A40, H⟩ := H
 (try dsimp only at H)
 have A4 := am A40
 clear A40
 by_cases c5 : t1232 = true
 ·subst c5
  rw [if_pos rfl] at H
  replace H := Option.bind_eq_some_iff.mp H
  obtain ⟨t1234, A60, H⟩ := H
  (try dsimp only at H)
  have A6 := am A60
  clear A60
  replace H := Option.bind_eq_some_iff.mp H
  obtain ⟨t1235, A70, H⟩ := H
  (try dsimp only at H)
  have A7 := am A70
  clear A70
  obtain rfl := Option.some.inj H
  go_enter Try.func139, Try.ntmps139
  try go_wp2_with (first | ((with_reducible refine gate_dst (N := 3) rfl ?_); refine be_ 3 #[.int .i64 a0_0, .slice A0_1 l0_1.length c0_1] 34 ?_; intro gb1227 hg w8 hbox hb; have BK1227 := am hbox; have GW1227 := am (ge_ hg HB); have GE1227 := am (ge_ hg HB); replace HB := bs HB hb; clear hb hbox hg; obtain ⟨hcz9_0, hcz9_1, hfz9_0, hfz9_1⟩ := c2 BK1227) | ((with_reducible refine gate_callee (f := 103) rfl ?_); refine gl_ (some 13) Try.func103 #[.agg #[.int .i64 a0_0, .slice A0_1 l0_1.length c0_1], .int .i64 a1, .int .i64 a2] ?_; (with_reducible refine (spec_NetCut.calls k a0_0 _ _ l0_1 a1 a2 t1228 t1229 true _ ?side1 ?side2 A4.out).mono ?_); (case side1 => exact cb HR0_1 HB); (case side2 => exact HC0_1.out); rintro e w10 ⟨v1230, rfl, ho0, hb⟩; refine ⟨_, rfl, ?_⟩; have HO1231 := am (Kd.R_lower ho0 (below_size (bn HB))); replace BK1227 := bb BK1227 hb; replace HB := bs HB hb; (try clear hb); (try clear ho0)) | ((with_reducible refine gate_dst (N := 7) rfl ?_); refine be_ 7 #[.int .i64 0, .slice none 0 0] 34 ?_; intro gb1233 hg w11 hbox hb; replace HO1231 := am (Kd.R_below (onR HO1231) hb); have BK1233 := am hbox; have GW1233 := am (ge_ hg HB); have GE1233 := am (ge_ hg HB); replace HB := bs HB hb; obtain ⟨NB1227_1233, NB1233_1227⟩ := nb_ hg BK1227; replace BK1227 := bb BK1227 hb; clear hb hbox hg; obtain ⟨hnb12, hnc12⟩ := n2 NB1233_1227 NB1227_1233; obtain ⟨hcz13_0, hcz13_1, hfz13_0, hfz13_1⟩ := c2 BK1233; obtain ⟨Ao14, co14, eo14⟩ := Kd.R_slice HO1231.out; subst eo14))
  have n0_ : Aside0 (Kd.R k73 73 ((w11.setCell ⟨gb1233, 0, none⟩ (.int .i64 t1228)).setCell ⟨gb1233, 1, none⟩ (.slice Ao14 t1229.length co14)) w.heap.size (fun _ => True) (.slice Ao14 t1229.length co14) t1229) := ⟨by (with_reducible repeat (first | apply Kd.R_alloc | apply Kd.R_drewN | apply Kd.R_drew)); exact Kd.R_mono (Kd.R_far (p := ⟨gb1233, 1, none⟩) (Kd.R_far (p := ⟨gb1233, 0, none⟩) (Kd.R_types HO1231.out BK1233.out (by decide)) (fun _ hk => hk.2) (.int .i64 t1228)) (fun _ hk => hk.2) (.slice Ao14 t1229.length co14)) (fun _ hk => trivial)⟩
  have n1_ : Aside0 (((w11.setCell ⟨gb1233, 0, none⟩ (.int .i64 t1228)).setCell ⟨gb1233, 1, none⟩ (.slice Ao14 t1229.length co14)).heap[gb1227]? = some (.cells #[.int .i64 a0_0, .slice A0_1 l0_1.length c0_1] 34 (0, 0))) := ⟨bkn BK1227⟩
  have n2_ : Aside0 (((w11.setCell ⟨gb1233, 0, none⟩ (.int .i64 t1228)).setCell ⟨gb1233, 1, none⟩ (.slice Ao14 t1229.length co14)).heap[gb1233]? = some (.cells #[.int .i64 t1228, .slice Ao14 t1229.length co14] 34 (0, 0))) := ⟨by (with_reducible repeat (first | refine blk_drewN ?_ _ | refine blk_drew ?_ | refine blk_alloc ?_ _)); refine blk_put (cs := #[.int .i64 t1228, .slice none 0 0]) ?_ 1 _ rfl; (with_reducible repeat (first | refine blk_drewN ?_ _ | refine blk_drew ?_ | refine blk_alloc ?_ _)); refine blk_put (cs := #[.int .i64 0, .slice none 0 0]) ?_ 0 _ rfl; (with_reducible repeat (first | refine blk_drewN ?_ _ | refine blk_drew ?_ | refine blk_alloc ?_ _)); exact BK1233.out⟩
  have n3_ : Aside0 (Below w.heap.size w ((w11.setCell ⟨gb1233, 0, none⟩ (.int .i64 t1228)).setCell ⟨gb1233, 1, none⟩ (.slice Ao14 t1229.length co14))) := ⟨bn HB⟩
  (try clear HO1231)
  (try clear BK1227)
  (try clear BK1233)
  (try clear HB)
  generalize ((w11.setCell ⟨gb1233, 0, none⟩ (.int .i64 t1228)).setCell ⟨gb1233, 1, none⟩ (.slice Ao14 t1229.length co14)) = w15 at n0_ n1_ n2_ n3_ ⊢
  have HO1231 := n0_
  have BK1227 := n1_
  have BK1233 := n2_
  have HB := n3_
  clear n0_ n1_ n2_ n3_
  replace HO1231 := am (Kd.R_drew HO1231.out)
  replace BK1227 := am (blk_drew BK1227.out)
  replace BK1233 := am (blk_drew BK1233.out)
  replace HB := am (below_drew1 HB.out)
  refine start_ (n := 9) (S := fun w' => w'.cell? ⟨gb1233, 0, none⟩ = some (.int .i64 t1228) ∧ w'.cell? ⟨gb1233, 1, none⟩ = some (.slice Ao14 t1229.length co14) ∧ w'.cell? ⟨gb1227, 0, none⟩ = some (.int .i64 a0_0) ∧ w'.cell? ⟨gb1227, 1, none⟩ = some (.slice A0_1 l0_1.length c0_1)) (ds := []) #[false, false, false, false, false, false, false, false, false] (by kernel_rfl) rfl rfl ⟨(bc BK1233 0), (bc BK1233 1), (bc BK1227 0), (bc BK1227 1)⟩ (fun hHeld => ?_); refine with_tabW spec_BridgeIs.tab2 spec_BridgeIs.bits2 (fun HT_ HW_ => ?_)
  generalize w15.drew = w16 at HO1231 BK1227 BK1233 HB hHeld ⊢
  refine pz_ 0 (some 16) HT_ ?_
  refine pz_ 1 (some 17) HT_ ?_
  refine tz_ 2 (some 18) HT_ HW_ hHeld ?_
  refine tz_ 4 (some 20) HT_ HW_ hHeld ?_
  refine one_ (i := 3) (N := some 19) #[true, true, true, true, true, false, false, false, false] rfl rfl (one_of HT_.out (by kernel_rfl)) (by decide) (fun K hK => ?_)
  refine gg_ Try.func115 #[.agg #[.int .i64 t1228, .slice Ao14 t1229.length co14]] ?_
  with_reducible refine (spec_WayCount.calls k t1228 _ _ t1229 t1234 _ ?side1 ?side2 A6.out).mono ?_
  (case side1 => exact (Kd.R_reads' (onR HO1231)).2.2)
  (case side2 => exact (Kd.R_reads' HO1231.out).2.1)
  rintro e w17 ⟨rfl, hb⟩
  refine ⟨_, rfl, ?_⟩
  replace HO1231 := am (Kd.R_below (onR HO1231) hb)
  replace BK1227 := bb BK1227 hb
  replace BK1233 := bb BK1233 hb
  replace HB := bs HB hb
  (try clear hb)
  (try clear hb2)
  (try clear hk)
  (try clear hi)
  refine hK.out _ _ ⟨(bc BK1233 0), (bc BK1233 1), (bc BK1227 0), (bc BK1227 1)⟩ (fun hHeld => ?_)
  clear hK K
  refine nz_ 19 ?_
  refine one_ (i := 5) (N := some 21) #[true, true, true, true, true, true, false, false, false] rfl rfl (one_of HT_.out (by kernel_rfl)) (by decide) (fun K hK => ?_)
  refine gg_ Try.func115 #[.agg #[.int .i64 a0_0, .slice A0_1 l0_1.length c0_1]] ?_
  with_reducible refine (spec_WayCount.calls k a0_0 _ _ l0_1 t1235 _ ?side1 ?side2 A7.out).mono ?_
  (case side1 => exact cb HR0_1 HB)
  (case side2 => exact HC0_1.out)
  rintro e w18 ⟨rfl, hb⟩
  refine ⟨_, rfl, ?_⟩
  replace HO1231 := am (Kd.R_below (onR HO1231) hb)
  replace BK1227 := bb BK1227 hb
  replace BK1233 := bb BK1233 hb
  replace HB := bs HB hb
  (try clear hb)
  (try clear hb2)
  (try clear hk)
  (try clear hi)
  refine hK.out _ _ ⟨(bc BK1233 0), (bc BK1233 1), (bc BK1227 0), (bc BK1227 1)⟩ (fun hHeld => ?_)
  clear hK K
  refine nz_ 21 ?_
  refine pz_ 6 (some 22) HT_ ?_
  refine pz_ 7 (some 23) HT_ ?_
  refine pz_ 8 (some 6) HT_ ?_
  refine done_ (done_of HT_.out (by kernel_rfl)) ?_
  try go_wp2
  go_ret
  exact ⟨by first | rfl | (simp [errW_none, errW_some] <;> rfl) | (simp [*, errW_none, errW_some] <;> rfl), bn HB⟩
 ·replace c5 := Bool.eq_false_iff.mpr c5
  subst c5
  rw [if_neg (show ¬ (false = true) by decide)] at H
  obtain rfl := Option.some.inj H
  go_enter Try.func139, Try.ntmps139
  try go_wp2_with (first | ((with_reducible refine gate_dst (N := 3) rfl ?_); refine be_ 3 #[.int .i64 a0_0, .slice A0_1 l0_1.length c0_1] 34 ?_; intro gb1227 hg w19 hbox hb; have BK1227 := am hbox; have GW1227 := am (ge_ hg HB); have GE1227 := am (ge_ hg HB); replace HB := bs HB hb; clear hb hbox hg; obtain ⟨hcz20_0, hcz20_1, hfz20_0, hfz20_1⟩ := c2 BK1227) | ((with_reducible refine gate_callee (f := 103) rfl ?_); refine gl_ (some 13) Try.func103 #[.agg #[.int .i64 a0_0, .slice A0_1 l0_1.length c0_1], .int .i64 a1, .int .i64 a2] ?_; (with_reducible refine (spec_NetCut.calls k a0_0 _ _ l0_1 a1 a2 t1228 t1229 false _ ?side1 ?side2 A4.out).mono ?_); (case side1 => exact cb HR0_1 HB); (case side2 => exact HC0_1.out); rintro e w21 ⟨v1230, rfl, ho0, hb⟩; refine ⟨_, rfl, ?_⟩; have HO1231 := am (Kd.R_lower ho0 (below_size (bn HB))); replace BK1227 := bb BK1227 hb; replace HB := bs HB hb; (try clear hb); (try clear ho0)) | ((with_reducible refine gate_dst (N := 7) rfl ?_); refine be_ 7 #[.int .i64 0, .slice none 0 0] 34 ?_; intro gb1233 hg w22 hbox hb; replace HO1231 := am (Kd.R_below (onR HO1231) hb); have BK1233 := am hbox; have GW1233 := am (ge_ hg HB); have GE1233 := am (ge_ hg HB); replace HB := bs HB hb; obtain ⟨NB1227_1233, NB1233_1227⟩ := nb_ hg BK1227; replace BK1227 := bb BK1227 hb; clear hb hbox hg; obtain ⟨hnb23, hnc23⟩ := n2 NB1233_1227 NB1227_1233; obtain ⟨hcz24_0, hcz24_1, hfz24_0, hfz24_1⟩ := c2 BK1233; obtain ⟨Ao25, co25, eo25⟩ := Kd.R_slice HO1231.out; subst eo25))
  have n0_ : Aside0 (Kd.R k73 73 ((w22.setCell ⟨gb1233, 0, none⟩ (.int .i64 t1228)).setCell ⟨gb1233, 1, none⟩ (.slice Ao25 t1229.length co25)) w.heap.size (fun _ => True) (.slice Ao25 t1229.length co25) t1229) := ⟨by (with_reducible repeat (first | apply Kd.R_alloc | apply Kd.R_drewN | apply Kd.R_drew)); exact Kd.R_mono (Kd.R_far (p := ⟨gb1233, 1, none⟩) (Kd.R_far (p := ⟨gb1233, 0, none⟩) (Kd.R_types HO1231.out BK1233.out (by decide)) (fun _ hk => hk.2) (.int .i64 t1228)) (fun _ hk => hk.2) (.slice Ao25 t1229.length co25)) (fun _ hk => trivial)⟩
  have n1_ : Aside0 (((w22.setCell ⟨gb1233, 0, none⟩ (.int .i64 t1228)).setCell ⟨gb1233, 1, none⟩ (.slice Ao25 t1229.length co25)).heap[gb1227]? = some (.cells #[.int .i64 a0_0, .slice A0_1 l0_1.length c0_1] 34 (0, 0))) := ⟨bkn BK1227⟩
  have n2_ : Aside0 (((w22.setCell ⟨gb1233, 0, none⟩ (.int .i64 t1228)).setCell ⟨gb1233, 1, none⟩ (.slice Ao25 t1229.length co25)).heap[gb1233]? = some (.cells #[.int .i64 t1228, .slice Ao25 t1229.length co25] 34 (0, 0))) := ⟨by (with_reducible repeat (first | refine blk_drewN ?_ _ | refine blk_drew ?_ | refine blk_alloc ?_ _)); refine blk_put (cs := #[.int .i64 t1228, .slice none 0 0]) ?_ 1 _ rfl; (with_reducible repeat (first | refine blk_drewN ?_ _ | refine blk_drew ?_ | refine blk_alloc ?_ _)); refine blk_put (cs := #[.int .i64 0, .slice none 0 0]) ?_ 0 _ rfl; (with_reducible repeat (first | refine blk_drewN ?_ _ | refine blk_drew ?_ | refine blk_alloc ?_ _)); exact BK1233.out⟩
  have n3_ : Aside0 (Below w.heap.size w ((w22.setCell ⟨gb1233, 0, none⟩ (.int .i64 t1228)).setCell ⟨gb1233, 1, none⟩ (.slice Ao25 t1229.length co25))) := ⟨bn HB⟩
  (try clear HO1231)
  (try clear BK1227)
  (try clear BK1233)
  (try clear HB)
  generalize ((w22.setCell ⟨gb1233, 0, none⟩ (.int .i64 t1228)).setCell ⟨gb1233, 1, none⟩ (.slice Ao25 t1229.length co25)) = w26 at n0_ n1_ n2_ n3_ ⊢
  have HO1231 := n0_
  have BK1227 := n1_
  have BK1233 := n2_
  have HB := n3_
  clear n0_ n1_ n2_ n3_
  replace HO1231 := am (Kd.R_drew HO1231.out)
  replace BK1227 := am (blk_drew BK1227.out)
  replace BK1233 := am (blk_drew BK1233.out)
  replace HB := am (below_drew1 HB.out)
  refine start_ (n := 9) (S := fun w' => True) (ds := []) #[false, false, false, false, false, false, false, false, false] (by kernel_rfl) rfl rfl trivial (fun hHeld => ?_); refine with_tabW spec_BridgeIs.tab2 spec_BridgeIs.bits2 (fun HT_ HW_ => ?_)
  generalize w26.drew = w27 at HO1231 BK1227 BK1233 HB hHeld ⊢
  refine pz_ 0 (some 16) HT_ ?_
  refine pz_ 1 (some 17) HT_ ?_
  refine pu_ 2 (some 18) HT_ ?_
  refine pu_ 3 (some 19) HT_ ?_
  refine pu_ 4 (some 20) HT_ ?_
  refine pu_ 5 (some 21) HT_ ?_
  refine pu_ 6 (some 22) HT_ ?_
  refine pz_ 7 (some 23) HT_ ?_
  refine pz_ 8 (some 6) HT_ ?_
  refine done_ (done_of HT_.out (by kernel_rfl)) ?_
  try go_wp2
  go_ret
  exact ⟨by first | rfl | (simp [errW_none, errW_some] <;> rfl) | (simp [*, errW_none, errW_some] <;> rfl), bn HB⟩

/-! ### spec_BridgeList: function 123 -/
def spec_BridgeList.l0 : Nat → List (S73) → Int → Int → List (S73) → Option ((List (S73)))
 | 0, _, _, _, _ => none
 | k + 1, x3, x4, x1237000, x1237001 => if x4 < (x1237001.length : Int) then (if 0 ≤ x4 then ((spec_BridgeIs.f k x1237000 x1237001 ((rd_T73 x1237001 x4).f0) ((rd_T73 x1237001 x4).f1)).bind fun t1243 => (if t1243 = true then (if x3.length < 8796093022208 then (spec_BridgeList.l0 k (x3 ++ [(⟨(rd_T73 x1237001 x4).f0, (rd_T73 x1237001 x4).f1⟩ : S73)]) (wrap64 (x4 + 1)) x1237000 x1237001) else (none)) else (spec_BridgeList.l0 k x3 (wrap64 (x4 + 1)) x1237000 x1237001))) else (none)) else (some x3)
def spec_BridgeList.f (k : Nat) (a0_0 : Int) (l0_1 : List (S73)) : Option ((List (S73))) := (some (([] : List (S73)) : List (S73))).bind fun y1237 => ((spec_NetOk.f k a0_0 l0_1).bind fun t1240 => (if t1240 = true then (spec_BridgeList.l0 k y1237 0 a0_0 l0_1) else (some y1237)))
theorem spec_BridgeList.mono_l : ∀ k, (∀ y0 y1 y2 y3, LeO (spec_BridgeList.l0 k y0 y1 y2 y3) (spec_BridgeList.l0 (k + 1) y0 y1 y2 y3))
 | 0 => fun _ _ _ _ r h => by simp [spec_BridgeList.l0] at h
 | k + 1 => by
  have ih0 := spec_BridgeList.mono_l k
  ·intro y0 y1 y2 y3
   unfold spec_BridgeList.l0
   have m0_ := @spec_BridgeIs.mono
   have m1_ := @spec_NetOk.mono
   exact mo_
theorem spec_BridgeList.mono : ∀ a0 a1 k, LeO (spec_BridgeList.f k a0 a1) (spec_BridgeList.f (k + 1) a0 a1) := by
 intro a0 a1 k
 have ih0 := spec_BridgeList.mono_l k
 unfold spec_BridgeList.f
 have m0_ := @spec_BridgeIs.mono
 have m1_ := @spec_NetOk.mono
 exact mo_
def spec_BridgeList.T7 : Bool × List (List Nat × List Nat) := (true, [([], []), ([], []), ([1], [1]), ([], []), ([2, 3], [2, 3]), ([4], [4]), ([5], [5]), ([], []), ([7], [7]), ([], []), ([8, 9], [8, 9]), ([10], [10]), ([11], [11]), ([0, 6, 12], [0, 6, 12])])
def spec_BridgeList.B7 : List Nat := [0, 0, 2, 0, 14, 30, 62, 0, 128, 0, 896, 1920, 3968, 8191]
theorem spec_BridgeList.tab7 : rtab .any (opsOf Try.f123 7) = spec_BridgeList.T7 := by kernel_rfl
theorem spec_BridgeList.bits7 : waitsOk spec_BridgeList.T7.2 spec_BridgeList.B7 = true := by kernel_rfl
set_option maxHeartbeats 8000000 in
set_option maxRecDepth 100000 in
theorem spec_BridgeList.calls (k : Nat) (a0_0 : Int) (A0_1 : Option Addr) (c0_1 : Nat) (l0_1 : List (S73)) (r : List (S73)) (w : World) (hr0_1 : Kd.C k73 w A0_1 l0_1.length l0_1) (hc0_1 : l0_1.length ≤ c0_1) (h : spec_BridgeList.f k a0_0 l0_1 = some r) :
  Calls Try.prog 123 #[.agg #[.int .i64 a0_0, .slice A0_1 l0_1.length c0_1]] w fun e w' => ∃ v0_ : Value, e = .returned (v0_) ∧ Kd.R k73 73 w' w.heap.size (fun _ => True) v0_ r ∧ Below w.heap.size w w' := by
 have hu34 := Try.underlying34
 have hu73 := Try.underlying73
 have HR0_1 := am hr0_1
 have HC0_1 := am hc0_1
 clear hr0_1 hc0_1
 have HB := am (Below.refl w.heap.size w)
 have H : ((some (([] : List (S73)) : List (S73))).bind fun y1237 => ((spec_NetOk.f k a0_0 l0_1).bind fun t1240 => (if t1240 = true then (spec_BridgeList.l0 k y1237 0 a0_0 l0_1) else (some y1237)))) = some r := h
 clear h
 obtain ⟨y1237, hy1237⟩ : ∃ y_ : List (S73), y_ = (([] : List (S73))) := ⟨_, rfl⟩
 replace H : ((spec_NetOk.f k a0_0 l0_1).bind fun t1240 => (if t1240 = true then (spec_BridgeList.l0 k y1237 0 a0_0 l0_1) else (some y1237))) = some r := nh_ hy1237 H
 have Ny1237 := am hy1237
 clear hy1237
 replace H := Option.bind_eq_some_iff.mp H
 obtain ⟨t1240, A20, H⟩ := H
 (try dsimp only at H)
 have A2 := am A20
 clear A20
 by_cases c3 : t1240 = true
 ·subst c3
  rw [if_pos rfl] at H
  have H' := am H
  clear H
  go_enter Try.func123, Try.ntmps123
  go_wp2_with (first | ((with_reducible refine gate_dst (N := 1) rfl ?_); refine be_ 1 #[.int .i64 a0_0, .slice A0_1 l0_1.length c0_1] 34 ?_; intro gb1236 hg w4 hbox hb; have BK1236 := am hbox; have GW1236 := am (ge_ hg HB); have GE1236 := am (ge_ hg HB); replace HB := bs HB hb; clear hb hbox hg) | ((with_reducible refine gate_dst (N := 5) rfl ?_); refine Kd.R_lit k73 _ 73 ?hg (N := 5) ?hd (xs := ([] : List (S73))) (inner := []) (ok := fun _ => True) (okp := fun _ => True) ?hr ?hp (fun _ hk => hk) trivial (Below.refl _ _) (Nat.le_refl _) (by simp) ?_; (case hd => rfl); (case hg => rfl); (case hr => first | (go_simp; done) | (go_simp; rfl)); (case hp => exact (Reps.none _ _)); intro v1238 w5 ho6 hb hg_ hnew_; clear hg_ hnew_; (first | rw [← Ny1237.out] at ho6 | (simp only [Int.reduceToNat] at ho6; rw [← Ny1237.out] at ho6)); have HO1239 := am (Kd.R_lower ho6 (below_size (bn HB))); replace BK1236 := bb BK1236 hb; replace HB := bs HB hb; clear hb ho6; obtain ⟨hcz7_0, hcz7_1, hfz7_0, hfz7_1⟩ := c2 BK1236) | ((with_reducible refine gate_callee (f := 66) rfl ?_); refine gl_ (some 7) Try.func66 #[.agg #[.int .i64 a0_0, .slice A0_1 l0_1.length c0_1]] ?_; (with_reducible refine (spec_NetOk.calls k a0_0 _ _ l0_1 true _ ?side1 ?side2 A2.out).mono ?_); (case side1 => exact cb HR0_1 HB); (case side2 => exact HC0_1.out); rintro e w8 ⟨rfl, hb⟩; refine ⟨_, rfl, ?_⟩; replace HO1239 := am (Kd.R_below (onR HO1239) hb); replace BK1236 := bb BK1236 hb; replace HB := bs HB hb; (try clear hb); (try clear hi)))
  go_loopg [3, 4] k (fun kq v3 v4 w' => ∃ (x3_1 : List (S73)) (x4_1 : Int), v4 = .int .i64 x4_1 ∧ Aside0 (spec_BridgeList.l0 kq x3_1 x4_1 a0_0 l0_1 = some r) ∧ Aside0 (kq ≤ k) ∧ Aside0 (Kd.R k73 73 w' w.heap.size (fun _ => True) v3 x3_1) ∧ Aside0 (w'.heap[gb1236]? = some (.cells #[.int .i64 a0_0, (.slice A0_1 l0_1.length c0_1)] 34 (0, 0))) ∧ Aside0 (Below w.heap.size w w'))
  case atStart => exact ⟨(y1237), (0), (by first | rfl | (simp; done) | (simp [*]; done)), H', ⟨Nat.le_refl _⟩, ⟨onR HO1239⟩, ⟨bkn BK1236⟩, ⟨bn HB⟩⟩
  case round =>
   clear H'
   try clear c1
   try clear p2
   try clear c3
   try clear c6
   try clear hcz7_0 hcz7_1 hfz7_0 hfz7_1
   obtain ⟨x3_1, x4_1, rfl, HA, HK1, HO_3, BK1236, HB⟩ := hrel
   cases gk with
   | zero => exact absurd HA.out (by simp [spec_BridgeList.l0])
   | succ k1 =>
    have H := HA.out
    clear HA
    simp only [spec_BridgeList.l0] at H
    by_cases c9 : x4_1 < (l0_1.length : Int)
    ·rw [if_pos c9] at H
     have c9b0 := decide_eq_true c9
     clear c9
     obtain ⟨c10, H⟩ := ig_ H
     have c10b0 := decide_eq_true c10
     clear c10
     replace H := Option.bind_eq_some_iff.mp H
     obtain ⟨t1243, A110, H⟩ := H
     (try dsimp only at H)
     have A11 := am A110
     clear A110
     by_cases c12 : t1243 = true
     ·subst c12
      rw [if_pos rfl] at H
      obtain ⟨c13, H⟩ := ig_ H
      have LMc13 := am c13
      clear c13
      obtain ⟨y1245, hy1245⟩ : ∃ y_ : List (S73), y_ = (x3_1 ++ [(⟨(rd_T73 l0_1 x4_1).f0, (rd_T73 l0_1 x4_1).f1⟩ : S73)]) := ⟨_, rfl⟩
      replace H : (spec_BridgeList.l0 k1 y1245 (wrap64 (x4_1 + 1)) a0_0 l0_1) = some r := nh_ hy1245 H
      have Ny1245 := am hy1245
      clear hy1245
      have H' := am H
      clear H
      obtain ⟨hcz14_0, hcz14_1, hfz14_0, hfz14_1⟩ := c2 BK1236
      try go_wp2
      replace HO_3 := am (Kd.R_drew HO_3.out)
      replace BK1236 := am (blk_drew BK1236.out)
      replace HB := am (below_drew1 HB.out)
      have p1241 : 0 ≤ (x4_1 : Int) := oa
      have q1241 : x4_1 < (l0_1.length : Int) := oa
      obtain ⟨ad1241, e1241, hx1241_0, hx1241_1⟩ := at_T73 HR0_1.out x4_1 p1241 q1241
      have hw1241_1 := hx1241_1
      have hw1241_0 := hx1241_0
      cases e1241
      replace hx1241_0 := (HB.out.cell (World.block_lt_of_cell? w _ hx1241_0)).trans hx1241_0
      replace hx1241_1 := (HB.out.cell (World.block_lt_of_cell? w _ hx1241_1)).trans hx1241_1
      replace p1241 := eq_true p1241
      replace q1241 := eq_true q1241
      have p1242 : 0 ≤ (x4_1 : Int) := oa
      have q1242 : x4_1 < (l0_1.length : Int) := oa
      obtain ⟨ad1242, e1242, hx1242_0, hx1242_1⟩ := at_T73 HR0_1.out x4_1 p1242 q1242
      have hw1242_1 := hx1242_1
      have hw1242_0 := hx1242_0
      obtain rfl : ad1241 = ad1242 := (by injection e1242)
      replace hx1242_0 := (HB.out.cell (World.block_lt_of_cell? w _ hx1242_0)).trans hx1242_0
      replace hx1242_1 := (HB.out.cell (World.block_lt_of_cell? w _ hx1242_1)).trans hx1242_1
      replace p1242 := eq_true p1242
      replace q1242 := eq_true q1242
      refine start_ (n := 14) (S := fun w' => w'.cell? ⟨gb1236, 0, none⟩ = some (.int .i64 a0_0) ∧ w'.cell? ⟨gb1236, 1, none⟩ = some (.slice (some ad1241) l0_1.length c0_1) ∧ w'.cell? (ad1241.add ((x4_1).toNat * 2)) = some (.int .i64 ((rd_T73 l0_1 x4_1).f0)) ∧ w'.cell? ⟨(ad1241.add ((x4_1).toNat * 2)).block, (ad1241.add ((x4_1).toNat * 2)).off + 1, none⟩ = some (.int .i64 ((rd_T73 l0_1 x4_1).f1)) ∧ w'.cell? (ad1241.add ((x4_1).toNat * 2)) = some (.int .i64 ((rd_T73 l0_1 x4_1).f0)) ∧ w'.cell? ⟨(ad1241.add ((x4_1).toNat * 2)).block, (ad1241.add ((x4_1).toNat * 2)).off + 1, none⟩ = some (.int .i64 ((rd_T73 l0_1 x4_1).f1))) (ds := []) #[false, false, false, false, false, false, false, false, false, false, false, false, false, false] (by kernel_rfl) rfl rfl ⟨(bc BK1236 0), (bc BK1236 1), ((HB.out.cell (World.block_lt_of_cell? w _ hw1241_0)).trans hw1241_0), ((HB.out.cell (World.block_lt_of_cell? w _ hw1241_1)).trans hw1241_1), ((HB.out.cell (World.block_lt_of_cell? w _ hw1242_0)).trans hw1242_0), ((HB.out.cell (World.block_lt_of_cell? w _ hw1242_1)).trans hw1242_1)⟩ (fun hHeld => ?_); refine with_tabW spec_BridgeList.tab7 spec_BridgeList.bits7 (fun HT_ HW_ => ?_)
      generalize wr.drew = w15 at HO_3 BK1236 HB hx1241_0 hx1241_1 hx1242_0 hx1242_1 hHeld ⊢
      refine pz_ 1 (some 18) HT_ ?_
      refine pz_ 3 (some 20) HT_ ?_
      refine pz_ 7 (some 24) HT_ ?_
      refine pz_ 9 (some 26) HT_ ?_
      refine tz_ 0 (some 17) HT_ HW_ hHeld ?_
      refine tz_ 2 (some 19) HT_ HW_ hHeld ?_
      refine pz_ 4 (some 21) HT_ ?_
      refine pz_ 5 (some 22) HT_ ?_
      refine tz_ 6 (some 23) HT_ HW_ hHeld ?_
      refine tz_ 8 (some 25) HT_ HW_ hHeld ?_
      refine pz_ 10 (some 27) HT_ ?_
      refine pz_ 11 (some 28) HT_ ?_
      refine tz_ 12 (some 29) HT_ HW_ hHeld ?_
      refine one_ (i := 13) (N := some 30) #[true, true, true, true, true, true, true, true, true, true, true, true, true, true] rfl rfl (one_of HT_.out (by kernel_rfl)) (by decide) (fun K hK => ?_)
      refine gg_ Try.func139 #[.agg #[.int .i64 a0_0, .slice (some ad1241) l0_1.length c0_1], .int .i64 ((rd_T73 l0_1 x4_1).f0), .int .i64 ((rd_T73 l0_1 x4_1).f1)] ?_
      with_reducible refine (spec_BridgeIs.calls k1 a0_0 _ _ l0_1 ((rd_T73 l0_1 x4_1).f0) ((rd_T73 l0_1 x4_1).f1) true _ ?side1 ?side2 A11.out).mono ?_
      (case side1 => exact cb HR0_1 HB)
      (case side2 => exact HC0_1.out)
      rintro e w16 ⟨rfl, hb⟩
      refine ⟨_, rfl, ?_⟩
      replace HO_3 := am (Kd.R_below (onR HO_3) hb)
      replace BK1236 := bb BK1236 hb
      replace HB := bs HB hb
      (try clear hb)
      (try clear hb2)
      (try clear hk)
      (try clear hi)
      refine hK.out _ _ ⟨(bc BK1236 0), (bc BK1236 1), ((HB.out.cell (World.block_lt_of_cell? w _ hw1241_0)).trans hw1241_0), ((HB.out.cell (World.block_lt_of_cell? w _ hw1241_1)).trans hw1241_1), ((HB.out.cell (World.block_lt_of_cell? w _ hw1242_0)).trans hw1242_0), ((HB.out.cell (World.block_lt_of_cell? w _ hw1242_1)).trans hw1242_1)⟩ (fun hHeld => ?_)
      clear hK K
      refine nz_ 30 ?_
      refine done_ (done_of HT_.out (by kernel_rfl)) ?_
      obtain ⟨hcz17_0, hcz17_1, hfz17_0, hfz17_1⟩ := c2 BK1236
      have p1244 : 0 ≤ (x4_1 : Int) := oa
      have q1244 : x4_1 < (l0_1.length : Int) := oa
      obtain ⟨ad1244, e1244, hx1244_0, hx1244_1⟩ := at_T73 HR0_1.out x4_1 p1244 q1244
      obtain rfl : ad1241 = ad1244 := (by injection e1244)
      replace hx1244_0 := (HB.out.cell (World.block_lt_of_cell? w _ hx1244_0)).trans hx1244_0
      replace hx1244_1 := (HB.out.cell (World.block_lt_of_cell? w _ hx1244_1)).trans hx1244_1
      replace p1244 := eq_true p1244
      replace q1244 := eq_true q1244
      try go_wp2_with (first | ((with_reducible refine gate_builtin (b := .append) (xs := #[.tmp 31, .tmp 37]) rfl ?_); at_builtin; refine Kd.R_append k73 (w0 := w) w.heap.size rfl (.tmp 31) (.tmp 37) 32 73 (.agg #[(.int .i64 0), (.int .i64 0)]) 16 rfl Try.underlying32 info73 rfl (by decide) (by omega) u3 x3_1 (⟨(rd_T73 l0_1 x4_1).f0, (rd_T73 l0_1 x4_1).f1⟩ : S73) [.int .i64 ((rd_T73 l0_1 x4_1).f0), .int .i64 ((rd_T73 l0_1 x4_1).f1)] (fun _ => True) (fun _ => False) rfl rfl ?aP (fun _ hk => hk.elim) ?aF ?aO ?aB ?aS ?aL ?_; (case aP => exact k73_mkM _ _ _ (⟨(rd_T73 l0_1 x4_1).f0, (rd_T73 l0_1 x4_1).f1⟩ : S73)); (case aB => exact (bn HB)); (case aF => exact (fun _ _ => trivial)); (case aO => exact (onR HO_3)); (case aS => exact (below_size (bn HB))); (case aL => have := LMc13.out; omega); intro v1246 w18 ho hb hg hat; rw [← Ny1245.out] at ho; replace BK1236 := am (blk_grown (bkn BK1236) hg (Kd.R_ne HO_3.out BK1236.out (by decide))); replace HB := am hb; have HO1247 := am ho; clear HO_3; clear ho hb hg hat))
      go_roundg k1
      case measure => have := HK1.out; omega
      case rel => exact ⟨(y1245), (wrap64 (x4_1 + 1)), (by first | rfl | (simp; done) | (simp [*]; done)), H', ⟨by have := HK1.out; omega⟩, ⟨onR HO1247⟩, ⟨bkn BK1236⟩, ⟨bn HB⟩⟩
     ·replace c12 := Bool.eq_false_iff.mpr c12
      subst c12
      rw [if_neg (show ¬ (false = true) by decide)] at H
      have H' := am H
      clear H
      obtain ⟨hcz19_0, hcz19_1, hfz19_0, hfz19_1⟩ := c2 BK1236
      try go_wp2
      replace HO_3 := am (Kd.R_drew HO_3.out)
      replace BK1236 := am (blk_drew BK1236.out)
      replace HB := am (below_drew1 HB.out)
      have p1241 : 0 ≤ (x4_1 : Int) := oa
      have q1241 : x4_1 < (l0_1.length : Int) := oa
      obtain ⟨ad1241, e1241, hx1241_0, hx1241_1⟩ := at_T73 HR0_1.out x4_1 p1241 q1241
      have hw1241_1 := hx1241_1
      have hw1241_0 := hx1241_0
      cases e1241
      replace hx1241_0 := (HB.out.cell (World.block_lt_of_cell? w _ hx1241_0)).trans hx1241_0
      replace hx1241_1 := (HB.out.cell (World.block_lt_of_cell? w _ hx1241_1)).trans hx1241_1
      replace p1241 := eq_true p1241
      replace q1241 := eq_true q1241
      have p1242 : 0 ≤ (x4_1 : Int) := oa
      have q1242 : x4_1 < (l0_1.length : Int) := oa
      obtain ⟨ad1242, e1242, hx1242_0, hx1242_1⟩ := at_T73 HR0_1.out x4_1 p1242 q1242
      have hw1242_1 := hx1242_1
      have hw1242_0 := hx1242_0
      obtain rfl : ad1241 = ad1242 := (by injection e1242)
      replace hx1242_0 := (HB.out.cell (World.block_lt_of_cell? w _ hx1242_0)).trans hx1242_0
      replace hx1242_1 := (HB.out.cell (World.block_lt_of_cell? w _ hx1242_1)).trans hx1242_1
      replace p1242 := eq_true p1242
      replace q1242 := eq_true q1242
      refine start_ (n := 14) (S := fun w' => w'.cell? ⟨gb1236, 0, none⟩ = some (.int .i64 a0_0) ∧ w'.cell? ⟨gb1236, 1, none⟩ = some (.slice (some ad1241) l0_1.length c0_1) ∧ w'.cell? (ad1241.add ((x4_1).toNat * 2)) = some (.int .i64 ((rd_T73 l0_1 x4_1).f0)) ∧ w'.cell? ⟨(ad1241.add ((x4_1).toNat * 2)).block, (ad1241.add ((x4_1).toNat * 2)).off + 1, none⟩ = some (.int .i64 ((rd_T73 l0_1 x4_1).f1)) ∧ w'.cell? (ad1241.add ((x4_1).toNat * 2)) = some (.int .i64 ((rd_T73 l0_1 x4_1).f0)) ∧ w'.cell? ⟨(ad1241.add ((x4_1).toNat * 2)).block, (ad1241.add ((x4_1).toNat * 2)).off + 1, none⟩ = some (.int .i64 ((rd_T73 l0_1 x4_1).f1))) (ds := []) #[false, false, false, false, false, false, false, false, false, false, false, false, false, false] (by kernel_rfl) rfl rfl ⟨(bc BK1236 0), (bc BK1236 1), ((HB.out.cell (World.block_lt_of_cell? w _ hw1241_0)).trans hw1241_0), ((HB.out.cell (World.block_lt_of_cell? w _ hw1241_1)).trans hw1241_1), ((HB.out.cell (World.block_lt_of_cell? w _ hw1242_0)).trans hw1242_0), ((HB.out.cell (World.block_lt_of_cell? w _ hw1242_1)).trans hw1242_1)⟩ (fun hHeld => ?_); refine with_tabW spec_BridgeList.tab7 spec_BridgeList.bits7 (fun HT_ HW_ => ?_)
      generalize wr.drew = w20 at HO_3 BK1236 HB hx1241_0 hx1241_1 hx1242_0 hx1242_1 hHeld ⊢
      refine pz_ 1 (some 18) HT_ ?_
      refine pz_ 3 (some 20) HT_ ?_
      refine pz_ 7 (some 24) HT_ ?_
      refine pz_ 9 (some 26) HT_ ?_
      refine tz_ 0 (some 17) HT_ HW_ hHeld ?_
      refine tz_ 2 (some 19) HT_ HW_ hHeld ?_
      refine pz_ 4 (some 21) HT_ ?_
      refine pz_ 5 (some 22) HT_ ?_
      refine tz_ 6 (some 23) HT_ HW_ hHeld ?_
      refine tz_ 8 (some 25) HT_ HW_ hHeld ?_
      refine pz_ 10 (some 27) HT_ ?_
      refine pz_ 11 (some 28) HT_ ?_
      refine tz_ 12 (some 29) HT_ HW_ hHeld ?_
      refine one_ (i := 13) (N := some 30) #[true, true, true, true, true, true, true, true, true, true, true, true, true, true] rfl rfl (one_of HT_.out (by kernel_rfl)) (by decide) (fun K hK => ?_)
      refine gg_ Try.func139 #[.agg #[.int .i64 a0_0, .slice (some ad1241) l0_1.length c0_1], .int .i64 ((rd_T73 l0_1 x4_1).f0), .int .i64 ((rd_T73 l0_1 x4_1).f1)] ?_
      with_reducible refine (spec_BridgeIs.calls k1 a0_0 _ _ l0_1 ((rd_T73 l0_1 x4_1).f0) ((rd_T73 l0_1 x4_1).f1) false _ ?side1 ?side2 A11.out).mono ?_
      (case side1 => exact cb HR0_1 HB)
      (case side2 => exact HC0_1.out)
      rintro e w21 ⟨rfl, hb⟩
      refine ⟨_, rfl, ?_⟩
      replace HO_3 := am (Kd.R_below (onR HO_3) hb)
      replace BK1236 := bb BK1236 hb
      replace HB := bs HB hb
      (try clear hb)
      (try clear hb2)
      (try clear hk)
      (try clear hi)
      refine hK.out _ _ ⟨(bc BK1236 0), (bc BK1236 1), ((HB.out.cell (World.block_lt_of_cell? w _ hw1241_0)).trans hw1241_0), ((HB.out.cell (World.block_lt_of_cell? w _ hw1241_1)).trans hw1241_1), ((HB.out.cell (World.block_lt_of_cell? w _ hw1242_0)).trans hw1242_0), ((HB.out.cell (World.block_lt_of_cell? w _ hw1242_1)).trans hw1242_1)⟩ (fun hHeld => ?_)
      clear hK K
      refine nz_ 30 ?_
      refine done_ (done_of HT_.out (by kernel_rfl)) ?_
      try go_wp2
      go_roundg k1
      case measure => have := HK1.out; omega
      case rel => exact ⟨(x3_1), (wrap64 (x4_1 + 1)), (by first | rfl | (simp; done) | (simp [*]; done)), H', ⟨by have := HK1.out; omega⟩, ⟨onR HO_3⟩, ⟨bkn BK1236⟩, ⟨bn HB⟩⟩
    ·rw [if_neg c9] at H
     have c9b0 := decide_eq_false c9
     clear c9
     obtain rfl := Option.some.inj H
     obtain ⟨hcz22_0, hcz22_1, hfz22_0, hfz22_1⟩ := c2 BK1236
     go_wp2
     go_ret
     exact ⟨_, by first | rfl | (simp [errW_none, errW_some] <;> rfl) | (simp [*, errW_none, errW_some] <;> rfl), onR HO_3, bn HB⟩
 ·replace c3 := Bool.eq_false_iff.mpr c3
  subst c3
  rw [if_neg (show ¬ (false = true) by decide)] at H
  obtain rfl := Option.some.inj H
  go_enter Try.func123, Try.ntmps123
  go_wp2_with (first | ((with_reducible refine gate_dst (N := 1) rfl ?_); refine be_ 1 #[.int .i64 a0_0, .slice A0_1 l0_1.length c0_1] 34 ?_; intro gb1236 hg w23 hbox hb; have BK1236 := am hbox; have GW1236 := am (ge_ hg HB); have GE1236 := am (ge_ hg HB); replace HB := bs HB hb; clear hb hbox hg) | ((with_reducible refine gate_dst (N := 5) rfl ?_); refine Kd.R_lit k73 _ 73 ?hg (N := 5) ?hd (xs := ([] : List (S73))) (inner := []) (ok := fun _ => True) (okp := fun _ => True) ?hr ?hp (fun _ hk => hk) trivial (Below.refl _ _) (Nat.le_refl _) (by simp) ?_; (case hd => rfl); (case hg => rfl); (case hr => first | (go_simp; done) | (go_simp; rfl)); (case hp => exact (Reps.none _ _)); intro v1238 w24 ho25 hb hg_ hnew_; clear hg_ hnew_; (first | rw [← Ny1237.out] at ho25 | (simp only [Int.reduceToNat] at ho25; rw [← Ny1237.out] at ho25)); have HO1239 := am (Kd.R_lower ho25 (below_size (bn HB))); replace BK1236 := bb BK1236 hb; replace HB := bs HB hb; clear hb ho25; obtain ⟨hcz26_0, hcz26_1, hfz26_0, hfz26_1⟩ := c2 BK1236) | ((with_reducible refine gate_callee (f := 66) rfl ?_); refine gl_ (some 7) Try.func66 #[.agg #[.int .i64 a0_0, .slice A0_1 l0_1.length c0_1]] ?_; (with_reducible refine (spec_NetOk.calls k a0_0 _ _ l0_1 false _ ?side1 ?side2 A2.out).mono ?_); (case side1 => exact cb HR0_1 HB); (case side2 => exact HC0_1.out); rintro e w27 ⟨rfl, hb⟩; refine ⟨_, rfl, ?_⟩; replace HO1239 := am (Kd.R_below (onR HO1239) hb); replace BK1236 := bb BK1236 hb; replace HB := bs HB hb; (try clear hb); (try clear hi)))
  go_ret
  exact ⟨_, by first | rfl | (simp [errW_none, errW_some] <;> rfl) | (simp [*, errW_none, errW_some] <;> rfl), onR HO1239, bn HB⟩

end Go.Proofs.Ytdlnnjgjfngccaa.F
