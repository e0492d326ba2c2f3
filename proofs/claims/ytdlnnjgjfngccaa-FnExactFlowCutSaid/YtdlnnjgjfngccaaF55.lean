-- Written by oprint.py (wip/tools) over the kit's print program, for this seat.
import Derived.Test.YtdlnnjgjfngccaaF0
import Derived.Test.YtdlnnjgjfngccaaF51
import Derived.Test.YtdlnnjgjfngccaaF52
import Derived.Test.YtdlnnjgjfngccaaF53
import Derived.Test.YtdlnnjgjfngccaaF54
import Derived.Test.YtdlnnjgjfngccaaF7
namespace Go.Proofs.Ytdlnnjgjfngccaa.F
open Go.RowKit Go.Proofs.YtdlnnjgjfngccaaW.PrintWords Go.Proofs.YtdlnnjgjfngccaaW.PrintLast Go.Proofs.YtdlnnjgjfngccaaW.PrintMore
attribute [local go_sem] max2_int min2_int max_two min_two max_three min_three max_four min_four   -- for this text's walks alone
set_option linter.unusedVariables false
set_option linter.unusedSimpArgs false

/-! ### laws_FnExactFlowCut: function 11 -/
mutual
def laws_FnExactFlowCut.j0 : Nat → Int → Int → List (S73) → Bool → List (S73) → Bool → Bool → Int → List (S96) → Int → List (S73) → Option (Bool)
 | 0, _, _, _, _, _, _, _, _, _, _, _ => none
 | k + 1, x1, x2, x8, x9, x11, x12, x48, x801000, x801001, x815000, x815001 => if x48 = true then (some false) else ((laws_toNet.f k x801000 x801001).bind fun bt820 => ((laws_eqNet.f k x815000 x815001 bt820.1 bt820.2).bind fun t824 => (if t824 = true then ((laws_markNet.f k x815000 x815001 1).bind fun bt825 => (if bt825.1 < 0 then (laws_FnExactFlowCut.j1 k x1 x2 x8 x9 x11 true x801000 x801001) else ((laws_eqTieS.f k x11 x8).bind fun t827 => (if t827 = true then (laws_FnExactFlowCut.j1 k x1 x2 x8 x9 x11 (x12 != x9) x801000 x801001) else (laws_FnExactFlowCut.j1 k x1 x2 x8 x9 x11 true x801000 x801001))))) else (some false))))
def laws_FnExactFlowCut.j1 : Nat → Int → Int → List (S73) → Bool → List (S73) → Bool → Int → List (S96) → Option (Bool)
 | 0, _, _, _, _, _, _, _, _ => none
 | k + 1, x1, x2, x8, x9, x11, x69, x801000, x801001 => if x69 = true then (some false) else ((laws_markTieS.f k x11 1).bind fun bt828 => ((laws_heldTieS.f k bt828.2 1).bind fun t830 => (if t830 < 0 then (some false) else (if t830 = bt828.1 then ((laws_toNet.f k x801000 x801001).bind fun bt831 => ((impl_FlowCut.f k bt831.1 bt831.2 x1 x2).bind fun bt835 => ((laws_eqTieS.f k bt835.1 x8).bind fun t839 => (if t839 = true then (laws_FnExactFlowCut.j2 k bt828.2 bt828.1 (bt835.2 != x9)) else (laws_FnExactFlowCut.j2 k bt828.2 bt828.1 true))))) else (some false)))))
def laws_FnExactFlowCut.j2 : Nat → List (S73) → Int → Bool → Option (Bool)
 | 0, _, _, _ => none
 | k + 1, x11, x14, x97 => if x97 = true then (some false) else ((laws_heldTieS.f k x11 1).bind fun t840 => (if t840 < 0 then (some false) else (if t840 = x14 then (some true) else (some false))))
end
def laws_FnExactFlowCut.f (k : Nat) (a0_0 : Int) (l0_1 : List (S96)) (a1 : Int) (a2 : Int) : Option (Bool) := (laws_szNet.f a0_0 l0_1 1048576).bind fun t801 => (if t801 < 0 then (some true) else ((laws_toNet.f k a0_0 l0_1).bind fun bt802 => ((spec_FlowCut.f k bt802.1 bt802.2 a1 a2).bind fun bt806 => ((laws_toNet.f k a0_0 l0_1).bind fun bt810 => ((impl_FlowCut.f k bt810.1 bt810.2 a1 a2).bind fun bt815 => ((laws_eqTieS.f k bt815.1 bt806.1).bind fun t819 => (if t819 = true then (laws_FnExactFlowCut.j0 k a1 a2 bt806.1 bt806.2 bt815.1 bt815.2 (bt815.2 != bt806.2) a0_0 l0_1 bt810.1 bt810.2) else (laws_FnExactFlowCut.j0 k a1 a2 bt806.1 bt806.2 bt815.1 bt815.2 true a0_0 l0_1 bt810.1 bt810.2))))))))
theorem laws_FnExactFlowCut.mono_l : ∀ k, (∀ y0 y1 y2 y3 y4 y5 y6 y7 y8 y9 y10, LeO (laws_FnExactFlowCut.j0 k y0 y1 y2 y3 y4 y5 y6 y7 y8 y9 y10) (laws_FnExactFlowCut.j0 (k + 1) y0 y1 y2 y3 y4 y5 y6 y7 y8 y9 y10)) ∧ (∀ y0 y1 y2 y3 y4 y5 y6 y7, LeO (laws_FnExactFlowCut.j1 k y0 y1 y2 y3 y4 y5 y6 y7) (laws_FnExactFlowCut.j1 (k + 1) y0 y1 y2 y3 y4 y5 y6 y7)) ∧ (∀ y0 y1 y2, LeO (laws_FnExactFlowCut.j2 k y0 y1 y2) (laws_FnExactFlowCut.j2 (k + 1) y0 y1 y2))
 | 0 => ⟨fun _ _ _ _ _ _ _ _ _ _ _ r h => by simp [laws_FnExactFlowCut.j0] at h, fun _ _ _ _ _ _ _ _ r h => by simp [laws_FnExactFlowCut.j1] at h, fun _ _ _ r h => by simp [laws_FnExactFlowCut.j2] at h⟩
 | k + 1 => by
  obtain ⟨ih0, ih1, ih2⟩ := laws_FnExactFlowCut.mono_l k
  refine ⟨?_, ?_, ?_⟩
  ·intro y0 y1 y2 y3 y4 y5 y6 y7 y8 y9 y10
   unfold laws_FnExactFlowCut.j0
   have m0_ := @impl_FlowCut.mono
   have m1_ := @laws_eqNet.mono
   have m2_ := @laws_eqTieS.mono
   have m3_ := @laws_heldTieS.mono
   have m4_ := @laws_markNet.mono
   have m5_ := @laws_markTieS.mono
   have m6_ := @laws_toNet.mono
   have m7_ := @spec_FlowCut.mono
   exact mo_
  ·intro y0 y1 y2 y3 y4 y5 y6 y7
   unfold laws_FnExactFlowCut.j1
   have m0_ := @impl_FlowCut.mono
   have m1_ := @laws_eqNet.mono
   have m2_ := @laws_eqTieS.mono
   have m3_ := @laws_heldTieS.mono
   have m4_ := @laws_markNet.mono
   have m5_ := @laws_markTieS.mono
   have m6_ := @laws_toNet.mono
   have m7_ := @spec_FlowCut.mono
   exact mo_
  ·intro y0 y1 y2
   unfold laws_FnExactFlowCut.j2
   have m0_ := @impl_FlowCut.mono
   have m1_ := @laws_eqNet.mono
   have m2_ := @laws_eqTieS.mono
   have m3_ := @laws_heldTieS.mono
   have m4_ := @laws_markNet.mono
   have m5_ := @laws_markTieS.mono
   have m6_ := @laws_toNet.mono
   have m7_ := @spec_FlowCut.mono
   exact mo_
theorem laws_FnExactFlowCut.mono : ∀ a0 a1 a2 a3 k, LeO (laws_FnExactFlowCut.f k a0 a1 a2 a3) (laws_FnExactFlowCut.f (k + 1) a0 a1 a2 a3) := by
 intro a0 a1 a2 a3 k
 obtain ⟨ih0, ih1, ih2⟩ := laws_FnExactFlowCut.mono_l k
 unfold laws_FnExactFlowCut.f
 have m0_ := @impl_FlowCut.mono
 have m1_ := @laws_eqNet.mono
 have m2_ := @laws_eqTieS.mono
 have m3_ := @laws_heldTieS.mono
 have m4_ := @laws_markNet.mono
 have m5_ := @laws_markTieS.mono
 have m6_ := @laws_toNet.mono
 have m7_ := @spec_FlowCut.mono
 exact mo_
set_option maxHeartbeats 8000000 in
set_option maxRecDepth 100000 in
theorem laws_FnExactFlowCut.calls (k : Nat) (a0_0 : Int) (A0_1 : Option Addr) (c0_1 : Nat) (l0_1 : List (S96)) (a1 : Int) (a2 : Int) (r : Bool) (w : World) (hr0_1 : Kd.C k96 w A0_1 l0_1.length l0_1) (hc0_1 : l0_1.length ≤ c0_1) (hrt : Aside0 (r = true)) (h : laws_FnExactFlowCut.f k a0_0 l0_1 a1 a2 = some r) :
  Calls Try.prog 11 #[.agg #[.int .i64 a0_0, .slice A0_1 l0_1.length c0_1], .int .i64 a1, .int .i64 a2] w fun e w' => e = .returned (.bool r) ∧ Below w.heap.size w w' := by
 have hu29 := Try.underlying29
 have hu34 := Try.underlying34
 have HR0_1 := am hr0_1
 have HC0_1 := am hc0_1
 clear hr0_1 hc0_1
 have HB := am (Below.refl w.heap.size w)
 have H : ((laws_szNet.f a0_0 l0_1 1048576).bind fun t801 => (if t801 < 0 then (some true) else ((laws_toNet.f k a0_0 l0_1).bind fun bt802 => ((spec_FlowCut.f k bt802.1 bt802.2 a1 a2).bind fun bt806 => ((laws_toNet.f k a0_0 l0_1).bind fun bt810 => ((impl_FlowCut.f k bt810.1 bt810.2 a1 a2).bind fun bt815 => ((laws_eqTieS.f k bt815.1 bt806.1).bind fun t819 => (if t819 = true then (laws_FnExactFlowCut.j0 k a1 a2 bt806.1 bt806.2 bt815.1 bt815.2 (bt815.2 != bt806.2) a0_0 l0_1 bt810.1 bt810.2) else (laws_FnExactFlowCut.j0 k a1 a2 bt806.1 bt806.2 bt815.1 bt815.2 true a0_0 l0_1 bt810.1 bt810.2))))))))) = some r := h
 clear h
 replace H := Option.bind_eq_some_iff.mp H
 obtain ⟨t801, A40, H⟩ := H
 (try dsimp only at H)
 have A4 := am A40
 clear A40
 by_cases c5 : t801 < 0
 ·rw [if_pos c5] at H
  have c5b0 := decide_eq_true c5
  clear c5
  obtain rfl := Option.some.inj H
  go_enter Try.func11, Try.ntmps11
  go_wp2_with (first | ((with_reducible refine gate_dst (N := 3) rfl ?_); refine be_ 3 #[.int .i64 a0_0, .slice A0_1 l0_1.length c0_1] 29 ?_; intro gb800 hg w6 hbox hb; have BK800 := am hbox; have GW800 := am (ge_ hg HB); have GE800 := am (ge_ hg HB); replace HB := bs HB hb; clear hb hbox hg; obtain ⟨hcz7_0, hcz7_1, hfz7_0, hfz7_1⟩ := c2 BK800) | ((with_reducible refine gate_callee (f := 30) rfl ?_); refine gl_ (some 20) Try.func30 #[.agg #[.int .i64 a0_0, .slice A0_1 l0_1.length c0_1], .int .i64 1048576] ?_; (with_reducible refine (laws_szNet.calls a0_0 _ _ l0_1 1048576 t801 _ ?side1 ?side2 A4.out).mono ?_); (case side1 => exact cb HR0_1 HB); (case side2 => exact HC0_1.out); rintro e w8 ⟨rfl, hb⟩; refine ⟨_, rfl, ?_⟩; replace BK800 := bb BK800 hb; replace HB := bs HB hb; (try clear hb); (try clear hi)))
  go_ret
  exact ⟨by first | rfl | (simp [errW_none, errW_some] <;> rfl) | (simp [*, errW_none, errW_some] <;> rfl), bn HB⟩
 ·rw [if_neg c5] at H
  have c5b0 := decide_eq_false c5
  clear c5
  replace H := Option.bind_eq_some_iff.mp H
  obtain ⟨⟨t802, t803⟩, A90, H⟩ := H
  (try dsimp only at H)
  have A9 := am A90
  clear A90
  replace H := Option.bind_eq_some_iff.mp H
  obtain ⟨⟨t806, t809⟩, A100, H⟩ := H
  (try dsimp only at H)
  have A10 := am A100
  clear A100
  replace H := Option.bind_eq_some_iff.mp H
  obtain ⟨⟨t810, t811⟩, A110, H⟩ := H
  (try dsimp only at H)
  have A11 := am A110
  clear A110
  replace H := Option.bind_eq_some_iff.mp H
  obtain ⟨⟨t815, t818⟩, A120, H⟩ := H
  (try dsimp only at H)
  have A12 := am A120
  clear A120
  have HC13 := am H
  clear H
  go_enter Try.func11, Try.ntmps11
  go_upto_region 8 with (first | ((with_reducible refine gate_dst (N := 3) rfl ?_); refine be_ 3 #[.int .i64 a0_0, .slice A0_1 l0_1.length c0_1] 29 ?_; intro gb800 hg w14 hbox hb; have BK800 := am hbox; have GW800 := am (ge_ hg HB); have GE800 := am (ge_ hg HB); replace HB := bs HB hb; clear hb hbox hg; obtain ⟨hcz15_0, hcz15_1, hfz15_0, hfz15_1⟩ := c2 BK800) | ((with_reducible refine gate_callee (f := 30) rfl ?_); refine gl_ (some 20) Try.func30 #[.agg #[.int .i64 a0_0, .slice A0_1 l0_1.length c0_1], .int .i64 1048576] ?_; (with_reducible refine (laws_szNet.calls a0_0 _ _ l0_1 1048576 t801 _ ?side1 ?side2 A4.out).mono ?_); (case side1 => exact cb HR0_1 HB); (case side2 => exact HC0_1.out); rintro e w16 ⟨rfl, hb⟩; refine ⟨_, rfl, ?_⟩; replace BK800 := bb BK800 hb; replace HB := bs HB hb; (try clear hb); obtain ⟨hcz17_0, hcz17_1, hfz17_0, hfz17_1⟩ := c2 BK800) | ((with_reducible refine gate_callee (f := 32) rfl ?_); refine gl_ (some 25) Try.func32 #[.agg #[.int .i64 a0_0, .slice A0_1 l0_1.length c0_1]] ?_; (with_reducible refine (laws_toNet.calls k a0_0 _ _ l0_1 t802 t803 _ ?side1 ?side2 A9.out).mono ?_); (case side1 => exact cb HR0_1 HB); (case side2 => exact HC0_1.out); rintro e w18 ⟨v804, rfl, ho0, hb⟩; refine ⟨_, rfl, ?_⟩; have HO805 := am (Kd.R_lower ho0 (below_size (bn HB))); replace BK800 := bb BK800 hb; replace HB := bs HB hb; (try clear hb); (try clear ho0); obtain ⟨Ao19, co19, eo19⟩ := Kd.R_slice HO805.out; subst eo19) | ((with_reducible refine gate_callee (f := 50) rfl ?_); refine gl_ (some 28) Try.func50 #[.agg #[.int .i64 t802, .slice Ao19 t803.length co19], .int .i64 a1, .int .i64 a2] ?_; (with_reducible refine (spec_FlowCut.calls k t802 _ _ t803 a1 a2 t806 t809 _ ?side1 ?side2 A10.out).mono ?_); (case side1 => exact (Kd.R_reads' (onR HO805)).2.2); (case side2 => exact (Kd.R_reads' HO805.out).2.1); rintro e w20 ⟨v807, rfl, ho0, hb⟩; refine ⟨_, rfl, ?_⟩; have HO808 := am (Kd.R_lower (Kd.R_new' ho0 (Kd.R_lt (onR HO805))) (below_size (bn HB))); replace HO805 := am (Kd.R_elder' (onR HO805) (Kd.R_base ho0) hb); replace BK800 := bb BK800 hb; replace HB := bs HB hb; (try clear hb); (try clear ho0); obtain ⟨hcz21_0, hcz21_1, hfz21_0, hfz21_1⟩ := c2 BK800) | ((with_reducible refine gate_callee (f := 32) rfl ?_); refine gl_ (some 32) Try.func32 #[.agg #[.int .i64 a0_0, .slice A0_1 l0_1.length c0_1]] ?_; (with_reducible refine (laws_toNet.calls k a0_0 _ _ l0_1 t810 t811 _ ?side1 ?side2 A11.out).mono ?_); (case side1 => exact cb HR0_1 HB); (case side2 => exact HC0_1.out); rintro e w22 ⟨v812, rfl, ho0, hb⟩; refine ⟨_, rfl, ?_⟩; have HO813 := am (Kd.R_lower (Kd.R_new' (Kd.R_new' ho0 (Kd.R_lt (onR HO805))) (Kd.R_lt (onR HO808))) (below_size (bn HB))); replace HO805 := am (Kd.R_elder' (onR HO805) (Kd.R_base ho0) hb); replace HO808 := am (Kd.R_elder' (onR HO808) (Kd.R_base ho0) hb); replace BK800 := bb BK800 hb; replace HB := bs HB hb; (try clear hb); (try clear ho0)) | ((with_reducible refine gate_dst (N := 10) rfl ?_); refine be_ 10 #[.int .i64 0, .slice none 0 0] 34 ?_; intro gb814 hg w23 hbox hb; replace HO805 := am (Kd.R_below (onR HO805) hb); replace HO808 := am (Kd.R_below (onR HO808) hb); replace HO813 := am (Kd.R_below (onR HO813) hb); have BK814 := am hbox; have GW814 := am (ge_ hg HB); have GE814 := am (ge_ hg HB); replace HB := bs HB hb; obtain ⟨NB800_814, NB814_800⟩ := nb_ hg BK800; replace BK800 := bb BK800 hb; clear hb hbox hg; obtain ⟨hnb24, hnc24⟩ := n2 NB814_800 NB800_814; obtain ⟨hcz25_0, hcz25_1, hfz25_0, hfz25_1⟩ := c2 BK814; obtain ⟨Ao26, co26, eo26⟩ := Kd.R_slice HO813.out; subst eo26) | ((with_reducible refine gate_store (t := 34) (p := 10) rfl ?_); refine store_event (t := 34) (p := 10) (v := ?vo_w27) (w1 := ((w23.setCell ⟨gb814, 0, none⟩ (.int .i64 t810)).setCell ⟨gb814, 1, none⟩ (.slice Ao26 t811.length co26))) ?hg ?ho ?hn ?hr ?_; (case ho => rfl); (case hg => rfl); (case hn => rfl); (case hr => first | (go_simp; done) | (go_simp; rfl)); intro w27 hw; have n0_ : Aside0 (Kd.R k73 73 w27 w.heap.size (fun k_ => some k_ ≠ (v807 : Value).ownBlock ∧ some k_ ≠ (.slice Ao26 t811.length co26 : Value).ownBlock) (.slice Ao19 t803.length co19) t803) := ⟨(by rw [hw]; exact (by (with_reducible repeat (first | apply Kd.R_alloc | apply Kd.R_drewN | apply Kd.R_drew)); exact Kd.R_mono (Kd.R_far (p := ⟨gb814, 1, none⟩) (Kd.R_far (p := ⟨gb814, 0, none⟩) (Kd.R_types HO805.out BK814.out (by decide)) (fun _ hk => hk.2) (.int .i64 t810)) (fun _ hk => hk.2) (.slice Ao26 t811.length co26)) (fun _ hk => ⟨hk.1.1.2, hk.1.2⟩)))⟩; have n1_ : Aside0 (Kd.R k73 73 w27 w.heap.size (fun k_ => some k_ ≠ (.slice Ao19 t803.length co19 : Value).ownBlock ∧ some k_ ≠ (.slice Ao26 t811.length co26 : Value).ownBlock) v807 t806) := ⟨(by rw [hw]; exact (by (with_reducible repeat (first | apply Kd.R_alloc | apply Kd.R_drewN | apply Kd.R_drew)); exact Kd.R_mono (Kd.R_far (p := ⟨gb814, 1, none⟩) (Kd.R_far (p := ⟨gb814, 0, none⟩) (Kd.R_types HO808.out BK814.out (by decide)) (fun _ hk => hk.2) (.int .i64 t810)) (fun _ hk => hk.2) (.slice Ao26 t811.length co26)) (fun _ hk => ⟨hk.1.1.2, hk.1.2⟩)))⟩; have n2_ : Aside0 (Kd.R k73 73 w27 w.heap.size (fun k_ => some k_ ≠ (.slice Ao19 t803.length co19 : Value).ownBlock ∧ some k_ ≠ (v807 : Value).ownBlock) (.slice Ao26 t811.length co26) t811) := ⟨(by rw [hw]; exact (by (with_reducible repeat (first | apply Kd.R_alloc | apply Kd.R_drewN | apply Kd.R_drew)); exact Kd.R_mono (Kd.R_far (p := ⟨gb814, 1, none⟩) (Kd.R_far (p := ⟨gb814, 0, none⟩) (Kd.R_types HO813.out BK814.out (by decide)) (fun _ hk => hk.2) (.int .i64 t810)) (fun _ hk => hk.2) (.slice Ao26 t811.length co26)) (fun _ hk => ⟨hk.1.1.2, hk.1.2⟩)))⟩; have n3_ : Aside0 (w27.heap[gb800]? = some (.cells #[.int .i64 a0_0, .slice A0_1 l0_1.length c0_1] 29 (0, 0))) := ⟨(by rw [hw]; exact (bkn BK800))⟩; have n4_ : Aside0 (w27.heap[gb814]? = some (.cells #[.int .i64 t810, .slice Ao26 t811.length co26] 34 (0, 0))) := ⟨(by rw [hw]; exact (by (with_reducible repeat (first | refine blk_drewN ?_ _ | refine blk_drew ?_ | refine blk_alloc ?_ _)); refine blk_put (cs := #[.int .i64 t810, .slice none 0 0]) ?_ 1 _ rfl; (with_reducible repeat (first | refine blk_drewN ?_ _ | refine blk_drew ?_ | refine blk_alloc ?_ _)); refine blk_put (cs := #[.int .i64 0, .slice none 0 0]) ?_ 0 _ rfl; (with_reducible repeat (first | refine blk_drewN ?_ _ | refine blk_drew ?_ | refine blk_alloc ?_ _)); exact BK814.out))⟩; have n5_ : Aside0 (Below w.heap.size w w27) := ⟨(by rw [hw]; exact (bn HB))⟩; clear hw; clear HO805; clear HO808; clear HO813; clear BK800; clear BK814; clear HB; have HO805 := n0_; have HO808 := n1_; have HO813 := n2_; have BK800 := n3_; have BK814 := n4_; have HB := n5_; clear n0_ n1_ n2_ n3_ n4_ n5_; obtain ⟨hcz28_0, hcz28_1, hfz28_0, hfz28_1⟩ := c2 BK814) | ((with_reducible refine gate_callee (f := 51) rfl ?_); refine gl_ (some 37) Try.func51 #[.agg #[.int .i64 t810, .slice Ao26 t811.length co26], .int .i64 a1, .int .i64 a2] ?_; (with_reducible refine (impl_FlowCut.calls k t810 (fun k_ => some k_ = (.slice Ao26 t811.length co26 : Value).ownBlock) _ _ t811 a1 a2 t815 t818 _ ?side1 A12.out).mono ?_); (case side1 => exact Kd.R_V (Kd.R_tight rfl (Kd.R_types (Kd.R_types (HO813.out) BK800.out (by decide)) BK814.out (by decide)))); rintro e w29 ⟨v816, rfl, ho0, hb⟩; refine ⟨_, rfl, ?_⟩; have HO817 := am (Kd.R_lower (Kd.R_new' (Kd.R_new' (Kd.R_new' (Kd.R_mono (ok' := fun k_ => True) ho0 (fun _ hk_ => trivial)) (Kd.R_lt (onR HO805))) (Kd.R_lt (onR HO808))) (Kd.R_lt (onR HO813))) (below_size (bn HB))); replace HO805 := am (Kd.R_elder' (onR HO805) (Kd.R_base ho0) hb); replace HO808 := am (Kd.R_elder' (onR HO808) (Kd.R_base ho0) hb); replace HO813 := am (Kd.R_elder' (onR HO813) (Kd.R_base ho0) hb); replace BK800 := bb BK800 hb; replace BK814 := bb BK814 hb; replace HB := bs HB hb; (try clear hb); (try clear ho0)))
  (try simp only [Act.put, List.setIfInBounds_toArray, List.set_cons_zero, List.set_cons_succ])
  go_cut [48] (fun v48 wc => ∃ (kq : Nat) (x48_12 : Bool), v48 = .bool x48_12 ∧ Aside0 (laws_FnExactFlowCut.j0 kq a1 a2 t806 t809 t815 t818 x48_12 a0_0 l0_1 t810 t811 = some r) ∧ Aside0 (kq ≤ k) ∧ Aside0 (Kd.R k73 73 wc w.heap.size (fun k_ => some k_ ≠ (v816 : Value).ownBlock ∧ some k_ ≠ ((.slice Ao26 t811.length co26) : Value).ownBlock) v807 t806) ∧ Aside0 (Kd.R k73 73 wc w.heap.size (fun k_ => some k_ ≠ (v807 : Value).ownBlock ∧ some k_ ≠ ((.slice Ao26 t811.length co26) : Value).ownBlock) v816 t815) ∧ Aside0 (Kd.R k73 73 wc w.heap.size (fun k_ => some k_ ≠ (v807 : Value).ownBlock ∧ some k_ ≠ (v816 : Value).ownBlock) (.slice Ao26 t811.length co26) t811) ∧ Aside0 (wc.heap[gb800]? = some (.cells #[.int .i64 a0_0, (.slice A0_1 l0_1.length c0_1)] 29 (0, 0))) ∧ Aside0 (wc.heap[gb814]? = some (.cells #[.int .i64 t810, (.slice Ao26 t811.length co26)] 34 (0, 0))) ∧ Aside0 (Below w.heap.size w wc))
  case first =>
   have H := HC13.out
   clear HC13
   replace H := Option.bind_eq_some_iff.mp H
   obtain ⟨t819, A300, H⟩ := H
   (try dsimp only at H)
   have A30 := am A300
   clear A300
   by_cases c31 : t819 = true
   ·subst c31
    rw [if_pos rfl] at H
    have H' := am H
    clear H
    obtain ⟨Ao32, co32, eo32⟩ := Kd.R_slice HO817.out
    subst eo32
    obtain ⟨Ao33, co33, eo33⟩ := Kd.R_slice HO808.out
    subst eo33
    go_wp2_with (first | ((with_reducible refine gate_callee (f := 47) rfl ?_); refine gl_ (some 42) Try.func47 #[.slice Ao32 t815.length co32, .slice Ao33 t806.length co33] ?_; (with_reducible refine (laws_eqTieS.calls k _ _ t815 _ _ t806 true _ ?side1 ?side2 ?side3 ?side4 A30.out).mono ?_); (case side1 => exact (Kd.R_reads' (onR HO817)).2.2); (case side2 => exact (Kd.R_reads' HO817.out).2.1); (case side3 => exact (Kd.R_reads' (onR HO808)).2.2); (case side4 => exact (Kd.R_reads' HO808.out).2.1); rintro e w34 ⟨rfl, hb⟩; refine ⟨_, rfl, ?_⟩; replace HO805 := am (Kd.R_below (onR HO805) hb); replace HO808 := am (Kd.R_below (onR HO808) hb); replace HO813 := am (Kd.R_below (onR HO813) hb); replace HO817 := am (Kd.R_below (onR HO817) hb); replace BK800 := bb BK800 hb; replace BK814 := bb BK814 hb; replace HB := bs HB hb; (try clear hb); (try clear hi)))
    go_meet
    case rel => exact ⟨_, ((t818 != t809)), (by first | rfl | (simp; done) | (simp [*]; done)), H', ⟨by first | omega | exact Nat.le_refl _⟩, ⟨by (with_reducible repeat (first | apply Kd.R_alloc | apply Kd.R_drewN | apply Kd.R_drew)); exact Kd.R_mono HO808.out (fun _ hk => ⟨hk.2, hk.1.2⟩)⟩, ⟨by (with_reducible repeat (first | apply Kd.R_alloc | apply Kd.R_drewN | apply Kd.R_drew)); exact Kd.R_mono HO817.out (fun _ hk => ⟨hk.1.2, hk.2⟩)⟩, ⟨by (with_reducible repeat (first | apply Kd.R_alloc | apply Kd.R_drewN | apply Kd.R_drew)); exact Kd.R_mono HO813.out (fun _ hk => ⟨hk.1.2, hk.2⟩)⟩, ⟨bkn BK800⟩, ⟨bkn BK814⟩, ⟨bn HB⟩⟩
   ·replace c31 := Bool.eq_false_iff.mpr c31
    subst c31
    rw [if_neg (show ¬ (false = true) by decide)] at H
    have H' := am H
    clear H
    obtain ⟨Ao35, co35, eo35⟩ := Kd.R_slice HO817.out
    subst eo35
    obtain ⟨Ao36, co36, eo36⟩ := Kd.R_slice HO808.out
    subst eo36
    go_wp2_with (first | ((with_reducible refine gate_callee (f := 47) rfl ?_); refine gl_ (some 42) Try.func47 #[.slice Ao35 t815.length co35, .slice Ao36 t806.length co36] ?_; (with_reducible refine (laws_eqTieS.calls k _ _ t815 _ _ t806 false _ ?side1 ?side2 ?side3 ?side4 A30.out).mono ?_); (case side1 => exact (Kd.R_reads' (onR HO817)).2.2); (case side2 => exact (Kd.R_reads' HO817.out).2.1); (case side3 => exact (Kd.R_reads' (onR HO808)).2.2); (case side4 => exact (Kd.R_reads' HO808.out).2.1); rintro e w37 ⟨rfl, hb⟩; refine ⟨_, rfl, ?_⟩; replace HO805 := am (Kd.R_below (onR HO805) hb); replace HO808 := am (Kd.R_below (onR HO808) hb); replace HO813 := am (Kd.R_below (onR HO813) hb); replace HO817 := am (Kd.R_below (onR HO817) hb); replace BK800 := bb BK800 hb; replace BK814 := bb BK814 hb; replace HB := bs HB hb; (try clear hb); (try clear hi)))
    go_meet
    case rel => exact ⟨_, (true), (by first | rfl | (simp; done) | (simp [*]; done)), H', ⟨by first | omega | exact Nat.le_refl _⟩, ⟨by (with_reducible repeat (first | apply Kd.R_alloc | apply Kd.R_drewN | apply Kd.R_drew)); exact Kd.R_mono HO808.out (fun _ hk => ⟨hk.2, hk.1.2⟩)⟩, ⟨by (with_reducible repeat (first | apply Kd.R_alloc | apply Kd.R_drewN | apply Kd.R_drew)); exact Kd.R_mono HO817.out (fun _ hk => ⟨hk.1.2, hk.2⟩)⟩, ⟨by (with_reducible repeat (first | apply Kd.R_alloc | apply Kd.R_drewN | apply Kd.R_drew)); exact Kd.R_mono HO813.out (fun _ hk => ⟨hk.1.2, hk.2⟩)⟩, ⟨bkn BK800⟩, ⟨bkn BK814⟩, ⟨bn HB⟩⟩
  case rest =>
   clear HC13
   try clear c1
   try clear c2
   try clear p2
   try clear c3
   try clear c4
   try clear c5
   try clear c5b0
   try clear c11
   try clear c24
   try clear c30
   try clear c31
   try clear c32
   try clear hcz15_0 hcz15_1 hfz15_0 hfz15_1
   try clear hcz17_0 hcz17_1 hfz17_0 hfz17_1
   try clear hcz21_0 hcz21_1 hfz21_0 hfz21_1
   try clear hcz25_0 hcz25_1 hfz25_0 hfz25_1
   try clear hcz28_0 hcz28_1 hfz28_0 hfz28_1
   try clear hcz7_0 hcz7_1 hfz7_0 hfz7_1
   obtain ⟨kq, x48_12, rfl, HA, HJ12, HO_8, HO_11, HO_815001, BK800, BK814, HB⟩ := hcut
   cases kq with
   | zero => exact absurd HA.out (by simp [laws_FnExactFlowCut.j0])
   | succ kj12 =>
    have H := HA.out
    clear HA
    simp only [laws_FnExactFlowCut.j0] at H
    by_cases c38 : x48_12 = true
    ·subst c38
     rw [if_pos rfl] at H
     exact absurd (Option.some.inj H) (by rw [hrt.out]; decide)
    ·replace c38 := Bool.eq_false_iff.mpr c38
     subst c38
     rw [if_neg (show ¬ (false = true) by decide)] at H
     replace H := Option.bind_eq_some_iff.mp H
     obtain ⟨⟨t820, t821⟩, A390, H⟩ := H
     (try dsimp only at H)
     have A39 := am A390
     clear A390
     replace H := Option.bind_eq_some_iff.mp H
     obtain ⟨t824, A400, H⟩ := H
     (try dsimp only at H)
     have A40 := am A400
     clear A400
     by_cases c41 : t824 = true
     ·subst c41
      rw [if_pos rfl] at H
      replace H := Option.bind_eq_some_iff.mp H
      obtain ⟨⟨t825, t826⟩, A420, H⟩ := H
      (try dsimp only at H)
      have A42 := am A420
      clear A420
      have HC43 := am H
      clear H
      try go_wp2
      replace HO_8 := am (Kd.R_drew HO_8.out)
      replace HO_11 := am (Kd.R_drew HO_11.out)
      replace HO_815001 := am (Kd.R_drew HO_815001.out)
      replace BK800 := am (blk_drew BK800.out)
      replace BK814 := am (blk_drew BK814.out)
      replace HB := am (below_drew1 HB.out)
      refine start_ (n := 5) (S := fun w' => w'.cell? ⟨gb814, 0, none⟩ = some (.int .i64 t810) ∧ w'.cell? ⟨gb814, 1, none⟩ = some (.slice Ao26 t811.length co26) ∧ w'.cell? ⟨gb800, 0, none⟩ = some (.int .i64 a0_0) ∧ w'.cell? ⟨gb800, 1, none⟩ = some (.slice A0_1 l0_1.length c0_1)) (ds := []) #[false, false, false, false, false] (by kernel_rfl) rfl rfl ⟨(bc BK814 0), (bc BK814 1), (bc BK800 0), (bc BK800 1)⟩ (fun hHeld => ?_)
      generalize wc.drew = w44 at HO_8 HO_11 HO_815001 BK800 BK814 HB hHeld ⊢
      refine take_ (i := 0) (N := some 49) (v := ?_) (a' := ?_) #[true, false, false, false, false] rfl rfl (by kernel_rfl) (fun _ _ _ h => h) (Or.inl ⟨by rfl, ?_⟩) hHeld ?_ ?_; rotate_left; (rintro w' ⟨s0, s1, s2, s3⟩; go_simp; with_reducible rfl); rotate_left; (simp only [Act.put, List.setIfInBounds_toArray, List.set_cons_zero, List.set_cons_succ, i64_w, i32_w]; rfl)
      refine take_ (i := 1) (N := some 50) (v := ?_) (a' := ?_) #[true, true, false, false, false] rfl rfl (by kernel_rfl) (fun _ _ _ h => h) (Or.inl ⟨by rfl, ?_⟩) hHeld ?_ ?_; rotate_left; (rintro w' ⟨s0, s1, s2, s3⟩; go_simp; with_reducible rfl); rotate_left; (simp only [Act.put, List.setIfInBounds_toArray, List.set_cons_zero, List.set_cons_succ, i64_w, i32_w]; rfl)
      refine one_ (i := 2) (N := some 51) #[true, true, true, false, false] rfl rfl (by kernel_rfl) (by decide) (fun K hK => ?_)
      refine gg_ Try.func32 #[.agg #[.int .i64 a0_0, .slice A0_1 l0_1.length c0_1]] ?_
      with_reducible refine (laws_toNet.calls kj12 a0_0 _ _ l0_1 t820 t821 _ ?side1 ?side2 A39.out).mono ?_
      (case side1 => exact cb HR0_1 HB)
      (case side2 => exact HC0_1.out)
      rintro e w45 ⟨v822, rfl, ho0, hb⟩
      refine ⟨_, rfl, ?_⟩
      have HO823 := am (Kd.R_lower (Kd.R_new' (Kd.R_new' (Kd.R_new' ho0 (Kd.R_lt (onR HO_8))) (Kd.R_lt (onR HO_11))) (Kd.R_lt (onR HO_815001))) (below_size (bn HB)))
      replace HO_8 := am (Kd.R_elder' (onR HO_8) (Kd.R_base ho0) hb)
      replace HO_11 := am (Kd.R_elder' (onR HO_11) (Kd.R_base ho0) hb)
      replace HO_815001 := am (Kd.R_elder' (onR HO_815001) (Kd.R_base ho0) hb)
      replace BK800 := bb BK800 hb
      replace BK814 := bb BK814 hb
      replace HB := bs HB hb
      (try clear hb)
      (try clear hb2)
      (try clear hk)
      (try clear hi)
      (try clear ho0)
      obtain ⟨Ao46, co46, eo46⟩ := Kd.R_slice HO823.out
      (first | subst eo46 | (injection eo46 with f1_ f2_ f3_; have f4_ := f1_.symm; have f5_ := f3_.symm; clear f1_ f2_ f3_; subst f4_; subst f5_))
      refine hK.out _ _ ⟨(bc BK814 0), (bc BK814 1), (bc BK800 0), (bc BK800 1)⟩ (fun hHeld => ?_)
      clear hK K
      refine nz_ 51 ?_
      refine one_ (i := 3) (N := some 52) #[true, true, true, true, false] rfl rfl (by kernel_rfl) (by decide) (fun K hK => ?_)
      refine gg_ Try.func34 #[.agg #[.int .i64 t810, .slice Ao26 t811.length co26], .agg #[.int .i64 t820, .slice Ao46 t821.length co46]] ?_
      with_reducible refine (laws_eqNet.calls kj12 t810 _ _ t811 t820 _ _ t821 true _ ?side1 ?side2 ?side3 ?side4 A40.out).mono ?_
      (case side1 => exact (Kd.R_reads' (onR HO_815001)).2.2)
      (case side2 => exact (Kd.R_reads' HO_815001.out).2.1)
      (case side3 => exact (Kd.R_reads' (onR HO823)).2.2)
      (case side4 => exact (Kd.R_reads' HO823.out).2.1)
      rintro e w47 ⟨rfl, hb⟩
      refine ⟨_, rfl, ?_⟩
      replace HO_8 := am (Kd.R_below (onR HO_8) hb)
      replace HO_11 := am (Kd.R_below (onR HO_11) hb)
      replace HO_815001 := am (Kd.R_below (onR HO_815001) hb)
      replace HO823 := am (Kd.R_below (onR HO823) hb)
      replace BK800 := bb BK800 hb
      replace BK814 := bb BK814 hb
      replace HB := bs HB hb
      (try clear hb)
      (try clear hb2)
      (try clear hk)
      (try clear hi)
      refine hK.out _ _ ⟨(bc BK814 0), (bc BK814 1), (bc BK800 0), (bc BK800 1)⟩ (fun hHeld => ?_)
      clear hK K
      refine nz_ 52 ?_
      refine pure_ (i := 4) (N := some 53) (v := ?_) (a' := ?_) #[true, true, true, true, true] rfl rfl (by kernel_rfl) (fun _ _ _ h => h) (Or.inl ⟨by rfl, ?_⟩) ?_ ?_; rotate_left; (intro w'; go_simp; with_reducible rfl); rotate_left; (simp only [Act.put, List.setIfInBounds_toArray, List.set_cons_zero, List.set_cons_succ, i64_w, i32_w]; rfl)
      refine done_ (by kernel_rfl) ?_
      obtain ⟨hnb48, hnc48⟩ := n2 NB814_800 NB800_814
      obtain ⟨hcz49_0, hcz49_1, hfz49_0, hfz49_1⟩ := c2 BK814
      go_upto_region 14 with (first | ((with_reducible refine gate_callee (f := 52) rfl ?_); refine gl_ (some 56) Try.func52 #[.agg #[.int .i64 t810, .slice Ao26 t811.length co26], .int .i64 1] ?_; (with_reducible refine (laws_markNet.calls kj12 t810 (fun k_ => some k_ = (.slice Ao26 t811.length co26 : Value).ownBlock) (.slice Ao26 t811.length co26) t811 1 t825 t826 w _ ?side1 ?side2 A42.out).mono ?_); (case side1 => exact bn HB); (case side2 => exact Kd.R_tight rfl HO_815001.out); rintro e w50 ⟨rfl, hy0, hb, hkp⟩; refine ⟨_, rfl, ?_⟩; replace HO_8 := am (Kd.R_mono (ok' := fun k_ => some k_ ≠ (v816 : Value).ownBlock ∧ some k_ ≠ (.slice Ao26 t811.length co26 : Value).ownBlock ∧ some k_ ≠ (.slice Ao46 t821.length co46 : Value).ownBlock) (Kd.R_keptB (HO_8.out) hkp (fun k_ hk_ hs_ => (hk_.1.2) hs_)) (fun k_ hk_ => ⟨hk_.1.1.1, hk_.1.1.2, hk_.1.2⟩)); replace HO_11 := am (Kd.R_mono (ok' := fun k_ => some k_ ≠ (v807 : Value).ownBlock ∧ some k_ ≠ (.slice Ao26 t811.length co26 : Value).ownBlock ∧ some k_ ≠ (.slice Ao46 t821.length co46 : Value).ownBlock) (Kd.R_keptB (HO_11.out) hkp (fun k_ hk_ hs_ => (hk_.1.2) hs_)) (fun k_ hk_ => ⟨hk_.1.1.1, hk_.1.1.2, hk_.1.2⟩)); replace BK800 := am (blk_kept (bkn BK800) hkp (fun hs_ => (fun e_ => (Kd.R_ne HO_815001.out BK800.out (by decide)) e_) hs_)); replace BK814 := am (blk_kept (bkn BK814) hkp (fun hs_ => (fun e_ => (Kd.R_ne HO_815001.out BK814.out (by decide)) e_) hs_)); replace HO_815001 := am (Kd.R_reok rfl hy0 (fun k_ e_ => HO_815001.out.1 k_ e_)); replace HO823 := am (Kd.R_mono (ok' := fun k_ => some k_ ≠ (v807 : Value).ownBlock ∧ some k_ ≠ (v816 : Value).ownBlock ∧ some k_ ≠ (.slice Ao26 t811.length co26 : Value).ownBlock) (Kd.R_keptB (HO823.out) hkp (fun k_ hk_ hs_ => (hk_.2) hs_)) (fun k_ hk_ => ⟨hk_.1.1.1.2, hk_.1.1.2, hk_.1.2⟩)); replace HB := am hb; (try clear hb); (try clear hkp); (try clear hy0)))
      (try simp only [Act.put, List.setIfInBounds_toArray, List.set_cons_zero, List.set_cons_succ])
      go_cut [69] (fun v69 wc => ∃ (kq : Nat) (x69_42 : Bool), v69 = .bool x69_42 ∧ Aside0 (laws_FnExactFlowCut.j1 kq a1 a2 t806 t809 t815 x69_42 a0_0 l0_1 = some r) ∧ Aside0 (kq ≤ kj12) ∧ Aside0 (Kd.R k73 73 wc w.heap.size (fun k_ => some k_ ≠ (v816 : Value).ownBlock ∧ some k_ ≠ ((.slice Ao26 t811.length co26) : Value).ownBlock) v807 t806) ∧ Aside0 (Kd.R k73 73 wc w.heap.size (fun k_ => some k_ ≠ (v807 : Value).ownBlock ∧ some k_ ≠ ((.slice Ao26 t811.length co26) : Value).ownBlock) v816 t815) ∧ Aside0 (Kd.R k73 73 wc w.heap.size (fun k_ => some k_ ≠ (v807 : Value).ownBlock ∧ some k_ ≠ (v816 : Value).ownBlock) (.slice Ao26 t811.length co26) t826) ∧ Aside0 (wc.heap[gb800]? = some (.cells #[.int .i64 a0_0, (.slice A0_1 l0_1.length c0_1)] 29 (0, 0))) ∧ Aside0 (wc.heap[gb814]? = some (.cells #[.int .i64 t810, (.slice Ao26 t811.length co26)] 34 (0, 0))) ∧ Aside0 (Below w.heap.size w wc))
      case first =>
       have H := HC43.out
       clear HC43
       by_cases c51 : t825 < 0
       ·rw [if_pos c51] at H
        have c51b0 := decide_eq_true c51
        clear c51
        (first | rw [c51b0] | (simp only [i64_w, i32_w]; rw [c51b0]) | skip)
        have H' := am H
        clear H
        go_wp2
        go_meet
        case rel => exact ⟨_, (true), (by first | rfl | (simp; done) | (simp [*]; done)), H', ⟨by have := HJ12.out; first | omega | exact Nat.le_refl _⟩, ⟨by (with_reducible repeat (first | apply Kd.R_alloc | apply Kd.R_drewN | apply Kd.R_drew)); exact Kd.R_mono HO_8.out (fun _ hk => ⟨hk.1, hk.2.1⟩)⟩, ⟨by (with_reducible repeat (first | apply Kd.R_alloc | apply Kd.R_drewN | apply Kd.R_drew)); exact Kd.R_mono HO_11.out (fun _ hk => ⟨hk.1, hk.2.1⟩)⟩, ⟨by (with_reducible repeat (first | apply Kd.R_alloc | apply Kd.R_drewN | apply Kd.R_drew)); exact Kd.R_mono HO_815001.out (fun _ hk => ⟨hk.1.1, hk.1.2⟩)⟩, ⟨bkn BK800⟩, ⟨bkn BK814⟩, ⟨bn HB⟩⟩
       ·rw [if_neg c51] at H
        have c51b0 := decide_eq_false c51
        clear c51
        (first | rw [c51b0] | (simp only [i64_w, i32_w]; rw [c51b0]) | skip)
        replace H := Option.bind_eq_some_iff.mp H
        obtain ⟨t827, A520, H⟩ := H
        (try dsimp only at H)
        have A52 := am A520
        clear A520
        by_cases c53 : t827 = true
        ·subst c53
         rw [if_pos rfl] at H
         have H' := am H
         clear H
         obtain ⟨Ao54, co54, eo54⟩ := Kd.R_slice HO_11.out
         subst eo54
         obtain ⟨Ao55, co55, eo55⟩ := Kd.R_slice HO_8.out
         subst eo55
         go_wp2_with (first | (go_at_call 47; (with_reducible refine (laws_eqTieS.calls kj12 _ _ t815 _ _ t806 true _ ?side1 ?side2 ?side3 ?side4 A52.out).mono ?_); (case side1 => exact (Kd.R_reads' (onR HO_11)).2.2); (case side2 => exact (Kd.R_reads' HO_11.out).2.1); (case side3 => exact (Kd.R_reads' (onR HO_8)).2.2); (case side4 => exact (Kd.R_reads' HO_8.out).2.1); rintro e w56 ⟨rfl, hb⟩; replace HO_8 := am (Kd.R_below (onR HO_8) hb); replace HO_11 := am (Kd.R_below (onR HO_11) hb); replace HO_815001 := am (Kd.R_below (onR HO_815001) hb); replace HO823 := am (Kd.R_below (onR HO823) hb); replace BK800 := bb BK800 hb; replace BK814 := bb BK814 hb; replace HB := bs HB hb; (try clear hb); (try clear hi)))
         go_meet
         case rel => exact ⟨_, ((t818 != t809)), (by first | rfl | (simp; done) | (simp [*]; done)), H', ⟨by have := HJ12.out; first | omega | exact Nat.le_refl _⟩, ⟨by (with_reducible repeat (first | apply Kd.R_alloc | apply Kd.R_drewN | apply Kd.R_drew)); exact Kd.R_mono HO_8.out (fun _ hk => ⟨hk.1, hk.2.1⟩)⟩, ⟨by (with_reducible repeat (first | apply Kd.R_alloc | apply Kd.R_drewN | apply Kd.R_drew)); exact Kd.R_mono HO_11.out (fun _ hk => ⟨hk.1, hk.2.1⟩)⟩, ⟨by (with_reducible repeat (first | apply Kd.R_alloc | apply Kd.R_drewN | apply Kd.R_drew)); exact Kd.R_mono HO_815001.out (fun _ hk => ⟨hk.1.1, hk.1.2⟩)⟩, ⟨bkn BK800⟩, ⟨bkn BK814⟩, ⟨bn HB⟩⟩
        ·replace c53 := Bool.eq_false_iff.mpr c53
         subst c53
         rw [if_neg (show ¬ (false = true) by decide)] at H
         have H' := am H
         clear H
         obtain ⟨Ao57, co57, eo57⟩ := Kd.R_slice HO_11.out
         subst eo57
         obtain ⟨Ao58, co58, eo58⟩ := Kd.R_slice HO_8.out
         subst eo58
         go_wp2_with (first | (go_at_call 47; (with_reducible refine (laws_eqTieS.calls kj12 _ _ t815 _ _ t806 false _ ?side1 ?side2 ?side3 ?side4 A52.out).mono ?_); (case side1 => exact (Kd.R_reads' (onR HO_11)).2.2); (case side2 => exact (Kd.R_reads' HO_11.out).2.1); (case side3 => exact (Kd.R_reads' (onR HO_8)).2.2); (case side4 => exact (Kd.R_reads' HO_8.out).2.1); rintro e w59 ⟨rfl, hb⟩; replace HO_8 := am (Kd.R_below (onR HO_8) hb); replace HO_11 := am (Kd.R_below (onR HO_11) hb); replace HO_815001 := am (Kd.R_below (onR HO_815001) hb); replace HO823 := am (Kd.R_below (onR HO823) hb); replace BK800 := bb BK800 hb; replace BK814 := bb BK814 hb; replace HB := bs HB hb; (try clear hb); (try clear hi)))
         go_meet
         case rel => exact ⟨_, (true), (by first | rfl | (simp; done) | (simp [*]; done)), H', ⟨by have := HJ12.out; first | omega | exact Nat.le_refl _⟩, ⟨by (with_reducible repeat (first | apply Kd.R_alloc | apply Kd.R_drewN | apply Kd.R_drew)); exact Kd.R_mono HO_8.out (fun _ hk => ⟨hk.1, hk.2.1⟩)⟩, ⟨by (with_reducible repeat (first | apply Kd.R_alloc | apply Kd.R_drewN | apply Kd.R_drew)); exact Kd.R_mono HO_11.out (fun _ hk => ⟨hk.1, hk.2.1⟩)⟩, ⟨by (with_reducible repeat (first | apply Kd.R_alloc | apply Kd.R_drewN | apply Kd.R_drew)); exact Kd.R_mono HO_815001.out (fun _ hk => ⟨hk.1.1, hk.1.2⟩)⟩, ⟨bkn BK800⟩, ⟨bkn BK814⟩, ⟨bn HB⟩⟩
      case rest =>
       clear HC43
       try clear c1
       try clear c2
       try clear p2
       try clear c3
       try clear c4
       try clear c5
       try clear c5b0
       try clear c11
       try clear c24
       try clear c30
       try clear c31
       try clear c32
       try clear c34
       try clear c38
       try clear c41
       try clear c47
       try clear c48
       try clear c50
       try clear c51
       try clear c51b0
       try clear c52
       try clear c53
       try clear hcz15_0 hcz15_1 hfz15_0 hfz15_1
       try clear hcz17_0 hcz17_1 hfz17_0 hfz17_1
       try clear hcz21_0 hcz21_1 hfz21_0 hfz21_1
       try clear hcz25_0 hcz25_1 hfz25_0 hfz25_1
       try clear hcz28_0 hcz28_1 hfz28_0 hfz28_1
       try clear hcz49_0 hcz49_1 hfz49_0 hfz49_1
       try clear hcz7_0 hcz7_1 hfz7_0 hfz7_1
       try clear p2
       obtain ⟨kq, x69_42, rfl, HA, HJ42, HO_8, HO_11, HO_815001, BK800, BK814, HB⟩ := hcut
       have hl815001_42 := (Kd.R_reads' HO_815001.out).1
       rw [hl815001_42] at HO_815001
       (try simp only [hl815001_42])
       (try simp only [hl815001_42] at BK800)
       (try simp only [hl815001_42] at BK814)
       (try simp only [hl815001_42] at HO_8)
       (try simp only [hl815001_42] at HO_11)
       cases kq with
       | zero => exact absurd HA.out (by simp [laws_FnExactFlowCut.j1])
       | succ kj42 =>
        have H := HA.out
        clear HA
        simp only [laws_FnExactFlowCut.j1] at H
        by_cases c60 : x69_42 = true
        ·subst c60
         rw [if_pos rfl] at H
         exact absurd (Option.some.inj H) (by rw [hrt.out]; decide)
        ·replace c60 := Bool.eq_false_iff.mpr c60
         subst c60
         rw [if_neg (show ¬ (false = true) by decide)] at H
         replace H := Option.bind_eq_some_iff.mp H
         obtain ⟨⟨t828, t829⟩, A610, H⟩ := H
         (try dsimp only at H)
         have A61 := am A610
         clear A610
         replace H := Option.bind_eq_some_iff.mp H
         obtain ⟨t830, A620, H⟩ := H
         (try dsimp only at H)
         have A62 := am A620
         clear A620
         by_cases c63 : t830 < 0
         ·rw [if_pos c63] at H
          have c63b0 := decide_eq_true c63
          clear c63
          exact absurd (Option.some.inj H) (by rw [hrt.out]; decide)
         ·rw [if_neg c63] at H
          have c63b0 := decide_eq_false c63
          clear c63
          by_cases c64 : t830 = t828
          ·rw [if_pos c64] at H
           have c64b0 : (t830 == t828) = true := beq_iff_eq.mpr c64
           have c64b1 : (t830 != t828) = false := bne_eq_false_iff_eq.mpr c64
           clear c64
           replace H := Option.bind_eq_some_iff.mp H
           obtain ⟨⟨t831, t832⟩, A650, H⟩ := H
           (try dsimp only at H)
           have A65 := am A650
           clear A650
           replace H := Option.bind_eq_some_iff.mp H
           obtain ⟨⟨t835, t838⟩, A660, H⟩ := H
           (try dsimp only at H)
           have A66 := am A660
           clear A660
           have HC67 := am H
           clear H
           obtain ⟨Ao68, co68, eo68⟩ := Kd.R_slice HO_11.out
           subst eo68
           go_upto_region 25 with (first | ((with_reducible refine gate_callee (f := 53) rfl ?_); refine gl_ (some 72) Try.func53 #[.slice Ao68 t815.length co68, .int .i64 1] ?_; (with_reducible refine (laws_markTieS.calls kj42 (fun k_ => some k_ = (.slice Ao68 t815.length co68 : Value).ownBlock) (.slice Ao68 t815.length co68) t815 1 t828 t829 w _ ?side1 ?side2 A61.out).mono ?_); (case side1 => exact bn HB); (case side2 => exact Kd.R_tight rfl HO_11.out); rintro e w69 ⟨rfl, hy0, hb, hkp⟩; refine ⟨_, rfl, ?_⟩; replace HO_8 := am (Kd.R_mono (ok' := fun k_ => some k_ ≠ (.slice Ao68 t815.length co68 : Value).ownBlock ∧ some k_ ≠ (.slice Ao26 t826.length co26 : Value).ownBlock) (Kd.R_keptB (HO_8.out) hkp (fun k_ hk_ hs_ => (hk_.1) hs_)) (fun k_ hk_ => ⟨hk_.1.1, hk_.1.2⟩)); replace HO_815001 := am (Kd.R_mono (ok' := fun k_ => some k_ ≠ (v807 : Value).ownBlock ∧ some k_ ≠ (.slice Ao68 t815.length co68 : Value).ownBlock) (Kd.R_keptB (HO_815001.out) hkp (fun k_ hk_ hs_ => (hk_.2) hs_)) (fun k_ hk_ => ⟨hk_.1.1, hk_.1.2⟩)); replace BK800 := am (blk_kept (bkn BK800) hkp (fun hs_ => (fun e_ => (Kd.R_ne HO_11.out BK800.out (by decide)) e_) hs_)); replace BK814 := am (blk_kept (bkn BK814) hkp (fun hs_ => (fun e_ => (Kd.R_ne HO_11.out BK814.out (by decide)) e_) hs_)); replace HO_11 := am (Kd.R_reok rfl hy0 (fun k_ e_ => HO_11.out.1 k_ e_)); replace HB := am hb; (try clear hb); (try clear hkp); (try clear hy0)) | ((with_reducible refine gate_callee (f := 54) rfl ?_); refine goesL_ (some 75) rfl rfl Try.func54 (by kernel_rfl) rfl #[.slice Ao68 t829.length co68, .int .i64 1] rfl (by (try simp only [List.map_toArray, List.map_cons, List.map_nil]); first | done | (rw [show t829.length = t815.length from (Kd.R_reads' HO_11.out).1.symm] <;> rfl) | rfl | (simp only [List.length_drop, List.length_take]; rfl)) ?_; (with_reducible refine (laws_heldTieS.calls kj42 _ _ t829 1 t830 _ ?side1 ?side2 A62.out).mono ?_); (case side1 => exact (Kd.R_reads' (onR HO_11)).2.2); (case side2 => rw [show t829.length = t815.length from (Kd.R_reads' HO_11.out).1.symm]; exact (Kd.R_reads' HO_11.out).2.1); rintro e w' ⟨rfl, ⟨nd, rfl⟩⟩; refine ⟨_, rfl, ?_⟩; obtain ⟨hnb70, hnc70⟩ := n2 NB800_814 NB814_800; obtain ⟨hcz71_0, hcz71_1, hfz71_0, hfz71_1⟩ := c2 BK800) | ((with_reducible refine gate_callee (f := 32) rfl ?_); refine gl_ (some 83) Try.func32 #[.agg #[.int .i64 a0_0, .slice A0_1 l0_1.length c0_1]] ?_; (with_reducible refine (laws_toNet.calls kj42 a0_0 _ _ l0_1 t831 t832 _ ?side1 ?side2 A65.out).mono ?_); (case side1 => repeat (first | exact (Kd.C_below HR0_1.out (bn HB)) | (with_reducible refine Kd.C_alloc ?_ _) | (with_reducible refine Kd.C_drewN ?_ _) | (with_reducible refine Kd.C_drew ?_))); (case side2 => exact HC0_1.out); rintro e w72 ⟨v833, rfl, ho0, hb⟩; refine ⟨_, rfl, ?_⟩; have HO834 := am (Kd.R_lower (Kd.R_new' (Kd.R_new' (Kd.R_new' ho0 (Kd.R_lt (onR HO_8))) (Kd.R_lt (onR HO_11))) (Kd.R_lt (onR HO_815001))) (below_size (bn HB))); replace HO_8 := am (Kd.R_elder' (onR HO_8) (Kd.R_base ho0) hb); replace HO_11 := am (Kd.R_elder' (onR HO_11) (Kd.R_base ho0) hb); replace HO_815001 := am (Kd.R_elder' (onR HO_815001) (Kd.R_base ho0) hb); replace BK800 := bb BK800 hb; replace BK814 := bb BK814 hb; replace HB := bs HB hb; (try clear hb); (try clear ho0); obtain ⟨Ao73, co73, eo73⟩ := Kd.R_slice HO834.out; subst eo73) | ((with_reducible refine gate_callee (f := 51) rfl ?_); refine gl_ (some 86) Try.func51 #[.agg #[.int .i64 t831, .slice Ao73 t832.length co73], .int .i64 a1, .int .i64 a2] ?_; (with_reducible refine (impl_FlowCut.calls kj42 t831 (fun k_ => some k_ = (.slice Ao73 t832.length co73 : Value).ownBlock) _ _ t832 a1 a2 t835 t838 _ ?side1 A66.out).mono ?_); (case side1 => exact Kd.R_V (Kd.R_tight rfl (Kd.R_types (Kd.R_types (HO834.out) BK800.out (by decide)) BK814.out (by decide)))); rintro e w74 ⟨v836, rfl, ho0, hb⟩; refine ⟨_, rfl, ?_⟩; have HO837 := am (Kd.R_lower (Kd.R_new' (Kd.R_new' (Kd.R_new' (Kd.R_new' (Kd.R_mono (ok' := fun k_ => True) ho0 (fun _ hk_ => trivial)) (Kd.R_lt (onR HO_8))) (Kd.R_lt (onR HO_11))) (Kd.R_lt (onR HO_815001))) (Kd.R_lt (onR HO834))) (below_size (bn HB))); replace HO_8 := am (Kd.R_elder' (onR HO_8) (Kd.R_base ho0) hb); replace HO_11 := am (Kd.R_elder' (onR HO_11) (Kd.R_base ho0) hb); replace HO_815001 := am (Kd.R_elder' (onR HO_815001) (Kd.R_base ho0) hb); replace HO834 := am (Kd.R_elder' (onR HO834) (Kd.R_base ho0) hb); replace BK800 := bb BK800 hb; replace BK814 := bb BK814 hb; replace HB := bs HB hb; (try clear hb); (try clear ho0)))
           (try simp only [Act.put, List.setIfInBounds_toArray, List.set_cons_zero, List.set_cons_succ])
           go_cut [97] (fun v97 wc => ∃ (kq : Nat) (x97_66 : Bool), v97 = .bool x97_66 ∧ Aside0 (laws_FnExactFlowCut.j2 kq t829 t828 x97_66 = some r) ∧ Aside0 (kq ≤ kj42) ∧ Aside0 (Kd.R k73 73 wc w.heap.size (fun k_ => some k_ ≠ ((.slice Ao26 t826.length co26) : Value).ownBlock) (.slice Ao68 t815.length co68) t829) ∧ Aside0 (Kd.R k73 73 wc w.heap.size (fun k_ => some k_ ≠ ((.slice Ao68 t815.length co68) : Value).ownBlock) (.slice Ao26 t826.length co26) t826) ∧ Aside0 (wc.heap[gb800]? = some (.cells #[.int .i64 a0_0, (.slice A0_1 l0_1.length c0_1)] 29 (0, 0))) ∧ Aside0 (wc.heap[gb814]? = some (.cells #[.int .i64 t810, (.slice Ao26 t826.length co26)] 34 (0, 0))) ∧ Aside0 (Below w.heap.size w wc))
           case first =>
            have H := HC67.out
            clear HC67
            replace H := Option.bind_eq_some_iff.mp H
            obtain ⟨t839, A750, H⟩ := H
            (try dsimp only at H)
            have A75 := am A750
            clear A750
            by_cases c76 : t839 = true
            ·subst c76
             rw [if_pos rfl] at H
             have H' := am H
             clear H
             obtain ⟨Ao77, co77, eo77⟩ := Kd.R_slice HO837.out
             subst eo77
             obtain ⟨Ao78, co78, eo78⟩ := Kd.R_slice HO_8.out
             subst eo78
             go_wp2_with (first | ((with_reducible refine gate_callee (f := 47) rfl ?_); refine gl_ (some 91) Try.func47 #[.slice Ao77 t835.length co77, .slice Ao78 t806.length co78] ?_; (with_reducible refine (laws_eqTieS.calls kj42 _ _ t835 _ _ t806 true _ ?side1 ?side2 ?side3 ?side4 A75.out).mono ?_); (case side1 => exact (Kd.R_reads' (onR HO837)).2.2); (case side2 => exact (Kd.R_reads' HO837.out).2.1); (case side3 => exact (Kd.R_reads' (onR HO_8)).2.2); (case side4 => exact (Kd.R_reads' HO_8.out).2.1); rintro e w79 ⟨rfl, hb⟩; refine ⟨_, rfl, ?_⟩; replace HO_8 := am (Kd.R_below (onR HO_8) hb); replace HO_11 := am (Kd.R_below (onR HO_11) hb); replace HO_815001 := am (Kd.R_below (onR HO_815001) hb); replace HO834 := am (Kd.R_below (onR HO834) hb); replace HO837 := am (Kd.R_below (onR HO837) hb); replace BK800 := bb BK800 hb; replace BK814 := bb BK814 hb; replace HB := bs HB hb; (try clear hb); (try clear hi)))
             go_meet
             case rel => exact ⟨_, ((t838 != t809)), (by first | rfl | (simp; done) | (simp [*]; done)), H', ⟨by have := HJ12.out; have := HJ42.out; first | omega | exact Nat.le_refl _⟩, ⟨by (try simp only [hl815001_42]); (with_reducible repeat (first | apply Kd.R_alloc | apply Kd.R_drewN | apply Kd.R_drew)); exact Kd.R_mono HO_11.out (fun _ hk => hk.1.1.2)⟩, ⟨by (try simp only [hl815001_42]); (with_reducible repeat (first | apply Kd.R_alloc | apply Kd.R_drewN | apply Kd.R_drew)); exact Kd.R_mono HO_815001.out (fun _ hk => hk.1.1.2)⟩, ⟨by (try simp only [hl815001_42]); (with_reducible repeat (first | refine blk_drewN ?_ _ | refine blk_drew ?_ | refine blk_alloc ?_ _)); exact BK800.out⟩, ⟨by (try simp only [hl815001_42]); (with_reducible repeat (first | refine blk_drewN ?_ _ | refine blk_drew ?_ | refine blk_alloc ?_ _)); exact BK814.out⟩, ⟨bn HB⟩⟩
            ·replace c76 := Bool.eq_false_iff.mpr c76
             subst c76
             rw [if_neg (show ¬ (false = true) by decide)] at H
             have H' := am H
             clear H
             obtain ⟨Ao80, co80, eo80⟩ := Kd.R_slice HO837.out
             subst eo80
             obtain ⟨Ao81, co81, eo81⟩ := Kd.R_slice HO_8.out
             subst eo81
             go_wp2_with (first | ((with_reducible refine gate_callee (f := 47) rfl ?_); refine gl_ (some 91) Try.func47 #[.slice Ao80 t835.length co80, .slice Ao81 t806.length co81] ?_; (with_reducible refine (laws_eqTieS.calls kj42 _ _ t835 _ _ t806 false _ ?side1 ?side2 ?side3 ?side4 A75.out).mono ?_); (case side1 => exact (Kd.R_reads' (onR HO837)).2.2); (case side2 => exact (Kd.R_reads' HO837.out).2.1); (case side3 => exact (Kd.R_reads' (onR HO_8)).2.2); (case side4 => exact (Kd.R_reads' HO_8.out).2.1); rintro e w82 ⟨rfl, hb⟩; refine ⟨_, rfl, ?_⟩; replace HO_8 := am (Kd.R_below (onR HO_8) hb); replace HO_11 := am (Kd.R_below (onR HO_11) hb); replace HO_815001 := am (Kd.R_below (onR HO_815001) hb); replace HO834 := am (Kd.R_below (onR HO834) hb); replace HO837 := am (Kd.R_below (onR HO837) hb); replace BK800 := bb BK800 hb; replace BK814 := bb BK814 hb; replace HB := bs HB hb; (try clear hb); (try clear hi)))
             go_meet
             case rel => exact ⟨_, (true), (by first | rfl | (simp; done) | (simp [*]; done)), H', ⟨by have := HJ12.out; have := HJ42.out; first | omega | exact Nat.le_refl _⟩, ⟨by (try simp only [hl815001_42]); (with_reducible repeat (first | apply Kd.R_alloc | apply Kd.R_drewN | apply Kd.R_drew)); exact Kd.R_mono HO_11.out (fun _ hk => hk.1.1.2)⟩, ⟨by (try simp only [hl815001_42]); (with_reducible repeat (first | apply Kd.R_alloc | apply Kd.R_drewN | apply Kd.R_drew)); exact Kd.R_mono HO_815001.out (fun _ hk => hk.1.1.2)⟩, ⟨by (try simp only [hl815001_42]); (with_reducible repeat (first | refine blk_drewN ?_ _ | refine blk_drew ?_ | refine blk_alloc ?_ _)); exact BK800.out⟩, ⟨by (try simp only [hl815001_42]); (with_reducible repeat (first | refine blk_drewN ?_ _ | refine blk_drew ?_ | refine blk_alloc ?_ _)); exact BK814.out⟩, ⟨bn HB⟩⟩
           case rest =>
            clear HC67
            try clear c1
            try clear c2
            try clear p2
            try clear c3
            try clear c4
            try clear c5
            try clear c5b0
            try clear c6
            try clear c7
            try clear c11
            try clear c24
            try clear c30
            try clear c31
            try clear c32
            try clear c34
            try clear c38
            try clear c41
            try clear c47
            try clear c48
            try clear c50
            try clear c51
            try clear c51b0
            try clear c52
            try clear c53
            try clear c54
            try clear c60
            try clear c63
            try clear c63b0
            try clear c64
            try clear c64b0
            try clear c64b1
            try clear c70
            try clear c76
            try clear hcz15_0 hcz15_1 hfz15_0 hfz15_1
            try clear hcz17_0 hcz17_1 hfz17_0 hfz17_1
            try clear hcz21_0 hcz21_1 hfz21_0 hfz21_1
            try clear hcz25_0 hcz25_1 hfz25_0 hfz25_1
            try clear hcz28_0 hcz28_1 hfz28_0 hfz28_1
            try clear hcz49_0 hcz49_1 hfz49_0 hfz49_1
            try clear hcz71_0 hcz71_1 hfz71_0 hfz71_1
            try clear hcz7_0 hcz7_1 hfz7_0 hfz7_1
            try clear p2
            obtain ⟨kq, x97_66, rfl, HA, HJ66, HO_11, HO_815001, BK800, BK814, HB⟩ := hcut
            have hl11_66 := (Kd.R_reads' HO_11.out).1
            rw [hl11_66] at HO_11
            (try simp only [hl11_66])
            (try simp only [hl11_66] at BK800)
            (try simp only [hl11_66] at BK814)
            (try simp only [hl11_66] at HO_815001)
            cases kq with
            | zero => exact absurd HA.out (by simp [laws_FnExactFlowCut.j2])
            | succ kj66 =>
             have H := HA.out
             clear HA
             simp only [laws_FnExactFlowCut.j2] at H
             by_cases c83 : x97_66 = true
             ·subst c83
              rw [if_pos rfl] at H
              exact absurd (Option.some.inj H) (by rw [hrt.out]; decide)
             ·replace c83 := Bool.eq_false_iff.mpr c83
              subst c83
              rw [if_neg (show ¬ (false = true) by decide)] at H
              replace H := Option.bind_eq_some_iff.mp H
              obtain ⟨t840, A840, H⟩ := H
              (try dsimp only at H)
              have A84 := am A840
              clear A840
              by_cases c85 : t840 < 0
              ·rw [if_pos c85] at H
               have c85b0 := decide_eq_true c85
               clear c85
               exact absurd (Option.some.inj H) (by rw [hrt.out]; decide)
              ·rw [if_neg c85] at H
               have c85b0 := decide_eq_false c85
               clear c85
               by_cases c86 : t840 = t828
               ·rw [if_pos c86] at H
                have c86b0 : (t840 == t828) = true := beq_iff_eq.mpr c86
                have c86b1 : (t840 != t828) = false := bne_eq_false_iff_eq.mpr c86
                clear c86
                obtain rfl := Option.some.inj H
                go_wp2_with (first | ((with_reducible refine gate_callee (f := 54) rfl ?_); refine gl_ (some 100) Try.func54 #[.slice Ao68 t829.length co68, .int .i64 1] ?_; (with_reducible refine (laws_heldTieS.calls kj66 _ _ t829 1 t840 _ ?side1 ?side2 A84.out).mono ?_); (case side1 => exact (Kd.R_reads' (onR HO_11)).2.2); (case side2 => exact (Kd.R_reads' HO_11.out).2.1); rintro e w' ⟨rfl, ⟨nd, rfl⟩⟩; refine ⟨_, rfl, ?_⟩))
                go_ret
                exact ⟨by first | rfl | (simp [errW_none, errW_some] <;> rfl) | (simp [*, errW_none, errW_some] <;> rfl), bn HB⟩
               ·rw [if_neg c86] at H
                have c86b0 : (t840 == t828) = false := beq_eq_false_iff_ne.mpr c86
                have c86b1 : (t840 != t828) = true := bne_iff_ne.mpr c86
                exact absurd (Option.some.inj H) (by rw [hrt.out]; decide)
          ·rw [if_neg c64] at H
           have c64b0 : (t830 == t828) = false := beq_eq_false_iff_ne.mpr c64
           have c64b1 : (t830 != t828) = true := bne_iff_ne.mpr c64
           exact absurd (Option.some.inj H) (by rw [hrt.out]; decide)
     ·replace c41 := Bool.eq_false_iff.mpr c41
      subst c41
      rw [if_neg (show ¬ (false = true) by decide)] at H
      exact absurd (Option.some.inj H) (by rw [hrt.out]; decide)

/-- what is to be proved of laws_FnExactFlowCut, without Go -/
def laws_FnExactFlowCut.Pure : Prop := ∀ (a0_0 : Int) (l0_1 : List (S96)) (a1 : Int) (a2 : Int), ((Lit.int .i64 a0_0).wf = true) → (l0_1.length ≤ maxLen ∧ ∀ l0_1_ ∈ l0_1, (((Lit.int .i64 l0_1_.f0).wf = true) ∧ ((Lit.int .i64 l0_1_.f1).wf = true))) → ((Lit.int .i64 a1).wf = true) → ((Lit.int .i64 a2).wf = true) → ∃ k, laws_FnExactFlowCut.f k a0_0 l0_1 a1 a2 = some true

end Go.Proofs.Ytdlnnjgjfngccaa.F
