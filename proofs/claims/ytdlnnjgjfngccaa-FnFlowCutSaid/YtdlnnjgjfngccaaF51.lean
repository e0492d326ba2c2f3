-- Written by oprint.py (wip/tools) over the kit's print program, for this seat.
import Derived.Test.YtdlnnjgjfngccaaF0
import Derived.Test.YtdlnnjgjfngccaaF34
import Derived.Test.YtdlnnjgjfngccaaF35
import Derived.Test.YtdlnnjgjfngccaaXFlowS
namespace Go.Proofs.Ytdlnnjgjfngccaa.F
open Go.RowKit Go.Proofs.YtdlnnjgjfngccaaW.PrintWords Go.Proofs.YtdlnnjgjfngccaaW.PrintLast Go.Proofs.YtdlnnjgjfngccaaW.PrintMore
attribute [local go_sem] max2_int min2_int max_two min_two max_three min_three max_four min_four   -- for this text's walks alone
set_option linter.unusedVariables false
set_option linter.unusedSimpArgs false

/-! ### spec_FlowCut: function 50 -/
mutual
def spec_FlowCut.l0 : Nat → Int → Int → List (S73) → Int → Int → Int → List (S73) → Int → List (S73) → Option ((List (S73)) × Bool)
 | 0, _, _, _, _, _, _, _, _, _ => none
 | k + 1, x1, x2, x8, x9, x11, x750000, x750001, x759000, x759001 => if x11 < (x750001.length : Int) then (spec_FlowCut.j1 k x1 x2 x8 x9 x11 (decide (x9 > 0)) x750000 x750001 x759000 x759001) else (spec_FlowCut.j1 k x1 x2 x8 x9 x11 false x750000 x750001 x759000 x759001)
def spec_FlowCut.j1 : Nat → Int → Int → List (S73) → Int → Int → Bool → Int → List (S73) → Int → List (S73) → Option ((List (S73)) × Bool)
 | 0, _, _, _, _, _, _, _, _, _, _ => none
 | k + 1, x1, x2, x8, x9, x11, x32, x750000, x750001, x759000, x759001 => if x32 = true then (if 0 ≤ x11 then (if x11 < (x750001.length : Int) then ((spec_NetCut.f k x759000 x759001 ((rd_T73 x750001 x11).f0) ((rd_T73 x750001 x11).f1)).bind fun bt761 => ((spec_FlowCount.f k bt761.1 bt761.2.1 x1 x2).bind fun t767 => (if t767 < x9 then (if x8.length < 8796093022208 then (spec_FlowCut.l0 k x1 x2 (x8 ++ [(⟨(rd_T73 x750001 x11).f0, (rd_T73 x750001 x11).f1⟩ : S73)]) (wrap64 (x9 - 1)) (wrap64 (x11 + 1)) x750000 x750001 bt761.1 bt761.2.1) else (none)) else (spec_FlowCut.l0 k x1 x2 x8 x9 (wrap64 (x11 + 1)) x750000 x750001 x759000 x759001)))) else (none)) else (none)) else (some (x8, true))
end
def spec_FlowCut.f (k : Nat) (a0_0 : Int) (l0_1 : List (S73)) (a1 : Int) (a2 : Int) : Option ((List (S73)) × Bool) := (some (([] : List (S73)) : List (S73))).bind fun y750 => ((spec_FlowCount.f k a0_0 l0_1 a1 a2).bind fun t753 => (if t753 < 0 then (some (y750, false)) else ((spec_l1Copy.f a0_0 l0_1).bind fun bt754 => (spec_FlowCut.l0 k a1 a2 y750 t753 0 a0_0 l0_1 bt754.1 bt754.2))))
theorem spec_FlowCut.mono_l : ∀ k, (∀ y0 y1 y2 y3 y4 y5 y6 y7 y8, LeO (spec_FlowCut.l0 k y0 y1 y2 y3 y4 y5 y6 y7 y8) (spec_FlowCut.l0 (k + 1) y0 y1 y2 y3 y4 y5 y6 y7 y8)) ∧ (∀ y0 y1 y2 y3 y4 y5 y6 y7 y8 y9, LeO (spec_FlowCut.j1 k y0 y1 y2 y3 y4 y5 y6 y7 y8 y9) (spec_FlowCut.j1 (k + 1) y0 y1 y2 y3 y4 y5 y6 y7 y8 y9))
 | 0 => ⟨fun _ _ _ _ _ _ _ _ _ r h => by simp [spec_FlowCut.l0] at h, fun _ _ _ _ _ _ _ _ _ _ r h => by simp [spec_FlowCut.j1] at h⟩
 | k + 1 => by
  obtain ⟨ih0, ih1⟩ := spec_FlowCut.mono_l k
  refine ⟨?_, ?_⟩
  ·intro y0 y1 y2 y3 y4 y5 y6 y7 y8
   unfold spec_FlowCut.l0
   have m0_ := @spec_FlowCount.mono
   have m1_ := @spec_NetCut.mono
   exact mo_
  ·intro y0 y1 y2 y3 y4 y5 y6 y7 y8 y9
   unfold spec_FlowCut.j1
   have m0_ := @spec_FlowCount.mono
   have m1_ := @spec_NetCut.mono
   exact mo_
theorem spec_FlowCut.mono : ∀ a0 a1 a2 a3 k, LeO (spec_FlowCut.f k a0 a1 a2 a3) (spec_FlowCut.f (k + 1) a0 a1 a2 a3) := by
 intro a0 a1 a2 a3 k
 obtain ⟨ih0, ih1⟩ := spec_FlowCut.mono_l k
 unfold spec_FlowCut.f
 have m0_ := @spec_FlowCount.mono
 have m1_ := @spec_NetCut.mono
 exact mo_
def spec_FlowCut.T9 : Bool × List (List Nat × List Nat) := (true, [([], []), ([], []), ([1], [1]), ([], []), ([2, 3], [2, 3]), ([4], [4]), ([5], [5]), ([], []), ([7], [7]), ([], []), ([8, 9], [8, 9]), ([10], [10]), ([11], [11]), ([0, 6, 12], [0, 6, 12]), ([13], [13]), ([14], [14]), ([14], [14]), ([], []), ([17, 15, 13, 0, 1, 2, 3, 4, 5, 6, 7, 8, 9, 10, 11, 12, 13, 14, 15, 17], [15, 17]), ([16, 18, 0, 1, 2, 3, 4, 5, 6, 7, 8, 9, 10, 11, 12, 13, 14, 15, 16, 17, 18], [16])])
def spec_FlowCut.B9 : List Nat := [0, 0, 2, 0, 14, 30, 62, 0, 128, 0, 896, 1920, 3968, 8191, 16383, 32767, 32767, 0, 196607, 524287]
theorem spec_FlowCut.tab9 : rtab .any (opsOf Try.f50 9) = spec_FlowCut.T9 := by kernel_rfl
theorem spec_FlowCut.bits9 : waitsOk spec_FlowCut.T9.2 spec_FlowCut.B9 = true := by kernel_rfl
set_option maxHeartbeats 8000000 in
set_option maxRecDepth 100000 in
theorem spec_FlowCut.calls (k : Nat) (a0_0 : Int) (A0_1 : Option Addr) (c0_1 : Nat) (l0_1 : List (S73)) (a1 : Int) (a2 : Int) (r1 : List (S73)) (r2 : Bool) (w : World) (hr0_1 : Kd.C k73 w A0_1 l0_1.length l0_1) (hc0_1 : l0_1.length ≤ c0_1) (h : spec_FlowCut.f k a0_0 l0_1 a1 a2 = some (r1, r2)) :
  Calls Try.prog 50 #[.agg #[.int .i64 a0_0, .slice A0_1 l0_1.length c0_1], .int .i64 a1, .int .i64 a2] w fun e w' => ∃ v0_ : Value, e = .returned (.tuple #[v0_, .bool r2]) ∧ Kd.R k73 73 w' w.heap.size (fun _ => True) v0_ r1 ∧ Below w.heap.size w w' := by
 have hu34 := Try.underlying34
 have hu73 := Try.underlying73
 have HR0_1 := am hr0_1
 have HC0_1 := am hc0_1
 clear hr0_1 hc0_1
 have HB := am (Below.refl w.heap.size w)
 have H : ((some (([] : List (S73)) : List (S73))).bind fun y750 => ((spec_FlowCount.f k a0_0 l0_1 a1 a2).bind fun t753 => (if t753 < 0 then (some (y750, false)) else ((spec_l1Copy.f a0_0 l0_1).bind fun bt754 => (spec_FlowCut.l0 k a1 a2 y750 t753 0 a0_0 l0_1 bt754.1 bt754.2))))) = some (r1, r2) := h
 clear h
 obtain ⟨y750, hy750⟩ : ∃ y_ : List (S73), y_ = (([] : List (S73))) := ⟨_, rfl⟩
 replace H : ((spec_FlowCount.f k a0_0 l0_1 a1 a2).bind fun t753 => (if t753 < 0 then (some (y750, false)) else ((spec_l1Copy.f a0_0 l0_1).bind fun bt754 => (spec_FlowCut.l0 k a1 a2 y750 t753 0 a0_0 l0_1 bt754.1 bt754.2)))) = some (r1, r2) := nh_ hy750 H
 have Ny750 := am hy750
 clear hy750
 replace H := Option.bind_eq_some_iff.mp H
 obtain ⟨t753, A40, H⟩ := H
 (try dsimp only at H)
 have A4 := am A40
 clear A40
 by_cases c5 : t753 < 0
 ·rw [if_pos c5] at H
  have c5b0 := decide_eq_true c5
  clear c5
  simp only [Option.some.injEq, Prod.mk.injEq] at H
  obtain ⟨rfl, rfl⟩ := H
  go_enter Try.func50, Try.ntmps50
  go_wp2_with (first | ((with_reducible refine gate_dst (N := 3) rfl ?_); refine be_ 3 #[.int .i64 a0_0, .slice A0_1 l0_1.length c0_1] 34 ?_; intro gb749 hg w6 hbox hb; have BK749 := am hbox; have GW749 := am (ge_ hg HB); have GE749 := am (ge_ hg HB); replace HB := bs HB hb; clear hb hbox hg) | ((with_reducible refine gate_dst (N := 14) rfl ?_); refine Kd.R_lit k73 _ 73 ?hg (N := 14) ?hd (xs := ([] : List (S73))) (inner := []) (ok := fun _ => True) (okp := fun _ => True) ?hr ?hp (fun _ hk => hk) trivial (Below.refl _ _) (Nat.le_refl _) (by simp) ?_; (case hd => rfl); (case hg => rfl); (case hr => first | (go_simp; done) | (go_simp; rfl)); (case hp => exact (Reps.none _ _)); intro v751 w7 ho8 hb hg_ hnew_; clear hg_ hnew_; (first | rw [← Ny750.out] at ho8 | (simp only [Int.reduceToNat] at ho8; rw [← Ny750.out] at ho8)); have HO752 := am (Kd.R_lower ho8 (below_size (bn HB))); replace BK749 := bb BK749 hb; replace HB := bs HB hb; clear hb ho8; obtain ⟨hcz9_0, hcz9_1, hfz9_0, hfz9_1⟩ := c2 BK749) | ((with_reducible refine gate_callee (f := 31) rfl ?_); refine gl_ (some 18) Try.func31 #[.agg #[.int .i64 a0_0, .slice A0_1 l0_1.length c0_1], .int .i64 a1, .int .i64 a2] ?_; (with_reducible refine (spec_FlowCount.calls k a0_0 _ _ l0_1 a1 a2 t753 _ ?side1 ?side2 A4.out).mono ?_); (case side1 => exact cb HR0_1 HB); (case side2 => exact HC0_1.out); rintro e w10 ⟨rfl, hb⟩; refine ⟨_, rfl, ?_⟩; replace HO752 := am (Kd.R_below (onR HO752) hb); replace BK749 := bb BK749 hb; replace HB := bs HB hb; (try clear hb); (try clear hi)))
  go_ret2
  exact ⟨_, by first | rfl | (simp [errW_none, errW_some] <;> rfl) | (simp [*, errW_none, errW_some] <;> rfl), onR HO752, bn HB⟩
 ·rw [if_neg c5] at H
  have c5b0 := decide_eq_false c5
  clear c5
  replace H := Option.bind_eq_some_iff.mp H
  obtain ⟨⟨t754, t755⟩, A110, H⟩ := H
  (try dsimp only at H)
  have A11 := am A110
  clear A110
  have H' := am H
  clear H
  go_enter Try.func50, Try.ntmps50
  go_wp2_with (first | ((with_reducible refine gate_dst (N := 3) rfl ?_); refine be_ 3 #[.int .i64 a0_0, .slice A0_1 l0_1.length c0_1] 34 ?_; intro gb749 hg w12 hbox hb; have BK749 := am hbox; have GW749 := am (ge_ hg HB); have GE749 := am (ge_ hg HB); replace HB := bs HB hb; clear hb hbox hg) | ((with_reducible refine gate_dst (N := 14) rfl ?_); refine Kd.R_lit k73 _ 73 ?hg (N := 14) ?hd (xs := ([] : List (S73))) (inner := []) (ok := fun _ => True) (okp := fun _ => True) ?hr ?hp (fun _ hk => hk) trivial (Below.refl _ _) (Nat.le_refl _) (by simp) ?_; (case hd => rfl); (case hg => rfl); (case hr => first | (go_simp; done) | (go_simp; rfl)); (case hp => exact (Reps.none _ _)); intro v751 w13 ho14 hb hg_ hnew_; clear hg_ hnew_; (first | rw [← Ny750.out] at ho14 | (simp only [Int.reduceToNat] at ho14; rw [← Ny750.out] at ho14)); have HO752 := am (Kd.R_lower ho14 (below_size (bn HB))); replace BK749 := bb BK749 hb; replace HB := bs HB hb; clear hb ho14; obtain ⟨hcz15_0, hcz15_1, hfz15_0, hfz15_1⟩ := c2 BK749) | ((with_reducible refine gate_callee (f := 31) rfl ?_); refine gl_ (some 18) Try.func31 #[.agg #[.int .i64 a0_0, .slice A0_1 l0_1.length c0_1], .int .i64 a1, .int .i64 a2] ?_; (with_reducible refine (spec_FlowCount.calls k a0_0 _ _ l0_1 a1 a2 t753 _ ?side1 ?side2 A4.out).mono ?_); (case side1 => exact cb HR0_1 HB); (case side2 => exact HC0_1.out); rintro e w16 ⟨rfl, hb⟩; refine ⟨_, rfl, ?_⟩; replace HO752 := am (Kd.R_below (onR HO752) hb); replace BK749 := bb BK749 hb; replace HB := bs HB hb; (try clear hb); obtain ⟨hcz17_0, hcz17_1, hfz17_0, hfz17_1⟩ := c2 BK749) | ((with_reducible refine gate_callee (f := 102) rfl ?_); refine gl_ (some 23) Try.func102 #[.agg #[.int .i64 a0_0, .slice A0_1 l0_1.length c0_1]] ?_; (with_reducible refine (spec_l1Copy.calls a0_0 _ _ l0_1 t754 t755 _ ?side1 ?side2 A11.out).mono ?_); (case side1 => exact cb HR0_1 HB); (case side2 => exact HC0_1.out); rintro e w18 ⟨v756, rfl, ho0, hb⟩; refine ⟨_, rfl, ?_⟩; have HO757 := am (Kd.R_lower (Kd.R_new' ho0 (Kd.R_lt (onR HO752))) (below_size (bn HB))); replace HO752 := am (Kd.R_elder' (onR HO752) (Kd.R_base ho0) hb); replace BK749 := bb BK749 hb; replace HB := bs HB hb; (try clear hb); (try clear ho0)) | ((with_reducible refine gate_dst (N := 10) rfl ?_); refine be_ 10 #[.int .i64 0, .slice none 0 0] 34 ?_; intro gb758 hg w19 hbox hb; replace HO752 := am (Kd.R_below (onR HO752) hb); replace HO757 := am (Kd.R_below (onR HO757) hb); have BK758 := am hbox; have GW758 := am (ge_ hg HB); have GE758 := am (ge_ hg HB); replace HB := bs HB hb; obtain ⟨NB749_758, NB758_749⟩ := nb_ hg BK749; replace BK749 := bb BK749 hb; clear hb hbox hg; obtain ⟨hnb20, hnc20⟩ := n2 NB758_749 NB749_758; obtain ⟨hcz21_0, hcz21_1, hfz21_0, hfz21_1⟩ := c2 BK758; obtain ⟨Ao22, co22, eo22⟩ := Kd.R_slice HO757.out; subst eo22))
  go_loopg [8, 9, 11] k (fun kq v8 v9 v11 w' => ∃ (x8_1 : List (S73)) (x9_1 : Int) (x11_1 : Int) (x759000_1 : Int) (x759001_1 : List (S73)) (u759001 : Value), v9 = .int .i64 x9_1 ∧ v11 = .int .i64 x11_1 ∧ Aside0 (spec_FlowCut.l0 kq a1 a2 x8_1 x9_1 x11_1 a0_0 l0_1 x759000_1 x759001_1 = some (r1, r2)) ∧ Aside0 (kq ≤ k) ∧ Aside0 (Kd.R k73 73 w' w.heap.size (fun k_ => some k_ ≠ (u759001 : Value).ownBlock) v8 x8_1) ∧ Aside0 (Kd.R k73 73 w' w.heap.size (fun k_ => some k_ ≠ (v8 : Value).ownBlock) u759001 x759001_1) ∧ Aside0 (w'.heap[gb749]? = some (.cells #[.int .i64 a0_0, (.slice A0_1 l0_1.length c0_1)] 34 (0, 0))) ∧ Aside0 (w'.heap[gb758]? = some (.cells #[.int .i64 x759000_1, u759001] 34 (0, 0))) ∧ Aside0 (Below w.heap.size w w'))
  case atStart => exact ⟨(y750), (t753), (0), (t754), (t755), (.slice Ao22 t755.length co22), (by first | rfl | (simp; done) | (simp [*]; done)), (by first | rfl | (simp; done) | (simp [*]; done)), H', ⟨Nat.le_refl _⟩, ⟨by (with_reducible repeat (first | apply Kd.R_alloc | apply Kd.R_drewN | apply Kd.R_drew)); exact Kd.R_mono (Kd.R_far (p := ⟨gb758, 1, none⟩) (Kd.R_far (p := ⟨gb758, 0, none⟩) (Kd.R_types HO752.out BK758.out (by decide)) (fun _ hk => hk.2) (.int .i64 t754)) (fun _ hk => hk.2) (.slice Ao22 t755.length co22)) (fun _ hk => hk.1.2)⟩, ⟨by (with_reducible repeat (first | apply Kd.R_alloc | apply Kd.R_drewN | apply Kd.R_drew)); exact Kd.R_mono (Kd.R_far (p := ⟨gb758, 1, none⟩) (Kd.R_far (p := ⟨gb758, 0, none⟩) (Kd.R_types HO757.out BK758.out (by decide)) (fun _ hk => hk.2) (.int .i64 t754)) (fun _ hk => hk.2) (.slice Ao22 t755.length co22)) (fun _ hk => hk.1.2)⟩, ⟨bkn BK749⟩, ⟨by (with_reducible repeat (first | refine blk_drewN ?_ _ | refine blk_drew ?_ | refine blk_alloc ?_ _)); refine blk_put (cs := #[.int .i64 t754, .slice none 0 0]) ?_ 1 _ rfl; (with_reducible repeat (first | refine blk_drewN ?_ _ | refine blk_drew ?_ | refine blk_alloc ?_ _)); refine blk_put (cs := #[.int .i64 0, .slice none 0 0]) ?_ 0 _ rfl; (with_reducible repeat (first | refine blk_drewN ?_ _ | refine blk_drew ?_ | refine blk_alloc ?_ _)); exact BK758.out⟩, ⟨bn HB⟩⟩
  case round =>
   clear H'
   try clear c1
   try clear c2
   try clear p2
   try clear c3
   try clear c5
   try clear c5b0
   try clear c10
   try clear c20
   try clear hcz15_0 hcz15_1 hfz15_0 hfz15_1
   try clear hcz17_0 hcz17_1 hfz17_0 hfz17_1
   try clear hcz21_0 hcz21_1 hfz21_0 hfz21_1
   try clear hcz9_0 hcz9_1 hfz9_0 hfz9_1
   obtain ⟨x8_1, x9_1, x11_1, x759000_1, x759001_1, u759001, rfl, rfl, HA, HK1, HO_8, HO_759001, BK749, BK758, HB⟩ := hrel
   cases gk with
   | zero => exact absurd HA.out (by simp [spec_FlowCut.l0])
   | succ k1 =>
    have H := HA.out
    clear HA
    simp only [spec_FlowCut.l0] at H
    have HC23 := am H
    clear H
    go_upto_region 7 with (fail)
    go_cut [32] (fun v32 wc => ∃ (kq : Nat) (x32_22 : Bool), v32 = .bool x32_22 ∧ Aside0 (spec_FlowCut.j1 kq a1 a2 x8_1 x9_1 x11_1 x32_22 a0_0 l0_1 x759000_1 x759001_1 = some (r1, r2)) ∧ Aside0 (kq ≤ k1) ∧ Aside0 (Kd.R k73 73 wc w.heap.size (fun k_ => some k_ ≠ (u759001 : Value).ownBlock) u8 x8_1) ∧ Aside0 (Kd.R k73 73 wc w.heap.size (fun k_ => some k_ ≠ (u8 : Value).ownBlock) u759001 x759001_1) ∧ Aside0 (wc.heap[gb749]? = some (.cells #[.int .i64 a0_0, (.slice A0_1 l0_1.length c0_1)] 34 (0, 0))) ∧ Aside0 (wc.heap[gb758]? = some (.cells #[.int .i64 x759000_1, u759001] 34 (0, 0))) ∧ Aside0 (Below w.heap.size w wc))
    case first =>
     have H := HC23.out
     clear HC23
     by_cases c24 : x11_1 < (l0_1.length : Int)
     ·rw [if_pos c24] at H
      have c24b0 := decide_eq_true c24
      clear c24
      (first | rw [c24b0] | (simp only [i64_w, i32_w]; rw [c24b0]) | skip)
      have H' := am H
      clear H
      obtain ⟨hnb25, hnc25⟩ := n2 NB749_758 NB758_749
      obtain ⟨hcz26_0, hcz26_1, hfz26_0, hfz26_1⟩ := c2 BK749
      go_wp2
      go_meet
      case rel => exact ⟨_, (decide (x9_1 > 0)), (by first | rfl | (simp; done) | (simp [*]; done)), H', ⟨by have := HK1.out; first | omega | exact Nat.le_refl _⟩, ⟨onR HO_8⟩, ⟨onR HO_759001⟩, ⟨bkn BK749⟩, ⟨bkn BK758⟩, ⟨bn HB⟩⟩
     ·rw [if_neg c24] at H
      have c24b0 := decide_eq_false c24
      clear c24
      (first | rw [c24b0] | (simp only [i64_w, i32_w]; rw [c24b0]) | skip)
      have H' := am H
      clear H
      obtain ⟨hnb27, hnc27⟩ := n2 NB749_758 NB758_749
      obtain ⟨hcz28_0, hcz28_1, hfz28_0, hfz28_1⟩ := c2 BK749
      go_wp2
      go_meet
      case rel => exact ⟨_, (false), (by first | rfl | (simp; done) | (simp [*]; done)), H', ⟨by have := HK1.out; first | omega | exact Nat.le_refl _⟩, ⟨onR HO_8⟩, ⟨onR HO_759001⟩, ⟨bkn BK749⟩, ⟨bkn BK758⟩, ⟨bn HB⟩⟩
    case rest =>
     clear HC23
     try clear c1
     try clear c2
     try clear p2
     try clear c3
     try clear c5
     try clear c5b0
     try clear c10
     try clear c20
     try clear c24
     try clear c24b0
     try clear c25
     try clear c27
     try clear hcz15_0 hcz15_1 hfz15_0 hfz15_1
     try clear hcz17_0 hcz17_1 hfz17_0 hfz17_1
     try clear hcz21_0 hcz21_1 hfz21_0 hfz21_1
     try clear hcz26_0 hcz26_1 hfz26_0 hfz26_1
     try clear hcz28_0 hcz28_1 hfz28_0 hfz28_1
     try clear hcz9_0 hcz9_1 hfz9_0 hfz9_1
     try clear p2
     obtain ⟨kq, x32_22, rfl, HA, HJ22, HO_8, HO_759001, BK749, BK758, HB⟩ := hcut
     cases kq with
     | zero => exact absurd HA.out (by simp [spec_FlowCut.j1])
     | succ kj22 =>
      have H := HA.out
      clear HA
      simp only [spec_FlowCut.j1] at H
      by_cases c29 : x32_22 = true
      ·subst c29
       rw [if_pos rfl] at H
       obtain ⟨c30, H⟩ := ig_ H
       have c30b0 := decide_eq_true c30
       clear c30
       obtain ⟨c31, H⟩ := ig_ H
       have c31b0 := decide_eq_true c31
       clear c31
       replace H := Option.bind_eq_some_iff.mp H
       obtain ⟨⟨t761, t762, t765⟩, A320, H⟩ := H
       (try dsimp only at H)
       have A32 := am A320
       clear A320
       replace H := Option.bind_eq_some_iff.mp H
       obtain ⟨t767, A330, H⟩ := H
       (try dsimp only at H)
       have A33 := am A330
       clear A330
       by_cases c34 : t767 < x9_1
       ·rw [if_pos c34] at H
        have c34b0 := decide_eq_true c34
        clear c34
        obtain ⟨c35, H⟩ := ig_ H
        have LMc35 := am c35
        clear c35
        obtain ⟨y769, hy769⟩ : ∃ y_ : List (S73), y_ = (x8_1 ++ [(⟨(rd_T73 l0_1 x11_1).f0, (rd_T73 l0_1 x11_1).f1⟩ : S73)]) := ⟨_, rfl⟩
        replace H : (spec_FlowCut.l0 kj22 a1 a2 y769 (wrap64 (x9_1 - 1)) (wrap64 (x11_1 + 1)) a0_0 l0_1 t761 t762) = some (r1, r2) := nh_ hy769 H
        have Ny769 := am hy769
        clear hy769
        have H' := am H
        clear H
        obtain ⟨Ao36, co36, eo36⟩ := Kd.R_slice HO_759001.out
        subst eo36
        try go_wp2
        replace HO_8 := am (Kd.R_drew HO_8.out)
        replace HO_759001 := am (Kd.R_drew HO_759001.out)
        replace BK749 := am (blk_drew BK749.out)
        replace BK758 := am (blk_drew BK758.out)
        replace HB := am (below_drew1 HB.out)
        have p759 : 0 ≤ (x11_1 : Int) := oa
        have q759 : x11_1 < (l0_1.length : Int) := oa
        obtain ⟨ad759, e759, hx759_0, hx759_1⟩ := at_T73 HR0_1.out x11_1 p759 q759
        have hw759_1 := hx759_1
        have hw759_0 := hx759_0
        cases e759
        replace hx759_0 := (HB.out.cell (World.block_lt_of_cell? w _ hx759_0)).trans hx759_0
        replace hx759_1 := (HB.out.cell (World.block_lt_of_cell? w _ hx759_1)).trans hx759_1
        replace p759 := eq_true p759
        replace q759 := eq_true q759
        have p760 : 0 ≤ (x11_1 : Int) := oa
        have q760 : x11_1 < (l0_1.length : Int) := oa
        obtain ⟨ad760, e760, hx760_0, hx760_1⟩ := at_T73 HR0_1.out x11_1 p760 q760
        have hw760_1 := hx760_1
        have hw760_0 := hx760_0
        obtain rfl : ad759 = ad760 := (by injection e760)
        replace hx760_0 := (HB.out.cell (World.block_lt_of_cell? w _ hx760_0)).trans hx760_0
        replace hx760_1 := (HB.out.cell (World.block_lt_of_cell? w _ hx760_1)).trans hx760_1
        replace p760 := eq_true p760
        replace q760 := eq_true q760
        refine start_ (n := 20) (S := fun w' => w'.cell? ⟨gb758, 0, none⟩ = some (.int .i64 x759000_1) ∧ w'.cell? ⟨gb758, 1, none⟩ = some (.slice Ao36 x759001_1.length co36) ∧ w'.cell? ⟨gb749, 0, none⟩ = some (.int .i64 a0_0) ∧ w'.cell? ⟨gb749, 1, none⟩ = some (.slice (some ad759) l0_1.length c0_1) ∧ w'.cell? (ad759.add ((x11_1).toNat * 2)) = some (.int .i64 ((rd_T73 l0_1 x11_1).f0)) ∧ w'.cell? ⟨(ad759.add ((x11_1).toNat * 2)).block, (ad759.add ((x11_1).toNat * 2)).off + 1, none⟩ = some (.int .i64 ((rd_T73 l0_1 x11_1).f1)) ∧ w'.cell? (ad759.add ((x11_1).toNat * 2)) = some (.int .i64 ((rd_T73 l0_1 x11_1).f0)) ∧ w'.cell? ⟨(ad759.add ((x11_1).toNat * 2)).block, (ad759.add ((x11_1).toNat * 2)).off + 1, none⟩ = some (.int .i64 ((rd_T73 l0_1 x11_1).f1))) (ds := []) #[false, false, false, false, false, false, false, false, false, false, false, false, false, false, false, false, false, false, false, false] (by kernel_rfl) rfl rfl ⟨(bc BK758 0), (bc BK758 1), (bc BK749 0), (bc BK749 1), ((HB.out.cell (World.block_lt_of_cell? w _ hw759_0)).trans hw759_0), ((HB.out.cell (World.block_lt_of_cell? w _ hw759_1)).trans hw759_1), ((HB.out.cell (World.block_lt_of_cell? w _ hw760_0)).trans hw760_0), ((HB.out.cell (World.block_lt_of_cell? w _ hw760_1)).trans hw760_1)⟩ (fun hHeld => ?_); refine with_tabW spec_FlowCut.tab9 spec_FlowCut.bits9 (fun HT_ HW_ => ?_)
        generalize wc.drew = w37 at HO_8 HO_759001 BK749 BK758 HB hx759_0 hx759_1 hx760_0 hx760_1 hHeld ⊢
        refine pz_ 1 (some 37) HT_ ?_
        refine pz_ 3 (some 39) HT_ ?_
        refine pz_ 7 (some 43) HT_ ?_
        refine pz_ 9 (some 45) HT_ ?_
        refine tz_ 0 (some 36) HT_ HW_ hHeld ?_
        refine tz_ 2 (some 38) HT_ HW_ hHeld ?_
        refine pz_ 4 (some 40) HT_ ?_
        refine pz_ 5 (some 41) HT_ ?_
        refine tz_ 6 (some 42) HT_ HW_ hHeld ?_
        refine tz_ 8 (some 44) HT_ HW_ hHeld ?_
        refine pz_ 10 (some 46) HT_ ?_
        refine pz_ 11 (some 47) HT_ ?_
        refine tz_ 12 (some 48) HT_ HW_ hHeld ?_
        refine join_ (σ := Value × Nat) 2 #[true, true, true, true, true, true, true, true, true, true, true, true, true, true, true, true, true, true, false, false] (fun s_ => [(49, .tuple #[.agg #[.int .i64 t761, s_.1], .bool t765]), (12, .pointer (some ⟨s_.2, 0, none⟩)), (35, .tuple #[.agg #[.int .i64 t761, s_.1], .bool t765]), (50, .agg #[.int .i64 t761, s_.1]), (51, .bool t765)]) (fun s_ w' => (w'.cell? ⟨gb758, 0, none⟩ = some (.int .i64 x759000_1) ∧ w'.cell? ⟨gb758, 1, none⟩ = some (.slice Ao36 x759001_1.length co36) ∧ w'.cell? ⟨gb749, 0, none⟩ = some (.int .i64 a0_0) ∧ w'.cell? ⟨gb749, 1, none⟩ = some (.slice (some ad759) l0_1.length c0_1) ∧ w'.cell? (ad759.add ((x11_1).toNat * 2)) = some (.int .i64 ((rd_T73 l0_1 x11_1).f0)) ∧ w'.cell? ⟨(ad759.add ((x11_1).toNat * 2)).block, (ad759.add ((x11_1).toNat * 2)).off + 1, none⟩ = some (.int .i64 ((rd_T73 l0_1 x11_1).f1)) ∧ w'.cell? (ad759.add ((x11_1).toNat * 2)) = some (.int .i64 ((rd_T73 l0_1 x11_1).f0)) ∧ w'.cell? ⟨(ad759.add ((x11_1).toNat * 2)).block, (ad759.add ((x11_1).toNat * 2)).off + 1, none⟩ = some (.int .i64 ((rd_T73 l0_1 x11_1).f1))) ∧ (Kd.R k73 73 w' w.heap.size (fun k_ => some k_ ≠ (.slice Ao36 x759001_1.length co36 : Value).ownBlock ∧ some k_ ≠ (u8 : Value).ownBlock) s_.1 t762) ∧ (Kd.R k73 73 w' w.heap.size (fun k_ => some k_ ≠ (s_.1 : Value).ownBlock ∧ some k_ ≠ (u8 : Value).ownBlock) (.slice Ao36 x759001_1.length co36) x759001_1) ∧ (Kd.R k73 73 w' w.heap.size (fun k_ => some k_ ≠ (s_.1 : Value).ownBlock ∧ some k_ ≠ (.slice Ao36 x759001_1.length co36 : Value).ownBlock) u8 x8_1) ∧ (w'.heap[gb749]? = some (.cells #[.int .i64 a0_0, .slice (some ad759) l0_1.length c0_1] 34 (0, 0))) ∧ (w'.heap[gb758]? = some (.cells #[.int .i64 x759000_1, .slice Ao36 x759001_1.length co36] 34 (0, 0))) ∧ (w'.heap[s_.2]? = some (.cells #[.int .i64 0, .slice none 0 0] 34 (0, 0))) ∧ (w.heap.size ≤ s_.2) ∧ (w.heap.size ≤ s_.2) ∧ (gb749 ≠ s_.2) ∧ (s_.2 ≠ gb749) ∧ (gb758 ≠ s_.2) ∧ (s_.2 ≠ gb758) ∧ (Below w.heap.size w w')) ?_ ?_
        rotate_left
        ·intro hCont
         refine two_ (i := 13) (j := 17) (Ni := some 49) (Nj := some 12) #[true, true, true, true, true, true, true, true, true, true, true, true, true, true, false, false, false, false, false, false] #[true, true, true, true, true, true, true, true, true, true, true, true, true, false, false, false, false, true, false, false] rfl rfl rfl rfl (two_of HT_.out (by kernel_rfl)) (by decide) (by decide) (fun K hK => ?_) (fun K hK => ?_)
         ·skip
          refine gg_ Try.func103 #[.agg #[.int .i64 x759000_1, .slice Ao36 x759001_1.length co36], .int .i64 ((rd_T73 l0_1 x11_1).f0), .int .i64 ((rd_T73 l0_1 x11_1).f1)] ?_
          with_reducible refine (spec_NetCut.calls kj22 x759000_1 _ _ x759001_1 ((rd_T73 l0_1 x11_1).f0) ((rd_T73 l0_1 x11_1).f1) t761 t762 t765 _ ?side1 ?side2 A32.out).mono ?_
          (case side1 => exact (Kd.R_reads' (onR HO_759001)).2.2)
          (case side2 => exact (Kd.R_reads' HO_759001.out).2.1)
          rintro e w38 ⟨v763, rfl, ho0, hb⟩
          refine ⟨_, rfl, ?_⟩
          have HO764 := am (Kd.R_lower (Kd.R_new' (Kd.R_new' ho0 (Kd.R_lt (onR HO_8))) (Kd.R_lt (onR HO_759001))) (below_size (bn HB)))
          replace HO_8 := am (Kd.R_elder' (onR HO_8) (Kd.R_base ho0) hb)
          replace HO_759001 := am (Kd.R_elder' (onR HO_759001) (Kd.R_base ho0) hb)
          replace BK749 := bb BK749 hb
          replace BK758 := bb BK758 hb
          replace HB := bs HB hb
          (try clear hb)
          (try clear hb2)
          (try clear hk)
          (try clear hi)
          (try clear ho0)
          refine hK.out _ _ ⟨(bc BK758 0), (bc BK758 1), (bc BK749 0), (bc BK749 1), ((HB.out.cell (World.block_lt_of_cell? w _ hw759_0)).trans hw759_0), ((HB.out.cell (World.block_lt_of_cell? w _ hw759_1)).trans hw759_1), ((HB.out.cell (World.block_lt_of_cell? w _ hw760_0)).trans hw760_0), ((HB.out.cell (World.block_lt_of_cell? w _ hw760_1)).trans hw760_1)⟩ (fun hHeld => ?_)
          clear hK K
          refine nz_ 49 ?_
          refine pz_ 14 (some 35) HT_ ?_
          refine pz_ 15 (some 50) HT_ ?_
          refine pz_ 16 (some 51) HT_ ?_
          refine one_ (i := 17) (N := some 12) #[true, true, true, true, true, true, true, true, true, true, true, true, true, true, true, true, true, true, false, false] rfl rfl (one_of HT_.out (by kernel_rfl)) (by decide) (fun K hK => ?_)
          refine box_step ?hg (N := 12) ?hd (cs := #[.int .i64 0, .slice none 0 0]) (t := 34) ?hr ?_; (case hd => rfl); (case hg => rfl); (case hr => first | (go_simp; done) | (go_simp; rfl))
          intro gb766 hg w39 hbox hb
          have n0_ := am (Kd.R_below (onR HO_8) hb)
          have n1_ := am (Kd.R_below (onR HO_759001) hb)
          have n2_ := am (Kd.R_below (onR HO764) hb)
          have n3_ := bb BK749 hb
          have n4_ := bb BK758 hb
          have n5_ := bs HB hb
          have n6_ := am hbox
          have n7_ := am (ge_ hg HB)
          have n8_ := am (ge_ hg HB)
          have n9_ := am ((by rw [hg]; exact Nat.ne_of_lt (blk_lt (bkn BK749)) : gb749 ≠ gb766))
          have n10_ := am ((by rw [hg]; exact Nat.ne_of_gt (blk_lt (bkn BK749)) : gb766 ≠ gb749))
          have n11_ := am ((by rw [hg]; exact Nat.ne_of_lt (blk_lt (bkn BK758)) : gb758 ≠ gb766))
          have n12_ := am ((by rw [hg]; exact Nat.ne_of_gt (blk_lt (bkn BK758)) : gb766 ≠ gb758))
          clear HO_8 HO_759001 HO764 BK749 BK758 HB
          have HO_8 := n0_
          have HO_759001 := n1_
          have HO764 := n2_
          have BK749 := n3_
          have BK758 := n4_
          have HB := n5_
          have BK766 := n6_
          have GW766 := n7_
          have GE766 := n8_
          have NB749_766 := n9_
          have NB766_749 := n10_
          have NB758_766 := n11_
          have NB766_758 := n12_
          clear n0_ n1_ n2_ n3_ n4_ n5_ n6_ n7_ n8_ n9_ n10_ n11_ n12_ hb hbox hg
          refine hK.out _ _ ⟨(bc BK758 0), (bc BK758 1), (bc BK749 0), (bc BK749 1), ((HB.out.cell (World.block_lt_of_cell? w _ hw759_0)).trans hw759_0), ((HB.out.cell (World.block_lt_of_cell? w _ hw759_1)).trans hw759_1), ((HB.out.cell (World.block_lt_of_cell? w _ hw760_0)).trans hw760_0), ((HB.out.cell (World.block_lt_of_cell? w _ hw760_1)).trans hw760_1)⟩ (fun hHeld => ?_)
          clear hK K
          refine nz_ 12 ?_
          exact norm_ (by simp only [putAll, Act.put, List.setIfInBounds_toArray, List.set_cons_zero, List.set_cons_succ]) (hCont (v763, gb766) _ ⟨hHeld, (by (with_reducible repeat (first | apply Kd.R_alloc | apply Kd.R_drewN | apply Kd.R_drew)); exact Kd.R_mono HO764.out (fun _ hk => ⟨hk.2, hk.1.2⟩)), (by (with_reducible repeat (first | apply Kd.R_alloc | apply Kd.R_drewN | apply Kd.R_drew)); exact Kd.R_mono HO_759001.out (fun _ hk => ⟨hk.2, hk.1⟩)), (by (with_reducible repeat (first | apply Kd.R_alloc | apply Kd.R_drewN | apply Kd.R_drew)); exact Kd.R_mono HO_8.out (fun _ hk => ⟨hk.2, hk.1⟩)), (bkn BK749), (bkn BK758), (bkn BK766), GW766.out, GE766.out, NB749_766.out, NB766_749.out, NB758_766.out, NB766_758.out, (bn HB)⟩)
         ·skip
          refine box_step ?hg (N := 12) ?hd (cs := #[.int .i64 0, .slice none 0 0]) (t := 34) ?hr ?_; (case hd => rfl); (case hg => rfl); (case hr => first | (go_simp; done) | (go_simp; rfl))
          intro gb766 hg w38 hbox hb
          have n0_ := am (Kd.R_below (onR HO_8) hb)
          have n1_ := am (Kd.R_below (onR HO_759001) hb)
          have n2_ := bb BK749 hb
          have n3_ := bb BK758 hb
          have n4_ := bs HB hb
          have n5_ := am hbox
          have n6_ := am (ge_ hg HB)
          have n7_ := am (ge_ hg HB)
          have n8_ := am ((by rw [hg]; exact Nat.ne_of_lt (blk_lt (bkn BK749)) : gb749 ≠ gb766))
          have n9_ := am ((by rw [hg]; exact Nat.ne_of_gt (blk_lt (bkn BK749)) : gb766 ≠ gb749))
          have n10_ := am ((by rw [hg]; exact Nat.ne_of_lt (blk_lt (bkn BK758)) : gb758 ≠ gb766))
          have n11_ := am ((by rw [hg]; exact Nat.ne_of_gt (blk_lt (bkn BK758)) : gb766 ≠ gb758))
          clear HO_8 HO_759001 BK749 BK758 HB
          have HO_8 := n0_
          have HO_759001 := n1_
          have BK749 := n2_
          have BK758 := n3_
          have HB := n4_
          have BK766 := n5_
          have GW766 := n6_
          have GE766 := n7_
          have NB749_766 := n8_
          have NB766_749 := n9_
          have NB758_766 := n10_
          have NB766_758 := n11_
          clear n0_ n1_ n2_ n3_ n4_ n5_ n6_ n7_ n8_ n9_ n10_ n11_ hb hbox hg
          refine hK.out _ _ ⟨(bc BK758 0), (bc BK758 1), (bc BK749 0), (bc BK749 1), ((HB.out.cell (World.block_lt_of_cell? w _ hw759_0)).trans hw759_0), ((HB.out.cell (World.block_lt_of_cell? w _ hw759_1)).trans hw759_1), ((HB.out.cell (World.block_lt_of_cell? w _ hw760_0)).trans hw760_0), ((HB.out.cell (World.block_lt_of_cell? w _ hw760_1)).trans hw760_1)⟩ (fun hHeld => ?_)
          clear hK K
          refine nz_ 12 ?_
          refine one_ (i := 13) (N := some 49) #[true, true, true, true, true, true, true, true, true, true, true, true, true, true, false, false, false, true, false, false] rfl rfl (one_of HT_.out (by kernel_rfl)) (by decide) (fun K hK => ?_)
          refine gg_ Try.func103 #[.agg #[.int .i64 x759000_1, .slice Ao36 x759001_1.length co36], .int .i64 ((rd_T73 l0_1 x11_1).f0), .int .i64 ((rd_T73 l0_1 x11_1).f1)] ?_
          with_reducible refine (spec_NetCut.calls kj22 x759000_1 _ _ x759001_1 ((rd_T73 l0_1 x11_1).f0) ((rd_T73 l0_1 x11_1).f1) t761 t762 t765 _ ?side1 ?side2 A32.out).mono ?_
          (case side1 => exact (Kd.R_reads' (onR HO_759001)).2.2)
          (case side2 => exact (Kd.R_reads' HO_759001.out).2.1)
          rintro e w39 ⟨v763, rfl, ho0, hb⟩
          refine ⟨_, rfl, ?_⟩
          have HO764 := am (Kd.R_lower (Kd.R_new' (Kd.R_new' ho0 (Kd.R_lt (onR HO_8))) (Kd.R_lt (onR HO_759001))) (below_size (bn HB)))
          replace HO_8 := am (Kd.R_elder' (onR HO_8) (Kd.R_base ho0) hb)
          replace HO_759001 := am (Kd.R_elder' (onR HO_759001) (Kd.R_base ho0) hb)
          replace BK749 := bb BK749 hb
          replace BK758 := bb BK758 hb
          replace BK766 := bb BK766 hb
          replace HB := bs HB hb
          (try clear hb)
          (try clear hb2)
          (try clear hk)
          (try clear hi)
          (try clear ho0)
          refine hK.out _ _ ⟨(bc BK758 0), (bc BK758 1), (bc BK749 0), (bc BK749 1), ((HB.out.cell (World.block_lt_of_cell? w _ hw759_0)).trans hw759_0), ((HB.out.cell (World.block_lt_of_cell? w _ hw759_1)).trans hw759_1), ((HB.out.cell (World.block_lt_of_cell? w _ hw760_0)).trans hw760_0), ((HB.out.cell (World.block_lt_of_cell? w _ hw760_1)).trans hw760_1)⟩ (fun hHeld => ?_)
          clear hK K
          refine nz_ 49 ?_
          refine pz_ 14 (some 35) HT_ ?_
          refine pz_ 15 (some 50) HT_ ?_
          refine pz_ 16 (some 51) HT_ ?_
          exact norm_ (by simp only [putAll, Act.put, List.setIfInBounds_toArray, List.set_cons_zero, List.set_cons_succ]) (hCont (v763, gb766) _ ⟨hHeld, (by (with_reducible repeat (first | apply Kd.R_alloc | apply Kd.R_drewN | apply Kd.R_drew)); exact Kd.R_mono HO764.out (fun _ hk => ⟨hk.2, hk.1.2⟩)), (by (with_reducible repeat (first | apply Kd.R_alloc | apply Kd.R_drewN | apply Kd.R_drew)); exact Kd.R_mono HO_759001.out (fun _ hk => ⟨hk.2, hk.1⟩)), (by (with_reducible repeat (first | apply Kd.R_alloc | apply Kd.R_drewN | apply Kd.R_drew)); exact Kd.R_mono HO_8.out (fun _ hk => ⟨hk.2, hk.1⟩)), (bkn BK749), (bkn BK758), (bkn BK766), GW766.out, GE766.out, NB749_766.out, NB766_749.out, NB758_766.out, NB766_758.out, (bn HB)⟩)
        rintro ⟨v763, gb766⟩ w40 ⟨hS_, h0_, h1_, h2_, h3_, h4_, h5_, h6_, h7_, h8_, h9_, h10_, h11_, h12_⟩
        have n0_ : Aside0 (Kd.R k73 73 w40 w.heap.size (fun k_ => some k_ ≠ (.slice Ao36 x759001_1.length co36 : Value).ownBlock ∧ some k_ ≠ (u8 : Value).ownBlock) v763 t762) := ⟨h0_⟩
        have n1_ : Aside0 (Kd.R k73 73 w40 w.heap.size (fun k_ => some k_ ≠ (v763 : Value).ownBlock ∧ some k_ ≠ (u8 : Value).ownBlock) (.slice Ao36 x759001_1.length co36) x759001_1) := ⟨h1_⟩
        have n2_ : Aside0 (Kd.R k73 73 w40 w.heap.size (fun k_ => some k_ ≠ (v763 : Value).ownBlock ∧ some k_ ≠ (.slice Ao36 x759001_1.length co36 : Value).ownBlock) u8 x8_1) := ⟨h2_⟩
        have n3_ : Aside0 (w40.heap[gb749]? = some (.cells #[.int .i64 a0_0, .slice (some ad759) l0_1.length c0_1] 34 (0, 0))) := ⟨h3_⟩
        have n4_ : Aside0 (w40.heap[gb758]? = some (.cells #[.int .i64 x759000_1, .slice Ao36 x759001_1.length co36] 34 (0, 0))) := ⟨h4_⟩
        have n5_ : Aside0 (w40.heap[gb766]? = some (.cells #[.int .i64 0, .slice none 0 0] 34 (0, 0))) := ⟨h5_⟩
        have n6_ : Aside0 (w.heap.size ≤ gb766) := ⟨h6_⟩
        have n7_ : Aside0 (w.heap.size ≤ gb766) := ⟨h7_⟩
        have n8_ : Aside0 (gb749 ≠ gb766) := ⟨h8_⟩
        have n9_ : Aside0 (gb766 ≠ gb749) := ⟨h9_⟩
        have n10_ : Aside0 (gb758 ≠ gb766) := ⟨h10_⟩
        have n11_ : Aside0 (gb766 ≠ gb758) := ⟨h11_⟩
        have n12_ : Aside0 (Below w.heap.size w w40) := ⟨h12_⟩
        clear HO_8 HO_759001 BK749 BK758 HB h0_ h1_ h2_ h3_ h4_ h5_ h6_ h7_ h8_ h9_ h10_ h11_ h12_
        have HO764 := n0_
        have HO_759001 := n1_
        have HO_8 := n2_
        have BK749 := n3_
        have BK758 := n4_
        have BK766 := n5_
        have GW766 := n6_
        have GE766 := n7_
        have NB749_766 := n8_
        have NB766_749 := n9_
        have NB758_766 := n10_
        have NB766_758 := n11_
        have HB := n12_
        clear n0_ n1_ n2_ n3_ n4_ n5_ n6_ n7_ n8_ n9_ n10_ n11_ n12_
        have hHeld : w40.cell? ⟨gb758, 0, none⟩ = some (.int .i64 x759000_1) ∧ w40.cell? ⟨gb758, 1, none⟩ = some (.slice Ao36 x759001_1.length co36) ∧ w40.cell? ⟨gb749, 0, none⟩ = some (.int .i64 a0_0) ∧ w40.cell? ⟨gb749, 1, none⟩ = some (.slice (some ad759) l0_1.length c0_1) ∧ w40.cell? (ad759.add ((x11_1).toNat * 2)) = some (.int .i64 ((rd_T73 l0_1 x11_1).f0)) ∧ w40.cell? ⟨(ad759.add ((x11_1).toNat * 2)).block, (ad759.add ((x11_1).toNat * 2)).off + 1, none⟩ = some (.int .i64 ((rd_T73 l0_1 x11_1).f1)) ∧ w40.cell? (ad759.add ((x11_1).toNat * 2)) = some (.int .i64 ((rd_T73 l0_1 x11_1).f0)) ∧ w40.cell? ⟨(ad759.add ((x11_1).toNat * 2)).block, (ad759.add ((x11_1).toNat * 2)).off + 1, none⟩ = some (.int .i64 ((rd_T73 l0_1 x11_1).f1)) := hS_
        obtain ⟨Ao42, co42, eo42⟩ := Kd.R_slice HO764.out
        (first | subst eo42 | (injection eo42 with f1_ f2_ f3_; have f4_ := f1_.symm; have f5_ := f3_.symm; clear f1_ f2_ f3_; subst f4_; subst f5_))
        refine norm_ (a' := ?_) ?_ ?_
        rotate_left
        ·simp only [putAll, Act.put, List.setIfInBounds_toArray, List.set_cons_zero, List.set_cons_succ]
         rfl
        refine one_ (i := 18) (N := none) #[true, true, true, true, true, true, true, true, true, true, true, true, true, true, true, true, true, true, true, false] rfl rfl (one_of HT_.out (by kernel_rfl)) (by decide) (fun K hK => ?_)
        have hs41 := bc BK766 0
        have hfs41 := blk_frozen BK766.out 0
        have hns41_0 := NB749_766.out
        have hns41_1 := NB758_766.out
        have hms41_0 := NB766_749.out
        have hms41_1 := NB766_758.out
        have hs43 := bc BK766 1
        have hfs43 := blk_frozen BK766.out 1
        have hns43_0 := NB749_766.out
        have hns43_1 := NB758_766.out
        have hms43_0 := NB766_749.out
        have hms43_1 := NB766_758.out
        refine skip_ (w1 := ?_) (by rfl) rfl ?_ ?_
        rotate_left
        ·go_simp
         rfl
        refine hK.out _ _ ⟨((cell_far (p := ⟨gb766, _, none⟩) NB758_766.out _).trans (((cell_far (p := ⟨gb766, _, none⟩) NB758_766.out _).trans (hHeld.1)))), ((cell_far (p := ⟨gb766, _, none⟩) NB758_766.out _).trans (((cell_far (p := ⟨gb766, _, none⟩) NB758_766.out _).trans (hHeld.2.1)))), ((cell_far (p := ⟨gb766, _, none⟩) NB749_766.out _).trans (((cell_far (p := ⟨gb766, _, none⟩) NB749_766.out _).trans (hHeld.2.2.1)))), ((cell_far (p := ⟨gb766, _, none⟩) NB749_766.out _).trans (((cell_far (p := ⟨gb766, _, none⟩) NB749_766.out _).trans (hHeld.2.2.2.1)))), ((cell_far (p := ⟨gb766, _, none⟩) (by first | exact Nat.ne_of_lt (Nat.lt_of_lt_of_le (by have := World.block_lt_of_cell? _ _ hw759_0; first | rwa [add_block] at this | exact this) GW766.out) | (rw [add_block]; exact Nat.ne_of_lt (Nat.lt_of_lt_of_le (by have := World.block_lt_of_cell? _ _ hw759_0; first | rwa [add_block] at this | exact this) GW766.out)) | (show (Addr.add _ _).block ≠ _; rw [add_block]; exact Nat.ne_of_lt (Nat.lt_of_lt_of_le (by have := World.block_lt_of_cell? _ _ hw759_0; first | rwa [add_block] at this | exact this) GW766.out)) | (dsimp only; exact Nat.ne_of_lt (Nat.lt_of_lt_of_le (by have := World.block_lt_of_cell? _ _ hw759_0; first | rwa [add_block] at this | exact this) GW766.out))) _).trans (((cell_far (p := ⟨gb766, _, none⟩) (by first | exact Nat.ne_of_lt (Nat.lt_of_lt_of_le (by have := World.block_lt_of_cell? _ _ hw759_0; first | rwa [add_block] at this | exact this) GW766.out) | (rw [add_block]; exact Nat.ne_of_lt (Nat.lt_of_lt_of_le (by have := World.block_lt_of_cell? _ _ hw759_0; first | rwa [add_block] at this | exact this) GW766.out)) | (show (Addr.add _ _).block ≠ _; rw [add_block]; exact Nat.ne_of_lt (Nat.lt_of_lt_of_le (by have := World.block_lt_of_cell? _ _ hw759_0; first | rwa [add_block] at this | exact this) GW766.out)) | (dsimp only; exact Nat.ne_of_lt (Nat.lt_of_lt_of_le (by have := World.block_lt_of_cell? _ _ hw759_0; first | rwa [add_block] at this | exact this) GW766.out))) _).trans (hHeld.2.2.2.2.1)))), ((cell_far (p := ⟨gb766, _, none⟩) (by first | exact Nat.ne_of_lt (Nat.lt_of_lt_of_le (by have := World.block_lt_of_cell? _ _ hw759_1; first | rwa [add_block] at this | exact this) GW766.out) | (rw [add_block]; exact Nat.ne_of_lt (Nat.lt_of_lt_of_le (by have := World.block_lt_of_cell? _ _ hw759_1; first | rwa [add_block] at this | exact this) GW766.out)) | (show (Addr.add _ _).block ≠ _; rw [add_block]; exact Nat.ne_of_lt (Nat.lt_of_lt_of_le (by have := World.block_lt_of_cell? _ _ hw759_1; first | rwa [add_block] at this | exact this) GW766.out)) | (dsimp only; exact Nat.ne_of_lt (Nat.lt_of_lt_of_le (by have := World.block_lt_of_cell? _ _ hw759_1; first | rwa [add_block] at this | exact this) GW766.out))) _).trans (((cell_far (p := ⟨gb766, _, none⟩) (by first | exact Nat.ne_of_lt (Nat.lt_of_lt_of_le (by have := World.block_lt_of_cell? _ _ hw759_1; first | rwa [add_block] at this | exact this) GW766.out) | (rw [add_block]; exact Nat.ne_of_lt (Nat.lt_of_lt_of_le (by have := World.block_lt_of_cell? _ _ hw759_1; first | rwa [add_block] at this | exact this) GW766.out)) | (show (Addr.add _ _).block ≠ _; rw [add_block]; exact Nat.ne_of_lt (Nat.lt_of_lt_of_le (by have := World.block_lt_of_cell? _ _ hw759_1; first | rwa [add_block] at this | exact this) GW766.out)) | (dsimp only; exact Nat.ne_of_lt (Nat.lt_of_lt_of_le (by have := World.block_lt_of_cell? _ _ hw759_1; first | rwa [add_block] at this | exact this) GW766.out))) _).trans (hHeld.2.2.2.2.2.1)))), ((cell_far (p := ⟨gb766, _, none⟩) (by first | exact Nat.ne_of_lt (Nat.lt_of_lt_of_le (by have := World.block_lt_of_cell? _ _ hw760_0; first | rwa [add_block] at this | exact this) GW766.out) | (rw [add_block]; exact Nat.ne_of_lt (Nat.lt_of_lt_of_le (by have := World.block_lt_of_cell? _ _ hw760_0; first | rwa [add_block] at this | exact this) GW766.out)) | (show (Addr.add _ _).block ≠ _; rw [add_block]; exact Nat.ne_of_lt (Nat.lt_of_lt_of_le (by have := World.block_lt_of_cell? _ _ hw760_0; first | rwa [add_block] at this | exact this) GW766.out)) | (dsimp only; exact Nat.ne_of_lt (Nat.lt_of_lt_of_le (by have := World.block_lt_of_cell? _ _ hw760_0; first | rwa [add_block] at this | exact this) GW766.out))) _).trans (((cell_far (p := ⟨gb766, _, none⟩) (by first | exact Nat.ne_of_lt (Nat.lt_of_lt_of_le (by have := World.block_lt_of_cell? _ _ hw760_0; first | rwa [add_block] at this | exact this) GW766.out) | (rw [add_block]; exact Nat.ne_of_lt (Nat.lt_of_lt_of_le (by have := World.block_lt_of_cell? _ _ hw760_0; first | rwa [add_block] at this | exact this) GW766.out)) | (show (Addr.add _ _).block ≠ _; rw [add_block]; exact Nat.ne_of_lt (Nat.lt_of_lt_of_le (by have := World.block_lt_of_cell? _ _ hw760_0; first | rwa [add_block] at this | exact this) GW766.out)) | (dsimp only; exact Nat.ne_of_lt (Nat.lt_of_lt_of_le (by have := World.block_lt_of_cell? _ _ hw760_0; first | rwa [add_block] at this | exact this) GW766.out))) _).trans (hHeld.2.2.2.2.2.2.1)))), ((cell_far (p := ⟨gb766, _, none⟩) (by first | exact Nat.ne_of_lt (Nat.lt_of_lt_of_le (by have := World.block_lt_of_cell? _ _ hw760_1; first | rwa [add_block] at this | exact this) GW766.out) | (rw [add_block]; exact Nat.ne_of_lt (Nat.lt_of_lt_of_le (by have := World.block_lt_of_cell? _ _ hw760_1; first | rwa [add_block] at this | exact this) GW766.out)) | (show (Addr.add _ _).block ≠ _; rw [add_block]; exact Nat.ne_of_lt (Nat.lt_of_lt_of_le (by have := World.block_lt_of_cell? _ _ hw760_1; first | rwa [add_block] at this | exact this) GW766.out)) | (dsimp only; exact Nat.ne_of_lt (Nat.lt_of_lt_of_le (by have := World.block_lt_of_cell? _ _ hw760_1; first | rwa [add_block] at this | exact this) GW766.out))) _).trans (((cell_far (p := ⟨gb766, _, none⟩) (by first | exact Nat.ne_of_lt (Nat.lt_of_lt_of_le (by have := World.block_lt_of_cell? _ _ hw760_1; first | rwa [add_block] at this | exact this) GW766.out) | (rw [add_block]; exact Nat.ne_of_lt (Nat.lt_of_lt_of_le (by have := World.block_lt_of_cell? _ _ hw760_1; first | rwa [add_block] at this | exact this) GW766.out)) | (show (Addr.add _ _).block ≠ _; rw [add_block]; exact Nat.ne_of_lt (Nat.lt_of_lt_of_le (by have := World.block_lt_of_cell? _ _ hw760_1; first | rwa [add_block] at this | exact this) GW766.out)) | (dsimp only; exact Nat.ne_of_lt (Nat.lt_of_lt_of_le (by have := World.block_lt_of_cell? _ _ hw760_1; first | rwa [add_block] at this | exact this) GW766.out))) _).trans (hHeld.2.2.2.2.2.2.2))))⟩ (fun hHeld => ?_)
        clear hK K
        refine pz_ 19 (some 13) HT_ ?_
        refine done_ (done_of HT_.out (by kernel_rfl)) ?_
        obtain ⟨hnb44, hnc44⟩ := n2 NB766_749 NB749_766
        obtain ⟨hnb45, hnc45⟩ := n2 NB766_758 NB758_766
        obtain ⟨hcz46_0, hcz46_1, hfz46_0, hfz46_1⟩ := c2 BK766
        try go_wp2_with (first | ((with_reducible refine gate_callee (f := 31) rfl ?_); refine gl_ (some 55) Try.func31 #[.agg #[.int .i64 t761, .slice Ao42 t762.length co42], .int .i64 a1, .int .i64 a2] ?_; (with_reducible refine (spec_FlowCount.calls kj22 t761 _ _ t762 a1 a2 t767 _ ?side1 ?side2 A33.out).mono ?_); (case side1 => refine (Kd.R_reads' (e := 73) (base := w.heap.size) (ok := fun k_ => (some k_ ≠ (.slice Ao36 x759001_1.length co36 : Value).ownBlock ∧ some k_ ≠ (u8 : Value).ownBlock)) (n := t762.length) (c := co42) ?_).2.2; exact (by (with_reducible repeat (first | apply Kd.R_alloc | apply Kd.R_drewN | apply Kd.R_drew)); exact (Kd.R_mono (Kd.R_far (p := ⟨gb766, 1, none⟩) (Kd.R_far (p := ⟨gb766, 0, none⟩) (Kd.R_types HO764.out BK766.out (by decide)) (fun _ hk => hk.2) (.int .i64 t761)) (fun _ hk => hk.2) (.slice Ao42 t762.length co42)) (fun _ h_ => h_.1)))); (case side2 => exact (Kd.R_reads' HO764.out).2.1); rintro e w47 ⟨rfl, hb⟩; refine ⟨_, rfl, ?_⟩; replace HO_8 := am (Kd.R_below (by (with_reducible repeat (first | apply Kd.R_alloc | apply Kd.R_drewN | apply Kd.R_drew)); exact (Kd.R_mono (Kd.R_far (p := ⟨gb766, 1, none⟩) (Kd.R_far (p := ⟨gb766, 0, none⟩) (Kd.R_types HO_8.out BK766.out (by decide)) (fun _ hk => hk.2) (.int .i64 t761)) (fun _ hk => hk.2) (.slice Ao42 t762.length co42)) (fun _ h_ => h_.1))) hb); replace HO_759001 := am (Kd.R_below (by (with_reducible repeat (first | apply Kd.R_alloc | apply Kd.R_drewN | apply Kd.R_drew)); exact (Kd.R_mono (Kd.R_far (p := ⟨gb766, 1, none⟩) (Kd.R_far (p := ⟨gb766, 0, none⟩) (Kd.R_types HO_759001.out BK766.out (by decide)) (fun _ hk => hk.2) (.int .i64 t761)) (fun _ hk => hk.2) (.slice Ao42 t762.length co42)) (fun _ h_ => h_.1))) hb); replace HO764 := am (Kd.R_below (by (with_reducible repeat (first | apply Kd.R_alloc | apply Kd.R_drewN | apply Kd.R_drew)); exact (Kd.R_mono (Kd.R_far (p := ⟨gb766, 1, none⟩) (Kd.R_far (p := ⟨gb766, 0, none⟩) (Kd.R_types HO764.out BK766.out (by decide)) (fun _ hk => hk.2) (.int .i64 t761)) (fun _ hk => hk.2) (.slice Ao42 t762.length co42)) (fun _ h_ => h_.1))) hb); replace BK749 := bb BK749 hb; replace BK758 := bb BK758 hb; replace BK766 := am (blk_below (g := gb766) (o := .cells #[.int .i64 t761, .slice Ao42 t762.length co42] 34 (0, 0)) (by (with_reducible repeat (first | refine blk_drewN ?_ _ | refine blk_drew ?_ | refine blk_alloc ?_ _)); refine blk_put (cs := #[.int .i64 t761, .slice none 0 0]) ?_ 1 _ rfl; (with_reducible repeat (first | refine blk_drewN ?_ _ | refine blk_drew ?_ | refine blk_alloc ?_ _)); refine blk_put (cs := #[.int .i64 0, .slice none 0 0]) ?_ 0 _ rfl; (with_reducible repeat (first | refine blk_drewN ?_ _ | refine blk_drew ?_ | refine blk_alloc ?_ _)); exact BK766.out) hb); replace HB := bs HB hb; (try clear hb); obtain ⟨hcz48_0, hcz48_1, hfz48_0, hfz48_1⟩ := c2 BK766; obtain ⟨hnb49, hnc49⟩ := n2 NB758_749 NB749_758; obtain ⟨hcz50_0, hcz50_1, hfz50_0, hfz50_1⟩ := c2 BK758; obtain ⟨hcz51_0, hcz51_1, hfz51_0, hfz51_1⟩ := c2 BK749; have p768 : 0 ≤ (x11_1 : Int) := oa; have q768 : x11_1 < (l0_1.length : Int) := oa; obtain ⟨ad768, e768, hx768_0, hx768_1⟩ := at_T73 HR0_1.out x11_1 p768 q768; obtain rfl : ad759 = ad768 := (by injection e768); have hn768_0 : ad759.block ≠ gb758 := Nat.ne_of_lt (Nat.lt_of_lt_of_le (by have := World.block_lt_of_cell? _ _ hx768_0; first | rwa [add_block] at this | exact this) GW758.out); have hn768_1 : ad759.block ≠ gb758 := Nat.ne_of_lt (Nat.lt_of_lt_of_le (by have := World.block_lt_of_cell? _ _ hx768_0; first | rwa [add_block] at this | exact this) GW758.out); replace hx768_0 := (HB.out.cell (World.block_lt_of_cell? w _ hx768_0)).trans hx768_0; replace hx768_1 := (HB.out.cell (World.block_lt_of_cell? w _ hx768_1)).trans hx768_1; replace hx768_0 := (cell_far (p := ⟨gb758, 0, none⟩) (by first | (rw [add_block]; exact hn768_0) | (show (Addr.add _ _).block ≠ _; rw [add_block]; exact hn768_0) | exact hn768_0) (.int .i64 t761)).trans hx768_0; replace hx768_1 := (cell_far (p := ⟨gb758, 0, none⟩) (by first | (rw [add_block]; exact hn768_0) | (show (Addr.add _ _).block ≠ _; rw [add_block]; exact hn768_0) | exact hn768_0) (.int .i64 t761)).trans hx768_1; replace hx768_0 := (cell_far (p := ⟨gb758, 1, none⟩) (by first | (rw [add_block]; exact hn768_1) | (show (Addr.add _ _).block ≠ _; rw [add_block]; exact hn768_1) | exact hn768_1) (.slice Ao42 t762.length co42)).trans hx768_0; replace hx768_1 := (cell_far (p := ⟨gb758, 1, none⟩) (by first | (rw [add_block]; exact hn768_1) | (show (Addr.add _ _).block ≠ _; rw [add_block]; exact hn768_1) | exact hn768_1) (.slice Ao42 t762.length co42)).trans hx768_1; clear hn768_0; clear hn768_1; replace p768 := eq_true p768; replace q768 := eq_true q768) | ((with_reducible refine gate_builtin (b := .append) (xs := #[.tmp 61, .tmp 67]) rfl ?_); at_builtin; refine Kd.R_append k73 (w0 := w) w.heap.size rfl (.tmp 61) (.tmp 67) 32 73 (.agg #[(.int .i64 0), (.int .i64 0)]) 16 rfl Try.underlying32 info73 rfl (by decide) (by omega) u8 x8_1 (⟨(rd_T73 l0_1 x11_1).f0, (rd_T73 l0_1 x11_1).f1⟩ : S73) [.int .i64 ((rd_T73 l0_1 x11_1).f0), .int .i64 ((rd_T73 l0_1 x11_1).f1)] (fun k_ => some k_ ≠ (.slice Ao36 x759001_1.length co36 : Value).ownBlock ∧ some k_ ≠ (.slice Ao42 t762.length co42 : Value).ownBlock) (fun _ => False) rfl (by first | (go_simp; done) | (go_simp; rfl)) ?aP (fun _ hk => hk.elim) ?aF ?aO ?aB ?aS ?aL ?_; (case aP => exact k73_mkM _ _ _ (⟨(rd_T73 l0_1 x11_1).f0, (rd_T73 l0_1 x11_1).f1⟩ : S73)); (case aB => exact (bn HB)); (case aF => exact (fun k_ hk => ⟨Kd.fresh' (Kd.R_lt (by (with_reducible repeat (first | apply Kd.R_alloc | apply Kd.R_drewN | apply Kd.R_drew)); exact (Kd.R_mono (Kd.R_far (p := ⟨gb758, 1, none⟩) (Kd.R_far (p := ⟨gb758, 0, none⟩) (Kd.R_types HO_759001.out BK758.out (by decide)) (fun _ hk => hk.2) (.int .i64 t761)) (fun _ hk => hk.2) (.slice Ao42 t762.length co42)) (fun _ h_ => h_.1)))) k_ hk, Kd.fresh' (Kd.R_lt (by (with_reducible repeat (first | apply Kd.R_alloc | apply Kd.R_drewN | apply Kd.R_drew)); exact (Kd.R_mono (Kd.R_far (p := ⟨gb758, 1, none⟩) (Kd.R_far (p := ⟨gb758, 0, none⟩) (Kd.R_types HO764.out BK758.out (by decide)) (fun _ hk => hk.2) (.int .i64 t761)) (fun _ hk => hk.2) (.slice Ao42 t762.length co42)) (fun _ h_ => h_.1)))) k_ hk⟩)); (case aO => exact (by (with_reducible repeat (first | apply Kd.R_alloc | apply Kd.R_drewN | apply Kd.R_drew)); exact Kd.R_mono (Kd.R_far (p := ⟨gb758, 1, none⟩) (Kd.R_far (p := ⟨gb758, 0, none⟩) (Kd.R_types HO_8.out BK758.out (by decide)) (fun _ hk => hk.2) (.int .i64 t761)) (fun _ hk => hk.2) (.slice Ao42 t762.length co42)) (fun _ hk => ⟨hk.1.2, hk.1.1⟩))); (case aS => exact (below_size (bn HB))); (case aL => have := LMc35.out; omega); intro v770 w52 ho hb hg hat; rw [← Ny769.out] at ho; replace HO_759001 := am (Kd.R_after (ok := (fun k_ => some k_ ≠ (.slice Ao42 t762.length co42 : Value).ownBlock)) (by (with_reducible repeat (first | apply Kd.R_alloc | apply Kd.R_drewN | apply Kd.R_drew)); exact Kd.R_mono (Kd.R_far (p := ⟨gb758, 1, none⟩) (Kd.R_far (p := ⟨gb758, 0, none⟩) (Kd.R_types HO_759001.out BK758.out (by decide)) (fun _ hk => hk.2) (.int .i64 t761)) (fun _ hk => hk.2) (.slice Ao42 t762.length co42)) (fun _ hk => ⟨hk.1.1, hk.1.2⟩)) hg hat); replace BK749 := am (blk_grown (bkn BK749) hg (Kd.R_ne HO_8.out BK749.out (by decide))); replace HO764 := am (Kd.R_after (ok := (fun k_ => some k_ ≠ (.slice Ao36 x759001_1.length co36 : Value).ownBlock)) (by (with_reducible repeat (first | apply Kd.R_alloc | apply Kd.R_drewN | apply Kd.R_drew)); exact Kd.R_mono (Kd.R_far (p := ⟨gb758, 1, none⟩) (Kd.R_far (p := ⟨gb758, 0, none⟩) (Kd.R_types HO764.out BK758.out (by decide)) (fun _ hk => hk.2) (.int .i64 t761)) (fun _ hk => hk.2) (.slice Ao42 t762.length co42)) (fun _ hk => ⟨hk.1.1, hk.1.2⟩)) hg hat); replace BK758 := am (blk_grown (g := gb758) (o := .cells #[.int .i64 t761, .slice Ao42 t762.length co42] 34 (0, 0)) (by (with_reducible repeat (first | refine blk_drewN ?_ _ | refine blk_drew ?_ | refine blk_alloc ?_ _)); refine blk_put (cs := #[.int .i64 t761, .slice Ao36 x759001_1.length co36]) ?_ 1 _ rfl; (with_reducible repeat (first | refine blk_drewN ?_ _ | refine blk_drew ?_ | refine blk_alloc ?_ _)); refine blk_put (cs := #[.int .i64 x759000_1, .slice Ao36 x759001_1.length co36]) ?_ 0 _ rfl; (with_reducible repeat (first | refine blk_drewN ?_ _ | refine blk_drew ?_ | refine blk_alloc ?_ _)); exact BK758.out) hg (Kd.R_ne HO_8.out BK758.out (by decide))); replace BK766 := am (blk_grown (bkn BK766) hg (Kd.R_ne HO_8.out BK766.out (by decide))); replace HB := am hb; have HO771 := am ho; clear HO_8; clear ho hb hg hat))
        go_roundg kj22
        case measure => have := HK1.out; have := HJ22.out; omega
        case rel => exact ⟨(y769), (wrap64 (x9_1 - 1)), (wrap64 (x11_1 + 1)), (t761), (t762), (.slice Ao42 t762.length co42), (by first | rfl | (simp; done) | (simp [*]; done)), (by first | rfl | (simp; done) | (simp [*]; done)), H', ⟨by have := HK1.out; have := HJ22.out; omega⟩, ⟨by (with_reducible repeat (first | apply Kd.R_alloc | apply Kd.R_drewN | apply Kd.R_drew)); exact Kd.R_mono HO771.out (fun _ hk => hk.2)⟩, ⟨by (with_reducible repeat (first | apply Kd.R_alloc | apply Kd.R_drewN | apply Kd.R_drew)); exact Kd.R_mono HO764.out (fun _ hk => hk.2)⟩, ⟨bkn BK749⟩, ⟨bkn BK758⟩, ⟨bn HB⟩⟩
       ·rw [if_neg c34] at H
        have c34b0 := decide_eq_false c34
        clear c34
        have H' := am H
        clear H
        obtain ⟨Ao53, co53, eo53⟩ := Kd.R_slice HO_759001.out
        subst eo53
        try go_wp2
        replace HO_8 := am (Kd.R_drew HO_8.out)
        replace HO_759001 := am (Kd.R_drew HO_759001.out)
        replace BK749 := am (blk_drew BK749.out)
        replace BK758 := am (blk_drew BK758.out)
        replace HB := am (below_drew1 HB.out)
        have p759 : 0 ≤ (x11_1 : Int) := oa
        have q759 : x11_1 < (l0_1.length : Int) := oa
        obtain ⟨ad759, e759, hx759_0, hx759_1⟩ := at_T73 HR0_1.out x11_1 p759 q759
        have hw759_1 := hx759_1
        have hw759_0 := hx759_0
        cases e759
        replace hx759_0 := (HB.out.cell (World.block_lt_of_cell? w _ hx759_0)).trans hx759_0
        replace hx759_1 := (HB.out.cell (World.block_lt_of_cell? w _ hx759_1)).trans hx759_1
        replace p759 := eq_true p759
        replace q759 := eq_true q759
        have p760 : 0 ≤ (x11_1 : Int) := oa
        have q760 : x11_1 < (l0_1.length : Int) := oa
        obtain ⟨ad760, e760, hx760_0, hx760_1⟩ := at_T73 HR0_1.out x11_1 p760 q760
        have hw760_1 := hx760_1
        have hw760_0 := hx760_0
        obtain rfl : ad759 = ad760 := (by injection e760)
        replace hx760_0 := (HB.out.cell (World.block_lt_of_cell? w _ hx760_0)).trans hx760_0
        replace hx760_1 := (HB.out.cell (World.block_lt_of_cell? w _ hx760_1)).trans hx760_1
        replace p760 := eq_true p760
        replace q760 := eq_true q760
        refine start_ (n := 20) (S := fun w' => w'.cell? ⟨gb758, 0, none⟩ = some (.int .i64 x759000_1) ∧ w'.cell? ⟨gb758, 1, none⟩ = some (.slice Ao53 x759001_1.length co53) ∧ w'.cell? ⟨gb749, 0, none⟩ = some (.int .i64 a0_0) ∧ w'.cell? ⟨gb749, 1, none⟩ = some (.slice (some ad759) l0_1.length c0_1) ∧ w'.cell? (ad759.add ((x11_1).toNat * 2)) = some (.int .i64 ((rd_T73 l0_1 x11_1).f0)) ∧ w'.cell? ⟨(ad759.add ((x11_1).toNat * 2)).block, (ad759.add ((x11_1).toNat * 2)).off + 1, none⟩ = some (.int .i64 ((rd_T73 l0_1 x11_1).f1)) ∧ w'.cell? (ad759.add ((x11_1).toNat * 2)) = some (.int .i64 ((rd_T73 l0_1 x11_1).f0)) ∧ w'.cell? ⟨(ad759.add ((x11_1).toNat * 2)).block, (ad759.add ((x11_1).toNat * 2)).off + 1, none⟩ = some (.int .i64 ((rd_T73 l0_1 x11_1).f1))) (ds := []) #[false, false, false, false, false, false, false, false, false, false, false, false, false, false, false, false, false, false, false, false] (by kernel_rfl) rfl rfl ⟨(bc BK758 0), (bc BK758 1), (bc BK749 0), (bc BK749 1), ((HB.out.cell (World.block_lt_of_cell? w _ hw759_0)).trans hw759_0), ((HB.out.cell (World.block_lt_of_cell? w _ hw759_1)).trans hw759_1), ((HB.out.cell (World.block_lt_of_cell? w _ hw760_0)).trans hw760_0), ((HB.out.cell (World.block_lt_of_cell? w _ hw760_1)).trans hw760_1)⟩ (fun hHeld => ?_); refine with_tabW spec_FlowCut.tab9 spec_FlowCut.bits9 (fun HT_ HW_ => ?_)
        generalize wc.drew = w54 at HO_8 HO_759001 BK749 BK758 HB hx759_0 hx759_1 hx760_0 hx760_1 hHeld ⊢
        refine pz_ 1 (some 37) HT_ ?_
        refine pz_ 3 (some 39) HT_ ?_
        refine pz_ 7 (some 43) HT_ ?_
        refine pz_ 9 (some 45) HT_ ?_
        refine tz_ 0 (some 36) HT_ HW_ hHeld ?_
        refine tz_ 2 (some 38) HT_ HW_ hHeld ?_
        refine pz_ 4 (some 40) HT_ ?_
        refine pz_ 5 (some 41) HT_ ?_
        refine tz_ 6 (some 42) HT_ HW_ hHeld ?_
        refine tz_ 8 (some 44) HT_ HW_ hHeld ?_
        refine pz_ 10 (some 46) HT_ ?_
        refine pz_ 11 (some 47) HT_ ?_
        refine tz_ 12 (some 48) HT_ HW_ hHeld ?_
        refine join_ (σ := Value × Nat) 2 #[true, true, true, true, true, true, true, true, true, true, true, true, true, true, true, true, true, true, false, false] (fun s_ => [(49, .tuple #[.agg #[.int .i64 t761, s_.1], .bool t765]), (12, .pointer (some ⟨s_.2, 0, none⟩)), (35, .tuple #[.agg #[.int .i64 t761, s_.1], .bool t765]), (50, .agg #[.int .i64 t761, s_.1]), (51, .bool t765)]) (fun s_ w' => (w'.cell? ⟨gb758, 0, none⟩ = some (.int .i64 x759000_1) ∧ w'.cell? ⟨gb758, 1, none⟩ = some (.slice Ao53 x759001_1.length co53) ∧ w'.cell? ⟨gb749, 0, none⟩ = some (.int .i64 a0_0) ∧ w'.cell? ⟨gb749, 1, none⟩ = some (.slice (some ad759) l0_1.length c0_1) ∧ w'.cell? (ad759.add ((x11_1).toNat * 2)) = some (.int .i64 ((rd_T73 l0_1 x11_1).f0)) ∧ w'.cell? ⟨(ad759.add ((x11_1).toNat * 2)).block, (ad759.add ((x11_1).toNat * 2)).off + 1, none⟩ = some (.int .i64 ((rd_T73 l0_1 x11_1).f1)) ∧ w'.cell? (ad759.add ((x11_1).toNat * 2)) = some (.int .i64 ((rd_T73 l0_1 x11_1).f0)) ∧ w'.cell? ⟨(ad759.add ((x11_1).toNat * 2)).block, (ad759.add ((x11_1).toNat * 2)).off + 1, none⟩ = some (.int .i64 ((rd_T73 l0_1 x11_1).f1))) ∧ (Kd.R k73 73 w' w.heap.size (fun k_ => some k_ ≠ (.slice Ao53 x759001_1.length co53 : Value).ownBlock ∧ some k_ ≠ (u8 : Value).ownBlock) s_.1 t762) ∧ (Kd.R k73 73 w' w.heap.size (fun k_ => some k_ ≠ (s_.1 : Value).ownBlock ∧ some k_ ≠ (u8 : Value).ownBlock) (.slice Ao53 x759001_1.length co53) x759001_1) ∧ (Kd.R k73 73 w' w.heap.size (fun k_ => some k_ ≠ (s_.1 : Value).ownBlock ∧ some k_ ≠ (.slice Ao53 x759001_1.length co53 : Value).ownBlock) u8 x8_1) ∧ (w'.heap[gb749]? = some (.cells #[.int .i64 a0_0, .slice (some ad759) l0_1.length c0_1] 34 (0, 0))) ∧ (w'.heap[gb758]? = some (.cells #[.int .i64 x759000_1, .slice Ao53 x759001_1.length co53] 34 (0, 0))) ∧ (w'.heap[s_.2]? = some (.cells #[.int .i64 0, .slice none 0 0] 34 (0, 0))) ∧ (w.heap.size ≤ s_.2) ∧ (w.heap.size ≤ s_.2) ∧ (gb749 ≠ s_.2) ∧ (s_.2 ≠ gb749) ∧ (gb758 ≠ s_.2) ∧ (s_.2 ≠ gb758) ∧ (Below w.heap.size w w')) ?_ ?_
        rotate_left
        ·intro hCont
         refine two_ (i := 13) (j := 17) (Ni := some 49) (Nj := some 12) #[true, true, true, true, true, true, true, true, true, true, true, true, true, true, false, false, false, false, false, false] #[true, true, true, true, true, true, true, true, true, true, true, true, true, false, false, false, false, true, false, false] rfl rfl rfl rfl (two_of HT_.out (by kernel_rfl)) (by decide) (by decide) (fun K hK => ?_) (fun K hK => ?_)
         ·skip
          refine gg_ Try.func103 #[.agg #[.int .i64 x759000_1, .slice Ao53 x759001_1.length co53], .int .i64 ((rd_T73 l0_1 x11_1).f0), .int .i64 ((rd_T73 l0_1 x11_1).f1)] ?_
          with_reducible refine (spec_NetCut.calls kj22 x759000_1 _ _ x759001_1 ((rd_T73 l0_1 x11_1).f0) ((rd_T73 l0_1 x11_1).f1) t761 t762 t765 _ ?side1 ?side2 A32.out).mono ?_
          (case side1 => exact (Kd.R_reads' (onR HO_759001)).2.2)
          (case side2 => exact (Kd.R_reads' HO_759001.out).2.1)
          rintro e w55 ⟨v763, rfl, ho0, hb⟩
          refine ⟨_, rfl, ?_⟩
          have HO764 := am (Kd.R_lower (Kd.R_new' (Kd.R_new' ho0 (Kd.R_lt (onR HO_8))) (Kd.R_lt (onR HO_759001))) (below_size (bn HB)))
          replace HO_8 := am (Kd.R_elder' (onR HO_8) (Kd.R_base ho0) hb)
          replace HO_759001 := am (Kd.R_elder' (onR HO_759001) (Kd.R_base ho0) hb)
          replace BK749 := bb BK749 hb
          replace BK758 := bb BK758 hb
          replace HB := bs HB hb
          (try clear hb)
          (try clear hb2)
          (try clear hk)
          (try clear hi)
          (try clear ho0)
          refine hK.out _ _ ⟨(bc BK758 0), (bc BK758 1), (bc BK749 0), (bc BK749 1), ((HB.out.cell (World.block_lt_of_cell? w _ hw759_0)).trans hw759_0), ((HB.out.cell (World.block_lt_of_cell? w _ hw759_1)).trans hw759_1), ((HB.out.cell (World.block_lt_of_cell? w _ hw760_0)).trans hw760_0), ((HB.out.cell (World.block_lt_of_cell? w _ hw760_1)).trans hw760_1)⟩ (fun hHeld => ?_)
          clear hK K
          refine nz_ 49 ?_
          refine pz_ 14 (some 35) HT_ ?_
          refine pz_ 15 (some 50) HT_ ?_
          refine pz_ 16 (some 51) HT_ ?_
          refine one_ (i := 17) (N := some 12) #[true, true, true, true, true, true, true, true, true, true, true, true, true, true, true, true, true, true, false, false] rfl rfl (one_of HT_.out (by kernel_rfl)) (by decide) (fun K hK => ?_)
          refine box_step ?hg (N := 12) ?hd (cs := #[.int .i64 0, .slice none 0 0]) (t := 34) ?hr ?_; (case hd => rfl); (case hg => rfl); (case hr => first | (go_simp; done) | (go_simp; rfl))
          intro gb766 hg w56 hbox hb
          have n0_ := am (Kd.R_below (onR HO_8) hb)
          have n1_ := am (Kd.R_below (onR HO_759001) hb)
          have n2_ := am (Kd.R_below (onR HO764) hb)
          have n3_ := bb BK749 hb
          have n4_ := bb BK758 hb
          have n5_ := bs HB hb
          have n6_ := am hbox
          have n7_ := am (ge_ hg HB)
          have n8_ := am (ge_ hg HB)
          have n9_ := am ((by rw [hg]; exact Nat.ne_of_lt (blk_lt (bkn BK749)) : gb749 ≠ gb766))
          have n10_ := am ((by rw [hg]; exact Nat.ne_of_gt (blk_lt (bkn BK749)) : gb766 ≠ gb749))
          have n11_ := am ((by rw [hg]; exact Nat.ne_of_lt (blk_lt (bkn BK758)) : gb758 ≠ gb766))
          have n12_ := am ((by rw [hg]; exact Nat.ne_of_gt (blk_lt (bkn BK758)) : gb766 ≠ gb758))
          clear HO_8 HO_759001 HO764 BK749 BK758 HB
          have HO_8 := n0_
          have HO_759001 := n1_
          have HO764 := n2_
          have BK749 := n3_
          have BK758 := n4_
          have HB := n5_
          have BK766 := n6_
          have GW766 := n7_
          have GE766 := n8_
          have NB749_766 := n9_
          have NB766_749 := n10_
          have NB758_766 := n11_
          have NB766_758 := n12_
          clear n0_ n1_ n2_ n3_ n4_ n5_ n6_ n7_ n8_ n9_ n10_ n11_ n12_ hb hbox hg
          refine hK.out _ _ ⟨(bc BK758 0), (bc BK758 1), (bc BK749 0), (bc BK749 1), ((HB.out.cell (World.block_lt_of_cell? w _ hw759_0)).trans hw759_0), ((HB.out.cell (World.block_lt_of_cell? w _ hw759_1)).trans hw759_1), ((HB.out.cell (World.block_lt_of_cell? w _ hw760_0)).trans hw760_0), ((HB.out.cell (World.block_lt_of_cell? w _ hw760_1)).trans hw760_1)⟩ (fun hHeld => ?_)
          clear hK K
          refine nz_ 12 ?_
          exact norm_ (by simp only [putAll, Act.put, List.setIfInBounds_toArray, List.set_cons_zero, List.set_cons_succ]) (hCont (v763, gb766) _ ⟨hHeld, (by (with_reducible repeat (first | apply Kd.R_alloc | apply Kd.R_drewN | apply Kd.R_drew)); exact Kd.R_mono HO764.out (fun _ hk => ⟨hk.2, hk.1.2⟩)), (by (with_reducible repeat (first | apply Kd.R_alloc | apply Kd.R_drewN | apply Kd.R_drew)); exact Kd.R_mono HO_759001.out (fun _ hk => ⟨hk.2, hk.1⟩)), (by (with_reducible repeat (first | apply Kd.R_alloc | apply Kd.R_drewN | apply Kd.R_drew)); exact Kd.R_mono HO_8.out (fun _ hk => ⟨hk.2, hk.1⟩)), (bkn BK749), (bkn BK758), (bkn BK766), GW766.out, GE766.out, NB749_766.out, NB766_749.out, NB758_766.out, NB766_758.out, (bn HB)⟩)
         ·skip
          refine box_step ?hg (N := 12) ?hd (cs := #[.int .i64 0, .slice none 0 0]) (t := 34) ?hr ?_; (case hd => rfl); (case hg => rfl); (case hr => first | (go_simp; done) | (go_simp; rfl))
          intro gb766 hg w55 hbox hb
          have n0_ := am (Kd.R_below (onR HO_8) hb)
          have n1_ := am (Kd.R_below (onR HO_759001) hb)
          have n2_ := bb BK749 hb
          have n3_ := bb BK758 hb
          have n4_ := bs HB hb
          have n5_ := am hbox
          have n6_ := am (ge_ hg HB)
          have n7_ := am (ge_ hg HB)
          have n8_ := am ((by rw [hg]; exact Nat.ne_of_lt (blk_lt (bkn BK749)) : gb749 ≠ gb766))
          have n9_ := am ((by rw [hg]; exact Nat.ne_of_gt (blk_lt (bkn BK749)) : gb766 ≠ gb749))
          have n10_ := am ((by rw [hg]; exact Nat.ne_of_lt (blk_lt (bkn BK758)) : gb758 ≠ gb766))
          have n11_ := am ((by rw [hg]; exact Nat.ne_of_gt (blk_lt (bkn BK758)) : gb766 ≠ gb758))
          clear HO_8 HO_759001 BK749 BK758 HB
          have HO_8 := n0_
          have HO_759001 := n1_
          have BK749 := n2_
          have BK758 := n3_
          have HB := n4_
          have BK766 := n5_
          have GW766 := n6_
          have GE766 := n7_
          have NB749_766 := n8_
          have NB766_749 := n9_
          have NB758_766 := n10_
          have NB766_758 := n11_
          clear n0_ n1_ n2_ n3_ n4_ n5_ n6_ n7_ n8_ n9_ n10_ n11_ hb hbox hg
          refine hK.out _ _ ⟨(bc BK758 0), (bc BK758 1), (bc BK749 0), (bc BK749 1), ((HB.out.cell (World.block_lt_of_cell? w _ hw759_0)).trans hw759_0), ((HB.out.cell (World.block_lt_of_cell? w _ hw759_1)).trans hw759_1), ((HB.out.cell (World.block_lt_of_cell? w _ hw760_0)).trans hw760_0), ((HB.out.cell (World.block_lt_of_cell? w _ hw760_1)).trans hw760_1)⟩ (fun hHeld => ?_)
          clear hK K
          refine nz_ 12 ?_
          refine one_ (i := 13) (N := some 49) #[true, true, true, true, true, true, true, true, true, true, true, true, true, true, false, false, false, true, false, false] rfl rfl (one_of HT_.out (by kernel_rfl)) (by decide) (fun K hK => ?_)
          refine gg_ Try.func103 #[.agg #[.int .i64 x759000_1, .slice Ao53 x759001_1.length co53], .int .i64 ((rd_T73 l0_1 x11_1).f0), .int .i64 ((rd_T73 l0_1 x11_1).f1)] ?_
          with_reducible refine (spec_NetCut.calls kj22 x759000_1 _ _ x759001_1 ((rd_T73 l0_1 x11_1).f0) ((rd_T73 l0_1 x11_1).f1) t761 t762 t765 _ ?side1 ?side2 A32.out).mono ?_
          (case side1 => exact (Kd.R_reads' (onR HO_759001)).2.2)
          (case side2 => exact (Kd.R_reads' HO_759001.out).2.1)
          rintro e w56 ⟨v763, rfl, ho0, hb⟩
          refine ⟨_, rfl, ?_⟩
          have HO764 := am (Kd.R_lower (Kd.R_new' (Kd.R_new' ho0 (Kd.R_lt (onR HO_8))) (Kd.R_lt (onR HO_759001))) (below_size (bn HB)))
          replace HO_8 := am (Kd.R_elder' (onR HO_8) (Kd.R_base ho0) hb)
          replace HO_759001 := am (Kd.R_elder' (onR HO_759001) (Kd.R_base ho0) hb)
          replace BK749 := bb BK749 hb
          replace BK758 := bb BK758 hb
          replace BK766 := bb BK766 hb
          replace HB := bs HB hb
          (try clear hb)
          (try clear hb2)
          (try clear hk)
          (try clear hi)
          (try clear ho0)
          refine hK.out _ _ ⟨(bc BK758 0), (bc BK758 1), (bc BK749 0), (bc BK749 1), ((HB.out.cell (World.block_lt_of_cell? w _ hw759_0)).trans hw759_0), ((HB.out.cell (World.block_lt_of_cell? w _ hw759_1)).trans hw759_1), ((HB.out.cell (World.block_lt_of_cell? w _ hw760_0)).trans hw760_0), ((HB.out.cell (World.block_lt_of_cell? w _ hw760_1)).trans hw760_1)⟩ (fun hHeld => ?_)
          clear hK K
          refine nz_ 49 ?_
          refine pz_ 14 (some 35) HT_ ?_
          refine pz_ 15 (some 50) HT_ ?_
          refine pz_ 16 (some 51) HT_ ?_
          exact norm_ (by simp only [putAll, Act.put, List.setIfInBounds_toArray, List.set_cons_zero, List.set_cons_succ]) (hCont (v763, gb766) _ ⟨hHeld, (by (with_reducible repeat (first | apply Kd.R_alloc | apply Kd.R_drewN | apply Kd.R_drew)); exact Kd.R_mono HO764.out (fun _ hk => ⟨hk.2, hk.1.2⟩)), (by (with_reducible repeat (first | apply Kd.R_alloc | apply Kd.R_drewN | apply Kd.R_drew)); exact Kd.R_mono HO_759001.out (fun _ hk => ⟨hk.2, hk.1⟩)), (by (with_reducible repeat (first | apply Kd.R_alloc | apply Kd.R_drewN | apply Kd.R_drew)); exact Kd.R_mono HO_8.out (fun _ hk => ⟨hk.2, hk.1⟩)), (bkn BK749), (bkn BK758), (bkn BK766), GW766.out, GE766.out, NB749_766.out, NB766_749.out, NB758_766.out, NB766_758.out, (bn HB)⟩)
        rintro ⟨v763, gb766⟩ w57 ⟨hS_, h0_, h1_, h2_, h3_, h4_, h5_, h6_, h7_, h8_, h9_, h10_, h11_, h12_⟩
        have n0_ : Aside0 (Kd.R k73 73 w57 w.heap.size (fun k_ => some k_ ≠ (.slice Ao53 x759001_1.length co53 : Value).ownBlock ∧ some k_ ≠ (u8 : Value).ownBlock) v763 t762) := ⟨h0_⟩
        have n1_ : Aside0 (Kd.R k73 73 w57 w.heap.size (fun k_ => some k_ ≠ (v763 : Value).ownBlock ∧ some k_ ≠ (u8 : Value).ownBlock) (.slice Ao53 x759001_1.length co53) x759001_1) := ⟨h1_⟩
        have n2_ : Aside0 (Kd.R k73 73 w57 w.heap.size (fun k_ => some k_ ≠ (v763 : Value).ownBlock ∧ some k_ ≠ (.slice Ao53 x759001_1.length co53 : Value).ownBlock) u8 x8_1) := ⟨h2_⟩
        have n3_ : Aside0 (w57.heap[gb749]? = some (.cells #[.int .i64 a0_0, .slice (some ad759) l0_1.length c0_1] 34 (0, 0))) := ⟨h3_⟩
        have n4_ : Aside0 (w57.heap[gb758]? = some (.cells #[.int .i64 x759000_1, .slice Ao53 x759001_1.length co53] 34 (0, 0))) := ⟨h4_⟩
        have n5_ : Aside0 (w57.heap[gb766]? = some (.cells #[.int .i64 0, .slice none 0 0] 34 (0, 0))) := ⟨h5_⟩
        have n6_ : Aside0 (w.heap.size ≤ gb766) := ⟨h6_⟩
        have n7_ : Aside0 (w.heap.size ≤ gb766) := ⟨h7_⟩
        have n8_ : Aside0 (gb749 ≠ gb766) := ⟨h8_⟩
        have n9_ : Aside0 (gb766 ≠ gb749) := ⟨h9_⟩
        have n10_ : Aside0 (gb758 ≠ gb766) := ⟨h10_⟩
        have n11_ : Aside0 (gb766 ≠ gb758) := ⟨h11_⟩
        have n12_ : Aside0 (Below w.heap.size w w57) := ⟨h12_⟩
        clear HO_8 HO_759001 BK749 BK758 HB h0_ h1_ h2_ h3_ h4_ h5_ h6_ h7_ h8_ h9_ h10_ h11_ h12_
        have HO764 := n0_
        have HO_759001 := n1_
        have HO_8 := n2_
        have BK749 := n3_
        have BK758 := n4_
        have BK766 := n5_
        have GW766 := n6_
        have GE766 := n7_
        have NB749_766 := n8_
        have NB766_749 := n9_
        have NB758_766 := n10_
        have NB766_758 := n11_
        have HB := n12_
        clear n0_ n1_ n2_ n3_ n4_ n5_ n6_ n7_ n8_ n9_ n10_ n11_ n12_
        have hHeld : w57.cell? ⟨gb758, 0, none⟩ = some (.int .i64 x759000_1) ∧ w57.cell? ⟨gb758, 1, none⟩ = some (.slice Ao53 x759001_1.length co53) ∧ w57.cell? ⟨gb749, 0, none⟩ = some (.int .i64 a0_0) ∧ w57.cell? ⟨gb749, 1, none⟩ = some (.slice (some ad759) l0_1.length c0_1) ∧ w57.cell? (ad759.add ((x11_1).toNat * 2)) = some (.int .i64 ((rd_T73 l0_1 x11_1).f0)) ∧ w57.cell? ⟨(ad759.add ((x11_1).toNat * 2)).block, (ad759.add ((x11_1).toNat * 2)).off + 1, none⟩ = some (.int .i64 ((rd_T73 l0_1 x11_1).f1)) ∧ w57.cell? (ad759.add ((x11_1).toNat * 2)) = some (.int .i64 ((rd_T73 l0_1 x11_1).f0)) ∧ w57.cell? ⟨(ad759.add ((x11_1).toNat * 2)).block, (ad759.add ((x11_1).toNat * 2)).off + 1, none⟩ = some (.int .i64 ((rd_T73 l0_1 x11_1).f1)) := hS_
        obtain ⟨Ao59, co59, eo59⟩ := Kd.R_slice HO764.out
        (first | subst eo59 | (injection eo59 with f1_ f2_ f3_; have f4_ := f1_.symm; have f5_ := f3_.symm; clear f1_ f2_ f3_; subst f4_; subst f5_))
        refine norm_ (a' := ?_) ?_ ?_
        rotate_left
        ·simp only [putAll, Act.put, List.setIfInBounds_toArray, List.set_cons_zero, List.set_cons_succ]
         rfl
        refine one_ (i := 18) (N := none) #[true, true, true, true, true, true, true, true, true, true, true, true, true, true, true, true, true, true, true, false] rfl rfl (one_of HT_.out (by kernel_rfl)) (by decide) (fun K hK => ?_)
        have hs58 := bc BK766 0
        have hfs58 := blk_frozen BK766.out 0
        have hns58_0 := NB749_766.out
        have hns58_1 := NB758_766.out
        have hms58_0 := NB766_749.out
        have hms58_1 := NB766_758.out
        have hs60 := bc BK766 1
        have hfs60 := blk_frozen BK766.out 1
        have hns60_0 := NB749_766.out
        have hns60_1 := NB758_766.out
        have hms60_0 := NB766_749.out
        have hms60_1 := NB766_758.out
        refine skip_ (w1 := ?_) (by rfl) rfl ?_ ?_
        rotate_left
        ·go_simp
         rfl
        refine hK.out _ _ ⟨((cell_far (p := ⟨gb766, _, none⟩) NB758_766.out _).trans (((cell_far (p := ⟨gb766, _, none⟩) NB758_766.out _).trans (hHeld.1)))), ((cell_far (p := ⟨gb766, _, none⟩) NB758_766.out _).trans (((cell_far (p := ⟨gb766, _, none⟩) NB758_766.out _).trans (hHeld.2.1)))), ((cell_far (p := ⟨gb766, _, none⟩) NB749_766.out _).trans (((cell_far (p := ⟨gb766, _, none⟩) NB749_766.out _).trans (hHeld.2.2.1)))), ((cell_far (p := ⟨gb766, _, none⟩) NB749_766.out _).trans (((cell_far (p := ⟨gb766, _, none⟩) NB749_766.out _).trans (hHeld.2.2.2.1)))), ((cell_far (p := ⟨gb766, _, none⟩) (by first | exact Nat.ne_of_lt (Nat.lt_of_lt_of_le (by have := World.block_lt_of_cell? _ _ hw759_0; first | rwa [add_block] at this | exact this) GW766.out) | (rw [add_block]; exact Nat.ne_of_lt (Nat.lt_of_lt_of_le (by have := World.block_lt_of_cell? _ _ hw759_0; first | rwa [add_block] at this | exact this) GW766.out)) | (show (Addr.add _ _).block ≠ _; rw [add_block]; exact Nat.ne_of_lt (Nat.lt_of_lt_of_le (by have := World.block_lt_of_cell? _ _ hw759_0; first | rwa [add_block] at this | exact this) GW766.out)) | (dsimp only; exact Nat.ne_of_lt (Nat.lt_of_lt_of_le (by have := World.block_lt_of_cell? _ _ hw759_0; first | rwa [add_block] at this | exact this) GW766.out))) _).trans (((cell_far (p := ⟨gb766, _, none⟩) (by first | exact Nat.ne_of_lt (Nat.lt_of_lt_of_le (by have := World.block_lt_of_cell? _ _ hw759_0; first | rwa [add_block] at this | exact this) GW766.out) | (rw [add_block]; exact Nat.ne_of_lt (Nat.lt_of_lt_of_le (by have := World.block_lt_of_cell? _ _ hw759_0; first | rwa [add_block] at this | exact this) GW766.out)) | (show (Addr.add _ _).block ≠ _; rw [add_block]; exact Nat.ne_of_lt (Nat.lt_of_lt_of_le (by have := World.block_lt_of_cell? _ _ hw759_0; first | rwa [add_block] at this | exact this) GW766.out)) | (dsimp only; exact Nat.ne_of_lt (Nat.lt_of_lt_of_le (by have := World.block_lt_of_cell? _ _ hw759_0; first | rwa [add_block] at this | exact this) GW766.out))) _).trans (hHeld.2.2.2.2.1)))), ((cell_far (p := ⟨gb766, _, none⟩) (by first | exact Nat.ne_of_lt (Nat.lt_of_lt_of_le (by have := World.block_lt_of_cell? _ _ hw759_1; first | rwa [add_block] at this | exact this) GW766.out) | (rw [add_block]; exact Nat.ne_of_lt (Nat.lt_of_lt_of_le (by have := World.block_lt_of_cell? _ _ hw759_1; first | rwa [add_block] at this | exact this) GW766.out)) | (show (Addr.add _ _).block ≠ _; rw [add_block]; exact Nat.ne_of_lt (Nat.lt_of_lt_of_le (by have := World.block_lt_of_cell? _ _ hw759_1; first | rwa [add_block] at this | exact this) GW766.out)) | (dsimp only; exact Nat.ne_of_lt (Nat.lt_of_lt_of_le (by have := World.block_lt_of_cell? _ _ hw759_1; first | rwa [add_block] at this | exact this) GW766.out))) _).trans (((cell_far (p := ⟨gb766, _, none⟩) (by first | exact Nat.ne_of_lt (Nat.lt_of_lt_of_le (by have := World.block_lt_of_cell? _ _ hw759_1; first | rwa [add_block] at this | exact this) GW766.out) | (rw [add_block]; exact Nat.ne_of_lt (Nat.lt_of_lt_of_le (by have := World.block_lt_of_cell? _ _ hw759_1; first | rwa [add_block] at this | exact this) GW766.out)) | (show (Addr.add _ _).block ≠ _; rw [add_block]; exact Nat.ne_of_lt (Nat.lt_of_lt_of_le (by have := World.block_lt_of_cell? _ _ hw759_1; first | rwa [add_block] at this | exact this) GW766.out)) | (dsimp only; exact Nat.ne_of_lt (Nat.lt_of_lt_of_le (by have := World.block_lt_of_cell? _ _ hw759_1; first | rwa [add_block] at this | exact this) GW766.out))) _).trans (hHeld.2.2.2.2.2.1)))), ((cell_far (p := ⟨gb766, _, none⟩) (by first | exact Nat.ne_of_lt (Nat.lt_of_lt_of_le (by have := World.block_lt_of_cell? _ _ hw760_0; first | rwa [add_block] at this | exact this) GW766.out) | (rw [add_block]; exact Nat.ne_of_lt (Nat.lt_of_lt_of_le (by have := World.block_lt_of_cell? _ _ hw760_0; first | rwa [add_block] at this | exact this) GW766.out)) | (show (Addr.add _ _).block ≠ _; rw [add_block]; exact Nat.ne_of_lt (Nat.lt_of_lt_of_le (by have := World.block_lt_of_cell? _ _ hw760_0; first | rwa [add_block] at this | exact this) GW766.out)) | (dsimp only; exact Nat.ne_of_lt (Nat.lt_of_lt_of_le (by have := World.block_lt_of_cell? _ _ hw760_0; first | rwa [add_block] at this | exact this) GW766.out))) _).trans (((cell_far (p := ⟨gb766, _, none⟩) (by first | exact Nat.ne_of_lt (Nat.lt_of_lt_of_le (by have := World.block_lt_of_cell? _ _ hw760_0; first | rwa [add_block] at this | exact this) GW766.out) | (rw [add_block]; exact Nat.ne_of_lt (Nat.lt_of_lt_of_le (by have := World.block_lt_of_cell? _ _ hw760_0; first | rwa [add_block] at this | exact this) GW766.out)) | (show (Addr.add _ _).block ≠ _; rw [add_block]; exact Nat.ne_of_lt (Nat.lt_of_lt_of_le (by have := World.block_lt_of_cell? _ _ hw760_0; first | rwa [add_block] at this | exact this) GW766.out)) | (dsimp only; exact Nat.ne_of_lt (Nat.lt_of_lt_of_le (by have := World.block_lt_of_cell? _ _ hw760_0; first | rwa [add_block] at this | exact this) GW766.out))) _).trans (hHeld.2.2.2.2.2.2.1)))), ((cell_far (p := ⟨gb766, _, none⟩) (by first | exact Nat.ne_of_lt (Nat.lt_of_lt_of_le (by have := World.block_lt_of_cell? _ _ hw760_1; first | rwa [add_block] at this | exact this) GW766.out) | (rw [add_block]; exact Nat.ne_of_lt (Nat.lt_of_lt_of_le (by have := World.block_lt_of_cell? _ _ hw760_1; first | rwa [add_block] at this | exact this) GW766.out)) | (show (Addr.add _ _).block ≠ _; rw [add_block]; exact Nat.ne_of_lt (Nat.lt_of_lt_of_le (by have := World.block_lt_of_cell? _ _ hw760_1; first | rwa [add_block] at this | exact this) GW766.out)) | (dsimp only; exact Nat.ne_of_lt (Nat.lt_of_lt_of_le (by have := World.block_lt_of_cell? _ _ hw760_1; first | rwa [add_block] at this | exact this) GW766.out))) _).trans (((cell_far (p := ⟨gb766, _, none⟩) (by first | exact Nat.ne_of_lt (Nat.lt_of_lt_of_le (by have := World.block_lt_of_cell? _ _ hw760_1; first | rwa [add_block] at this | exact this) GW766.out) | (rw [add_block]; exact Nat.ne_of_lt (Nat.lt_of_lt_of_le (by have := World.block_lt_of_cell? _ _ hw760_1; first | rwa [add_block] at this | exact this) GW766.out)) | (show (Addr.add _ _).block ≠ _; rw [add_block]; exact Nat.ne_of_lt (Nat.lt_of_lt_of_le (by have := World.block_lt_of_cell? _ _ hw760_1; first | rwa [add_block] at this | exact this) GW766.out)) | (dsimp only; exact Nat.ne_of_lt (Nat.lt_of_lt_of_le (by have := World.block_lt_of_cell? _ _ hw760_1; first | rwa [add_block] at this | exact this) GW766.out))) _).trans (hHeld.2.2.2.2.2.2.2))))⟩ (fun hHeld => ?_)
        clear hK K
        refine pz_ 19 (some 13) HT_ ?_
        refine done_ (done_of HT_.out (by kernel_rfl)) ?_
        obtain ⟨hnb61, hnc61⟩ := n2 NB766_749 NB749_766
        obtain ⟨hnb62, hnc62⟩ := n2 NB766_758 NB758_766
        obtain ⟨hcz63_0, hcz63_1, hfz63_0, hfz63_1⟩ := c2 BK766
        try go_wp2_with (first | ((with_reducible refine gate_callee (f := 31) rfl ?_); refine gl_ (some 55) Try.func31 #[.agg #[.int .i64 t761, .slice Ao59 t762.length co59], .int .i64 a1, .int .i64 a2] ?_; (with_reducible refine (spec_FlowCount.calls kj22 t761 _ _ t762 a1 a2 t767 _ ?side1 ?side2 A33.out).mono ?_); (case side1 => refine (Kd.R_reads' (e := 73) (base := w.heap.size) (ok := fun k_ => (some k_ ≠ (.slice Ao53 x759001_1.length co53 : Value).ownBlock ∧ some k_ ≠ (u8 : Value).ownBlock)) (n := t762.length) (c := co59) ?_).2.2; exact (by (with_reducible repeat (first | apply Kd.R_alloc | apply Kd.R_drewN | apply Kd.R_drew)); exact (Kd.R_mono (Kd.R_far (p := ⟨gb766, 1, none⟩) (Kd.R_far (p := ⟨gb766, 0, none⟩) (Kd.R_types HO764.out BK766.out (by decide)) (fun _ hk => hk.2) (.int .i64 t761)) (fun _ hk => hk.2) (.slice Ao59 t762.length co59)) (fun _ h_ => h_.1)))); (case side2 => exact (Kd.R_reads' HO764.out).2.1); rintro e w64 ⟨rfl, hb⟩; refine ⟨_, rfl, ?_⟩; replace HO_8 := am (Kd.R_below (by (with_reducible repeat (first | apply Kd.R_alloc | apply Kd.R_drewN | apply Kd.R_drew)); exact (Kd.R_mono (Kd.R_far (p := ⟨gb766, 1, none⟩) (Kd.R_far (p := ⟨gb766, 0, none⟩) (Kd.R_types HO_8.out BK766.out (by decide)) (fun _ hk => hk.2) (.int .i64 t761)) (fun _ hk => hk.2) (.slice Ao59 t762.length co59)) (fun _ h_ => h_.1))) hb); replace HO_759001 := am (Kd.R_below (by (with_reducible repeat (first | apply Kd.R_alloc | apply Kd.R_drewN | apply Kd.R_drew)); exact (Kd.R_mono (Kd.R_far (p := ⟨gb766, 1, none⟩) (Kd.R_far (p := ⟨gb766, 0, none⟩) (Kd.R_types HO_759001.out BK766.out (by decide)) (fun _ hk => hk.2) (.int .i64 t761)) (fun _ hk => hk.2) (.slice Ao59 t762.length co59)) (fun _ h_ => h_.1))) hb); replace HO764 := am (Kd.R_below (by (with_reducible repeat (first | apply Kd.R_alloc | apply Kd.R_drewN | apply Kd.R_drew)); exact (Kd.R_mono (Kd.R_far (p := ⟨gb766, 1, none⟩) (Kd.R_far (p := ⟨gb766, 0, none⟩) (Kd.R_types HO764.out BK766.out (by decide)) (fun _ hk => hk.2) (.int .i64 t761)) (fun _ hk => hk.2) (.slice Ao59 t762.length co59)) (fun _ h_ => h_.1))) hb); replace BK749 := bb BK749 hb; replace BK758 := bb BK758 hb; replace BK766 := am (blk_below (g := gb766) (o := .cells #[.int .i64 t761, .slice Ao59 t762.length co59] 34 (0, 0)) (by (with_reducible repeat (first | refine blk_drewN ?_ _ | refine blk_drew ?_ | refine blk_alloc ?_ _)); refine blk_put (cs := #[.int .i64 t761, .slice none 0 0]) ?_ 1 _ rfl; (with_reducible repeat (first | refine blk_drewN ?_ _ | refine blk_drew ?_ | refine blk_alloc ?_ _)); refine blk_put (cs := #[.int .i64 0, .slice none 0 0]) ?_ 0 _ rfl; (with_reducible repeat (first | refine blk_drewN ?_ _ | refine blk_drew ?_ | refine blk_alloc ?_ _)); exact BK766.out) hb); replace HB := bs HB hb; (try clear hb); (try clear hi)))
        go_roundg kj22
        case measure => have := HK1.out; have := HJ22.out; omega
        case rel => exact ⟨(x8_1), (x9_1), (wrap64 (x11_1 + 1)), (x759000_1), (x759001_1), (.slice Ao53 x759001_1.length co53), (by first | rfl | (simp; done) | (simp [*]; done)), (by first | rfl | (simp; done) | (simp [*]; done)), H', ⟨by have := HK1.out; have := HJ22.out; omega⟩, ⟨by (with_reducible repeat (first | apply Kd.R_alloc | apply Kd.R_drewN | apply Kd.R_drew)); exact Kd.R_mono HO_8.out (fun _ hk => hk.2)⟩, ⟨by (with_reducible repeat (first | apply Kd.R_alloc | apply Kd.R_drewN | apply Kd.R_drew)); exact Kd.R_mono HO_759001.out (fun _ hk => hk.2)⟩, ⟨bkn BK749⟩, ⟨bkn BK758⟩, ⟨bn HB⟩⟩
      ·replace c29 := Bool.eq_false_iff.mpr c29
       subst c29
       rw [if_neg (show ¬ (false = true) by decide)] at H
       simp only [Option.some.injEq, Prod.mk.injEq] at H
       obtain ⟨rfl, rfl⟩ := H
       go_wp2
       go_ret2
       exact ⟨_, by first | rfl | (simp [errW_none, errW_some] <;> rfl) | (simp [*, errW_none, errW_some] <;> rfl), by (with_reducible repeat (first | apply Kd.R_alloc | apply Kd.R_drewN | apply Kd.R_drew)); exact Kd.R_mono HO_8.out (fun _ hk => trivial), bn HB⟩

end Go.Proofs.Ytdlnnjgjfngccaa.F
