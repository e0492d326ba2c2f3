-- Written by oprint.py (wip/tools) over the kit's print program, for this seat.
import Derived.Test.YtdlnnjgjfngccaaF0
import Derived.Test.YtdlnnjgjfngccaaF11
import Derived.Test.YtdlnnjgjfngccaaF51
import Derived.Test.YtdlnnjgjfngccaaF52
import Derived.Test.YtdlnnjgjfngccaaF58
import Derived.Test.YtdlnnjgjfngccaaF74
import Derived.Test.YtdlnnjgjfngccaaF76
namespace Go.Proofs.Ytdlnnjgjfngccaa.F
open Go.RowKit Go.Proofs.YtdlnnjgjfngccaaW.PrintWords Go.Proofs.YtdlnnjgjfngccaaW.PrintLast Go.Proofs.YtdlnnjgjfngccaaW.PrintMore
attribute [local go_sem] max2_int min2_int max_two min_two max_three min_three max_four min_four   -- for this text's walks alone
set_option linter.unusedVariables false
set_option linter.unusedSimpArgs false

/-! ### laws_FnFlowCutTie: function 17 -/
mutual
def laws_FnFlowCutTie.j0 : Nat → List Int → List Int → Bool → Option (Bool)
 | 0, _, _, _ => none
 | k + 1, x0, x1, x22 => if x22 = true then (some true) else ((spec_DrawFlowCut.f k x0).bind fun bt1135 => ((spec_FlowCut.f k bt1135.1 bt1135.2.1 bt1135.2.2.1 bt1135.2.2.2).bind fun bt1142 => ((impl_FlowCut.f k bt1135.1 bt1135.2.1 bt1135.2.2.1 bt1135.2.2.2).bind fun bt1146 => (if (bt1146.2 != bt1142.2) = true then (laws_FnFlowCutTie.j1 k x1 bt1135.2.2.1 bt1135.2.2.2 bt1142.1 bt1142.2 bt1146.1 bt1146.2 true bt1135.1 bt1135.2.1) else ((laws_loTies.f k bt1146.1 bt1142.1).bind fun t1150 => (if t1150 = true then (laws_FnFlowCutTie.j1 k x1 bt1135.2.2.1 bt1135.2.2.2 bt1142.1 bt1142.2 bt1146.1 bt1146.2 ((bt1146.1.length : Int) == 0) bt1135.1 bt1135.2.1) else (laws_FnFlowCutTie.j1 k x1 bt1135.2.2.1 bt1135.2.2.2 bt1142.1 bt1142.2 bt1146.1 bt1146.2 true bt1135.1 bt1135.2.1)))))))
def laws_FnFlowCutTie.j1 : Nat → List Int → Int → Int → List (S73) → Bool → List (S73) → Bool → Bool → Int → List (S73) → Option (Bool)
 | 0, _, _, _, _, _, _, _, _, _, _ => none
 | k + 1, x1, x6, x7, x8, x9, x10, x11, x56, x1142000, x1142001 => if x56 = true then (if (x11 == x9) = true then ((laws_loTies.f k x10 x8).bind fun t1151 => (some t1151)) else (some false)) else (if (x10.length : Int) = 0 then (none) else (if 0 ≤ ((x1.length : Int) % (x10.length : Int)) then (if ((x1.length : Int) % (x10.length : Int)) < (x10.length : Int) then ((impl_NetCut.f k x1142000 x1142001 ((rd_T73 x10 ((x1.length : Int) % (x10.length : Int))).f0) ((rd_T73 x10 ((x1.length : Int) % (x10.length : Int))).f1)).bind fun bt1154 => (if bt1154.2.2 = true then ((impl_FlowCount.f k bt1154.1 bt1154.2.1 x6 x7).bind fun t1160 => (some (t1160 == (wrap64 ((x10.length : Int) - 1))))) else (some false))) else (none)) else (none)))
end
def laws_FnFlowCutTie.f (k : Nat) (l0 : List Int) (l1 : List Int) : Option (Bool) := if (l0.length : Int) > 1048576 then (laws_FnFlowCutTie.j0 k l0 l1 true) else (laws_FnFlowCutTie.j0 k l0 l1 (decide ((l1.length : Int) > 1048576)))
theorem laws_FnFlowCutTie.mono_l : ∀ k, (∀ y0 y1 y2, LeO (laws_FnFlowCutTie.j0 k y0 y1 y2) (laws_FnFlowCutTie.j0 (k + 1) y0 y1 y2)) ∧ (∀ y0 y1 y2 y3 y4 y5 y6 y7 y8 y9, LeO (laws_FnFlowCutTie.j1 k y0 y1 y2 y3 y4 y5 y6 y7 y8 y9) (laws_FnFlowCutTie.j1 (k + 1) y0 y1 y2 y3 y4 y5 y6 y7 y8 y9))
 | 0 => ⟨fun _ _ _ r h => by simp [laws_FnFlowCutTie.j0] at h, fun _ _ _ _ _ _ _ _ _ _ r h => by simp [laws_FnFlowCutTie.j1] at h⟩
 | k + 1 => by
  obtain ⟨ih0, ih1⟩ := laws_FnFlowCutTie.mono_l k
  refine ⟨?_, ?_⟩
  ·intro y0 y1 y2
   unfold laws_FnFlowCutTie.j0
   have m0_ := @impl_FlowCount.mono
   have m1_ := @impl_FlowCut.mono
   have m2_ := @impl_NetCut.mono
   have m3_ := @laws_loTies.mono
   have m4_ := @spec_DrawFlowCut.mono
   have m5_ := @spec_FlowCut.mono
   exact mo_
  ·intro y0 y1 y2 y3 y4 y5 y6 y7 y8 y9
   unfold laws_FnFlowCutTie.j1
   have m0_ := @impl_FlowCount.mono
   have m1_ := @impl_FlowCut.mono
   have m2_ := @impl_NetCut.mono
   have m3_ := @laws_loTies.mono
   have m4_ := @spec_DrawFlowCut.mono
   have m5_ := @spec_FlowCut.mono
   exact mo_
theorem laws_FnFlowCutTie.mono : ∀ a0 a1 k, LeO (laws_FnFlowCutTie.f k a0 a1) (laws_FnFlowCutTie.f (k + 1) a0 a1) := by
 intro a0 a1 k
 obtain ⟨ih0, ih1⟩ := laws_FnFlowCutTie.mono_l k
 unfold laws_FnFlowCutTie.f
 have m0_ := @impl_FlowCount.mono
 have m1_ := @impl_FlowCut.mono
 have m2_ := @impl_NetCut.mono
 have m3_ := @laws_loTies.mono
 have m4_ := @spec_DrawFlowCut.mono
 have m5_ := @spec_FlowCut.mono
 exact mo_
set_option maxHeartbeats 8000000 in
set_option maxRecDepth 100000 in
theorem laws_FnFlowCutTie.calls (k : Nat) (A0 : Option Addr) (c0 : Nat) (l0 : List Int) (A1 : Option Addr) (c1 : Nat) (l1 : List Int) (r : Bool) (w : World) (hr0 : Kd.C (Kd.int .u8) w A0 l0.length l0) (hc0 : l0.length ≤ c0) (hr1 : Kd.C (Kd.int .u8) w A1 l1.length l1) (hc1 : l1.length ≤ c1) (hrt : Aside0 (r = true)) (h : laws_FnFlowCutTie.f k l0 l1 = some r) :
  Calls Try.prog 17 #[.slice A0 l0.length c0, .slice A1 l1.length c1] w fun e w' => e = .returned (.bool r) ∧ Below w.heap.size w w' := by
 have hu34 := Try.underlying34
 have hu73 := Try.underlying73
 have HR0 := am hr0
 have HC0 := am hc0
 clear hr0 hc0
 have HR1 := am hr1
 have HC1 := am hc1
 clear hr1 hc1
 have HB := am (Below.refl w.heap.size w)
 have H : (if (l0.length : Int) > 1048576 then (laws_FnFlowCutTie.j0 k l0 l1 true) else (laws_FnFlowCutTie.j0 k l0 l1 (decide ((l1.length : Int) > 1048576)))) = some r := h
 clear h
 have HC3 := am H
 clear H
 go_enter Try.func17, Try.ntmps17
 go_upto_region 1 with (fail)
 go_cut [22] (fun v22 wc => ∃ (kq : Nat) (x22_2 : Bool), v22 = .bool x22_2 ∧ Aside0 (laws_FnFlowCutTie.j0 kq l0 l1 x22_2 = some r) ∧ Aside0 (kq ≤ k) ∧ Aside0 (Below w.heap.size w wc))
 case first =>
  have H := HC3.out
  clear HC3
  by_cases c4 : (l0.length : Int) > 1048576
  ·rw [if_pos c4] at H
   have c4b0 := decide_eq_true c4
   have c4b1 : decide (1048576 < l0.length) = true := decide_eq_true (by omega)
   clear c4
   (first | rw [c4b0] | (simp only [i64_w, i32_w]; rw [c4b0]) | skip)
   have H' := am H
   clear H
   go_wp2
   go_meet
   case rel => exact ⟨_, (true), (by first | rfl | (simp; done) | (simp [*]; done)), H', ⟨by first | omega | exact Nat.le_refl _⟩, ⟨bn HB⟩⟩
  ·rw [if_neg c4] at H
   have c4b0 := decide_eq_false c4
   have c4b1 : decide (1048576 < l0.length) = false := decide_eq_false (by omega)
   clear c4
   (first | rw [c4b0] | (simp only [i64_w, i32_w]; rw [c4b0]) | skip)
   have H' := am H
   clear H
   go_wp2
   go_meet
   case rel => exact ⟨_, (decide ((l1.length : Int) > 1048576)), (by first | rfl | (simp; done) | (simp [*]; done)), H', ⟨by first | omega | exact Nat.le_refl _⟩, ⟨bn HB⟩⟩
 case rest =>
  clear HC3
  try clear c1
  try clear p2
  try clear c4
  try clear c4b0
  try clear c4b1
  obtain ⟨kq, x22_2, rfl, HA, HJ2, HB⟩ := hcut
  cases kq with
  | zero => exact absurd HA.out (by simp [laws_FnFlowCutTie.j0])
  | succ kj2 =>
   have H := HA.out
   clear HA
   simp only [laws_FnFlowCutTie.j0] at H
   by_cases c5 : x22_2 = true
   ·subst c5
    rw [if_pos rfl] at H
    obtain rfl := Option.some.inj H
    go_wp2
    go_ret
    exact ⟨by first | rfl | (simp [errW_none, errW_some] <;> rfl) | (simp [*, errW_none, errW_some] <;> rfl), bn HB⟩
   ·replace c5 := Bool.eq_false_iff.mpr c5
    subst c5
    rw [if_neg (show ¬ (false = true) by decide)] at H
    replace H := Option.bind_eq_some_iff.mp H
    obtain ⟨⟨t1135, t1136, t1139, t1140⟩, A60, H⟩ := H
    (try dsimp only at H)
    have A6 := am A60
    clear A60
    replace H := Option.bind_eq_some_iff.mp H
    obtain ⟨⟨t1142, t1145⟩, A70, H⟩ := H
    (try dsimp only at H)
    have A7 := am A70
    clear A70
    replace H := Option.bind_eq_some_iff.mp H
    obtain ⟨⟨t1146, t1149⟩, A80, H⟩ := H
    (try dsimp only at H)
    have A8 := am A80
    clear A80
    have HC9 := am H
    clear H
    go_upto_region 6 with (first | ((with_reducible refine gate_callee (f := 70) rfl ?_); refine gl_ (some 25) Try.func70 #[.slice A0 l0.length c0] ?_; (with_reducible refine (spec_DrawFlowCut.calls kj2 _ _ l0 t1135 t1136 t1139 t1140 _ ?side1 ?side2 A6.out).mono ?_); (case side1 => exact cb HR0 HB); (case side2 => exact HC0.out); rintro e w10 ⟨v1137, rfl, ho0, hb⟩; refine ⟨_, rfl, ?_⟩; have HO1138 := am (Kd.R_lower ho0 (below_size (bn HB))); replace HB := bs HB hb; (try clear hb); (try clear ho0)) | ((with_reducible refine gate_dst (N := 5) rfl ?_); refine be_ 5 #[.int .i64 0, .slice none 0 0] 34 ?_; intro gb1141 hg w11 hbox hb; replace HO1138 := am (Kd.R_below (onR HO1138) hb); have BK1141 := am hbox; have GW1141 := am (ge_ hg HB); have GE1141 := am (ge_ hg HB); replace HB := bs HB hb; clear hb hbox hg; obtain ⟨hcz12_0, hcz12_1, hfz12_0, hfz12_1⟩ := c2 BK1141; obtain ⟨Ao13, co13, eo13⟩ := Kd.R_slice HO1138.out; subst eo13) | ((with_reducible refine gate_callee (f := 50) rfl ?_); refine gl_ (some 33) Try.func50 #[.agg #[.int .i64 t1135, .slice Ao13 t1136.length co13], .int .i64 t1139, .int .i64 t1140] ?_; (with_reducible refine (spec_FlowCut.calls kj2 t1135 _ _ t1136 t1139 t1140 t1142 t1145 _ ?side1 ?side2 A7.out).mono ?_); (case side1 => refine (Kd.R_reads' (e := 73) (base := w.heap.size) (ok := fun k_ => True) (n := t1136.length) (c := co13) ?_).2.2; exact (by (with_reducible repeat (first | apply Kd.R_alloc | apply Kd.R_drewN | apply Kd.R_drew)); exact (Kd.R_mono (Kd.R_far (p := ⟨gb1141, 1, none⟩) (Kd.R_far (p := ⟨gb1141, 0, none⟩) (Kd.R_types HO1138.out BK1141.out (by decide)) (fun _ hk => hk.2) (.int .i64 t1135)) (fun _ hk => hk.2) (.slice Ao13 t1136.length co13)) (fun _ h_ => h_.1)))); (case side2 => exact (Kd.R_reads' HO1138.out).2.1); rintro e w14 ⟨v1143, rfl, ho0, hb⟩; refine ⟨_, rfl, ?_⟩; have HO1144 := am (Kd.R_lower (Kd.R_new' ho0 (Kd.R_lt (by (with_reducible repeat (first | apply Kd.R_alloc | apply Kd.R_drewN | apply Kd.R_drew)); exact (Kd.R_mono (Kd.R_far (p := ⟨gb1141, 1, none⟩) (Kd.R_far (p := ⟨gb1141, 0, none⟩) (Kd.R_types HO1138.out BK1141.out (by decide)) (fun _ hk => hk.2) (.int .i64 t1135)) (fun _ hk => hk.2) (.slice Ao13 t1136.length co13)) (fun _ h_ => h_.1))))) (below_size (bn HB))); replace HO1138 := am (Kd.R_elder' (by (with_reducible repeat (first | apply Kd.R_alloc | apply Kd.R_drewN | apply Kd.R_drew)); exact (Kd.R_mono (Kd.R_far (p := ⟨gb1141, 1, none⟩) (Kd.R_far (p := ⟨gb1141, 0, none⟩) (Kd.R_types HO1138.out BK1141.out (by decide)) (fun _ hk => hk.2) (.int .i64 t1135)) (fun _ hk => hk.2) (.slice Ao13 t1136.length co13)) (fun _ h_ => h_.1))) (Kd.R_base ho0) hb); replace BK1141 := am (blk_below (g := gb1141) (o := .cells #[.int .i64 t1135, .slice Ao13 t1136.length co13] 34 (0, 0)) (by (with_reducible repeat (first | refine blk_drewN ?_ _ | refine blk_drew ?_ | refine blk_alloc ?_ _)); refine blk_put (cs := #[.int .i64 t1135, .slice none 0 0]) ?_ 1 _ rfl; (with_reducible repeat (first | refine blk_drewN ?_ _ | refine blk_drew ?_ | refine blk_alloc ?_ _)); refine blk_put (cs := #[.int .i64 0, .slice none 0 0]) ?_ 0 _ rfl; (with_reducible repeat (first | refine blk_drewN ?_ _ | refine blk_drew ?_ | refine blk_alloc ?_ _)); exact BK1141.out) hb); replace HB := bs HB hb; (try clear hb); (try clear ho0); obtain ⟨hcz15_0, hcz15_1, hfz15_0, hfz15_1⟩ := c2 BK1141) | ((with_reducible refine gate_callee (f := 51) rfl ?_); refine gl_ (some 40) Try.func51 #[.agg #[.int .i64 t1135, .slice Ao13 t1136.length co13], .int .i64 t1139, .int .i64 t1140] ?_; (with_reducible refine (impl_FlowCut.calls kj2 t1135 (fun k_ => some k_ = (.slice Ao13 t1136.length co13 : Value).ownBlock) _ _ t1136 t1139 t1140 t1146 t1149 _ ?side1 A8.out).mono ?_); (case side1 => exact Kd.R_V (Kd.R_tight rfl (Kd.R_types (HO1138.out) BK1141.out (by decide)))); rintro e w16 ⟨v1147, rfl, ho0, hb⟩; refine ⟨_, rfl, ?_⟩; have HO1148 := am (Kd.R_lower (Kd.R_new' (Kd.R_new' (Kd.R_mono (ok' := fun k_ => True) ho0 (fun _ hk_ => trivial)) (Kd.R_lt (onR HO1138))) (Kd.R_lt (onR HO1144))) (below_size (bn HB))); replace HO1138 := am (Kd.R_elder' (onR HO1138) (Kd.R_base ho0) hb); replace HO1144 := am (Kd.R_elder' (onR HO1144) (Kd.R_base ho0) hb); replace BK1141 := bb BK1141 hb; replace HB := bs HB hb; (try clear hb); (try clear ho0)))
    (try simp only [Act.put, List.setIfInBounds_toArray, List.set_cons_zero, List.set_cons_succ])
    go_cut [56] (fun v56 wc => ∃ (kq : Nat) (x56_8 : Bool), v56 = .bool x56_8 ∧ Aside0 (laws_FnFlowCutTie.j1 kq l1 t1139 t1140 t1142 t1145 t1146 t1149 x56_8 t1135 t1136 = some r) ∧ Aside0 (kq ≤ kj2) ∧ Aside0 (Kd.R k73 73 wc w.heap.size (fun k_ => some k_ ≠ (v1147 : Value).ownBlock ∧ some k_ ≠ ((.slice Ao13 t1136.length co13) : Value).ownBlock) v1143 t1142) ∧ Aside0 (Kd.R k73 73 wc w.heap.size (fun k_ => some k_ ≠ (v1143 : Value).ownBlock ∧ some k_ ≠ ((.slice Ao13 t1136.length co13) : Value).ownBlock) v1147 t1146) ∧ Aside0 (Kd.R k73 73 wc w.heap.size (fun k_ => some k_ ≠ (v1143 : Value).ownBlock ∧ some k_ ≠ (v1147 : Value).ownBlock) (.slice Ao13 t1136.length co13) t1136) ∧ Aside0 (wc.heap[gb1141]? = some (.cells #[.int .i64 t1135, (.slice Ao13 t1136.length co13)] 34 (0, 0))) ∧ Aside0 (Below w.heap.size w wc))
    case first =>
     have H := HC9.out
     clear HC9
     by_cases c17 : (t1149 != t1145) = true
     ·rw [if_pos c17] at H
      have c17b0 : (t1149 != t1145) = true := c17
      (try (have c17b1 : decide (t1149 = t1145) = false := by simpa using c17))
      (try (have c17b2 : (t1149 == t1145) = false := by simpa using c17))
      (try (have c17b3 : ¬ (t1149 = t1145) := by simpa using c17))
      clear c17
      (first | rw [c17b0] | (simp only [i64_w, i32_w]; rw [c17b0]) | skip)
      have H' := am H
      clear H
      go_wp2
      go_meet
      case rel => exact ⟨_, (true), (by first | rfl | (simp; done) | (simp [*]; done)), H', ⟨by have := HJ2.out; first | omega | exact Nat.le_refl _⟩, ⟨by (with_reducible repeat (first | apply Kd.R_alloc | apply Kd.R_drewN | apply Kd.R_drew)); exact Kd.R_mono HO1144.out (fun _ hk => ⟨hk.2, hk.1.2⟩)⟩, ⟨by (with_reducible repeat (first | apply Kd.R_alloc | apply Kd.R_drewN | apply Kd.R_drew)); exact Kd.R_mono HO1148.out (fun _ hk => ⟨hk.2, hk.1.2⟩)⟩, ⟨by (with_reducible repeat (first | apply Kd.R_alloc | apply Kd.R_drewN | apply Kd.R_drew)); exact Kd.R_mono HO1138.out (fun _ hk => ⟨hk.1.2, hk.2⟩)⟩, ⟨bkn BK1141⟩, ⟨bn HB⟩⟩
     ·rw [if_neg c17] at H
      have c17b0 : (t1149 != t1145) = false := by simpa using c17
      (try (have c17b1 : decide (t1149 = t1145) = true := by simpa using c17))
      (try (have c17b2 : (t1149 == t1145) = true := by simpa using c17))
      clear c17
      (first | rw [c17b0] | (simp only [i64_w, i32_w]; rw [c17b0]) | skip)
      replace H := Option.bind_eq_some_iff.mp H
      obtain ⟨t1150, A180, H⟩ := H
      (try dsimp only at H)
      have A18 := am A180
      clear A180
      by_cases c19 : t1150 = true
      ·subst c19
       rw [if_pos rfl] at H
       have H' := am H
       clear H
       obtain ⟨Ao20, co20, eo20⟩ := Kd.R_slice HO1148.out
       subst eo20
       obtain ⟨Ao21, co21, eo21⟩ := Kd.R_slice HO1144.out
       subst eo21
       go_wp2_with (first | (go_at_call 57; (with_reducible refine (laws_loTies.calls kj2 _ _ t1146 _ _ t1142 true _ ?side1 ?side2 ?side3 ?side4 A18.out).mono ?_); (case side1 => exact (Kd.R_reads' (onR HO1148)).2.2); (case side2 => exact (Kd.R_reads' HO1148.out).2.1); (case side3 => exact (Kd.R_reads' (onR HO1144)).2.2); (case side4 => exact (Kd.R_reads' HO1144.out).2.1); rintro e w' ⟨rfl, ⟨nd, rfl⟩⟩))
       go_meet
       case rel => exact ⟨_, (((t1146.length : Int) == 0)), (by first | rfl | (simp; done) | (simp [*]; done)), H', ⟨by have := HJ2.out; first | omega | exact Nat.le_refl _⟩, ⟨by (with_reducible repeat (first | apply Kd.R_alloc | apply Kd.R_drewN | apply Kd.R_drew)); exact Kd.R_mono HO1144.out (fun _ hk => ⟨hk.2, hk.1.2⟩)⟩, ⟨by (with_reducible repeat (first | apply Kd.R_alloc | apply Kd.R_drewN | apply Kd.R_drew)); exact Kd.R_mono HO1148.out (fun _ hk => ⟨hk.2, hk.1.2⟩)⟩, ⟨by (with_reducible repeat (first | apply Kd.R_alloc | apply Kd.R_drewN | apply Kd.R_drew)); exact Kd.R_mono HO1138.out (fun _ hk => ⟨hk.1.2, hk.2⟩)⟩, ⟨bkn BK1141⟩, ⟨bn HB⟩⟩
      ·replace c19 := Bool.eq_false_iff.mpr c19
       subst c19
       rw [if_neg (show ¬ (false = true) by decide)] at H
       have H' := am H
       clear H
       obtain ⟨Ao22, co22, eo22⟩ := Kd.R_slice HO1148.out
       subst eo22
       obtain ⟨Ao23, co23, eo23⟩ := Kd.R_slice HO1144.out
       subst eo23
       go_wp2_with (first | (go_at_call 57; (with_reducible refine (laws_loTies.calls kj2 _ _ t1146 _ _ t1142 false _ ?side1 ?side2 ?side3 ?side4 A18.out).mono ?_); (case side1 => exact (Kd.R_reads' (onR HO1148)).2.2); (case side2 => exact (Kd.R_reads' HO1148.out).2.1); (case side3 => exact (Kd.R_reads' (onR HO1144)).2.2); (case side4 => exact (Kd.R_reads' HO1144.out).2.1); rintro e w' ⟨rfl, ⟨nd, rfl⟩⟩))
       go_meet
       case rel => exact ⟨_, (true), (by first | rfl | (simp; done) | (simp [*]; done)), H', ⟨by have := HJ2.out; first | omega | exact Nat.le_refl _⟩, ⟨by (with_reducible repeat (first | apply Kd.R_alloc | apply Kd.R_drewN | apply Kd.R_drew)); exact Kd.R_mono HO1144.out (fun _ hk => ⟨hk.2, hk.1.2⟩)⟩, ⟨by (with_reducible repeat (first | apply Kd.R_alloc | apply Kd.R_drewN | apply Kd.R_drew)); exact Kd.R_mono HO1148.out (fun _ hk => ⟨hk.2, hk.1.2⟩)⟩, ⟨by (with_reducible repeat (first | apply Kd.R_alloc | apply Kd.R_drewN | apply Kd.R_drew)); exact Kd.R_mono HO1138.out (fun _ hk => ⟨hk.1.2, hk.2⟩)⟩, ⟨bkn BK1141⟩, ⟨bn HB⟩⟩
    case rest =>
     clear HC9
     try clear c1
     try clear p2
     try clear c4
     try clear c4b0
     try clear c4b1
     try clear c5
     try clear c7
     try clear c17
     try clear c17b0
     try clear c17b1
     try clear c17b2
     try clear c19
     try clear hcz12_0 hcz12_1 hfz12_0 hfz12_1
     try clear hcz15_0 hcz15_1 hfz15_0 hfz15_1
     try clear p2
     obtain ⟨kq, x56_8, rfl, HA, HJ8, HO_8, HO_10, HO_1142001, BK1141, HB⟩ := hcut
     cases kq with
     | zero => exact absurd HA.out (by simp [laws_FnFlowCutTie.j1])
     | succ kj8 =>
      have H := HA.out
      clear HA
      simp only [laws_FnFlowCutTie.j1] at H
      by_cases c24 : x56_8 = true
      ·subst c24
       rw [if_pos rfl] at H
       by_cases c25 : (t1149 == t1145) = true
       ·rw [if_pos c25] at H
        have c25b0 : (t1149 == t1145) = true := c25
        (try (have c25b1 : decide (t1149 = t1145) = true := by simpa using c25))
        (try (have c25b2 : (t1149 == t1145) = true := by simpa using c25))
        clear c25
        replace H := Option.bind_eq_some_iff.mp H
        obtain ⟨t1151, A260, H⟩ := H
        (try dsimp only at H)
        have A26 := am A260
        clear A260
        obtain rfl := Option.some.inj H
        obtain ⟨Ao27, co27, eo27⟩ := Kd.R_slice HO_10.out
        subst eo27
        obtain ⟨Ao28, co28, eo28⟩ := Kd.R_slice HO_8.out
        subst eo28
        go_wp2_with (first | (go_at_call 57; (with_reducible refine (laws_loTies.calls kj8 _ _ t1146 _ _ t1142 t1151 _ ?side1 ?side2 ?side3 ?side4 A26.out).mono ?_); (case side1 => exact (Kd.R_reads' (onR HO_10)).2.2); (case side2 => exact (Kd.R_reads' HO_10.out).2.1); (case side3 => exact (Kd.R_reads' (onR HO_8)).2.2); (case side4 => exact (Kd.R_reads' HO_8.out).2.1); rintro e w' ⟨rfl, ⟨nd, rfl⟩⟩))
        go_ret
        exact ⟨by first | rfl | (simp [errW_none, errW_some] <;> rfl) | (simp [*, errW_none, errW_some] <;> rfl), bn HB⟩
       ·rw [if_neg c25] at H
        have c25b0 : (t1149 == t1145) = false := by simpa using c25
        (try (have c25b1 : decide (t1149 = t1145) = false := by simpa using c25))
        (try (have c25b2 : (t1149 == t1145) = false := by simpa using c25))
        (try (have c25b3 : ¬ (t1149 = t1145) := by simpa using c25))
        clear c25
        exact absurd (Option.some.inj H) (by rw [hrt.out]; decide)
      ·replace c24 := Bool.eq_false_iff.mpr c24
       subst c24
       rw [if_neg (show ¬ (false = true) by decide)] at H
       by_cases c29 : (t1146.length : Int) = 0
       ·rw [if_pos c29] at H
        exact absurd H (by simp)
       ·rw [if_neg c29] at H
        have c29b0 : ((t1146.length : Int) == 0) = false := beq_eq_false_iff_ne.mpr c29
        have c29b1 : ((t1146.length : Int) != 0) = true := bne_iff_ne.mpr c29
        have c29b2 : ¬ (t1146 = []) := fun h_ => c29 (by rw [h_]; rfl)
        obtain ⟨ji30, hji30⟩ : ∃ j_ : Int, ((l1.length : Int) % (t1146.length : Int)) = j_ := ⟨_, rfl⟩
        replace H : (if 0 ≤ (ji30) then (if (ji30) < (t1146.length : Int) then ((impl_NetCut.f kj8 t1135 t1136 ((rd_T73 t1146 (ji30)).f0) ((rd_T73 t1146 (ji30)).f1)).bind fun bt1154 => (if bt1154.2.2 = true then ((impl_FlowCount.f kj8 bt1154.1 bt1154.2.1 t1139 t1140).bind fun t1160 => (some (t1160 == (wrap64 ((t1146.length : Int) - 1))))) else (some false))) else (none)) else (none)) = some r := by first | (rw [hji30] at H; exact H) | (simp only [hji30] at H ⊢; exact H)
        obtain ⟨c31, H⟩ := ig_ H
        have c31b0 := decide_eq_true c31
        clear c31
        obtain ⟨c32, H⟩ := ig_ H
        have c32b0 := decide_eq_true c32
        clear c32
        replace H := Option.bind_eq_some_iff.mp H
        obtain ⟨⟨t1154, t1155, t1158⟩, A330, H⟩ := H
        (try dsimp only at H)
        have A33 := am A330
        clear A330
        by_cases c34 : t1158 = true
        ·subst c34
         rw [if_pos rfl] at H
         replace H := Option.bind_eq_some_iff.mp H
         obtain ⟨t1160, A350, H⟩ := H
         (try dsimp only at H)
         have A35 := am A350
         clear A350
         obtain rfl := Option.some.inj H
         obtain ⟨Ao36, co36, eo36⟩ := Kd.R_slice HO_10.out
         subst eo36
         have p1152 : 0 ≤ ((ji30) : Int) := oa
         have q1152 : (ji30) < (t1146.length : Int) := oa
         obtain ⟨ad1152, e1152, hx1152_0, hx1152_1⟩ := at_T73 (Kd.R_reads' HO_10.out).2.2 (ji30) p1152 q1152
         cases e1152
         replace p1152 := eq_true p1152
         replace q1152 := eq_true q1152
         go_wp2_with (first | ((with_reducible refine gate_dst (N := 12) rfl ?_); refine be_ 12 #[.int .i64 0, .int .i64 0] 73 ?_; intro gb1153 hg w37 hbox hb; replace HO_8 := am (Kd.R_below (Kd.R_elderB (onR HO_8) gb1153 (Nat.le_of_eq hg.symm)) hb); replace HO_10 := am (Kd.R_below (Kd.R_elderB (onR HO_10) gb1153 (Nat.le_of_eq hg.symm)) hb); replace HO_1142001 := am (Kd.R_below (Kd.R_elderB (onR HO_1142001) gb1153 (Nat.le_of_eq hg.symm)) hb); have BK1153 := am hbox; have GW1153 := am (ge_ hg HB); have GE1153 := am (ge_ hg HB); replace HB := bs HB hb; obtain ⟨NB1141_1153, NB1153_1141⟩ := nb_ hg BK1141; replace BK1141 := bb BK1141 hb; clear hb hbox hg; obtain ⟨hnb38, hnc38⟩ := n2 NB1153_1141 NB1141_1153; obtain ⟨hcz39_0, hcz39_1, hfz39_0, hfz39_1⟩ := c2 BK1153; obtain ⟨hcz40_0, hcz40_1, hfz40_0, hfz40_1⟩ := c2 BK1141) | ((with_reducible refine gate_callee (f := 71) rfl ?_); refine goesL_ (some 79) rfl rfl Try.func71 (by kernel_rfl) rfl #[.agg #[.int .i64 t1135, .slice Ao13 t1136.length co13], .int .i64 ((rd_T73 t1146 (ji30)).f0), .int .i64 ((rd_T73 t1146 (ji30)).f1)] rfl (by (try simp only [List.map_toArray, List.map_cons, List.map_nil]); first | done | (simp only [hji30]; rfl) | rfl | (simp only [List.length_drop, List.length_take]; rfl)) ?_; (with_reducible refine (impl_NetCut.calls kj8 t1135 _ _ t1136 ((rd_T73 t1146 (ji30)).f0) ((rd_T73 t1146 (ji30)).f1) t1154 t1155 true _ ?side1 ?side2 A33.out).mono ?_); (case side1 => refine (Kd.R_reads' (e := 73) (base := w.heap.size) (ok := fun k_ => ((some k_ ≠ (v1143 : Value).ownBlock ∧ some k_ ≠ (.slice (some ad1152) t1146.length co36 : Value).ownBlock) ∧ k_ ≠ gb1153)) (n := t1136.length) (c := co13) ?_).2.2; exact (by (with_reducible repeat (first | apply Kd.R_alloc | apply Kd.R_drewN | apply Kd.R_drew)); exact (Kd.R_mono (Kd.R_far (p := ⟨gb1153, 1, none⟩) (Kd.R_far (p := ⟨gb1153, 0, none⟩) (Kd.R_mono HO_1142001.out (fun k_ hk => (⟨hk, hk.2⟩ : _ ∧ k_ ≠ gb1153))) (fun _ hk => hk.2) (.int .i64 ((rd_T73 t1146 (ji30)).f0))) (fun _ hk => hk.2) (.int .i64 ((rd_T73 t1146 (ji30)).f1))) (fun _ h_ => h_.1)))); (case side2 => exact (Kd.R_reads' HO_1142001.out).2.1); rintro e w41 ⟨v1156, rfl, ho0, hb⟩; refine ⟨_, rfl, ?_⟩; have HO1157 := am (Kd.R_lower (Kd.R_newB (Kd.R_new' (Kd.R_new' (Kd.R_new' ho0 (Kd.R_lt (by (with_reducible repeat (first | apply Kd.R_alloc | apply Kd.R_drewN | apply Kd.R_drew)); exact (Kd.R_mono (Kd.R_far (p := ⟨gb1153, 1, none⟩) (Kd.R_far (p := ⟨gb1153, 0, none⟩) (Kd.R_mono HO_8.out (fun k_ hk => (⟨hk, hk.2⟩ : _ ∧ k_ ≠ gb1153))) (fun _ hk => hk.2) (.int .i64 ((rd_T73 t1146 (ji30)).f0))) (fun _ hk => hk.2) (.int .i64 ((rd_T73 t1146 (ji30)).f1))) (fun _ h_ => h_.1))))) (Kd.R_lt (by (with_reducible repeat (first | apply Kd.R_alloc | apply Kd.R_drewN | apply Kd.R_drew)); exact (Kd.R_mono (Kd.R_far (p := ⟨gb1153, 1, none⟩) (Kd.R_far (p := ⟨gb1153, 0, none⟩) (Kd.R_mono HO_10.out (fun k_ hk => (⟨hk, hk.2⟩ : _ ∧ k_ ≠ gb1153))) (fun _ hk => hk.2) (.int .i64 ((rd_T73 t1146 (ji30)).f0))) (fun _ hk => hk.2) (.int .i64 ((rd_T73 t1146 (ji30)).f1))) (fun _ h_ => h_.1))))) (Kd.R_lt (by (with_reducible repeat (first | apply Kd.R_alloc | apply Kd.R_drewN | apply Kd.R_drew)); exact (Kd.R_mono (Kd.R_far (p := ⟨gb1153, 1, none⟩) (Kd.R_far (p := ⟨gb1153, 0, none⟩) (Kd.R_mono HO_1142001.out (fun k_ hk => (⟨hk, hk.2⟩ : _ ∧ k_ ≠ gb1153))) (fun _ hk => hk.2) (.int .i64 ((rd_T73 t1146 (ji30)).f0))) (fun _ hk => hk.2) (.int .i64 ((rd_T73 t1146 (ji30)).f1))) (fun _ h_ => h_.1))))) (g := gb1153) (o := .cells #[.int .i64 ((rd_T73 t1146 (ji30)).f0), .int .i64 ((rd_T73 t1146 (ji30)).f1)] 73 (0, 0)) (by (with_reducible repeat (first | refine blk_drewN ?_ _ | refine blk_drew ?_ | refine blk_alloc ?_ _)); refine blk_put (cs := #[.int .i64 ((rd_T73 t1146 (ji30)).f0), .int .i64 0]) ?_ 1 _ rfl; (with_reducible repeat (first | refine blk_drewN ?_ _ | refine blk_drew ?_ | refine blk_alloc ?_ _)); refine blk_put (cs := #[.int .i64 0, .int .i64 0]) ?_ 0 _ rfl; (with_reducible repeat (first | refine blk_drewN ?_ _ | refine blk_drew ?_ | refine blk_alloc ?_ _)); exact BK1153.out)) (below_size (bn HB))); replace HO_8 := am (Kd.R_elder' (by (with_reducible repeat (first | apply Kd.R_alloc | apply Kd.R_drewN | apply Kd.R_drew)); exact (Kd.R_mono (Kd.R_far (p := ⟨gb1153, 1, none⟩) (Kd.R_far (p := ⟨gb1153, 0, none⟩) (Kd.R_mono HO_8.out (fun k_ hk => (⟨hk, hk.2⟩ : _ ∧ k_ ≠ gb1153))) (fun _ hk => hk.2) (.int .i64 ((rd_T73 t1146 (ji30)).f0))) (fun _ hk => hk.2) (.int .i64 ((rd_T73 t1146 (ji30)).f1))) (fun _ h_ => h_.1))) (Kd.R_base ho0) hb); replace HO_10 := am (Kd.R_elder' (by (with_reducible repeat (first | apply Kd.R_alloc | apply Kd.R_drewN | apply Kd.R_drew)); exact (Kd.R_mono (Kd.R_far (p := ⟨gb1153, 1, none⟩) (Kd.R_far (p := ⟨gb1153, 0, none⟩) (Kd.R_mono HO_10.out (fun k_ hk => (⟨hk, hk.2⟩ : _ ∧ k_ ≠ gb1153))) (fun _ hk => hk.2) (.int .i64 ((rd_T73 t1146 (ji30)).f0))) (fun _ hk => hk.2) (.int .i64 ((rd_T73 t1146 (ji30)).f1))) (fun _ h_ => h_.1))) (Kd.R_base ho0) hb); replace HO_1142001 := am (Kd.R_elder' (by (with_reducible repeat (first | apply Kd.R_alloc | apply Kd.R_drewN | apply Kd.R_drew)); exact (Kd.R_mono (Kd.R_far (p := ⟨gb1153, 1, none⟩) (Kd.R_far (p := ⟨gb1153, 0, none⟩) (Kd.R_mono HO_1142001.out (fun k_ hk => (⟨hk, hk.2⟩ : _ ∧ k_ ≠ gb1153))) (fun _ hk => hk.2) (.int .i64 ((rd_T73 t1146 (ji30)).f0))) (fun _ hk => hk.2) (.int .i64 ((rd_T73 t1146 (ji30)).f1))) (fun _ h_ => h_.1))) (Kd.R_base ho0) hb); replace BK1141 := bb BK1141 hb; replace BK1153 := am (blk_below (g := gb1153) (o := .cells #[.int .i64 ((rd_T73 t1146 (ji30)).f0), .int .i64 ((rd_T73 t1146 (ji30)).f1)] 73 (0, 0)) (by (with_reducible repeat (first | refine blk_drewN ?_ _ | refine blk_drew ?_ | refine blk_alloc ?_ _)); refine blk_put (cs := #[.int .i64 ((rd_T73 t1146 (ji30)).f0), .int .i64 0]) ?_ 1 _ rfl; (with_reducible repeat (first | refine blk_drewN ?_ _ | refine blk_drew ?_ | refine blk_alloc ?_ _)); refine blk_put (cs := #[.int .i64 0, .int .i64 0]) ?_ 0 _ rfl; (with_reducible repeat (first | refine blk_drewN ?_ _ | refine blk_drew ?_ | refine blk_alloc ?_ _)); exact BK1153.out) hb); replace HB := bs HB hb; (try clear hb); (try clear ho0)) | ((with_reducible refine gate_dst (N := 13) rfl ?_); refine be_ 13 #[.int .i64 0, .slice none 0 0] 34 ?_; intro gb1159 hg w42 hbox hb; replace HO_8 := am (Kd.R_below (onR HO_8) hb); replace HO_10 := am (Kd.R_below (onR HO_10) hb); replace HO_1142001 := am (Kd.R_below (onR HO_1142001) hb); replace HO1157 := am (Kd.R_below (onR HO1157) hb); have BK1159 := am hbox; have GW1159 := am (ge_ hg HB); have GE1159 := am (ge_ hg HB); replace HB := bs HB hb; obtain ⟨NB1141_1159, NB1159_1141⟩ := nb_ hg BK1141; replace BK1141 := bb BK1141 hb; obtain ⟨NB1153_1159, NB1159_1153⟩ := nb_ hg BK1153; replace BK1153 := bb BK1153 hb; clear hb hbox hg; obtain ⟨hnb43, hnc43⟩ := n2 NB1159_1141 NB1141_1159; obtain ⟨hnb44, hnc44⟩ := n2 NB1159_1153 NB1153_1159; obtain ⟨hcz45_0, hcz45_1, hfz45_0, hfz45_1⟩ := c2 BK1159; obtain ⟨Ao46, co46, eo46⟩ := Kd.R_slice HO1157.out; subst eo46) | (go_at_call 33; (with_reducible refine (impl_FlowCount.calls kj8 t1154 _ _ t1155 t1139 t1140 t1160 _ ?side1 ?side2 A35.out).mono ?_); (case side1 => refine (Kd.R_reads' (e := 73) (base := w.heap.size) (ok := fun k_ => ((((True ∧ some k_ ≠ (v1143 : Value).ownBlock) ∧ some k_ ≠ (.slice (some ad1152) t1146.length co36 : Value).ownBlock) ∧ some k_ ≠ (.slice Ao13 t1136.length co13 : Value).ownBlock) ∧ k_ ≠ gb1153)) (n := t1155.length) (c := co46) ?_).2.2; exact (by (with_reducible repeat (first | apply Kd.R_alloc | apply Kd.R_drewN | apply Kd.R_drew)); exact (Kd.R_mono (Kd.R_far (p := ⟨gb1159, 1, none⟩) (Kd.R_far (p := ⟨gb1159, 0, none⟩) (Kd.R_types HO1157.out BK1159.out (by decide)) (fun _ hk => hk.2) (.int .i64 t1154)) (fun _ hk => hk.2) (.slice Ao46 t1155.length co46)) (fun _ h_ => h_.1)))); (case side2 => exact (Kd.R_reads' HO1157.out).2.1); rintro e w47 ⟨rfl, hb⟩; replace HO_8 := am (Kd.R_below (by (with_reducible repeat (first | apply Kd.R_alloc | apply Kd.R_drewN | apply Kd.R_drew)); exact (Kd.R_mono (Kd.R_far (p := ⟨gb1159, 1, none⟩) (Kd.R_far (p := ⟨gb1159, 0, none⟩) (Kd.R_types HO_8.out BK1159.out (by decide)) (fun _ hk => hk.2) (.int .i64 t1154)) (fun _ hk => hk.2) (.slice Ao46 t1155.length co46)) (fun _ h_ => h_.1))) hb); replace HO_10 := am (Kd.R_below (by (with_reducible repeat (first | apply Kd.R_alloc | apply Kd.R_drewN | apply Kd.R_drew)); exact (Kd.R_mono (Kd.R_far (p := ⟨gb1159, 1, none⟩) (Kd.R_far (p := ⟨gb1159, 0, none⟩) (Kd.R_types HO_10.out BK1159.out (by decide)) (fun _ hk => hk.2) (.int .i64 t1154)) (fun _ hk => hk.2) (.slice Ao46 t1155.length co46)) (fun _ h_ => h_.1))) hb); replace HO_1142001 := am (Kd.R_below (by (with_reducible repeat (first | apply Kd.R_alloc | apply Kd.R_drewN | apply Kd.R_drew)); exact (Kd.R_mono (Kd.R_far (p := ⟨gb1159, 1, none⟩) (Kd.R_far (p := ⟨gb1159, 0, none⟩) (Kd.R_types HO_1142001.out BK1159.out (by decide)) (fun _ hk => hk.2) (.int .i64 t1154)) (fun _ hk => hk.2) (.slice Ao46 t1155.length co46)) (fun _ h_ => h_.1))) hb); replace HO1157 := am (Kd.R_below (by (with_reducible repeat (first | apply Kd.R_alloc | apply Kd.R_drewN | apply Kd.R_drew)); exact (Kd.R_mono (Kd.R_far (p := ⟨gb1159, 1, none⟩) (Kd.R_far (p := ⟨gb1159, 0, none⟩) (Kd.R_types HO1157.out BK1159.out (by decide)) (fun _ hk => hk.2) (.int .i64 t1154)) (fun _ hk => hk.2) (.slice Ao46 t1155.length co46)) (fun _ h_ => h_.1))) hb); replace BK1141 := bb BK1141 hb; replace BK1153 := bb BK1153 hb; replace BK1159 := am (blk_below (g := gb1159) (o := .cells #[.int .i64 t1154, .slice Ao46 t1155.length co46] 34 (0, 0)) (by (with_reducible repeat (first | refine blk_drewN ?_ _ | refine blk_drew ?_ | refine blk_alloc ?_ _)); refine blk_put (cs := #[.int .i64 t1154, .slice none 0 0]) ?_ 1 _ rfl; (with_reducible repeat (first | refine blk_drewN ?_ _ | refine blk_drew ?_ | refine blk_alloc ?_ _)); refine blk_put (cs := #[.int .i64 0, .slice none 0 0]) ?_ 0 _ rfl; (with_reducible repeat (first | refine blk_drewN ?_ _ | refine blk_drew ?_ | refine blk_alloc ?_ _)); exact BK1159.out) hb); replace HB := bs HB hb; (try clear hb); (try clear hi)))
         go_ret
         exact ⟨by first | rfl | (simp [errW_none, errW_some] <;> rfl) | (simp only [← hji30]; first | rfl | (simp [errW_none, errW_some] <;> rfl)) | (simp [*, errW_none, errW_some] <;> rfl), bn HB⟩
        ·replace c34 := Bool.eq_false_iff.mpr c34
         subst c34
         rw [if_neg (show ¬ (false = true) by decide)] at H
         exact absurd (Option.some.inj H) (by rw [hrt.out]; decide)

/-- what is to be proved of laws_FnFlowCutTie, without Go -/
def laws_FnFlowCutTie.Pure : Prop := ∀ (l0 : List Int) (l1 : List Int), (l0.length ≤ maxLen ∧ ∀ l0_ ∈ l0, ((Lit.int .u8 l0_).wf = true)) → (l1.length ≤ maxLen ∧ ∀ l1_ ∈ l1, ((Lit.int .u8 l1_).wf = true)) → ∃ k, laws_FnFlowCutTie.f k l0 l1 = some true

end Go.Proofs.Ytdlnnjgjfngccaa.F
