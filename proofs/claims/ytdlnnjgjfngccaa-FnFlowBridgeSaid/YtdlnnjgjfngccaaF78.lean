-- Written by oprint.py (wip/tools) over the kit's print program, for this seat.
import Derived.Test.YtdlnnjgjfngccaaF0
import Derived.Test.YtdlnnjgjfngccaaF32
import Derived.Test.YtdlnnjgjfngccaaF38
import Derived.Test.YtdlnnjgjfngccaaF67
import Derived.Test.YtdlnnjgjfngccaaF8
import Derived.Test.YtdlnnjgjfngccaaF9
namespace Go.Proofs.Ytdlnnjgjfngccaa.F
open Go.RowKit Go.Proofs.YtdlnnjgjfngccaaW.PrintWords Go.Proofs.YtdlnnjgjfngccaaW.PrintLast Go.Proofs.YtdlnnjgjfngccaaW.PrintMore
attribute [local go_sem] max2_int min2_int max_two min_two max_three min_three max_four min_four   -- for this text's walks alone
set_option linter.unusedVariables false
set_option linter.unusedSimpArgs false

/-! ### impl_BridgeApart: function 72 -/
mutual
def impl_BridgeApart.j0 : Nat → Int → Int → Bool → Int → List (S73) → Option (Int × Int × Bool)
 | 0, _, _, _, _, _ => none
 | k + 1, x1, x2, x31, x1162000, x1162001 => if x31 = true then (some (0, 0, false)) else ((impl_Net_bridges.f k x1162000 x1162001).bind fun t1167 => (impl_BridgeApart.l0 k x1 x2 t1167 (t1167.length : Int) 0 x1162000 x1162001))
def impl_BridgeApart.l0 : Nat → Int → Int → List (S73) → Int → Int → Int → List (S73) → Option (Int × Int × Bool)
 | 0, _, _, _, _, _, _, _ => none
 | k + 1, x1, x2, x34, x35, x36, x1162000, x1162001 => if x36 < x35 then (if 0 ≤ x36 then (if x36 < (x34.length : Int) then ((impl_Net_less.f k x1162000 x1162001 (([(⟨(rd_T73 x34 x36).f0, (rd_T73 x34 x36).f1⟩ : S73)] : List (S73)))).bind fun bt1175 => ((impl_Net_joined.f k bt1175.1 bt1175.2 x1 x2).bind fun t1179 => (if t1179 = true then (impl_BridgeApart.l0 k x1 x2 x34 x35 (wrap64 (x36 + 1)) x1162000 x1162001) else (some ((rd_T73 x34 x36).f0, (rd_T73 x34 x36).f1, true))))) else (none)) else (none)) else (some (0, 0, false))
end
def impl_BridgeApart.f (k : Nat) (a0_0 : Int) (l0_1 : List (S73)) (a1 : Int) (a2 : Int) : Option (Int × Int × Bool) := (impl_NetOk.f k a0_0 l0_1).bind fun t1163 => (if t1163 = true then ((impl_Net_knot.f a0_0 l0_1 a1).bind fun t1164 => (if t1164 = true then ((impl_Net_knot.f a0_0 l0_1 a2).bind fun t1165 => (if t1165 = true then ((impl_Net_joined.f k a0_0 l0_1 a1 a2).bind fun t1166 => (impl_BridgeApart.j0 k a1 a2 (!t1166) a0_0 l0_1)) else (impl_BridgeApart.j0 k a1 a2 true a0_0 l0_1))) else (impl_BridgeApart.j0 k a1 a2 true a0_0 l0_1))) else (impl_BridgeApart.j0 k a1 a2 true a0_0 l0_1))
theorem impl_BridgeApart.mono_l : ∀ k, (∀ y0 y1 y2 y3 y4, LeO (impl_BridgeApart.j0 k y0 y1 y2 y3 y4) (impl_BridgeApart.j0 (k + 1) y0 y1 y2 y3 y4)) ∧ (∀ y0 y1 y2 y3 y4 y5 y6, LeO (impl_BridgeApart.l0 k y0 y1 y2 y3 y4 y5 y6) (impl_BridgeApart.l0 (k + 1) y0 y1 y2 y3 y4 y5 y6))
 | 0 => ⟨fun _ _ _ _ _ r h => by simp [impl_BridgeApart.j0] at h, fun _ _ _ _ _ _ _ r h => by simp [impl_BridgeApart.l0] at h⟩
 | k + 1 => by
  obtain ⟨ih0, ih1⟩ := impl_BridgeApart.mono_l k
  refine ⟨?_, ?_⟩
  ·intro y0 y1 y2 y3 y4
   unfold impl_BridgeApart.j0
   have m0_ := @impl_NetOk.mono
   have m1_ := @impl_Net_bridges.mono
   have m2_ := @impl_Net_joined.mono
   have m3_ := @impl_Net_less.mono
   exact mo_
  ·intro y0 y1 y2 y3 y4 y5 y6
   unfold impl_BridgeApart.l0
   have m0_ := @impl_NetOk.mono
   have m1_ := @impl_Net_bridges.mono
   have m2_ := @impl_Net_joined.mono
   have m3_ := @impl_Net_less.mono
   exact mo_
theorem impl_BridgeApart.mono : ∀ a0 a1 a2 a3 k, LeO (impl_BridgeApart.f k a0 a1 a2 a3) (impl_BridgeApart.f (k + 1) a0 a1 a2 a3) := by
 intro a0 a1 a2 a3 k
 obtain ⟨ih0, ih1⟩ := impl_BridgeApart.mono_l k
 unfold impl_BridgeApart.f
 have m0_ := @impl_NetOk.mono
 have m1_ := @impl_Net_bridges.mono
 have m2_ := @impl_Net_joined.mono
 have m3_ := @impl_Net_less.mono
 exact mo_
set_option maxHeartbeats 8000000 in
set_option maxRecDepth 100000 in
theorem impl_BridgeApart.calls (k : Nat) (a0_0 : Int) (A0_1 : Option Addr) (c0_1 : Nat) (l0_1 : List (S73)) (a1 : Int) (a2 : Int) (r1 : Int) (r2 : Int) (r3 : Bool) (w : World) (hr0_1 : Kd.C k73 w A0_1 l0_1.length l0_1) (hc0_1 : l0_1.length ≤ c0_1) (h : impl_BridgeApart.f k a0_0 l0_1 a1 a2 = some (r1, r2, r3)) :
  Calls Try.prog 72 #[.agg #[.int .i64 a0_0, .slice A0_1 l0_1.length c0_1], .int .i64 a1, .int .i64 a2] w fun e w' => e = .returned (.tuple #[.agg #[.int .i64 r1, .int .i64 r2], .bool r3]) ∧ Below w.heap.size w w' := by
 have hu34 := Try.underlying34
 have hu73 := Try.underlying73
 have HR0_1 := am hr0_1
 have HC0_1 := am hc0_1
 clear hr0_1 hc0_1
 have HB := am (Below.refl w.heap.size w)
 have H : ((impl_NetOk.f k a0_0 l0_1).bind fun t1163 => (if t1163 = true then ((impl_Net_knot.f a0_0 l0_1 a1).bind fun t1164 => (if t1164 = true then ((impl_Net_knot.f a0_0 l0_1 a2).bind fun t1165 => (if t1165 = true then ((impl_Net_joined.f k a0_0 l0_1 a1 a2).bind fun t1166 => (impl_BridgeApart.j0 k a1 a2 (!t1166) a0_0 l0_1)) else (impl_BridgeApart.j0 k a1 a2 true a0_0 l0_1))) else (impl_BridgeApart.j0 k a1 a2 true a0_0 l0_1))) else (impl_BridgeApart.j0 k a1 a2 true a0_0 l0_1))) = some (r1, r2, r3) := h
 clear h
 have HC4 := am H
 clear H
 go_enter Try.func72, Try.ntmps72
 go_upto_region 1 with (first | ((with_reducible refine gate_dst (N := 3) rfl ?_); refine be_ 3 #[.int .i64 a0_0, .slice A0_1 l0_1.length c0_1] 34 ?_; intro gb1161 hg w5 hbox hb; have BK1161 := am hbox; have GW1161 := am (ge_ hg HB); have GE1161 := am (ge_ hg HB); replace HB := bs HB hb; clear hb hbox hg) | ((with_reducible refine gate_dst (N := 6) rfl ?_); refine be_ 6 #[.int .i64 0, .int .i64 0] 73 ?_; intro gb1162 hg w6 hbox hb; have BK1162 := am hbox; have GW1162 := am (ge_ hg HB); have GE1162 := am (ge_ hg HB); replace HB := bs HB hb; obtain ⟨NB1161_1162, NB1162_1161⟩ := nb_ hg BK1161; replace BK1161 := bb BK1161 hb; clear hb hbox hg))
 (try simp only [Act.put, List.setIfInBounds_toArray, List.set_cons_zero, List.set_cons_succ])
 go_cut [31] (fun v31 wc => ∃ (kq : Nat) (x31_3 : Bool), v31 = .bool x31_3 ∧ Aside0 (impl_BridgeApart.j0 kq a1 a2 x31_3 a0_0 l0_1 = some (r1, r2, r3)) ∧ Aside0 (kq ≤ k) ∧ Aside0 (wc.heap[gb1161]? = some (.cells #[.int .i64 a0_0, (.slice A0_1 l0_1.length c0_1)] 34 (0, 0))) ∧ Aside0 (wc.heap[gb1162]? = some (.cells #[.int .i64 0, .int .i64 0] 73 (0, 0))) ∧ Aside0 (Below w.heap.size w wc))
 case first =>
  have H := HC4.out
  clear HC4
  replace H := Option.bind_eq_some_iff.mp H
  obtain ⟨t1163, A70, H⟩ := H
  (try dsimp only at H)
  have A7 := am A70
  clear A70
  by_cases c8 : t1163 = true
  ·subst c8
   rw [if_pos rfl] at H
   replace H := Option.bind_eq_some_iff.mp H
   obtain ⟨t1164, A90, H⟩ := H
   (try dsimp only at H)
   have A9 := am A90
   clear A90
   by_cases c10 : t1164 = true
   ·subst c10
    rw [if_pos rfl] at H
    replace H := Option.bind_eq_some_iff.mp H
    obtain ⟨t1165, A110, H⟩ := H
    (try dsimp only at H)
    have A11 := am A110
    clear A110
    by_cases c12 : t1165 = true
    ·subst c12
     rw [if_pos rfl] at H
     replace H := Option.bind_eq_some_iff.mp H
     obtain ⟨t1166, A130, H⟩ := H
     (try dsimp only at H)
     have A13 := am A130
     clear A130
     have H' := am H
     clear H
     obtain ⟨hnb14, hnc14⟩ := n2 NB1161_1162 NB1162_1161
     obtain ⟨hcz15_0, hcz15_1, hfz15_0, hfz15_1⟩ := c2 BK1161
     go_wp2_with (first | ((with_reducible refine gate_callee (f := 91) rfl ?_); refine gl_ (some 11) Try.func91 #[.agg #[.int .i64 a0_0, .slice A0_1 l0_1.length c0_1]] ?_; (with_reducible refine (impl_NetOk.calls k a0_0 _ _ l0_1 true _ ?side1 ?side2 A7.out).mono ?_); (case side1 => exact cb HR0_1 HB); (case side2 => exact HC0_1.out); rintro e w16 ⟨rfl, hb⟩; refine ⟨_, rfl, ?_⟩; replace BK1161 := bb BK1161 hb; replace BK1162 := bb BK1162 hb; replace HB := bs HB hb; (try clear hb); obtain ⟨hcz17_0, hcz17_1, hfz17_0, hfz17_1⟩ := c2 BK1161) | (go_at_call 120; (with_reducible refine (impl_Net_knot.calls a0_0 _ _ l0_1 a1 true _ ?side1 ?side2 A9.out).mono ?_); (case side1 => exact cb HR0_1 HB); (case side2 => exact HC0_1.out); rintro e w18 ⟨rfl, hb⟩; replace BK1161 := bb BK1161 hb; replace BK1162 := bb BK1162 hb; replace HB := bs HB hb; (try clear hb); obtain ⟨hcz19_0, hcz19_1, hfz19_0, hfz19_1⟩ := c2 BK1161) | (go_at_call 120; (with_reducible refine (impl_Net_knot.calls a0_0 _ _ l0_1 a2 true _ ?side1 ?side2 A11.out).mono ?_); (case side1 => exact cb HR0_1 HB); (case side2 => exact HC0_1.out); rintro e w20 ⟨rfl, hb⟩; replace BK1161 := bb BK1161 hb; replace BK1162 := bb BK1162 hb; replace HB := bs HB hb; (try clear hb); obtain ⟨hcz21_0, hcz21_1, hfz21_0, hfz21_1⟩ := c2 BK1161) | (go_at_call 99; (with_reducible refine (impl_Net_joined.calls k a0_0 _ _ l0_1 a1 a2 t1166 _ ?side1 ?side2 A13.out).mono ?_); (case side1 => exact cb HR0_1 HB); (case side2 => exact HC0_1.out); rintro e w22 ⟨rfl, hb⟩; replace BK1161 := bb BK1161 hb; replace BK1162 := bb BK1162 hb; replace HB := bs HB hb; (try clear hb); (try clear hi)))
     go_meet
     case rel => exact ⟨_, (!t1166), (by first | rfl | (simp; done) | (simp [*]; done)), H', ⟨by first | omega | exact Nat.le_refl _⟩, ⟨bkn BK1161⟩, ⟨bkn BK1162⟩, ⟨bn HB⟩⟩
    ·replace c12 := Bool.eq_false_iff.mpr c12
     subst c12
     rw [if_neg (show ¬ (false = true) by decide)] at H
     have H' := am H
     clear H
     obtain ⟨hnb23, hnc23⟩ := n2 NB1161_1162 NB1162_1161
     obtain ⟨hcz24_0, hcz24_1, hfz24_0, hfz24_1⟩ := c2 BK1161
     go_wp2_with (first | ((with_reducible refine gate_callee (f := 91) rfl ?_); refine gl_ (some 11) Try.func91 #[.agg #[.int .i64 a0_0, .slice A0_1 l0_1.length c0_1]] ?_; (with_reducible refine (impl_NetOk.calls k a0_0 _ _ l0_1 true _ ?side1 ?side2 A7.out).mono ?_); (case side1 => exact cb HR0_1 HB); (case side2 => exact HC0_1.out); rintro e w25 ⟨rfl, hb⟩; refine ⟨_, rfl, ?_⟩; replace BK1161 := bb BK1161 hb; replace BK1162 := bb BK1162 hb; replace HB := bs HB hb; (try clear hb); obtain ⟨hcz26_0, hcz26_1, hfz26_0, hfz26_1⟩ := c2 BK1161) | (go_at_call 120; (with_reducible refine (impl_Net_knot.calls a0_0 _ _ l0_1 a1 true _ ?side1 ?side2 A9.out).mono ?_); (case side1 => exact cb HR0_1 HB); (case side2 => exact HC0_1.out); rintro e w27 ⟨rfl, hb⟩; replace BK1161 := bb BK1161 hb; replace BK1162 := bb BK1162 hb; replace HB := bs HB hb; (try clear hb); obtain ⟨hcz28_0, hcz28_1, hfz28_0, hfz28_1⟩ := c2 BK1161) | (go_at_call 120; (with_reducible refine (impl_Net_knot.calls a0_0 _ _ l0_1 a2 false _ ?side1 ?side2 A11.out).mono ?_); (case side1 => exact cb HR0_1 HB); (case side2 => exact HC0_1.out); rintro e w29 ⟨rfl, hb⟩; replace BK1161 := bb BK1161 hb; replace BK1162 := bb BK1162 hb; replace HB := bs HB hb; (try clear hb); (try clear hi)))
     go_meet
     case rel => exact ⟨_, (true), (by first | rfl | (simp; done) | (simp [*]; done)), H', ⟨by first | omega | exact Nat.le_refl _⟩, ⟨bkn BK1161⟩, ⟨bkn BK1162⟩, ⟨bn HB⟩⟩
   ·replace c10 := Bool.eq_false_iff.mpr c10
    subst c10
    rw [if_neg (show ¬ (false = true) by decide)] at H
    have H' := am H
    clear H
    obtain ⟨hnb30, hnc30⟩ := n2 NB1161_1162 NB1162_1161
    obtain ⟨hcz31_0, hcz31_1, hfz31_0, hfz31_1⟩ := c2 BK1161
    go_wp2_with (first | ((with_reducible refine gate_callee (f := 91) rfl ?_); refine gl_ (some 11) Try.func91 #[.agg #[.int .i64 a0_0, .slice A0_1 l0_1.length c0_1]] ?_; (with_reducible refine (impl_NetOk.calls k a0_0 _ _ l0_1 true _ ?side1 ?side2 A7.out).mono ?_); (case side1 => exact cb HR0_1 HB); (case side2 => exact HC0_1.out); rintro e w32 ⟨rfl, hb⟩; refine ⟨_, rfl, ?_⟩; replace BK1161 := bb BK1161 hb; replace BK1162 := bb BK1162 hb; replace HB := bs HB hb; (try clear hb); obtain ⟨hcz33_0, hcz33_1, hfz33_0, hfz33_1⟩ := c2 BK1161) | (go_at_call 120; (with_reducible refine (impl_Net_knot.calls a0_0 _ _ l0_1 a1 false _ ?side1 ?side2 A9.out).mono ?_); (case side1 => exact cb HR0_1 HB); (case side2 => exact HC0_1.out); rintro e w34 ⟨rfl, hb⟩; replace BK1161 := bb BK1161 hb; replace BK1162 := bb BK1162 hb; replace HB := bs HB hb; (try clear hb); (try clear hi)))
    go_meet
    case rel => exact ⟨_, (true), (by first | rfl | (simp; done) | (simp [*]; done)), H', ⟨by first | omega | exact Nat.le_refl _⟩, ⟨bkn BK1161⟩, ⟨bkn BK1162⟩, ⟨bn HB⟩⟩
  ·replace c8 := Bool.eq_false_iff.mpr c8
   subst c8
   rw [if_neg (show ¬ (false = true) by decide)] at H
   have H' := am H
   clear H
   obtain ⟨hnb35, hnc35⟩ := n2 NB1161_1162 NB1162_1161
   obtain ⟨hcz36_0, hcz36_1, hfz36_0, hfz36_1⟩ := c2 BK1161
   go_wp2_with (first | ((with_reducible refine gate_callee (f := 91) rfl ?_); refine gl_ (some 11) Try.func91 #[.agg #[.int .i64 a0_0, .slice A0_1 l0_1.length c0_1]] ?_; (with_reducible refine (impl_NetOk.calls k a0_0 _ _ l0_1 false _ ?side1 ?side2 A7.out).mono ?_); (case side1 => exact cb HR0_1 HB); (case side2 => exact HC0_1.out); rintro e w37 ⟨rfl, hb⟩; refine ⟨_, rfl, ?_⟩; replace BK1161 := bb BK1161 hb; replace BK1162 := bb BK1162 hb; replace HB := bs HB hb; (try clear hb); (try clear hi)))
   go_meet
   case rel => exact ⟨_, (true), (by first | rfl | (simp; done) | (simp [*]; done)), H', ⟨by first | omega | exact Nat.le_refl _⟩, ⟨bkn BK1161⟩, ⟨bkn BK1162⟩, ⟨bn HB⟩⟩
 case rest =>
  clear HC4
  try clear c1
  try clear c2
  try clear p2
  try clear c3
  try clear c7
  try clear c8
  try clear c9
  try clear c10
  try clear c12
  try clear c14
  try clear c23
  try clear c30
  try clear c35
  try clear hcz15_0 hcz15_1 hfz15_0 hfz15_1
  try clear hcz17_0 hcz17_1 hfz17_0 hfz17_1
  try clear hcz19_0 hcz19_1 hfz19_0 hfz19_1
  try clear hcz21_0 hcz21_1 hfz21_0 hfz21_1
  try clear hcz24_0 hcz24_1 hfz24_0 hfz24_1
  try clear hcz26_0 hcz26_1 hfz26_0 hfz26_1
  try clear hcz28_0 hcz28_1 hfz28_0 hfz28_1
  try clear hcz31_0 hcz31_1 hfz31_0 hfz31_1
  try clear hcz33_0 hcz33_1 hfz33_0 hfz33_1
  try clear hcz36_0 hcz36_1 hfz36_0 hfz36_1
  obtain ⟨kq, x31_3, rfl, HA, HJ3, BK1161, BK1162, HB⟩ := hcut
  cases kq with
  | zero => exact absurd HA.out (by simp [impl_BridgeApart.j0])
  | succ kj3 =>
   have H := HA.out
   clear HA
   simp only [impl_BridgeApart.j0] at H
   by_cases c38 : x31_3 = true
   ·subst c38
    rw [if_pos rfl] at H
    simp only [Option.some.injEq, Prod.mk.injEq] at H
    obtain ⟨rfl, rfl, rfl⟩ := H
    obtain ⟨hnb39, hnc39⟩ := n2 NB1162_1161 NB1161_1162
    obtain ⟨hcz40_0, hcz40_1, hfz40_0, hfz40_1⟩ := c2 BK1162
    go_wp2
    refine bodyPost_ret (results_ct rfl _ _ gb1162 73 #[.int .i64 0, .int .i64 0] (0, 0) _ rfl (by (with_reducible repeat (first | refine blk_drewN ?_ _ | refine blk_drew ?_ | refine blk_alloc ?_ _)); refine blk_put (cs := #[.int .i64 0, .int .i64 0]) ?_ 1 _ rfl; (with_reducible repeat (first | refine blk_drewN ?_ _ | refine blk_drew ?_ | refine blk_alloc ?_ _)); refine blk_put (cs := #[.int .i64 0, .int .i64 0]) ?_ 0 _ rfl; (with_reducible repeat (first | refine blk_drewN ?_ _ | refine blk_drew ?_ | refine blk_alloc ?_ _)); exact BK1162.out) Try.underlying73 rfl (by kernel_rfl)) rfl ?_
    exact ⟨by first | rfl | (simp [errW_none, errW_some] <;> rfl) | (simp [*, errW_none, errW_some] <;> rfl), bn HB⟩
   ·replace c38 := Bool.eq_false_iff.mpr c38
    subst c38
    rw [if_neg (show ¬ (false = true) by decide)] at H
    replace H := Option.bind_eq_some_iff.mp H
    obtain ⟨t1167, A410, H⟩ := H
    (try dsimp only at H)
    have A41 := am A410
    clear A410
    have H' := am H
    clear H
    obtain ⟨hnb42, hnc42⟩ := n2 NB1161_1162 NB1162_1161
    obtain ⟨hcz43_0, hcz43_1, hfz43_0, hfz43_1⟩ := c2 BK1161
    go_wp2_with (first | ((with_reducible refine gate_callee (f := 117) rfl ?_); refine gl_ (some 34) Try.func117 #[.agg #[.int .i64 a0_0, .slice A0_1 l0_1.length c0_1]] ?_; (with_reducible refine (impl_Net_bridges.calls kj3 a0_0 _ _ l0_1 t1167 _ ?side1 ?side2 A41.out).mono ?_); (case side1 => exact cb HR0_1 HB); (case side2 => exact HC0_1.out); rintro e w44 ⟨v1168, rfl, ho0, hb⟩; refine ⟨_, rfl, ?_⟩; have HO1169 := am (Kd.R_lower (Kd.R_newB ho0 (bkn BK1162)) (below_size (bn HB))); replace BK1161 := bb BK1161 hb; replace BK1162 := bb BK1162 hb; replace HB := bs HB hb; (try clear hb); (try clear ho0); obtain ⟨Ao45, co45, eo45⟩ := Kd.R_slice HO1169.out; subst eo45))
    go_loopg [36] kj3 (fun kq v36 w' => ∃ (x36_2 : Int) (x1163000_2 : Int) (x1163001_2 : Int), v36 = .int .i64 x36_2 ∧ Aside0 (impl_BridgeApart.l0 kq a1 a2 t1167 (t1167.length : Int) x36_2 a0_0 l0_1 = some (r1, r2, r3)) ∧ Aside0 (kq ≤ kj3) ∧ Aside0 (Kd.R k73 73 w' w.heap.size (fun k_ => k_ ≠ gb1162) (.slice Ao45 t1167.length co45) t1167) ∧ Aside0 (w'.heap[gb1161]? = some (.cells #[.int .i64 a0_0, (.slice A0_1 l0_1.length c0_1)] 34 (0, 0))) ∧ Aside0 (w'.heap[gb1162]? = some (.cells #[.int .i64 x1163000_2, .int .i64 x1163001_2] 73 (0, 0))) ∧ Aside0 (Below w.heap.size w w'))
    case atStart => exact ⟨(0), (0), (0), (by first | rfl | (simp; done) | (simp [*]; done)), H', ⟨Nat.le_refl _⟩, ⟨by (with_reducible repeat (first | apply Kd.R_alloc | apply Kd.R_drewN | apply Kd.R_drew)); exact Kd.R_mono HO1169.out (fun _ hk => hk.2)⟩, ⟨bkn BK1161⟩, ⟨bkn BK1162⟩, ⟨bn HB⟩⟩
    case round =>
     clear H'
     try clear c1
     try clear c2
     try clear p2
     try clear c3
     try clear c4
     try clear c7
     try clear c8
     try clear c9
     try clear c10
     try clear c11
     try clear c12
     try clear c14
     try clear c23
     try clear c30
     try clear c35
     try clear c38
     try clear c39
     try clear c42
     try clear hcz15_0 hcz15_1 hfz15_0 hfz15_1
     try clear hcz17_0 hcz17_1 hfz17_0 hfz17_1
     try clear hcz19_0 hcz19_1 hfz19_0 hfz19_1
     try clear hcz21_0 hcz21_1 hfz21_0 hfz21_1
     try clear hcz24_0 hcz24_1 hfz24_0 hfz24_1
     try clear hcz26_0 hcz26_1 hfz26_0 hfz26_1
     try clear hcz28_0 hcz28_1 hfz28_0 hfz28_1
     try clear hcz31_0 hcz31_1 hfz31_0 hfz31_1
     try clear hcz33_0 hcz33_1 hfz33_0 hfz33_1
     try clear hcz36_0 hcz36_1 hfz36_0 hfz36_1
     try clear hcz40_0 hcz40_1 hfz40_0 hfz40_1
     try clear hcz43_0 hcz43_1 hfz43_0 hfz43_1
     try clear p2
     obtain ⟨x36_2, x1163000_2, x1163001_2, rfl, HA, HK2, HO_34, BK1161, BK1162, HB⟩ := hrel
     cases gk with
     | zero => exact absurd HA.out (by simp [impl_BridgeApart.l0])
     | succ k2 =>
      have H := HA.out
      clear HA
      simp only [impl_BridgeApart.l0] at H
      by_cases c46 : x36_2 < (t1167.length : Int)
      ·rw [if_pos c46] at H
       have c46b0 := decide_eq_true c46
       clear c46
       obtain ⟨c47, H⟩ := ig_ H
       have c47b0 := decide_eq_true c47
       clear c47
       obtain ⟨c48, H⟩ := ig_ H
       have c48b0 := decide_eq_true c48
       clear c48
       obtain ⟨y1172, hy1172⟩ : ∃ y_ : List (S73), y_ = (([(⟨(rd_T73 t1167 x36_2).f0, (rd_T73 t1167 x36_2).f1⟩ : S73)] : List (S73))) := ⟨_, rfl⟩
       replace H : ((impl_Net_less.f k2 a0_0 l0_1 y1172).bind fun bt1175 => ((impl_Net_joined.f k2 bt1175.1 bt1175.2 a1 a2).bind fun t1179 => (if t1179 = true then (impl_BridgeApart.l0 k2 a1 a2 t1167 (t1167.length : Int) (wrap64 (x36_2 + 1)) a0_0 l0_1) else (some ((rd_T73 t1167 x36_2).f0, (rd_T73 t1167 x36_2).f1, true))))) = some (r1, r2, r3) := nh_ hy1172 H
       have Ny1172 := am hy1172
       clear hy1172
       replace H := Option.bind_eq_some_iff.mp H
       obtain ⟨⟨t1175, t1176⟩, A490, H⟩ := H
       (try dsimp only at H)
       have A49 := am A490
       clear A490
       replace H := Option.bind_eq_some_iff.mp H
       obtain ⟨t1179, A500, H⟩ := H
       (try dsimp only at H)
       have A50 := am A500
       clear A500
       by_cases c51 : t1179 = true
       ·subst c51
        rw [if_pos rfl] at H
        have H' := am H
        clear H
        have p1170 : 0 ≤ (x36_2 : Int) := oa
        have q1170 : x36_2 < (t1167.length : Int) := oa
        obtain ⟨ad1170, e1170, hx1170_0, hx1170_1⟩ := at_T73 (Kd.R_reads' HO_34.out).2.2 x36_2 p1170 q1170
        cases e1170
        replace p1170 := eq_true p1170
        replace q1170 := eq_true q1170
        go_wp2_with (first | ((with_reducible refine gate_dst (N := 9) rfl ?_); refine be_ 9 #[.int .i64 0, .int .i64 0] 73 ?_; intro gb1171 hg w52 hbox hb; replace HO_34 := am (Kd.R_below (Kd.R_elderB (onR HO_34) gb1171 (Nat.le_of_eq hg.symm)) hb); have BK1171 := am hbox; have GW1171 := am (ge_ hg HB); have GE1171 := am (ge_ hg HB); replace HB := bs HB hb; obtain ⟨NB1161_1171, NB1171_1161⟩ := nb_ hg BK1161; replace BK1161 := bb BK1161 hb; obtain ⟨NB1162_1171, NB1171_1162⟩ := nb_ hg BK1162; replace BK1162 := bb BK1162 hb; clear hb hbox hg; obtain ⟨hnb53, hnc53⟩ := n2 NB1171_1161 NB1161_1171; obtain ⟨hnb54, hnc54⟩ := n2 NB1171_1162 NB1162_1171; obtain ⟨hcz55_0, hcz55_1, hfz55_0, hfz55_1⟩ := c2 BK1171; obtain ⟨hnb56, hnc56⟩ := n2 NB1161_1162 NB1162_1161; obtain ⟨hcz57_0, hcz57_1, hfz57_0, hfz57_1⟩ := c2 BK1161) | ((with_reducible refine gate_dst (N := 42) rfl ?_); refine Kd.R_lit k73 _ 73 ?hg (N := 42) ?hd (xs := ([(⟨(rd_T73 t1167 x36_2).f0, (rd_T73 t1167 x36_2).f1⟩ : S73)] : List (S73))) (inner := [.int .i64 ((rd_T73 t1167 x36_2).f0), .int .i64 ((rd_T73 t1167 x36_2).f1)]) (ok := fun _ => True) (okp := fun _ => True) ?hr ?hp (fun _ hk => hk) trivial (Below.refl _ _) (Nat.le_refl _) (by simp) ?_; (case hd => rfl); (case hg => rfl); (case hr => first | (go_simp; done) | (go_simp; rfl)); (case hp => exact (Reps.c2 (show Kd.M k73 _ _ _ (⟨(rd_T73 t1167 x36_2).f0, (rd_T73 t1167 x36_2).f1⟩ : S73) [.int .i64 ((rd_T73 t1167 x36_2).f0), .int .i64 ((rd_T73 t1167 x36_2).f1)] from (k73_mkM _ _ _ (⟨(rd_T73 t1167 x36_2).f0, (rd_T73 t1167 x36_2).f1⟩ : S73) )) (Reps.none _ _))); intro v1173 w58 ho59 hb hg_ hnew_; clear hg_ hnew_; (first | rw [← Ny1172.out] at ho59 | (simp only [Int.reduceToNat] at ho59; rw [← Ny1172.out] at ho59)); have HO1174 := am (Kd.R_lower (Kd.R_newB (Kd.R_newB (Kd.R_new' ho59 (Kd.R_lt (by (with_reducible repeat (first | apply Kd.R_alloc | apply Kd.R_drewN | apply Kd.R_drew)); exact (Kd.R_mono (Kd.R_far (p := ⟨gb1171, 1, none⟩) (Kd.R_far (p := ⟨gb1171, 0, none⟩) (Kd.R_mono HO_34.out (fun k_ hk => (⟨hk, hk.2⟩ : _ ∧ k_ ≠ gb1171))) (fun _ hk => hk.2) (.int .i64 ((rd_T73 t1167 x36_2).f0))) (fun _ hk => hk.2) (.int .i64 ((rd_T73 t1167 x36_2).f1))) (fun _ h_ => h_.1))))) (bkn BK1162)) (g := gb1171) (o := .cells #[.int .i64 ((rd_T73 t1167 x36_2).f0), .int .i64 ((rd_T73 t1167 x36_2).f1)] 73 (0, 0)) (by (with_reducible repeat (first | refine blk_drewN ?_ _ | refine blk_drew ?_ | refine blk_alloc ?_ _)); refine blk_put (cs := #[.int .i64 ((rd_T73 t1167 x36_2).f0), .int .i64 0]) ?_ 1 _ rfl; (with_reducible repeat (first | refine blk_drewN ?_ _ | refine blk_drew ?_ | refine blk_alloc ?_ _)); refine blk_put (cs := #[.int .i64 0, .int .i64 0]) ?_ 0 _ rfl; (with_reducible repeat (first | refine blk_drewN ?_ _ | refine blk_drew ?_ | refine blk_alloc ?_ _)); exact BK1171.out)) (below_size (bn HB))); replace HO_34 := am (Kd.R_elder' (by (with_reducible repeat (first | apply Kd.R_alloc | apply Kd.R_drewN | apply Kd.R_drew)); exact (Kd.R_mono (Kd.R_far (p := ⟨gb1171, 1, none⟩) (Kd.R_far (p := ⟨gb1171, 0, none⟩) (Kd.R_mono HO_34.out (fun k_ hk => (⟨hk, hk.2⟩ : _ ∧ k_ ≠ gb1171))) (fun _ hk => hk.2) (.int .i64 ((rd_T73 t1167 x36_2).f0))) (fun _ hk => hk.2) (.int .i64 ((rd_T73 t1167 x36_2).f1))) (fun _ h_ => h_.1))) (Kd.R_base ho59) hb); replace BK1161 := bb BK1161 hb; replace BK1162 := bb BK1162 hb; replace BK1171 := am (blk_below (g := gb1171) (o := .cells #[.int .i64 ((rd_T73 t1167 x36_2).f0), .int .i64 ((rd_T73 t1167 x36_2).f1)] 73 (0, 0)) (by (with_reducible repeat (first | refine blk_drewN ?_ _ | refine blk_drew ?_ | refine blk_alloc ?_ _)); refine blk_put (cs := #[.int .i64 ((rd_T73 t1167 x36_2).f0), .int .i64 0]) ?_ 1 _ rfl; (with_reducible repeat (first | refine blk_drewN ?_ _ | refine blk_drew ?_ | refine blk_alloc ?_ _)); refine blk_put (cs := #[.int .i64 0, .int .i64 0]) ?_ 0 _ rfl; (with_reducible repeat (first | refine blk_drewN ?_ _ | refine blk_drew ?_ | refine blk_alloc ?_ _)); exact BK1171.out) hb); replace HB := bs HB hb; clear hb ho59; obtain ⟨Ao60, co60, eo60⟩ := Kd.R_slice HO1174.out; subst eo60) | ((with_reducible refine gate_callee (f := 106) rfl ?_); refine gl_ (some 43) Try.func106 #[.agg #[.int .i64 a0_0, .slice A0_1 l0_1.length c0_1], .slice Ao60 y1172.length co60] ?_; (with_reducible refine (impl_Net_less.calls k2 a0_0 _ _ l0_1 _ _ y1172 t1175 t1176 _ ?side1 ?side2 ?side3 ?side4 A49.out).mono ?_); (case side1 => exact cb HR0_1 HB); (case side2 => exact HC0_1.out); (case side3 => exact (Kd.R_reads' (onR HO1174)).2.2); (case side4 => exact (Kd.R_reads' HO1174.out).2.1); rintro e w61 ⟨v1177, rfl, ho0, hb⟩; refine ⟨_, rfl, ?_⟩; have HO1178 := am (Kd.R_lower (Kd.R_newB (Kd.R_newB (Kd.R_new' (Kd.R_new' ho0 (Kd.R_lt (onR HO_34))) (Kd.R_lt (onR HO1174))) (bkn BK1162)) (bkn BK1171)) (below_size (bn HB))); replace HO_34 := am (Kd.R_elder' (onR HO_34) (Kd.R_base ho0) hb); replace HO1174 := am (Kd.R_elder' (onR HO1174) (Kd.R_base ho0) hb); replace BK1161 := bb BK1161 hb; replace BK1162 := bb BK1162 hb; replace BK1171 := bb BK1171 hb; replace HB := bs HB hb; (try clear hb); (try clear ho0); obtain ⟨Ao62, co62, eo62⟩ := Kd.R_slice HO1178.out; subst eo62) | ((with_reducible refine gate_callee (f := 99) rfl ?_); refine gl_ (some 46) Try.func99 #[.agg #[.int .i64 t1175, .slice Ao62 t1176.length co62], .int .i64 a1, .int .i64 a2] ?_; (with_reducible refine (impl_Net_joined.calls k2 t1175 _ _ t1176 a1 a2 true _ ?side1 ?side2 A50.out).mono ?_); (case side1 => exact (Kd.R_reads' (onR HO1178)).2.2); (case side2 => exact (Kd.R_reads' HO1178.out).2.1); rintro e w63 ⟨rfl, hb⟩; refine ⟨_, rfl, ?_⟩; replace HO_34 := am (Kd.R_below (onR HO_34) hb); replace HO1174 := am (Kd.R_below (onR HO1174) hb); replace HO1178 := am (Kd.R_below (onR HO1178) hb); replace BK1161 := bb BK1161 hb; replace BK1162 := bb BK1162 hb; replace BK1171 := bb BK1171 hb; replace HB := bs HB hb; (try clear hb); (try clear hi)))
        go_roundg k2
        case measure => have := HJ3.out; have := HK2.out; omega
        case rel => exact ⟨(wrap64 (x36_2 + 1)), (x1163000_2), (x1163001_2), (by first | rfl | (simp; done) | (simp [*]; done)), H', ⟨by have := HJ3.out; have := HK2.out; omega⟩, ⟨by (with_reducible repeat (first | apply Kd.R_alloc | apply Kd.R_drewN | apply Kd.R_drew)); exact Kd.R_mono HO_34.out (fun _ hk => hk.1.1.1)⟩, ⟨bkn BK1161⟩, ⟨bkn BK1162⟩, ⟨bn HB⟩⟩
       ·replace c51 := Bool.eq_false_iff.mpr c51
        subst c51
        rw [if_neg (show ¬ (false = true) by decide)] at H
        simp only [Option.some.injEq, Prod.mk.injEq] at H
        obtain ⟨rfl, rfl, rfl⟩ := H
        have p1170 : 0 ≤ (x36_2 : Int) := oa
        have q1170 : x36_2 < (t1167.length : Int) := oa
        obtain ⟨ad1170, e1170, hx1170_0, hx1170_1⟩ := at_T73 (Kd.R_reads' HO_34.out).2.2 x36_2 p1170 q1170
        cases e1170
        replace p1170 := eq_true p1170
        replace q1170 := eq_true q1170
        go_wp2_with (first | ((with_reducible refine gate_dst (N := 9) rfl ?_); refine be_ 9 #[.int .i64 0, .int .i64 0] 73 ?_; intro gb1171 hg w64 hbox hb; replace HO_34 := am (Kd.R_below (Kd.R_elderB (onR HO_34) gb1171 (Nat.le_of_eq hg.symm)) hb); have BK1171 := am hbox; have GW1171 := am (ge_ hg HB); have GE1171 := am (ge_ hg HB); replace HB := bs HB hb; obtain ⟨NB1161_1171, NB1171_1161⟩ := nb_ hg BK1161; replace BK1161 := bb BK1161 hb; obtain ⟨NB1162_1171, NB1171_1162⟩ := nb_ hg BK1162; replace BK1162 := bb BK1162 hb; clear hb hbox hg; obtain ⟨hnb65, hnc65⟩ := n2 NB1171_1161 NB1161_1171; obtain ⟨hnb66, hnc66⟩ := n2 NB1171_1162 NB1162_1171; obtain ⟨hcz67_0, hcz67_1, hfz67_0, hfz67_1⟩ := c2 BK1171; obtain ⟨hnb68, hnc68⟩ := n2 NB1161_1162 NB1162_1161; obtain ⟨hcz69_0, hcz69_1, hfz69_0, hfz69_1⟩ := c2 BK1161) | ((with_reducible refine gate_dst (N := 42) rfl ?_); refine Kd.R_lit k73 _ 73 ?hg (N := 42) ?hd (xs := ([(⟨(rd_T73 t1167 x36_2).f0, (rd_T73 t1167 x36_2).f1⟩ : S73)] : List (S73))) (inner := [.int .i64 ((rd_T73 t1167 x36_2).f0), .int .i64 ((rd_T73 t1167 x36_2).f1)]) (ok := fun _ => True) (okp := fun _ => True) ?hr ?hp (fun _ hk => hk) trivial (Below.refl _ _) (Nat.le_refl _) (by simp) ?_; (case hd => rfl); (case hg => rfl); (case hr => first | (go_simp; done) | (go_simp; rfl)); (case hp => exact (Reps.c2 (show Kd.M k73 _ _ _ (⟨(rd_T73 t1167 x36_2).f0, (rd_T73 t1167 x36_2).f1⟩ : S73) [.int .i64 ((rd_T73 t1167 x36_2).f0), .int .i64 ((rd_T73 t1167 x36_2).f1)] from (k73_mkM _ _ _ (⟨(rd_T73 t1167 x36_2).f0, (rd_T73 t1167 x36_2).f1⟩ : S73) )) (Reps.none _ _))); intro v1173 w70 ho71 hb hg_ hnew_; clear hg_ hnew_; (first | rw [← Ny1172.out] at ho71 | (simp only [Int.reduceToNat] at ho71; rw [← Ny1172.out] at ho71)); have HO1174 := am (Kd.R_lower (Kd.R_newB (Kd.R_newB (Kd.R_new' ho71 (Kd.R_lt (by (with_reducible repeat (first | apply Kd.R_alloc | apply Kd.R_drewN | apply Kd.R_drew)); exact (Kd.R_mono (Kd.R_far (p := ⟨gb1171, 1, none⟩) (Kd.R_far (p := ⟨gb1171, 0, none⟩) (Kd.R_mono HO_34.out (fun k_ hk => (⟨hk, hk.2⟩ : _ ∧ k_ ≠ gb1171))) (fun _ hk => hk.2) (.int .i64 ((rd_T73 t1167 x36_2).f0))) (fun _ hk => hk.2) (.int .i64 ((rd_T73 t1167 x36_2).f1))) (fun _ h_ => h_.1))))) (bkn BK1162)) (g := gb1171) (o := .cells #[.int .i64 ((rd_T73 t1167 x36_2).f0), .int .i64 ((rd_T73 t1167 x36_2).f1)] 73 (0, 0)) (by (with_reducible repeat (first | refine blk_drewN ?_ _ | refine blk_drew ?_ | refine blk_alloc ?_ _)); refine blk_put (cs := #[.int .i64 ((rd_T73 t1167 x36_2).f0), .int .i64 0]) ?_ 1 _ rfl; (with_reducible repeat (first | refine blk_drewN ?_ _ | refine blk_drew ?_ | refine blk_alloc ?_ _)); refine blk_put (cs := #[.int .i64 0, .int .i64 0]) ?_ 0 _ rfl; (with_reducible repeat (first | refine blk_drewN ?_ _ | refine blk_drew ?_ | refine blk_alloc ?_ _)); exact BK1171.out)) (below_size (bn HB))); replace HO_34 := am (Kd.R_elder' (by (with_reducible repeat (first | apply Kd.R_alloc | apply Kd.R_drewN | apply Kd.R_drew)); exact (Kd.R_mono (Kd.R_far (p := ⟨gb1171, 1, none⟩) (Kd.R_far (p := ⟨gb1171, 0, none⟩) (Kd.R_mono HO_34.out (fun k_ hk => (⟨hk, hk.2⟩ : _ ∧ k_ ≠ gb1171))) (fun _ hk => hk.2) (.int .i64 ((rd_T73 t1167 x36_2).f0))) (fun _ hk => hk.2) (.int .i64 ((rd_T73 t1167 x36_2).f1))) (fun _ h_ => h_.1))) (Kd.R_base ho71) hb); replace BK1161 := bb BK1161 hb; replace BK1162 := bb BK1162 hb; replace BK1171 := am (blk_below (g := gb1171) (o := .cells #[.int .i64 ((rd_T73 t1167 x36_2).f0), .int .i64 ((rd_T73 t1167 x36_2).f1)] 73 (0, 0)) (by (with_reducible repeat (first | refine blk_drewN ?_ _ | refine blk_drew ?_ | refine blk_alloc ?_ _)); refine blk_put (cs := #[.int .i64 ((rd_T73 t1167 x36_2).f0), .int .i64 0]) ?_ 1 _ rfl; (with_reducible repeat (first | refine blk_drewN ?_ _ | refine blk_drew ?_ | refine blk_alloc ?_ _)); refine blk_put (cs := #[.int .i64 0, .int .i64 0]) ?_ 0 _ rfl; (with_reducible repeat (first | refine blk_drewN ?_ _ | refine blk_drew ?_ | refine blk_alloc ?_ _)); exact BK1171.out) hb); replace HB := bs HB hb; clear hb ho71; obtain ⟨Ao72, co72, eo72⟩ := Kd.R_slice HO1174.out; subst eo72) | ((with_reducible refine gate_callee (f := 106) rfl ?_); refine gl_ (some 43) Try.func106 #[.agg #[.int .i64 a0_0, .slice A0_1 l0_1.length c0_1], .slice Ao72 y1172.length co72] ?_; (with_reducible refine (impl_Net_less.calls k2 a0_0 _ _ l0_1 _ _ y1172 t1175 t1176 _ ?side1 ?side2 ?side3 ?side4 A49.out).mono ?_); (case side1 => exact cb HR0_1 HB); (case side2 => exact HC0_1.out); (case side3 => exact (Kd.R_reads' (onR HO1174)).2.2); (case side4 => exact (Kd.R_reads' HO1174.out).2.1); rintro e w73 ⟨v1177, rfl, ho0, hb⟩; refine ⟨_, rfl, ?_⟩; have HO1178 := am (Kd.R_lower (Kd.R_newB (Kd.R_newB (Kd.R_new' (Kd.R_new' ho0 (Kd.R_lt (onR HO_34))) (Kd.R_lt (onR HO1174))) (bkn BK1162)) (bkn BK1171)) (below_size (bn HB))); replace HO_34 := am (Kd.R_elder' (onR HO_34) (Kd.R_base ho0) hb); replace HO1174 := am (Kd.R_elder' (onR HO1174) (Kd.R_base ho0) hb); replace BK1161 := bb BK1161 hb; replace BK1162 := bb BK1162 hb; replace BK1171 := bb BK1171 hb; replace HB := bs HB hb; (try clear hb); (try clear ho0); obtain ⟨Ao74, co74, eo74⟩ := Kd.R_slice HO1178.out; subst eo74) | ((with_reducible refine gate_callee (f := 99) rfl ?_); refine gl_ (some 46) Try.func99 #[.agg #[.int .i64 t1175, .slice Ao74 t1176.length co74], .int .i64 a1, .int .i64 a2] ?_; (with_reducible refine (impl_Net_joined.calls k2 t1175 _ _ t1176 a1 a2 false _ ?side1 ?side2 A50.out).mono ?_); (case side1 => exact (Kd.R_reads' (onR HO1178)).2.2); (case side2 => exact (Kd.R_reads' HO1178.out).2.1); rintro e w75 ⟨rfl, hb⟩; refine ⟨_, rfl, ?_⟩; replace HO_34 := am (Kd.R_below (onR HO_34) hb); replace HO1174 := am (Kd.R_below (onR HO1174) hb); replace HO1178 := am (Kd.R_below (onR HO1178) hb); replace BK1161 := bb BK1161 hb; replace BK1162 := bb BK1162 hb; replace BK1171 := bb BK1171 hb; replace HB := bs HB hb; (try clear hb); have hcz76_0 : w75.cell? ⟨gb1171, 0, none⟩ = some (.int .i64 ((rd_T73 t1167 x36_2).f0)) := (bc BK1171 0); have hcz76_1 : w75.cell? ⟨gb1171, 1, none⟩ = some (.int .i64 ((rd_T73 t1167 x36_2).f1)) := (bc BK1171 1); have hfz76_0 := blk_frozen BK1171.out 0; have hfz76_1 := blk_frozen BK1171.out 1; obtain ⟨hcz77_0, hcz77_1, hfz77_0, hfz77_1⟩ := c2 BK1162))
        refine bodyPost_ret (results_ct rfl _ _ gb1162 73 #[.int .i64 ((rd_T73 t1167 x36_2).f0), .int .i64 ((rd_T73 t1167 x36_2).f1)] (0, 0) _ rfl (by (with_reducible repeat (first | refine blk_drewN ?_ _ | refine blk_drew ?_ | refine blk_alloc ?_ _)); refine blk_put (cs := #[.int .i64 ((rd_T73 t1167 x36_2).f0), .int .i64 x1163001_2]) ?_ 1 _ rfl; (with_reducible repeat (first | refine blk_drewN ?_ _ | refine blk_drew ?_ | refine blk_alloc ?_ _)); refine blk_put (cs := #[.int .i64 x1163000_2, .int .i64 x1163001_2]) ?_ 0 _ rfl; (with_reducible repeat (first | refine blk_drewN ?_ _ | refine blk_drew ?_ | refine blk_alloc ?_ _)); exact BK1162.out) Try.underlying73 rfl (by kernel_rfl)) rfl ?_
        exact ⟨by first | rfl | (simp [errW_none, errW_some] <;> rfl) | (simp [*, errW_none, errW_some] <;> rfl), bn HB⟩
      ·rw [if_neg c46] at H
       have c46b0 := decide_eq_false c46
       clear c46
       simp only [Option.some.injEq, Prod.mk.injEq] at H
       obtain ⟨rfl, rfl, rfl⟩ := H
       obtain ⟨hnb78, hnc78⟩ := n2 NB1162_1161 NB1161_1162
       obtain ⟨hcz79_0, hcz79_1, hfz79_0, hfz79_1⟩ := c2 BK1162
       go_wp2
       refine bodyPost_ret (results_ct rfl _ _ gb1162 73 #[.int .i64 0, .int .i64 0] (0, 0) _ rfl (by (with_reducible repeat (first | refine blk_drewN ?_ _ | refine blk_drew ?_ | refine blk_alloc ?_ _)); refine blk_put (cs := #[.int .i64 0, .int .i64 x1163001_2]) ?_ 1 _ rfl; (with_reducible repeat (first | refine blk_drewN ?_ _ | refine blk_drew ?_ | refine blk_alloc ?_ _)); refine blk_put (cs := #[.int .i64 x1163000_2, .int .i64 x1163001_2]) ?_ 0 _ rfl; (with_reducible repeat (first | refine blk_drewN ?_ _ | refine blk_drew ?_ | refine blk_alloc ?_ _)); exact BK1162.out) Try.underlying73 rfl (by kernel_rfl)) rfl ?_
       exact ⟨by first | rfl | (simp [errW_none, errW_some] <;> rfl) | (simp [*, errW_none, errW_some] <;> rfl), bn HB⟩

end Go.Proofs.Ytdlnnjgjfngccaa.F
