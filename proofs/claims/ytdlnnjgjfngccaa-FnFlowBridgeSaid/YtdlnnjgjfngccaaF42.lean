-- Written by oprint.py (wip/tools) over the kit's print program, for this seat.
import Derived.Test.YtdlnnjgjfngccaaF0
import Derived.Test.YtdlnnjgjfngccaaF13
import Derived.Test.YtdlnnjgjfngccaaF17
import Derived.Test.YtdlnnjgjfngccaaF19
import Derived.Test.YtdlnnjgjfngccaaF20
namespace Go.Proofs.Ytdlnnjgjfngccaa.F
open Go.RowKit Go.Proofs.YtdlnnjgjfngccaaW.PrintWords Go.Proofs.YtdlnnjgjfngccaaW.PrintLast Go.Proofs.YtdlnnjgjfngccaaW.PrintMore
attribute [local go_sem] max2_int min2_int max_two min_two max_three min_three max_four min_four   -- for this text's walks alone
set_option linter.unusedVariables false
set_option linter.unusedSimpArgs false

/-! ### spec_NetAdd: function 127 -/
mutual
def spec_NetAdd.j0 : Nat → Int → Int → Bool → Int → List (S73) → Option (Int × (List (S73)) × Bool)
 | 0, _, _, _, _, _ => none
 | k + 1, x1, x2, x32, x570000, x570001 => if x32 = true then (some (0, ([] : List (S73)), false)) else ((spec_l1Tie.f x1 x2).bind fun bt575 => (spec_NetAdd.l0 k false 0 x570000 x570001 x570000 ([] : List (S73)) bt575.1 bt575.2))
def spec_NetAdd.l0 : Nat → Bool → Int → Int → List (S73) → Int → List (S73) → Int → Int → Option (Int × (List (S73)) × Bool)
 | 0, _, _, _, _, _, _, _, _ => none
 | k + 1, x10, x11, x570000, x570001, x575000, x575001, x578000, x578001 => if x11 < (x570001.length : Int) then (if x10 = true then (if 0 ≤ x11 then (if x575001.length < 8796093022208 then (spec_NetAdd.l0 k x10 (wrap64 (x11 + 1)) x570000 x570001 x575000 (x575001 ++ [(⟨(rd_T73 x570001 x11).f0, (rd_T73 x570001 x11).f1⟩ : S73)]) x578000 x578001) else (none)) else (none)) else (if 0 ≤ x11 then ((spec_l1Less.f x578000 x578001 ((rd_T73 x570001 x11).f0) ((rd_T73 x570001 x11).f1)).bind fun t583 => (if t583 = true then (if x575001.length < 8796093022208 then ((some (x575001 ++ [(⟨x578000, x578001⟩ : S73)] : List (S73))).bind fun y584 => (if y584.length < 8796093022208 then (spec_NetAdd.l0 k true (wrap64 (x11 + 1)) x570000 x570001 x575000 (y584 ++ [(⟨(rd_T73 x570001 x11).f0, (rd_T73 x570001 x11).f1⟩ : S73)]) x578000 x578001) else (none))) else (none)) else (if x575001.length < 8796093022208 then (spec_NetAdd.l0 k x10 (wrap64 (x11 + 1)) x570000 x570001 x575000 (x575001 ++ [(⟨(rd_T73 x570001 x11).f0, (rd_T73 x570001 x11).f1⟩ : S73)]) x578000 x578001) else (none)))) else (none))) else (if x10 = true then (some (x575000, x575001, true)) else (if x575001.length < 8796093022208 then (some (x575000, (x575001 ++ [(⟨x578000, x578001⟩ : S73)]), true)) else (none)))
end
def spec_NetAdd.f (k : Nat) (a0_0 : Int) (l0_1 : List (S73)) (a1 : Int) (a2 : Int) : Option (Int × (List (S73)) × Bool) := (spec_l1Knot.f k a0_0 l0_1 a1).bind fun t571 => (if t571 = true then ((spec_l1Knot.f k a0_0 l0_1 a2).bind fun t572 => (if t572 = true then (if a1 = a2 then (spec_NetAdd.j0 k a1 a2 true a0_0 l0_1) else ((spec_NetHas.f k a0_0 l0_1 a1 a2).bind fun t573 => (spec_NetAdd.j0 k a1 a2 t573 a0_0 l0_1))) else (spec_NetAdd.j0 k a1 a2 true a0_0 l0_1))) else (spec_NetAdd.j0 k a1 a2 true a0_0 l0_1))
theorem spec_NetAdd.mono_l : ∀ k, (∀ y0 y1 y2 y3 y4, LeO (spec_NetAdd.j0 k y0 y1 y2 y3 y4) (spec_NetAdd.j0 (k + 1) y0 y1 y2 y3 y4)) ∧ (∀ y0 y1 y2 y3 y4 y5 y6 y7, LeO (spec_NetAdd.l0 k y0 y1 y2 y3 y4 y5 y6 y7) (spec_NetAdd.l0 (k + 1) y0 y1 y2 y3 y4 y5 y6 y7))
 | 0 => ⟨fun _ _ _ _ _ r h => by simp [spec_NetAdd.j0] at h, fun _ _ _ _ _ _ _ _ r h => by simp [spec_NetAdd.l0] at h⟩
 | k + 1 => by
  obtain ⟨ih0, ih1⟩ := spec_NetAdd.mono_l k
  refine ⟨?_, ?_⟩
  ·intro y0 y1 y2 y3 y4
   unfold spec_NetAdd.j0
   have m0_ := @spec_NetHas.mono
   have m1_ := @spec_l1Knot.mono
   exact mo_
  ·intro y0 y1 y2 y3 y4 y5 y6 y7
   unfold spec_NetAdd.l0
   have m0_ := @spec_NetHas.mono
   have m1_ := @spec_l1Knot.mono
   exact mo_
theorem spec_NetAdd.mono : ∀ a0 a1 a2 a3 k, LeO (spec_NetAdd.f k a0 a1 a2 a3) (spec_NetAdd.f (k + 1) a0 a1 a2 a3) := by
 intro a0 a1 a2 a3 k
 obtain ⟨ih0, ih1⟩ := spec_NetAdd.mono_l k
 unfold spec_NetAdd.f
 have m0_ := @spec_NetHas.mono
 have m1_ := @spec_l1Knot.mono
 exact mo_
def spec_NetAdd.T9 : Bool × List (List Nat × List Nat) := (true, [([], []), ([0], [0]), ([1], [1]), ([2], [2]), ([2], [2]), ([4, 2], [2, 4]), ([2], [2]), ([5, 6, 2], [2, 5, 6]), ([7, 2], [2, 7]), ([3, 8, 2, 2], [2, 3, 8]), ([2, 9], [2, 9])])
def spec_NetAdd.B9 : List Nat := [0, 1, 3, 7, 7, 23, 7, 119, 247, 511, 1023]
theorem spec_NetAdd.tab9 : rtab .any (opsOf Try.f127 9) = spec_NetAdd.T9 := by kernel_rfl
theorem spec_NetAdd.bits9 : waitsOk spec_NetAdd.T9.2 spec_NetAdd.B9 = true := by kernel_rfl
def spec_NetAdd.T12 : Bool × List (List Nat × List Nat) := (true, [([], []), ([0], [0]), ([], []), ([2], [2]), ([], []), ([3, 4], [3, 4]), ([5], [5]), ([6], [6]), ([1, 7], [1, 7]), ([0, 1, 2, 3, 4, 5, 6, 7, 8], []), ([9, 8, 8, 0, 1, 2, 3, 4, 5, 6, 7, 8], [8, 9])])
def spec_NetAdd.B12 : List Nat := [0, 1, 0, 4, 0, 28, 60, 124, 255, 511, 1023]
theorem spec_NetAdd.tab12 : rtab .any (opsOf Try.f127 12) = spec_NetAdd.T12 := by kernel_rfl
theorem spec_NetAdd.bits12 : waitsOk spec_NetAdd.T12.2 spec_NetAdd.B12 = true := by kernel_rfl
set_option maxHeartbeats 8000000 in
set_option maxRecDepth 100000 in
theorem spec_NetAdd.calls (k : Nat) (a0_0 : Int) (A0_1 : Option Addr) (c0_1 : Nat) (l0_1 : List (S73)) (a1 : Int) (a2 : Int) (r1 : Int) (r2 : List (S73)) (r3 : Bool) (w : World) (hr0_1 : Kd.C k73 w A0_1 l0_1.length l0_1) (hc0_1 : l0_1.length ≤ c0_1) (h : spec_NetAdd.f k a0_0 l0_1 a1 a2 = some (r1, r2, r3)) :
  Calls Try.prog 127 #[.agg #[.int .i64 a0_0, .slice A0_1 l0_1.length c0_1], .int .i64 a1, .int .i64 a2] w fun e w' => ∃ v1_ : Value, e = .returned (.tuple #[.agg #[.int .i64 r1, v1_], .bool r3]) ∧ Kd.R k73 73 w' w.heap.size (fun _ => True) v1_ r2 ∧ Below w.heap.size w w' := by
 have hu34 := Try.underlying34
 have hu73 := Try.underlying73
 have HR0_1 := am hr0_1
 have HC0_1 := am hc0_1
 clear hr0_1 hc0_1
 have HB := am (Below.refl w.heap.size w)
 have H : ((spec_l1Knot.f k a0_0 l0_1 a1).bind fun t571 => (if t571 = true then ((spec_l1Knot.f k a0_0 l0_1 a2).bind fun t572 => (if t572 = true then (if a1 = a2 then (spec_NetAdd.j0 k a1 a2 true a0_0 l0_1) else ((spec_NetHas.f k a0_0 l0_1 a1 a2).bind fun t573 => (spec_NetAdd.j0 k a1 a2 t573 a0_0 l0_1))) else (spec_NetAdd.j0 k a1 a2 true a0_0 l0_1))) else (spec_NetAdd.j0 k a1 a2 true a0_0 l0_1))) = some (r1, r2, r3) := h
 clear h
 have HC4 := am H
 clear H
 go_enter Try.func127, Try.ntmps127
 go_upto_region 1 with (first | ((with_reducible refine gate_dst (N := 3) rfl ?_); refine be_ 3 #[.int .i64 a0_0, .slice A0_1 l0_1.length c0_1] 34 ?_; intro gb569 hg w5 hbox hb; have BK569 := am hbox; have GW569 := am (ge_ hg HB); have GE569 := am (ge_ hg HB); replace HB := bs HB hb; clear hb hbox hg) | ((with_reducible refine gate_dst (N := 6) rfl ?_); refine be_ 6 #[.int .i64 0, .slice none 0 0] 34 ?_; intro gb570 hg w6 hbox hb; have BK570 := am hbox; have GW570 := am (ge_ hg HB); have GE570 := am (ge_ hg HB); replace HB := bs HB hb; obtain ⟨NB569_570, NB570_569⟩ := nb_ hg BK569; replace BK569 := bb BK569 hb; clear hb hbox hg))
 (try simp only [Act.put, List.setIfInBounds_toArray, List.set_cons_zero, List.set_cons_succ])
 go_cut [32] (fun v32 wc => ∃ (kq : Nat) (x32_3 : Bool), v32 = .bool x32_3 ∧ Aside0 (spec_NetAdd.j0 kq a1 a2 x32_3 a0_0 l0_1 = some (r1, r2, r3)) ∧ Aside0 (kq ≤ k) ∧ Aside0 (wc.heap[gb569]? = some (.cells #[.int .i64 a0_0, (.slice A0_1 l0_1.length c0_1)] 34 (0, 0))) ∧ Aside0 (wc.heap[gb570]? = some (.cells #[.int .i64 0, (.slice none 0 0)] 34 (0, 0))) ∧ Aside0 (Below w.heap.size w wc))
 case first =>
  have H := HC4.out
  clear HC4
  replace H := Option.bind_eq_some_iff.mp H
  obtain ⟨t571, A70, H⟩ := H
  (try dsimp only at H)
  have A7 := am A70
  clear A70
  by_cases c8 : t571 = true
  ·subst c8
   rw [if_pos rfl] at H
   replace H := Option.bind_eq_some_iff.mp H
   obtain ⟨t572, A90, H⟩ := H
   (try dsimp only at H)
   have A9 := am A90
   clear A90
   by_cases c10 : t572 = true
   ·subst c10
    rw [if_pos rfl] at H
    by_cases c11 : a1 = a2
    ·rw [if_pos c11] at H
     have c11b0 : (a1 == a2) = true := beq_iff_eq.mpr c11
     have c11b1 : (a1 != a2) = false := bne_eq_false_iff_eq.mpr c11
     clear c11
     (first | rw [c11b0] | (simp only [i64_w, i32_w]; rw [c11b0]) | skip)
     have H' := am H
     clear H
     obtain ⟨hnb12, hnc12⟩ := n2 NB569_570 NB570_569
     obtain ⟨hcz13_0, hcz13_1, hfz13_0, hfz13_1⟩ := c2 BK569
     go_wp2_with (first | ((with_reducible refine gate_callee (f := 87) rfl ?_); refine gl_ (some 14) Try.func87 #[.agg #[.int .i64 a0_0, .slice A0_1 l0_1.length c0_1], .int .i64 a1] ?_; (with_reducible refine (spec_l1Knot.calls k a0_0 _ _ l0_1 a1 true _ ?side1 ?side2 A7.out).mono ?_); (case side1 => exact cb HR0_1 HB); (case side2 => exact HC0_1.out); rintro e w14 ⟨rfl, hb⟩; refine ⟨_, rfl, ?_⟩; replace BK569 := bb BK569 hb; replace BK570 := bb BK570 hb; replace HB := bs HB hb; (try clear hb); obtain ⟨hcz15_0, hcz15_1, hfz15_0, hfz15_1⟩ := c2 BK569) | (go_at_call 87; (with_reducible refine (spec_l1Knot.calls k a0_0 _ _ l0_1 a2 true _ ?side1 ?side2 A9.out).mono ?_); (case side1 => exact cb HR0_1 HB); (case side2 => exact HC0_1.out); rintro e w16 ⟨rfl, hb⟩; replace BK569 := bb BK569 hb; replace BK570 := bb BK570 hb; replace HB := bs HB hb; (try clear hb); (try clear hi)))
     go_meet
     case rel => exact ⟨_, (true), (by first | rfl | (simp; done) | (simp [*]; done)), H', ⟨by first | omega | exact Nat.le_refl _⟩, ⟨bkn BK569⟩, ⟨bkn BK570⟩, ⟨bn HB⟩⟩
    ·rw [if_neg c11] at H
     have c11b0 : (a1 == a2) = false := beq_eq_false_iff_ne.mpr c11
     have c11b1 : (a1 != a2) = true := bne_iff_ne.mpr c11
     (first | rw [c11b0] | (simp only [i64_w, i32_w]; rw [c11b0]) | skip)
     replace H := Option.bind_eq_some_iff.mp H
     obtain ⟨t573, A170, H⟩ := H
     (try dsimp only at H)
     have A17 := am A170
     clear A170
     have H' := am H
     clear H
     obtain ⟨hnb18, hnc18⟩ := n2 NB569_570 NB570_569
     obtain ⟨hcz19_0, hcz19_1, hfz19_0, hfz19_1⟩ := c2 BK569
     go_wp2_with (first | ((with_reducible refine gate_callee (f := 87) rfl ?_); refine gl_ (some 14) Try.func87 #[.agg #[.int .i64 a0_0, .slice A0_1 l0_1.length c0_1], .int .i64 a1] ?_; (with_reducible refine (spec_l1Knot.calls k a0_0 _ _ l0_1 a1 true _ ?side1 ?side2 A7.out).mono ?_); (case side1 => exact cb HR0_1 HB); (case side2 => exact HC0_1.out); rintro e w20 ⟨rfl, hb⟩; refine ⟨_, rfl, ?_⟩; replace BK569 := bb BK569 hb; replace BK570 := bb BK570 hb; replace HB := bs HB hb; (try clear hb); obtain ⟨hcz21_0, hcz21_1, hfz21_0, hfz21_1⟩ := c2 BK569) | (go_at_call 87; (with_reducible refine (spec_l1Knot.calls k a0_0 _ _ l0_1 a2 true _ ?side1 ?side2 A9.out).mono ?_); (case side1 => exact cb HR0_1 HB); (case side2 => exact HC0_1.out); rintro e w22 ⟨rfl, hb⟩; replace BK569 := bb BK569 hb; replace BK570 := bb BK570 hb; replace HB := bs HB hb; (try clear hb); obtain ⟨hcz23_0, hcz23_1, hfz23_0, hfz23_1⟩ := c2 BK569) | (go_at_call 96; (with_reducible refine (spec_NetHas.calls k a0_0 _ _ l0_1 a1 a2 t573 _ ?side1 ?side2 A17.out).mono ?_); (case side1 => exact cb HR0_1 HB); (case side2 => exact HC0_1.out); rintro e w24 ⟨rfl, hb⟩; replace BK569 := bb BK569 hb; replace BK570 := bb BK570 hb; replace HB := bs HB hb; (try clear hb); (try clear hi)))
     go_meet
     case rel => exact ⟨_, (t573), (by first | rfl | (simp; done) | (simp [*]; done)), H', ⟨by first | omega | exact Nat.le_refl _⟩, ⟨bkn BK569⟩, ⟨bkn BK570⟩, ⟨bn HB⟩⟩
   ·replace c10 := Bool.eq_false_iff.mpr c10
    subst c10
    rw [if_neg (show ¬ (false = true) by decide)] at H
    have H' := am H
    clear H
    obtain ⟨hnb25, hnc25⟩ := n2 NB569_570 NB570_569
    obtain ⟨hcz26_0, hcz26_1, hfz26_0, hfz26_1⟩ := c2 BK569
    go_wp2_with (first | ((with_reducible refine gate_callee (f := 87) rfl ?_); refine gl_ (some 14) Try.func87 #[.agg #[.int .i64 a0_0, .slice A0_1 l0_1.length c0_1], .int .i64 a1] ?_; (with_reducible refine (spec_l1Knot.calls k a0_0 _ _ l0_1 a1 true _ ?side1 ?side2 A7.out).mono ?_); (case side1 => exact cb HR0_1 HB); (case side2 => exact HC0_1.out); rintro e w27 ⟨rfl, hb⟩; refine ⟨_, rfl, ?_⟩; replace BK569 := bb BK569 hb; replace BK570 := bb BK570 hb; replace HB := bs HB hb; (try clear hb); obtain ⟨hcz28_0, hcz28_1, hfz28_0, hfz28_1⟩ := c2 BK569) | (go_at_call 87; (with_reducible refine (spec_l1Knot.calls k a0_0 _ _ l0_1 a2 false _ ?side1 ?side2 A9.out).mono ?_); (case side1 => exact cb HR0_1 HB); (case side2 => exact HC0_1.out); rintro e w29 ⟨rfl, hb⟩; replace BK569 := bb BK569 hb; replace BK570 := bb BK570 hb; replace HB := bs HB hb; (try clear hb); (try clear hi)))
    go_meet
    case rel => exact ⟨_, (true), (by first | rfl | (simp; done) | (simp [*]; done)), H', ⟨by first | omega | exact Nat.le_refl _⟩, ⟨bkn BK569⟩, ⟨bkn BK570⟩, ⟨bn HB⟩⟩
  ·replace c8 := Bool.eq_false_iff.mpr c8
   subst c8
   rw [if_neg (show ¬ (false = true) by decide)] at H
   have H' := am H
   clear H
   obtain ⟨hnb30, hnc30⟩ := n2 NB569_570 NB570_569
   obtain ⟨hcz31_0, hcz31_1, hfz31_0, hfz31_1⟩ := c2 BK569
   go_wp2_with (first | ((with_reducible refine gate_callee (f := 87) rfl ?_); refine gl_ (some 14) Try.func87 #[.agg #[.int .i64 a0_0, .slice A0_1 l0_1.length c0_1], .int .i64 a1] ?_; (with_reducible refine (spec_l1Knot.calls k a0_0 _ _ l0_1 a1 false _ ?side1 ?side2 A7.out).mono ?_); (case side1 => exact cb HR0_1 HB); (case side2 => exact HC0_1.out); rintro e w32 ⟨rfl, hb⟩; refine ⟨_, rfl, ?_⟩; replace BK569 := bb BK569 hb; replace BK570 := bb BK570 hb; replace HB := bs HB hb; (try clear hb); (try clear hi)))
   go_meet
   case rel => exact ⟨_, (true), (by first | rfl | (simp; done) | (simp [*]; done)), H', ⟨by first | omega | exact Nat.le_refl _⟩, ⟨bkn BK569⟩, ⟨bkn BK570⟩, ⟨bn HB⟩⟩
 case rest =>
  clear HC4
  try clear c1
  try clear c2
  try clear p2
  try clear c3
  try clear c8
  try clear c10
  try clear c11
  try clear c11b0
  try clear c11b1
  try clear c12
  try clear c18
  try clear c25
  try clear c30
  try clear hcz13_0 hcz13_1 hfz13_0 hfz13_1
  try clear hcz15_0 hcz15_1 hfz15_0 hfz15_1
  try clear hcz19_0 hcz19_1 hfz19_0 hfz19_1
  try clear hcz21_0 hcz21_1 hfz21_0 hfz21_1
  try clear hcz23_0 hcz23_1 hfz23_0 hfz23_1
  try clear hcz26_0 hcz26_1 hfz26_0 hfz26_1
  try clear hcz28_0 hcz28_1 hfz28_0 hfz28_1
  try clear hcz31_0 hcz31_1 hfz31_0 hfz31_1
  obtain ⟨kq, x32_3, rfl, HA, HJ3, BK569, BK570, HB⟩ := hcut
  cases kq with
  | zero => exact absurd HA.out (by simp [spec_NetAdd.j0])
  | succ kj3 =>
   have H := HA.out
   clear HA
   simp only [spec_NetAdd.j0] at H
   by_cases c33 : x32_3 = true
   ·subst c33
    rw [if_pos rfl] at H
    simp only [Option.some.injEq, Prod.mk.injEq] at H
    obtain ⟨rfl, rfl, rfl⟩ := H
    obtain ⟨hnb34, hnc34⟩ := n2 NB570_569 NB569_570
    obtain ⟨hcz35_0, hcz35_1, hfz35_0, hfz35_1⟩ := c2 BK570
    go_wp2
    refine bodyPost_ret (results_ct rfl _ _ gb570 34 #[.int .i64 0, .slice none 0 0] (0, 0) _ rfl (by (with_reducible repeat (first | refine blk_drewN ?_ _ | refine blk_drew ?_ | refine blk_alloc ?_ _)); refine blk_put (cs := #[.int .i64 0, .slice none 0 0]) ?_ 1 _ rfl; (with_reducible repeat (first | refine blk_drewN ?_ _ | refine blk_drew ?_ | refine blk_alloc ?_ _)); refine blk_put (cs := #[.int .i64 0, .slice none 0 0]) ?_ 0 _ rfl; (with_reducible repeat (first | refine blk_drewN ?_ _ | refine blk_drew ?_ | refine blk_alloc ?_ _)); exact BK570.out) Try.underlying34 rfl (by kernel_rfl)) rfl ?_
    exact ⟨_, by first | rfl | (simp [errW_none, errW_some] <;> rfl) | (simp [*, errW_none, errW_some] <;> rfl), by first | exact Kd.R_nil _ _ _ _ _ | exact Kd.N_nil _ _ _ _ _ | exact Kd.V_nil _ _ _ _ _ | exact Kd.Q_nil _ _ _ _ _ | exact Kd.S_nil _ _ _ _ _, bn HB⟩
   ·replace c33 := Bool.eq_false_iff.mpr c33
    subst c33
    rw [if_neg (show ¬ (false = true) by decide)] at H
    replace H := Option.bind_eq_some_iff.mp H
    obtain ⟨⟨t575, t576⟩, A360, H⟩ := H
    (try dsimp only at H)
    have A36 := am A360
    clear A360
    have H' := am H
    clear H
    obtain ⟨hnb37, hnc37⟩ := n2 NB569_570 NB570_569
    obtain ⟨hcz38_0, hcz38_1, hfz38_0, hfz38_1⟩ := c2 BK569
    go_wp2_with (first | ((with_reducible refine gate_dst (N := 8) rfl ?_); refine be_ 8 #[.int .i64 0, .slice none 0 0] 34 ?_; intro gb574 hg w39 hbox hb; have BK574 := am hbox; have GW574 := am (ge_ hg HB); have GE574 := am (ge_ hg HB); replace HB := bs HB hb; obtain ⟨NB569_574, NB574_569⟩ := nb_ hg BK569; replace BK569 := bb BK569 hb; obtain ⟨NB570_574, NB574_570⟩ := nb_ hg BK570; replace BK570 := bb BK570 hb; clear hb hbox hg; obtain ⟨hnb40, hnc40⟩ := n2 NB574_569 NB569_574; obtain ⟨hnb41, hnc41⟩ := n2 NB574_570 NB570_574; obtain ⟨hcz42_0, hcz42_1, hfz42_0, hfz42_1⟩ := c2 BK574) | ((with_reducible refine gate_callee (f := 135) rfl ?_); refine gl_ (some 39) Try.func135 #[.int .i64 a1, .int .i64 a2] ?_; (with_reducible refine (spec_l1Tie.calls a1 a2 t575 t576 _ A36.out).mono ?_); rintro e w43 ⟨rfl, hb⟩; refine ⟨_, rfl, ?_⟩; replace BK569 := bb BK569 hb; replace BK570 := bb BK570 hb; replace BK574 := am (blk_below (g := gb574) (o := .cells #[.int .i64 a0_0, .slice none 0 0] 34 (0, 0)) (by (with_reducible repeat (first | refine blk_drewN ?_ _ | refine blk_drew ?_ | refine blk_alloc ?_ _)); refine blk_put (cs := #[.int .i64 a0_0, .slice none 0 0]) ?_ 1 _ rfl; (with_reducible repeat (first | refine blk_drewN ?_ _ | refine blk_drew ?_ | refine blk_alloc ?_ _)); refine blk_put (cs := #[.int .i64 0, .slice none 0 0]) ?_ 0 _ rfl; (with_reducible repeat (first | refine blk_drewN ?_ _ | refine blk_drew ?_ | refine blk_alloc ?_ _)); exact BK574.out) hb); replace HB := bs HB hb; (try clear hb); (try clear hi)) | ((with_reducible refine gate_dst (N := 9) rfl ?_); refine be_ 9 #[.int .i64 0, .int .i64 0] 73 ?_; intro gb577 hg w44 hbox hb; have BK577 := am hbox; have GW577 := am (ge_ hg HB); have GE577 := am (ge_ hg HB); replace HB := bs HB hb; obtain ⟨NB569_577, NB577_569⟩ := nb_ hg BK569; replace BK569 := bb BK569 hb; obtain ⟨NB570_577, NB577_570⟩ := nb_ hg BK570; replace BK570 := bb BK570 hb; obtain ⟨NB574_577, NB577_574⟩ := nb_ hg BK574; replace BK574 := bb BK574 hb; clear hb hbox hg; obtain ⟨hnb45, hnc45⟩ := n2 NB577_569 NB569_577; obtain ⟨hnb46, hnc46⟩ := n2 NB577_570 NB570_577; obtain ⟨hnb47, hnc47⟩ := n2 NB577_574 NB574_577; obtain ⟨hcz48_0, hcz48_1, hfz48_0, hfz48_1⟩ := c2 BK577))
    go_loopg [10, 11] kj3 (fun kq v10 v11 w' => ∃ (x10_2 : Bool) (x11_2 : Int) (x575001_2 : List (S73)) (u575001 : Value), v10 = .bool x10_2 ∧ v11 = .int .i64 x11_2 ∧ Aside0 (spec_NetAdd.l0 kq x10_2 x11_2 a0_0 l0_1 a0_0 x575001_2 t575 t576 = some (r1, r2, r3)) ∧ Aside0 (kq ≤ kj3) ∧ Aside0 (Kd.R k73 73 w' w.heap.size (fun k_ => k_ ≠ gb577) u575001 x575001_2) ∧ Aside0 (w'.heap[gb569]? = some (.cells #[.int .i64 a0_0, (.slice A0_1 l0_1.length c0_1)] 34 (0, 0))) ∧ Aside0 (w'.heap[gb570]? = some (.cells #[.int .i64 0, (.slice none 0 0)] 34 (0, 0))) ∧ Aside0 (w'.heap[gb574]? = some (.cells #[.int .i64 a0_0, u575001] 34 (0, 0))) ∧ Aside0 (w'.heap[gb577]? = some (.cells #[.int .i64 t575, .int .i64 t576] 73 (0, 0))) ∧ Aside0 (Below w.heap.size w w'))
    case atStart => exact ⟨(false), (0), (([] : List (S73))), (.slice none 0 0), (by first | rfl | (simp; done) | (simp [*]; done)), (by first | rfl | (simp; done) | (simp [*]; done)), H', ⟨Nat.le_refl _⟩, ⟨by first | exact Kd.R_nil _ _ _ _ _ | exact Kd.N_nil _ _ _ _ _ | exact Kd.V_nil _ _ _ _ _ | exact Kd.Q_nil _ _ _ _ _ | exact Kd.S_nil _ _ _ _ _⟩, ⟨bkn BK569⟩, ⟨bkn BK570⟩, ⟨bkn BK574⟩, ⟨by (with_reducible repeat (first | refine blk_drewN ?_ _ | refine blk_drew ?_ | refine blk_alloc ?_ _)); refine blk_put (cs := #[.int .i64 t575, .int .i64 0]) ?_ 1 _ rfl; (with_reducible repeat (first | refine blk_drewN ?_ _ | refine blk_drew ?_ | refine blk_alloc ?_ _)); refine blk_put (cs := #[.int .i64 0, .int .i64 0]) ?_ 0 _ rfl; (with_reducible repeat (first | refine blk_drewN ?_ _ | refine blk_drew ?_ | refine blk_alloc ?_ _)); exact BK577.out⟩, ⟨bn HB⟩⟩
    case round =>
     clear H'
     try clear c1
     try clear c2
     try clear p2
     try clear c3
     try clear c4
     try clear c8
     try clear c10
     try clear c11
     try clear c11b0
     try clear c11b1
     try clear c12
     try clear c13
     try clear c18
     try clear c25
     try clear c30
     try clear c33
     try clear c34
     try clear c37
     try clear c40
     try clear c41
     try clear c45
     try clear c46
     try clear c47
     try clear hcz13_0 hcz13_1 hfz13_0 hfz13_1
     try clear hcz15_0 hcz15_1 hfz15_0 hfz15_1
     try clear hcz19_0 hcz19_1 hfz19_0 hfz19_1
     try clear hcz21_0 hcz21_1 hfz21_0 hfz21_1
     try clear hcz23_0 hcz23_1 hfz23_0 hfz23_1
     try clear hcz26_0 hcz26_1 hfz26_0 hfz26_1
     try clear hcz28_0 hcz28_1 hfz28_0 hfz28_1
     try clear hcz31_0 hcz31_1 hfz31_0 hfz31_1
     try clear hcz35_0 hcz35_1 hfz35_0 hfz35_1
     try clear hcz38_0 hcz38_1 hfz38_0 hfz38_1
     try clear hcz42_0 hcz42_1 hfz42_0 hfz42_1
     try clear hcz48_0 hcz48_1 hfz48_0 hfz48_1
     try clear p2
     obtain ⟨x10_2, x11_2, x575001_2, u575001, rfl, rfl, HA, HK2, HO_575001, BK569, BK570, BK574, BK577, HB⟩ := hrel
     cases gk with
     | zero => exact absurd HA.out (by simp [spec_NetAdd.l0])
     | succ k2 =>
      have H := HA.out
      clear HA
      simp only [spec_NetAdd.l0] at H
      by_cases c49 : x11_2 < (l0_1.length : Int)
      ·rw [if_pos c49] at H
       have c49b0 := decide_eq_true c49
       clear c49
       by_cases c50 : x10_2 = true
       ·subst c50
        rw [if_pos rfl] at H
        obtain ⟨c51, H⟩ := ig_ H
        have c51b0 := decide_eq_true c51
        clear c51
        obtain ⟨c52, H⟩ := ig_ H
        have LMc52 := am c52
        clear c52
        obtain ⟨y579, hy579⟩ : ∃ y_ : List (S73), y_ = (x575001_2 ++ [(⟨(rd_T73 l0_1 x11_2).f0, (rd_T73 l0_1 x11_2).f1⟩ : S73)]) := ⟨_, rfl⟩
        replace H : (spec_NetAdd.l0 k2 true (wrap64 (x11_2 + 1)) a0_0 l0_1 a0_0 y579 t575 t576) = some (r1, r2, r3) := nh_ hy579 H
        have Ny579 := am hy579
        clear hy579
        have H' := am H
        clear H
        obtain ⟨hnb53, hnc53⟩ := n2 NB569_570 NB570_569
        obtain ⟨hnb54, hnc54⟩ := n2 NB569_574 NB574_569
        obtain ⟨hnb55, hnc55⟩ := n2 NB569_577 NB577_569
        obtain ⟨hcz56_0, hcz56_1, hfz56_0, hfz56_1⟩ := c2 BK569
        try go_wp2
        replace HO_575001 := am (Kd.R_drew HO_575001.out)
        replace BK569 := am (blk_drew BK569.out)
        replace BK570 := am (blk_drew BK570.out)
        replace BK574 := am (blk_drew BK574.out)
        replace BK577 := am (blk_drew BK577.out)
        replace HB := am (below_drew1 HB.out)
        refine start_ (n := 11) (S := fun w' => True) (ds := []) #[false, false, false, false, false, false, false, false, false, false, false] (by kernel_rfl) rfl rfl trivial (fun hHeld => ?_); refine with_tabW spec_NetAdd.tab9 spec_NetAdd.bits9 (fun HT_ HW_ => ?_)
        generalize wr.drew = w57 at HO_575001 BK569 BK570 BK574 BK577 HB hHeld ⊢
        refine pz_ 0 (some 47) HT_ ?_
        refine pz_ 1 (some 48) HT_ ?_
        refine pz_ 2 (some 49) HT_ ?_
        refine pu_ 3 (some 50) HT_ ?_
        refine pu_ 4 (some 51) HT_ ?_
        refine pu_ 5 (some 52) HT_ ?_
        refine pu_ 6 (some 53) HT_ ?_
        refine pu_ 7 (some 54) HT_ ?_
        refine pu_ 8 (some 55) HT_ ?_
        refine pu_ 9 (some 56) HT_ ?_
        refine pz_ 10 (some 57) HT_ ?_
        refine done_ (done_of HT_.out (by kernel_rfl)) ?_
        try go_wp2
        replace HO_575001 := am (Kd.R_drew HO_575001.out)
        replace BK569 := am (blk_drew BK569.out)
        replace BK570 := am (blk_drew BK570.out)
        replace BK574 := am (blk_drew BK574.out)
        replace BK577 := am (blk_drew BK577.out)
        replace HB := am (below_drew1 HB.out)
        have p578 : 0 ≤ (x11_2 : Int) := oa
        have q578 : x11_2 < (l0_1.length : Int) := oa
        obtain ⟨ad578, e578, hx578_0, hx578_1⟩ := at_T73 HR0_1.out x11_2 p578 q578
        have hw578_1 := hx578_1
        have hw578_0 := hx578_0
        cases e578
        replace hx578_0 := (HB.out.cell (World.block_lt_of_cell? w _ hx578_0)).trans hx578_0
        replace hx578_1 := (HB.out.cell (World.block_lt_of_cell? w _ hx578_1)).trans hx578_1
        replace p578 := eq_true p578
        replace q578 := eq_true q578
        refine start_ (n := 11) (S := fun w' => w'.cell? ⟨gb574, 0, none⟩ = some (.int .i64 a0_0) ∧ w'.cell? ⟨gb574, 1, none⟩ = some (u575001) ∧ w'.cell? ⟨gb569, 0, none⟩ = some (.int .i64 a0_0) ∧ w'.cell? ⟨gb569, 1, none⟩ = some (.slice (some ad578) l0_1.length c0_1) ∧ w'.cell? (ad578.add ((x11_2).toNat * 2)) = some (.int .i64 ((rd_T73 l0_1 x11_2).f0)) ∧ w'.cell? ⟨(ad578.add ((x11_2).toNat * 2)).block, (ad578.add ((x11_2).toNat * 2)).off + 1, none⟩ = some (.int .i64 ((rd_T73 l0_1 x11_2).f1))) (ds := [10]) #[false, false, false, false, false, false, false, false, false, false, false] (by kernel_rfl) rfl rfl ⟨(bc BK574 0), (bc BK574 1), (bc BK569 0), (bc BK569 1), ((HB.out.cell (World.block_lt_of_cell? w _ hw578_0)).trans hw578_0), ((HB.out.cell (World.block_lt_of_cell? w _ hw578_1)).trans hw578_1)⟩ (fun hHeld => ?_); refine with_tabW spec_NetAdd.tab12 spec_NetAdd.bits12 (fun HT_ HW_ => ?_)
        generalize w57.drew = w58 at HO_575001 BK569 BK570 BK574 BK577 HB hx578_0 hx578_1 hHeld ⊢
        refine pz_ 0 (some 64) HT_ ?_
        refine pz_ 2 (some 66) HT_ ?_
        refine pz_ 4 (some 68) HT_ ?_
        refine tz_ 1 (some 65) HT_ HW_ hHeld ?_
        refine tz_ 3 (some 67) HT_ HW_ hHeld ?_
        refine pz_ 5 (some 69) HT_ ?_
        refine tz_ 6 (some 70) HT_ HW_ hHeld ?_
        refine one_ (i := 7) (N := some 71) #[true, true, true, true, true, true, true, true, false, false, false] rfl rfl (one_of HT_.out (by kernel_rfl)) (by decide) (fun K hK => ?_)
        refine value_ (w1 := ?_) (v := ?_) (by rfl) rfl ?_ ?_
        rotate_left 2
        ·go_simp
         constructor
         ·rfl
         ·rfl
        refine hK.out _ _ ⟨(blk_cell (blk_alloc BK574.out _) 0).trans rfl, (blk_cell (blk_alloc BK574.out _) 1).trans rfl, (blk_cell (blk_alloc BK569.out _) 0).trans rfl, (blk_cell (blk_alloc BK569.out _) 1).trans rfl, (World.cell?_alloc_lt _ _ _ (World.block_lt_of_cell? _ _ (((HB.out.cell (World.block_lt_of_cell? w _ hw578_0)).trans hw578_0)))).trans (((HB.out.cell (World.block_lt_of_cell? w _ hw578_0)).trans hw578_0)), (World.cell?_alloc_lt _ _ _ (World.block_lt_of_cell? _ _ (((HB.out.cell (World.block_lt_of_cell? w _ hw578_1)).trans hw578_1)))).trans (((HB.out.cell (World.block_lt_of_cell? w _ hw578_1)).trans hw578_1))⟩ (fun hHeld => ?_)
        clear hK K
        refine nz_ 71 ?_
        refine one_ (i := 8) (N := some 72) #[true, true, true, true, true, true, true, true, true, false, false] rfl rfl (one_of HT_.out (by kernel_rfl)) (by decide) (fun K hK => ?_)
        refine Kd.R_append_step k73 (w0 := w) w.heap.size (by rfl) (.tmp 65) (.tmp 71) 32 73 (.agg #[(.int .i64 0), (.int .i64 0)]) 16 rfl Try.underlying32 info73 rfl (by decide) (by omega) u575001 x575001_2 (⟨(rd_T73 l0_1 x11_2).f0, (rd_T73 l0_1 x11_2).f1⟩ : S73) [.int .i64 ((rd_T73 l0_1 x11_2).f0), .int .i64 ((rd_T73 l0_1 x11_2).f1)] (fun k_ => k_ ≠ gb577) (fun _ => False) rfl rfl ?aP (fun _ hk => hk.elim) ?aF ?aO ?aB ?aS ?aL ?_
        (case aP => exact k73_mkM _ _ _ (⟨(rd_T73 l0_1 x11_2).f0, (rd_T73 l0_1 x11_2).f1⟩ : S73))
        (case aB => exact (bn HB))
        (case aF => exact (fun k_ hk => Kd.freshB (bkn BK577) k_ hk))
        (case aO => exact (onR HO_575001))
        (case aS => exact (below_size (bn HB)))
        (case aL => have := LMc52.out; omega)
        intro v580 w59 ho hb hg hat
        rw [← Ny579.out] at ho
        have n0_ := am (blk_grown (bkn BK569) hg (Kd.R_ne HO_575001.out BK569.out (by decide)))
        have n1_ := am (blk_grown (bkn BK570) hg (Kd.R_ne HO_575001.out BK570.out (by decide)))
        have n2_ := am (blk_grown (bkn BK574) hg (Kd.R_ne HO_575001.out BK574.out (by decide)))
        have n3_ := am (blk_grown (bkn BK577) hg (Kd.R_away HO_575001.out (fun _ hk => hk)))
        have n4_ := am hb
        have n5_ := am ho
        clear BK569 BK570 BK574 BK577 HB HO_575001
        have BK569 := n0_
        have BK570 := n1_
        have BK574 := n2_
        have BK577 := n3_
        have HB := n4_
        have HO581 := n5_
        clear n0_ n1_ n2_ n3_ n4_ n5_ ho hb hg hat
        obtain ⟨Ao60, co60, eo60⟩ := Kd.R_slice HO581.out
        (first | subst eo60 | (injection eo60 with f1_ f2_ f3_; have f4_ := f1_.symm; have f5_ := f3_.symm; clear f1_ f2_ f3_; subst f4_; subst f5_))
        refine hK.out _ _ ⟨(bc BK574 0), (bc BK574 1), (bc BK569 0), (bc BK569 1), ((HB.out.cell (World.block_lt_of_cell? w _ hw578_0)).trans hw578_0), ((HB.out.cell (World.block_lt_of_cell? w _ hw578_1)).trans hw578_1)⟩ (fun hHeld => ?_)
        clear hK K
        refine nz_ 72 ?_
        refine pz_ 9 (some 73) HT_ ?_
        refine last_ (i := 10) (N := none) #[true, true, true, true, true, true, true, true, true, true, true] rfl rfl (one_of HT_.out (by kernel_rfl)) (by decide) (fun K hK => ?_)
        have hs61 := bc BK574 1
        have hfs61 := blk_frozen BK574.out 1
        have hns61_0 := NB569_574.out
        have hns61_1 := NB570_574.out
        have hns61_3 := NB577_574.out
        have hms61_0 := NB574_569.out
        have hms61_1 := NB574_570.out
        have hms61_3 := NB574_577.out
        refine skip_ (w1 := ?_) (by rfl) rfl ?_ ?_
        rotate_left
        ·go_simp
         rfl
        refine hK.out _ _ ?_
        clear hK K
        refine done_ (done_of HT_.out (by kernel_rfl)) ?_
        try go_wp2
        go_roundg k2
        case measure => have := HJ3.out; have := HK2.out; omega
        case rel => exact ⟨(true), (wrap64 (x11_2 + 1)), (y579), (.slice Ao60 y579.length co60), (by first | rfl | (simp; done) | (simp [*]; done)), (by first | rfl | (simp; done) | (simp [*]; done)), H', ⟨by have := HJ3.out; have := HK2.out; omega⟩, ⟨by (with_reducible repeat (first | apply Kd.R_alloc | apply Kd.R_drewN | apply Kd.R_drew)); exact Kd.R_mono (Kd.R_far (p := ⟨gb574, 1, none⟩) (Kd.R_types HO581.out BK574.out (by decide)) (fun _ hk => hk.2) (.slice Ao60 y579.length co60)) (fun _ hk => hk.1)⟩, ⟨bkn BK569⟩, ⟨bkn BK570⟩, ⟨by (with_reducible repeat (first | refine blk_drewN ?_ _ | refine blk_drew ?_ | refine blk_alloc ?_ _)); refine blk_put (cs := #[.int .i64 a0_0, u575001]) ?_ 1 _ rfl; (with_reducible repeat (first | refine blk_drewN ?_ _ | refine blk_drew ?_ | refine blk_alloc ?_ _)); exact BK574.out⟩, ⟨bkn BK577⟩, ⟨bn HB⟩⟩
       ·replace c50 := Bool.eq_false_iff.mpr c50
        subst c50
        rw [if_neg (show ¬ (false = true) by decide)] at H
        obtain ⟨c62, H⟩ := ig_ H
        have c62b0 := decide_eq_true c62
        clear c62
        replace H := Option.bind_eq_some_iff.mp H
        obtain ⟨t583, A630, H⟩ := H
        (try dsimp only at H)
        have A63 := am A630
        clear A630
        by_cases c64 : t583 = true
        ·subst c64
         rw [if_pos rfl] at H
         obtain ⟨c65, H⟩ := ig_ H
         have LMc65 := am c65
         clear c65
         obtain ⟨y584, hy584⟩ : ∃ y_ : List (S73), y_ = (x575001_2 ++ [(⟨t575, t576⟩ : S73)]) := ⟨_, rfl⟩
         replace H : (if y584.length < 8796093022208 then (spec_NetAdd.l0 k2 true (wrap64 (x11_2 + 1)) a0_0 l0_1 a0_0 (y584 ++ [(⟨(rd_T73 l0_1 x11_2).f0, (rd_T73 l0_1 x11_2).f1⟩ : S73)]) t575 t576) else (none)) = some (r1, r2, r3) := nh_ hy584 H
         have Ny584 := am hy584
         clear hy584
         obtain ⟨c66, H⟩ := ig_ H
         have LMc66 := am c66
         clear c66
         obtain ⟨y588, hy588⟩ : ∃ y_ : List (S73), y_ = (y584 ++ [(⟨(rd_T73 l0_1 x11_2).f0, (rd_T73 l0_1 x11_2).f1⟩ : S73)]) := ⟨_, rfl⟩
         replace H : (spec_NetAdd.l0 k2 true (wrap64 (x11_2 + 1)) a0_0 l0_1 a0_0 y588 t575 t576) = some (r1, r2, r3) := nh_ hy588 H
         have Ny588 := am hy588
         clear hy588
         have H' := am H
         clear H
         obtain ⟨hnb67, hnc67⟩ := n2 NB569_570 NB570_569
         obtain ⟨hnb68, hnc68⟩ := n2 NB569_574 NB574_569
         obtain ⟨hnb69, hnc69⟩ := n2 NB569_577 NB577_569
         obtain ⟨hcz70_0, hcz70_1, hfz70_0, hfz70_1⟩ := c2 BK569
         try go_wp2
         replace HO_575001 := am (Kd.R_drew HO_575001.out)
         replace BK569 := am (blk_drew BK569.out)
         replace BK570 := am (blk_drew BK570.out)
         replace BK574 := am (blk_drew BK574.out)
         replace BK577 := am (blk_drew BK577.out)
         replace HB := am (below_drew1 HB.out)
         have p582 : 0 ≤ (x11_2 : Int) := oa
         have q582 : x11_2 < (l0_1.length : Int) := oa
         obtain ⟨ad582, e582, hx582_0, hx582_1⟩ := at_T73 HR0_1.out x11_2 p582 q582
         have hw582_1 := hx582_1
         have hw582_0 := hx582_0
         cases e582
         replace hx582_0 := (HB.out.cell (World.block_lt_of_cell? w _ hx582_0)).trans hx582_0
         replace hx582_1 := (HB.out.cell (World.block_lt_of_cell? w _ hx582_1)).trans hx582_1
         replace p582 := eq_true p582
         replace q582 := eq_true q582
         refine start_ (n := 11) (S := fun w' => w'.cell? ⟨gb577, 0, none⟩ = some (.int .i64 t575) ∧ w'.cell? ⟨gb577, 1, none⟩ = some (.int .i64 t576) ∧ w'.cell? ⟨gb569, 0, none⟩ = some (.int .i64 a0_0) ∧ w'.cell? ⟨gb569, 1, none⟩ = some (.slice (some ad582) l0_1.length c0_1) ∧ w'.cell? (ad582.add ((x11_2).toNat * 2)) = some (.int .i64 ((rd_T73 l0_1 x11_2).f0)) ∧ w'.cell? ⟨(ad582.add ((x11_2).toNat * 2)).block, (ad582.add ((x11_2).toNat * 2)).off + 1, none⟩ = some (.int .i64 ((rd_T73 l0_1 x11_2).f1))) (ds := []) #[false, false, false, false, false, false, false, false, false, false, false] (by kernel_rfl) rfl rfl ⟨(bc BK577 0), (bc BK577 1), (bc BK569 0), (bc BK569 1), ((HB.out.cell (World.block_lt_of_cell? w _ hw582_0)).trans hw582_0), ((HB.out.cell (World.block_lt_of_cell? w _ hw582_1)).trans hw582_1)⟩ (fun hHeld => ?_); refine with_tabW spec_NetAdd.tab9 spec_NetAdd.bits9 (fun HT_ HW_ => ?_)
         generalize wr.drew = w71 at HO_575001 BK569 BK570 BK574 BK577 HB hx582_0 hx582_1 hHeld ⊢
         refine pz_ 0 (some 47) HT_ ?_
         refine pz_ 1 (some 48) HT_ ?_
         refine pz_ 2 (some 49) HT_ ?_
         refine pz_ 4 (some 51) HT_ ?_
         refine pz_ 6 (some 53) HT_ ?_
         refine tz_ 3 (some 50) HT_ HW_ hHeld ?_
         refine tz_ 5 (some 52) HT_ HW_ hHeld ?_
         refine pz_ 7 (some 54) HT_ ?_
         refine tz_ 8 (some 55) HT_ HW_ hHeld ?_
         refine one_ (i := 9) (N := some 56) #[true, true, true, true, true, true, true, true, true, true, false] rfl rfl (one_of HT_.out (by kernel_rfl)) (by decide) (fun K hK => ?_)
         refine gg_ Try.func119 #[.agg #[.int .i64 t575, .int .i64 t576], .agg #[.int .i64 ((rd_T73 l0_1 x11_2).f0), .int .i64 ((rd_T73 l0_1 x11_2).f1)]] ?_
         with_reducible refine (spec_l1Less.calls t575 t576 ((rd_T73 l0_1 x11_2).f0) ((rd_T73 l0_1 x11_2).f1) true _ A63.out).mono ?_
         rintro e w72 ⟨rfl, hb⟩
         refine ⟨_, rfl, ?_⟩
         replace HO_575001 := am (Kd.R_below (onR HO_575001) hb)
         replace BK569 := bb BK569 hb
         replace BK570 := bb BK570 hb
         replace BK574 := bb BK574 hb
         replace BK577 := bb BK577 hb
         replace HB := bs HB hb
         (try clear hb)
         (try clear hb2)
         (try clear hk)
         (try clear hi)
         refine hK.out _ _ ⟨(bc BK577 0), (bc BK577 1), (bc BK569 0), (bc BK569 1), ((HB.out.cell (World.block_lt_of_cell? w _ hw582_0)).trans hw582_0), ((HB.out.cell (World.block_lt_of_cell? w _ hw582_1)).trans hw582_1)⟩ (fun hHeld => ?_)
         clear hK K
         refine nz_ 56 ?_
         refine pz_ 10 (some 57) HT_ ?_
         refine done_ (done_of HT_.out (by kernel_rfl)) ?_
         obtain ⟨hnb73, hnc73⟩ := n2 NB574_570 NB570_574
         obtain ⟨hnb74, hnc74⟩ := n2 NB574_577 NB577_574
         obtain ⟨hcz75_0, hcz75_1, hfz75_0, hfz75_1⟩ := c2 BK574
         obtain ⟨hnb76, hnc76⟩ := n2 NB577_570 NB570_577
         obtain ⟨hcz77_0, hcz77_1, hfz77_0, hfz77_1⟩ := c2 BK577
         try go_wp2_with (first | ((with_reducible refine gate_builtin (b := .append) (xs := #[.tmp 59, .tmp 61]) rfl ?_); at_builtin; refine Kd.R_append k73 (w0 := w) w.heap.size rfl (.tmp 59) (.tmp 61) 32 73 (.agg #[(.int .i64 0), (.int .i64 0)]) 16 rfl Try.underlying32 info73 rfl (by decide) (by omega) u575001 x575001_2 (⟨t575, t576⟩ : S73) [.int .i64 t575, .int .i64 t576] (fun k_ => k_ ≠ gb577) (fun _ => False) rfl rfl ?aP (fun _ hk => hk.elim) ?aF ?aO ?aB ?aS ?aL ?_; (case aP => exact k73_mkM _ _ _ (⟨t575, t576⟩ : S73)); (case aB => exact (bn HB)); (case aF => exact (fun k_ hk => Kd.freshB (bkn BK577) k_ hk)); (case aO => exact (onR HO_575001)); (case aS => exact (below_size (bn HB))); (case aL => have := LMc65.out; omega); intro v585 w78 ho hb hg hat; rw [← Ny584.out] at ho; replace BK569 := am (blk_grown (bkn BK569) hg (Kd.R_ne HO_575001.out BK569.out (by decide))); replace BK570 := am (blk_grown (bkn BK570) hg (Kd.R_ne HO_575001.out BK570.out (by decide))); replace BK574 := am (blk_grown (bkn BK574) hg (Kd.R_ne HO_575001.out BK574.out (by decide))); replace BK577 := am (blk_grown (bkn BK577) hg (Kd.R_away HO_575001.out (fun _ hk => hk))); replace HB := am hb; have HO586 := am ho; clear HO_575001; clear ho hb hg hat; obtain ⟨Ao79, co79, eo79⟩ := Kd.R_slice HO586.out; subst eo79; obtain ⟨hcz80_0, hcz80_1, hfz80_0, hfz80_1⟩ := c2 BK574))
         have n0_ : Aside0 (Kd.R k73 73 (w78.setCell ⟨gb574, 1, none⟩ (.slice Ao79 y584.length co79)) w.heap.size (fun k_ => k_ ≠ gb577) (.slice Ao79 y584.length co79) y584) := ⟨by (with_reducible repeat (first | apply Kd.R_alloc | apply Kd.R_drewN | apply Kd.R_drew)); exact Kd.R_mono (Kd.R_far (p := ⟨gb574, 1, none⟩) (Kd.R_types HO586.out BK574.out (by decide)) (fun _ hk => hk.2) (.slice Ao79 y584.length co79)) (fun _ hk => hk.1)⟩
         have n1_ : Aside0 ((w78.setCell ⟨gb574, 1, none⟩ (.slice Ao79 y584.length co79)).heap[gb569]? = some (.cells #[.int .i64 a0_0, .slice (some ad582) l0_1.length c0_1] 34 (0, 0))) := ⟨bkn BK569⟩
         have n2_ : Aside0 ((w78.setCell ⟨gb574, 1, none⟩ (.slice Ao79 y584.length co79)).heap[gb570]? = some (.cells #[.int .i64 0, .slice none 0 0] 34 (0, 0))) := ⟨bkn BK570⟩
         have n3_ : Aside0 ((w78.setCell ⟨gb574, 1, none⟩ (.slice Ao79 y584.length co79)).heap[gb574]? = some (.cells #[.int .i64 a0_0, .slice Ao79 y584.length co79] 34 (0, 0))) := ⟨by (with_reducible repeat (first | refine blk_drewN ?_ _ | refine blk_drew ?_ | refine blk_alloc ?_ _)); refine blk_put (cs := #[.int .i64 a0_0, u575001]) ?_ 1 _ rfl; (with_reducible repeat (first | refine blk_drewN ?_ _ | refine blk_drew ?_ | refine blk_alloc ?_ _)); exact BK574.out⟩
         have n4_ : Aside0 ((w78.setCell ⟨gb574, 1, none⟩ (.slice Ao79 y584.length co79)).heap[gb577]? = some (.cells #[.int .i64 t575, .int .i64 t576] 73 (0, 0))) := ⟨bkn BK577⟩
         have n5_ : Aside0 (Below w.heap.size w (w78.setCell ⟨gb574, 1, none⟩ (.slice Ao79 y584.length co79))) := ⟨bn HB⟩
         (try clear HO586)
         (try clear BK569)
         (try clear BK570)
         (try clear BK574)
         (try clear BK577)
         (try clear HB)
         generalize (w78.setCell ⟨gb574, 1, none⟩ (.slice Ao79 y584.length co79)) = w81 at n0_ n1_ n2_ n3_ n4_ n5_ ⊢
         have HO586 := n0_
         have BK569 := n1_
         have BK570 := n2_
         have BK574 := n3_
         have BK577 := n4_
         have HB := n5_
         clear n0_ n1_ n2_ n3_ n4_ n5_
         replace HO586 := am (Kd.R_drew HO586.out)
         replace BK569 := am (blk_drew BK569.out)
         replace BK570 := am (blk_drew BK570.out)
         replace BK574 := am (blk_drew BK574.out)
         replace BK577 := am (blk_drew BK577.out)
         replace HB := am (below_drew1 HB.out)
         have p587 : 0 ≤ (x11_2 : Int) := oa
         have q587 : x11_2 < (l0_1.length : Int) := oa
         obtain ⟨ad587, e587, hx587_0, hx587_1⟩ := at_T73 HR0_1.out x11_2 p587 q587
         have hw587_1 := hx587_1
         have hw587_0 := hx587_0
         obtain rfl : ad582 = ad587 := (by injection e587)
         replace hx587_0 := (HB.out.cell (World.block_lt_of_cell? w _ hx587_0)).trans hx587_0
         replace hx587_1 := (HB.out.cell (World.block_lt_of_cell? w _ hx587_1)).trans hx587_1
         replace p587 := eq_true p587
         replace q587 := eq_true q587
         refine start_ (n := 11) (S := fun w' => w'.cell? ⟨gb574, 0, none⟩ = some (.int .i64 a0_0) ∧ w'.cell? ⟨gb574, 1, none⟩ = some (.slice Ao79 y584.length co79) ∧ w'.cell? ⟨gb569, 0, none⟩ = some (.int .i64 a0_0) ∧ w'.cell? ⟨gb569, 1, none⟩ = some (.slice (some ad582) l0_1.length c0_1) ∧ w'.cell? (ad582.add ((x11_2).toNat * 2)) = some (.int .i64 ((rd_T73 l0_1 x11_2).f0)) ∧ w'.cell? ⟨(ad582.add ((x11_2).toNat * 2)).block, (ad582.add ((x11_2).toNat * 2)).off + 1, none⟩ = some (.int .i64 ((rd_T73 l0_1 x11_2).f1))) (ds := [10]) #[false, false, false, false, false, false, false, false, false, false, false] (by kernel_rfl) rfl rfl ⟨(bc BK574 0), (bc BK574 1), (bc BK569 0), (bc BK569 1), ((HB.out.cell (World.block_lt_of_cell? w _ hw587_0)).trans hw587_0), ((HB.out.cell (World.block_lt_of_cell? w _ hw587_1)).trans hw587_1)⟩ (fun hHeld => ?_); refine with_tabW spec_NetAdd.tab12 spec_NetAdd.bits12 (fun HT_ HW_ => ?_)
         generalize w81.drew = w82 at HO586 BK569 BK570 BK574 BK577 HB hx587_0 hx587_1 hHeld ⊢
         refine pz_ 0 (some 64) HT_ ?_
         refine pz_ 2 (some 66) HT_ ?_
         refine pz_ 4 (some 68) HT_ ?_
         refine tz_ 1 (some 65) HT_ HW_ hHeld ?_
         refine tz_ 3 (some 67) HT_ HW_ hHeld ?_
         refine pz_ 5 (some 69) HT_ ?_
         refine tz_ 6 (some 70) HT_ HW_ hHeld ?_
         refine one_ (i := 7) (N := some 71) #[true, true, true, true, true, true, true, true, false, false, false] rfl rfl (one_of HT_.out (by kernel_rfl)) (by decide) (fun K hK => ?_)
         refine value_ (w1 := ?_) (v := ?_) (by rfl) rfl ?_ ?_
         rotate_left 2
         ·go_simp
          constructor
          ·rfl
          ·rfl
         refine hK.out _ _ ⟨(blk_cell (blk_alloc BK574.out _) 0).trans rfl, (blk_cell (blk_alloc BK574.out _) 1).trans rfl, (blk_cell (blk_alloc BK569.out _) 0).trans rfl, (blk_cell (blk_alloc BK569.out _) 1).trans rfl, (World.cell?_alloc_lt _ _ _ (World.block_lt_of_cell? _ _ (((HB.out.cell (World.block_lt_of_cell? w _ hw587_0)).trans hw587_0)))).trans (((HB.out.cell (World.block_lt_of_cell? w _ hw587_0)).trans hw587_0)), (World.cell?_alloc_lt _ _ _ (World.block_lt_of_cell? _ _ (((HB.out.cell (World.block_lt_of_cell? w _ hw587_1)).trans hw587_1)))).trans (((HB.out.cell (World.block_lt_of_cell? w _ hw587_1)).trans hw587_1))⟩ (fun hHeld => ?_)
         clear hK K
         refine nz_ 71 ?_
         refine one_ (i := 8) (N := some 72) #[true, true, true, true, true, true, true, true, true, false, false] rfl rfl (one_of HT_.out (by kernel_rfl)) (by decide) (fun K hK => ?_)
         refine Kd.R_append_step k73 (w0 := w) w.heap.size (by rfl) (.tmp 65) (.tmp 71) 32 73 (.agg #[(.int .i64 0), (.int .i64 0)]) 16 rfl Try.underlying32 info73 rfl (by decide) (by omega) (.slice Ao79 y584.length co79) y584 (⟨(rd_T73 l0_1 x11_2).f0, (rd_T73 l0_1 x11_2).f1⟩ : S73) [.int .i64 ((rd_T73 l0_1 x11_2).f0), .int .i64 ((rd_T73 l0_1 x11_2).f1)] (fun k_ => k_ ≠ gb577) (fun _ => False) rfl rfl ?aP (fun _ hk => hk.elim) ?aF ?aO ?aB ?aS ?aL ?_
         (case aP => exact k73_mkM _ _ _ (⟨(rd_T73 l0_1 x11_2).f0, (rd_T73 l0_1 x11_2).f1⟩ : S73))
         (case aB => exact (bn HB))
         (case aF => exact (fun k_ hk => Kd.freshB (bkn BK577) k_ hk))
         (case aO => exact (onR HO586))
         (case aS => exact (below_size (bn HB)))
         (case aL => have := LMc66.out; omega)
         intro v589 w83 ho hb hg hat
         rw [← Ny588.out] at ho
         have n0_ := am (blk_grown (bkn BK569) hg (Kd.R_ne HO586.out BK569.out (by decide)))
         have n1_ := am (blk_grown (bkn BK570) hg (Kd.R_ne HO586.out BK570.out (by decide)))
         have n2_ := am (blk_grown (bkn BK574) hg (Kd.R_ne HO586.out BK574.out (by decide)))
         have n3_ := am (blk_grown (bkn BK577) hg (Kd.R_away HO586.out (fun _ hk => hk)))
         have n4_ := am hb
         have n5_ := am ho
         clear BK569 BK570 BK574 BK577 HB HO586
         have BK569 := n0_
         have BK570 := n1_
         have BK574 := n2_
         have BK577 := n3_
         have HB := n4_
         have HO590 := n5_
         clear n0_ n1_ n2_ n3_ n4_ n5_ ho hb hg hat
         obtain ⟨Ao84, co84, eo84⟩ := Kd.R_slice HO590.out
         (first | subst eo84 | (injection eo84 with f1_ f2_ f3_; have f4_ := f1_.symm; have f5_ := f3_.symm; clear f1_ f2_ f3_; subst f4_; subst f5_))
         refine hK.out _ _ ⟨(bc BK574 0), (bc BK574 1), (bc BK569 0), (bc BK569 1), ((HB.out.cell (World.block_lt_of_cell? w _ hw587_0)).trans hw587_0), ((HB.out.cell (World.block_lt_of_cell? w _ hw587_1)).trans hw587_1)⟩ (fun hHeld => ?_)
         clear hK K
         refine nz_ 72 ?_
         refine pz_ 9 (some 73) HT_ ?_
         refine last_ (i := 10) (N := none) #[true, true, true, true, true, true, true, true, true, true, true] rfl rfl (one_of HT_.out (by kernel_rfl)) (by decide) (fun K hK => ?_)
         have hs85 := bc BK574 1
         have hfs85 := blk_frozen BK574.out 1
         have hns85_0 := NB569_574.out
         have hns85_1 := NB570_574.out
         have hns85_3 := NB577_574.out
         have hms85_0 := NB574_569.out
         have hms85_1 := NB574_570.out
         have hms85_3 := NB574_577.out
         refine skip_ (w1 := ?_) (by rfl) rfl ?_ ?_
         rotate_left
         ·go_simp
          rfl
         refine hK.out _ _ ?_
         clear hK K
         refine done_ (done_of HT_.out (by kernel_rfl)) ?_
         try go_wp2
         go_roundg k2
         case measure => have := HJ3.out; have := HK2.out; omega
         case rel => exact ⟨(true), (wrap64 (x11_2 + 1)), (y588), (.slice Ao84 y588.length co84), (by first | rfl | (simp; done) | (simp [*]; done)), (by first | rfl | (simp; done) | (simp [*]; done)), H', ⟨by have := HJ3.out; have := HK2.out; omega⟩, ⟨by (with_reducible repeat (first | apply Kd.R_alloc | apply Kd.R_drewN | apply Kd.R_drew)); exact Kd.R_mono (Kd.R_far (p := ⟨gb574, 1, none⟩) (Kd.R_types HO590.out BK574.out (by decide)) (fun _ hk => hk.2) (.slice Ao84 y588.length co84)) (fun _ hk => hk.1)⟩, ⟨bkn BK569⟩, ⟨bkn BK570⟩, ⟨by (with_reducible repeat (first | refine blk_drewN ?_ _ | refine blk_drew ?_ | refine blk_alloc ?_ _)); refine blk_put (cs := #[.int .i64 a0_0, .slice Ao79 y584.length co79]) ?_ 1 _ rfl; (with_reducible repeat (first | refine blk_drewN ?_ _ | refine blk_drew ?_ | refine blk_alloc ?_ _)); exact BK574.out⟩, ⟨bkn BK577⟩, ⟨bn HB⟩⟩
        ·replace c64 := Bool.eq_false_iff.mpr c64
         subst c64
         rw [if_neg (show ¬ (false = true) by decide)] at H
         obtain ⟨c86, H⟩ := ig_ H
         have LMc86 := am c86
         clear c86
         obtain ⟨y592, hy592⟩ : ∃ y_ : List (S73), y_ = (x575001_2 ++ [(⟨(rd_T73 l0_1 x11_2).f0, (rd_T73 l0_1 x11_2).f1⟩ : S73)]) := ⟨_, rfl⟩
         replace H : (spec_NetAdd.l0 k2 false (wrap64 (x11_2 + 1)) a0_0 l0_1 a0_0 y592 t575 t576) = some (r1, r2, r3) := nh_ hy592 H
         have Ny592 := am hy592
         clear hy592
         have H' := am H
         clear H
         obtain ⟨hnb87, hnc87⟩ := n2 NB569_570 NB570_569
         obtain ⟨hnb88, hnc88⟩ := n2 NB569_574 NB574_569
         obtain ⟨hnb89, hnc89⟩ := n2 NB569_577 NB577_569
         obtain ⟨hcz90_0, hcz90_1, hfz90_0, hfz90_1⟩ := c2 BK569
         try go_wp2
         replace HO_575001 := am (Kd.R_drew HO_575001.out)
         replace BK569 := am (blk_drew BK569.out)
         replace BK570 := am (blk_drew BK570.out)
         replace BK574 := am (blk_drew BK574.out)
         replace BK577 := am (blk_drew BK577.out)
         replace HB := am (below_drew1 HB.out)
         have p582 : 0 ≤ (x11_2 : Int) := oa
         have q582 : x11_2 < (l0_1.length : Int) := oa
         obtain ⟨ad582, e582, hx582_0, hx582_1⟩ := at_T73 HR0_1.out x11_2 p582 q582
         have hw582_1 := hx582_1
         have hw582_0 := hx582_0
         cases e582
         replace hx582_0 := (HB.out.cell (World.block_lt_of_cell? w _ hx582_0)).trans hx582_0
         replace hx582_1 := (HB.out.cell (World.block_lt_of_cell? w _ hx582_1)).trans hx582_1
         replace p582 := eq_true p582
         replace q582 := eq_true q582
         refine start_ (n := 11) (S := fun w' => w'.cell? ⟨gb577, 0, none⟩ = some (.int .i64 t575) ∧ w'.cell? ⟨gb577, 1, none⟩ = some (.int .i64 t576) ∧ w'.cell? ⟨gb569, 0, none⟩ = some (.int .i64 a0_0) ∧ w'.cell? ⟨gb569, 1, none⟩ = some (.slice (some ad582) l0_1.length c0_1) ∧ w'.cell? (ad582.add ((x11_2).toNat * 2)) = some (.int .i64 ((rd_T73 l0_1 x11_2).f0)) ∧ w'.cell? ⟨(ad582.add ((x11_2).toNat * 2)).block, (ad582.add ((x11_2).toNat * 2)).off + 1, none⟩ = some (.int .i64 ((rd_T73 l0_1 x11_2).f1))) (ds := []) #[false, false, false, false, false, false, false, false, false, false, false] (by kernel_rfl) rfl rfl ⟨(bc BK577 0), (bc BK577 1), (bc BK569 0), (bc BK569 1), ((HB.out.cell (World.block_lt_of_cell? w _ hw582_0)).trans hw582_0), ((HB.out.cell (World.block_lt_of_cell? w _ hw582_1)).trans hw582_1)⟩ (fun hHeld => ?_); refine with_tabW spec_NetAdd.tab9 spec_NetAdd.bits9 (fun HT_ HW_ => ?_)
         generalize wr.drew = w91 at HO_575001 BK569 BK570 BK574 BK577 HB hx582_0 hx582_1 hHeld ⊢
         refine pz_ 0 (some 47) HT_ ?_
         refine pz_ 1 (some 48) HT_ ?_
         refine pz_ 2 (some 49) HT_ ?_
         refine pz_ 4 (some 51) HT_ ?_
         refine pz_ 6 (some 53) HT_ ?_
         refine tz_ 3 (some 50) HT_ HW_ hHeld ?_
         refine tz_ 5 (some 52) HT_ HW_ hHeld ?_
         refine pz_ 7 (some 54) HT_ ?_
         refine tz_ 8 (some 55) HT_ HW_ hHeld ?_
         refine one_ (i := 9) (N := some 56) #[true, true, true, true, true, true, true, true, true, true, false] rfl rfl (one_of HT_.out (by kernel_rfl)) (by decide) (fun K hK => ?_)
         refine gg_ Try.func119 #[.agg #[.int .i64 t575, .int .i64 t576], .agg #[.int .i64 ((rd_T73 l0_1 x11_2).f0), .int .i64 ((rd_T73 l0_1 x11_2).f1)]] ?_
         with_reducible refine (spec_l1Less.calls t575 t576 ((rd_T73 l0_1 x11_2).f0) ((rd_T73 l0_1 x11_2).f1) false _ A63.out).mono ?_
         rintro e w92 ⟨rfl, hb⟩
         refine ⟨_, rfl, ?_⟩
         replace HO_575001 := am (Kd.R_below (onR HO_575001) hb)
         replace BK569 := bb BK569 hb
         replace BK570 := bb BK570 hb
         replace BK574 := bb BK574 hb
         replace BK577 := bb BK577 hb
         replace HB := bs HB hb
         (try clear hb)
         (try clear hb2)
         (try clear hk)
         (try clear hi)
         refine hK.out _ _ ⟨(bc BK577 0), (bc BK577 1), (bc BK569 0), (bc BK569 1), ((HB.out.cell (World.block_lt_of_cell? w _ hw582_0)).trans hw582_0), ((HB.out.cell (World.block_lt_of_cell? w _ hw582_1)).trans hw582_1)⟩ (fun hHeld => ?_)
         clear hK K
         refine nz_ 56 ?_
         refine pz_ 10 (some 57) HT_ ?_
         refine done_ (done_of HT_.out (by kernel_rfl)) ?_
         try go_wp2
         replace HO_575001 := am (Kd.R_drew HO_575001.out)
         replace BK569 := am (blk_drew BK569.out)
         replace BK570 := am (blk_drew BK570.out)
         replace BK574 := am (blk_drew BK574.out)
         replace BK577 := am (blk_drew BK577.out)
         replace HB := am (below_drew1 HB.out)
         have p591 : 0 ≤ (x11_2 : Int) := oa
         have q591 : x11_2 < (l0_1.length : Int) := oa
         obtain ⟨ad591, e591, hx591_0, hx591_1⟩ := at_T73 HR0_1.out x11_2 p591 q591
         have hw591_1 := hx591_1
         have hw591_0 := hx591_0
         obtain rfl : ad582 = ad591 := (by injection e591)
         replace hx591_0 := (HB.out.cell (World.block_lt_of_cell? w _ hx591_0)).trans hx591_0
         replace hx591_1 := (HB.out.cell (World.block_lt_of_cell? w _ hx591_1)).trans hx591_1
         replace p591 := eq_true p591
         replace q591 := eq_true q591
         refine start_ (n := 11) (S := fun w' => w'.cell? ⟨gb574, 0, none⟩ = some (.int .i64 a0_0) ∧ w'.cell? ⟨gb574, 1, none⟩ = some (u575001) ∧ w'.cell? ⟨gb569, 0, none⟩ = some (.int .i64 a0_0) ∧ w'.cell? ⟨gb569, 1, none⟩ = some (.slice (some ad582) l0_1.length c0_1) ∧ w'.cell? (ad582.add ((x11_2).toNat * 2)) = some (.int .i64 ((rd_T73 l0_1 x11_2).f0)) ∧ w'.cell? ⟨(ad582.add ((x11_2).toNat * 2)).block, (ad582.add ((x11_2).toNat * 2)).off + 1, none⟩ = some (.int .i64 ((rd_T73 l0_1 x11_2).f1))) (ds := [10]) #[false, false, false, false, false, false, false, false, false, false, false] (by kernel_rfl) rfl rfl ⟨(bc BK574 0), (bc BK574 1), (bc BK569 0), (bc BK569 1), ((HB.out.cell (World.block_lt_of_cell? w _ hw591_0)).trans hw591_0), ((HB.out.cell (World.block_lt_of_cell? w _ hw591_1)).trans hw591_1)⟩ (fun hHeld => ?_); refine with_tabW spec_NetAdd.tab12 spec_NetAdd.bits12 (fun HT_ HW_ => ?_)
         generalize w92.drew = w93 at HO_575001 BK569 BK570 BK574 BK577 HB hx591_0 hx591_1 hHeld ⊢
         refine pz_ 0 (some 64) HT_ ?_
         refine pz_ 2 (some 66) HT_ ?_
         refine pz_ 4 (some 68) HT_ ?_
         refine tz_ 1 (some 65) HT_ HW_ hHeld ?_
         refine tz_ 3 (some 67) HT_ HW_ hHeld ?_
         refine pz_ 5 (some 69) HT_ ?_
         refine tz_ 6 (some 70) HT_ HW_ hHeld ?_
         refine one_ (i := 7) (N := some 71) #[true, true, true, true, true, true, true, true, false, false, false] rfl rfl (one_of HT_.out (by kernel_rfl)) (by decide) (fun K hK => ?_)
         refine value_ (w1 := ?_) (v := ?_) (by rfl) rfl ?_ ?_
         rotate_left 2
         ·go_simp
          constructor
          ·rfl
          ·rfl
         refine hK.out _ _ ⟨(blk_cell (blk_alloc BK574.out _) 0).trans rfl, (blk_cell (blk_alloc BK574.out _) 1).trans rfl, (blk_cell (blk_alloc BK569.out _) 0).trans rfl, (blk_cell (blk_alloc BK569.out _) 1).trans rfl, (World.cell?_alloc_lt _ _ _ (World.block_lt_of_cell? _ _ (((HB.out.cell (World.block_lt_of_cell? w _ hw591_0)).trans hw591_0)))).trans (((HB.out.cell (World.block_lt_of_cell? w _ hw591_0)).trans hw591_0)), (World.cell?_alloc_lt _ _ _ (World.block_lt_of_cell? _ _ (((HB.out.cell (World.block_lt_of_cell? w _ hw591_1)).trans hw591_1)))).trans (((HB.out.cell (World.block_lt_of_cell? w _ hw591_1)).trans hw591_1))⟩ (fun hHeld => ?_)
         clear hK K
         refine nz_ 71 ?_
         refine one_ (i := 8) (N := some 72) #[true, true, true, true, true, true, true, true, true, false, false] rfl rfl (one_of HT_.out (by kernel_rfl)) (by decide) (fun K hK => ?_)
         refine Kd.R_append_step k73 (w0 := w) w.heap.size (by rfl) (.tmp 65) (.tmp 71) 32 73 (.agg #[(.int .i64 0), (.int .i64 0)]) 16 rfl Try.underlying32 info73 rfl (by decide) (by omega) u575001 x575001_2 (⟨(rd_T73 l0_1 x11_2).f0, (rd_T73 l0_1 x11_2).f1⟩ : S73) [.int .i64 ((rd_T73 l0_1 x11_2).f0), .int .i64 ((rd_T73 l0_1 x11_2).f1)] (fun k_ => k_ ≠ gb577) (fun _ => False) rfl rfl ?aP (fun _ hk => hk.elim) ?aF ?aO ?aB ?aS ?aL ?_
         (case aP => exact k73_mkM _ _ _ (⟨(rd_T73 l0_1 x11_2).f0, (rd_T73 l0_1 x11_2).f1⟩ : S73))
         (case aB => exact (bn HB))
         (case aF => exact (fun k_ hk => Kd.freshB (bkn BK577) k_ hk))
         (case aO => exact (onR HO_575001))
         (case aS => exact (below_size (bn HB)))
         (case aL => have := LMc86.out; omega)
         intro v593 w94 ho hb hg hat
         rw [← Ny592.out] at ho
         have n0_ := am (blk_grown (bkn BK569) hg (Kd.R_ne HO_575001.out BK569.out (by decide)))
         have n1_ := am (blk_grown (bkn BK570) hg (Kd.R_ne HO_575001.out BK570.out (by decide)))
         have n2_ := am (blk_grown (bkn BK574) hg (Kd.R_ne HO_575001.out BK574.out (by decide)))
         have n3_ := am (blk_grown (bkn BK577) hg (Kd.R_away HO_575001.out (fun _ hk => hk)))
         have n4_ := am hb
         have n5_ := am ho
         clear BK569 BK570 BK574 BK577 HB HO_575001
         have BK569 := n0_
         have BK570 := n1_
         have BK574 := n2_
         have BK577 := n3_
         have HB := n4_
         have HO594 := n5_
         clear n0_ n1_ n2_ n3_ n4_ n5_ ho hb hg hat
         obtain ⟨Ao95, co95, eo95⟩ := Kd.R_slice HO594.out
         (first | subst eo95 | (injection eo95 with f1_ f2_ f3_; have f4_ := f1_.symm; have f5_ := f3_.symm; clear f1_ f2_ f3_; subst f4_; subst f5_))
         refine hK.out _ _ ⟨(bc BK574 0), (bc BK574 1), (bc BK569 0), (bc BK569 1), ((HB.out.cell (World.block_lt_of_cell? w _ hw591_0)).trans hw591_0), ((HB.out.cell (World.block_lt_of_cell? w _ hw591_1)).trans hw591_1)⟩ (fun hHeld => ?_)
         clear hK K
         refine nz_ 72 ?_
         refine pz_ 9 (some 73) HT_ ?_
         refine last_ (i := 10) (N := none) #[true, true, true, true, true, true, true, true, true, true, true] rfl rfl (one_of HT_.out (by kernel_rfl)) (by decide) (fun K hK => ?_)
         have hs96 := bc BK574 1
         have hfs96 := blk_frozen BK574.out 1
         have hns96_0 := NB569_574.out
         have hns96_1 := NB570_574.out
         have hns96_3 := NB577_574.out
         have hms96_0 := NB574_569.out
         have hms96_1 := NB574_570.out
         have hms96_3 := NB574_577.out
         refine skip_ (w1 := ?_) (by rfl) rfl ?_ ?_
         rotate_left
         ·go_simp
          rfl
         refine hK.out _ _ ?_
         clear hK K
         refine done_ (done_of HT_.out (by kernel_rfl)) ?_
         try go_wp2
         go_roundg k2
         case measure => have := HJ3.out; have := HK2.out; omega
         case rel => exact ⟨(false), (wrap64 (x11_2 + 1)), (y592), (.slice Ao95 y592.length co95), (by first | rfl | (simp; done) | (simp [*]; done)), (by first | rfl | (simp; done) | (simp [*]; done)), H', ⟨by have := HJ3.out; have := HK2.out; omega⟩, ⟨by (with_reducible repeat (first | apply Kd.R_alloc | apply Kd.R_drewN | apply Kd.R_drew)); exact Kd.R_mono (Kd.R_far (p := ⟨gb574, 1, none⟩) (Kd.R_types HO594.out BK574.out (by decide)) (fun _ hk => hk.2) (.slice Ao95 y592.length co95)) (fun _ hk => hk.1)⟩, ⟨bkn BK569⟩, ⟨bkn BK570⟩, ⟨by (with_reducible repeat (first | refine blk_drewN ?_ _ | refine blk_drew ?_ | refine blk_alloc ?_ _)); refine blk_put (cs := #[.int .i64 a0_0, u575001]) ?_ 1 _ rfl; (with_reducible repeat (first | refine blk_drewN ?_ _ | refine blk_drew ?_ | refine blk_alloc ?_ _)); exact BK574.out⟩, ⟨bkn BK577⟩, ⟨bn HB⟩⟩
      ·rw [if_neg c49] at H
       have c49b0 := decide_eq_false c49
       clear c49
       by_cases c97 : x10_2 = true
       ·subst c97
        rw [if_pos rfl] at H
        simp only [Option.some.injEq, Prod.mk.injEq] at H
        obtain ⟨rfl, rfl, rfl⟩ := H
        obtain ⟨hnb98, hnc98⟩ := n2 NB569_570 NB570_569
        obtain ⟨hnb99, hnc99⟩ := n2 NB569_574 NB574_569
        obtain ⟨hnb100, hnc100⟩ := n2 NB569_577 NB577_569
        obtain ⟨hcz101_0, hcz101_1, hfz101_0, hfz101_1⟩ := c2 BK569
        obtain ⟨hnb102, hnc102⟩ := n2 NB574_570 NB570_574
        obtain ⟨hnb103, hnc103⟩ := n2 NB574_577 NB577_574
        obtain ⟨hcz104_0, hcz104_1, hfz104_0, hfz104_1⟩ := c2 BK574
        obtain ⟨hnb105, hnc105⟩ := n2 NB570_577 NB577_570
        obtain ⟨hcz106_0, hcz106_1, hfz106_0, hfz106_1⟩ := c2 BK570
        obtain ⟨Ao107, co107, eo107⟩ := Kd.R_slice HO_575001.out
        subst eo107
        go_wp2
        refine bodyPost_ret (results_ct rfl _ _ gb570 34 #[.int .i64 a0_0, .slice Ao107 x575001_2.length co107] (0, 0) _ rfl (by (with_reducible repeat (first | refine blk_drewN ?_ _ | refine blk_drew ?_ | refine blk_alloc ?_ _)); refine blk_put (cs := #[.int .i64 a0_0, .slice none 0 0]) ?_ 1 _ rfl; (with_reducible repeat (first | refine blk_drewN ?_ _ | refine blk_drew ?_ | refine blk_alloc ?_ _)); refine blk_put (cs := #[.int .i64 0, .slice none 0 0]) ?_ 0 _ rfl; (with_reducible repeat (first | refine blk_drewN ?_ _ | refine blk_drew ?_ | refine blk_alloc ?_ _)); exact BK570.out) Try.underlying34 rfl (by kernel_rfl)) rfl ?_
        exact ⟨_, by first | rfl | (simp [errW_none, errW_some] <;> rfl) | (simp [*, errW_none, errW_some] <;> rfl), by (with_reducible repeat (first | apply Kd.R_alloc | apply Kd.R_drewN | apply Kd.R_drew)); exact Kd.R_mono (Kd.R_far (p := ⟨gb570, 1, none⟩) (Kd.R_far (p := ⟨gb570, 0, none⟩) (Kd.R_types HO_575001.out BK570.out (by decide)) (fun _ hk => hk.2) (.int .i64 a0_0)) (fun _ hk => hk.2) (.slice Ao107 x575001_2.length co107)) (fun _ hk => trivial), bn HB⟩
       ·replace c97 := Bool.eq_false_iff.mpr c97
        subst c97
        rw [if_neg (show ¬ (false = true) by decide)] at H
        obtain ⟨c108, H⟩ := ig_ H
        have LMc108 := am c108
        clear c108
        obtain ⟨y595, hy595⟩ : ∃ y_ : List (S73), y_ = (x575001_2 ++ [(⟨t575, t576⟩ : S73)]) := ⟨_, rfl⟩
        replace H : (some (a0_0, y595, true)) = some (r1, r2, r3) := nh_ hy595 H
        have Ny595 := am hy595
        clear hy595
        simp only [Option.some.injEq, Prod.mk.injEq] at H
        obtain ⟨rfl, rfl, rfl⟩ := H
        obtain ⟨hnb109, hnc109⟩ := n2 NB569_570 NB570_569
        obtain ⟨hnb110, hnc110⟩ := n2 NB569_574 NB574_569
        obtain ⟨hnb111, hnc111⟩ := n2 NB569_577 NB577_569
        obtain ⟨hcz112_0, hcz112_1, hfz112_0, hfz112_1⟩ := c2 BK569
        obtain ⟨hnb113, hnc113⟩ := n2 NB574_570 NB570_574
        obtain ⟨hnb114, hnc114⟩ := n2 NB574_577 NB577_574
        obtain ⟨hcz115_0, hcz115_1, hfz115_0, hfz115_1⟩ := c2 BK574
        obtain ⟨hnb116, hnc116⟩ := n2 NB577_570 NB570_577
        obtain ⟨hcz117_0, hcz117_1, hfz117_0, hfz117_1⟩ := c2 BK577
        go_wp2_with (first | ((with_reducible refine gate_builtin (b := .append) (xs := #[.tmp 77, .tmp 79]) rfl ?_); at_builtin; refine Kd.R_append k73 (w0 := w) w.heap.size rfl (.tmp 77) (.tmp 79) 32 73 (.agg #[(.int .i64 0), (.int .i64 0)]) 16 rfl Try.underlying32 info73 rfl (by decide) (by omega) u575001 x575001_2 (⟨t575, t576⟩ : S73) [.int .i64 t575, .int .i64 t576] (fun k_ => k_ ≠ gb577) (fun _ => False) rfl rfl ?aP (fun _ hk => hk.elim) ?aF ?aO ?aB ?aS ?aL ?_; (case aP => exact k73_mkM _ _ _ (⟨t575, t576⟩ : S73)); (case aB => exact (bn HB)); (case aF => exact (fun k_ hk => Kd.freshB (bkn BK577) k_ hk)); (case aO => exact (onR HO_575001)); (case aS => exact (below_size (bn HB))); (case aL => have := LMc108.out; omega); intro v596 w118 ho hb hg hat; rw [← Ny595.out] at ho; replace BK569 := am (blk_grown (bkn BK569) hg (Kd.R_ne HO_575001.out BK569.out (by decide))); replace BK570 := am (blk_grown (bkn BK570) hg (Kd.R_ne HO_575001.out BK570.out (by decide))); replace BK574 := am (blk_grown (bkn BK574) hg (Kd.R_ne HO_575001.out BK574.out (by decide))); replace BK577 := am (blk_grown (bkn BK577) hg (Kd.R_away HO_575001.out (fun _ hk => hk))); replace HB := am hb; have HO597 := am ho; clear HO_575001; clear ho hb hg hat; obtain ⟨Ao119, co119, eo119⟩ := Kd.R_slice HO597.out; subst eo119; obtain ⟨hcz120_0, hcz120_1, hfz120_0, hfz120_1⟩ := c2 BK574; obtain ⟨hcz121_0, hcz121_1, hfz121_0, hfz121_1⟩ := c2 BK570))
        refine bodyPost_ret (results_ct rfl _ _ gb570 34 #[.int .i64 a0_0, .slice Ao119 y595.length co119] (0, 0) _ rfl (by (with_reducible repeat (first | refine blk_drewN ?_ _ | refine blk_drew ?_ | refine blk_alloc ?_ _)); refine blk_put (cs := #[.int .i64 a0_0, .slice none 0 0]) ?_ 1 _ rfl; (with_reducible repeat (first | refine blk_drewN ?_ _ | refine blk_drew ?_ | refine blk_alloc ?_ _)); refine blk_put (cs := #[.int .i64 0, .slice none 0 0]) ?_ 0 _ rfl; (with_reducible repeat (first | refine blk_drewN ?_ _ | refine blk_drew ?_ | refine blk_alloc ?_ _)); refine blk_far ?_ NB570_574.out _; (with_reducible repeat (first | refine blk_drewN ?_ _ | refine blk_drew ?_ | refine blk_alloc ?_ _)); exact BK570.out) Try.underlying34 rfl (by kernel_rfl)) rfl ?_
        exact ⟨_, by first | rfl | (simp [errW_none, errW_some] <;> rfl) | (simp [*, errW_none, errW_some] <;> rfl), by (with_reducible repeat (first | apply Kd.R_alloc | apply Kd.R_drewN | apply Kd.R_drew)); exact Kd.R_mono (Kd.R_far (p := ⟨gb570, 1, none⟩) (Kd.R_far (p := ⟨gb570, 0, none⟩) (Kd.R_far (p := ⟨gb574, 1, none⟩) (Kd.R_types (Kd.R_types HO597.out BK574.out (by decide)) BK570.out (by decide)) (fun _ hk => hk.1.2) (.slice Ao119 y595.length co119)) (fun _ hk => hk.2) (.int .i64 a0_0)) (fun _ hk => hk.2) (.slice Ao119 y595.length co119)) (fun _ hk => trivial), bn HB⟩

end Go.Proofs.Ytdlnnjgjfngccaa.F
