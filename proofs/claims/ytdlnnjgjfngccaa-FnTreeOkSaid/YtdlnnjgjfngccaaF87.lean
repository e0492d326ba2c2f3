-- Written by oprint.py (wip/tools) over the kit's print program, for this seat.
import Derived.Test.YtdlnnjgjfngccaaF0
import Derived.Test.YtdlnnjgjfngccaaF14
import Derived.Test.YtdlnnjgjfngccaaF20
import Derived.Test.YtdlnnjgjfngccaaF31
import Derived.Test.YtdlnnjgjfngccaaF37
import Derived.Test.YtdlnnjgjfngccaaF61
import Derived.Test.YtdlnnjgjfngccaaF62
import Derived.Test.YtdlnnjgjfngccaaF8
namespace Go.Proofs.Ytdlnnjgjfngccaa.F
open Go.RowKit Go.Proofs.YtdlnnjgjfngccaaW.PrintWords Go.Proofs.YtdlnnjgjfngccaaW.PrintLast Go.Proofs.YtdlnnjgjfngccaaW.PrintMore
attribute [local go_sem] max2_int min2_int max_two min_two max_three min_three max_four min_four   -- for this text's walks alone
set_option linter.unusedVariables false
set_option linter.unusedSimpArgs false

/-! ### impl_TreeOk: function 77 -/
def impl_TreeOk.j0 : Nat → List (S73) → Bool → Int → List (S73) → Option (Bool)
 | 0, _, _, _, _ => none
 | k + 1, x1, x14, x1407000, x1407001 => if x14 = true then (some false) else ((impl_Net_count.f k x1407000 x1407001).bind fun t1409 => ((impl_Net_count.f k x1407000 x1).bind fun t1410 => (if t1410 = t1409 then (some ((x1.length : Int) == (wrap64 (x1407000 - t1409)))) else (some false))))
def impl_TreeOk.f (k : Nat) (a0_0 : Int) (l0_1 : List (S73)) (l1 : List (S73)) : Option (Bool) := (impl_NetOk.f k a0_0 l0_1).bind fun t1407 => (if t1407 = true then ((impl_Net_own.f k a0_0 l0_1 l1).bind fun t1408 => (impl_TreeOk.j0 k l1 (!t1408) a0_0 l0_1)) else (impl_TreeOk.j0 k l1 true a0_0 l0_1))
theorem impl_TreeOk.mono_l : ∀ k, (∀ y0 y1 y2 y3, LeO (impl_TreeOk.j0 k y0 y1 y2 y3) (impl_TreeOk.j0 (k + 1) y0 y1 y2 y3))
 | 0 => fun _ _ _ _ r h => by simp [impl_TreeOk.j0] at h
 | k + 1 => by
  have ih0 := impl_TreeOk.mono_l k
  ·intro y0 y1 y2 y3
   unfold impl_TreeOk.j0
   have m0_ := @impl_NetOk.mono
   have m1_ := @impl_Net_count.mono
   have m2_ := @impl_Net_own.mono
   exact mo_
theorem impl_TreeOk.mono : ∀ a0 a1 a2 k, LeO (impl_TreeOk.f k a0 a1 a2) (impl_TreeOk.f (k + 1) a0 a1 a2) := by
 intro a0 a1 a2 k
 have ih0 := impl_TreeOk.mono_l k
 unfold impl_TreeOk.f
 have m0_ := @impl_NetOk.mono
 have m1_ := @impl_Net_count.mono
 have m2_ := @impl_Net_own.mono
 exact mo_
set_option maxHeartbeats 8000000 in
set_option maxRecDepth 100000 in
theorem impl_TreeOk.calls (k : Nat) (a0_0 : Int) (A0_1 : Option Addr) (c0_1 : Nat) (l0_1 : List (S73)) (A1 : Option Addr) (c1 : Nat) (l1 : List (S73)) (r : Bool) (w : World) (hr0_1 : Kd.C k73 w A0_1 l0_1.length l0_1) (hc0_1 : l0_1.length ≤ c0_1) (hr1 : Kd.C k73 w A1 l1.length l1) (hc1 : l1.length ≤ c1) (h : impl_TreeOk.f k a0_0 l0_1 l1 = some r) :
  Calls Try.prog 77 #[.agg #[.int .i64 a0_0, .slice A0_1 l0_1.length c0_1], .slice A1 l1.length c1] w fun e w' => e = .returned (.bool r) ∧ Below w.heap.size w w' := by
 have hu34 := Try.underlying34
 have HR0_1 := am hr0_1
 have HC0_1 := am hc0_1
 clear hr0_1 hc0_1
 have HR1 := am hr1
 have HC1 := am hc1
 clear hr1 hc1
 have HB := am (Below.refl w.heap.size w)
 have H : ((impl_NetOk.f k a0_0 l0_1).bind fun t1407 => (if t1407 = true then ((impl_Net_own.f k a0_0 l0_1 l1).bind fun t1408 => (impl_TreeOk.j0 k l1 (!t1408) a0_0 l0_1)) else (impl_TreeOk.j0 k l1 true a0_0 l0_1))) = some r := h
 clear h
 have HC3 := am H
 clear H
 go_enter Try.func77, Try.ntmps77
 go_upto_region 1 with (first | ((with_reducible refine gate_dst (N := 2) rfl ?_); refine be_ 2 #[.int .i64 a0_0, .slice A0_1 l0_1.length c0_1] 34 ?_; intro gb1406 hg w4 hbox hb; have BK1406 := am hbox; have GW1406 := am (ge_ hg HB); have GE1406 := am (ge_ hg HB); replace HB := bs HB hb; clear hb hbox hg))
 (try simp only [Act.put, List.setIfInBounds_toArray, List.set_cons_zero, List.set_cons_succ])
 go_cut [14] (fun v14 wc => ∃ (kq : Nat) (x14_2 : Bool), v14 = .bool x14_2 ∧ Aside0 (impl_TreeOk.j0 kq l1 x14_2 a0_0 l0_1 = some r) ∧ Aside0 (kq ≤ k) ∧ Aside0 (wc.heap[gb1406]? = some (.cells #[.int .i64 a0_0, (.slice A0_1 l0_1.length c0_1)] 34 (0, 0))) ∧ Aside0 (Below w.heap.size w wc))
 case first =>
  have H := HC3.out
  clear HC3
  replace H := Option.bind_eq_some_iff.mp H
  obtain ⟨t1407, A50, H⟩ := H
  (try dsimp only at H)
  have A5 := am A50
  clear A50
  by_cases c6 : t1407 = true
  ·subst c6
   rw [if_pos rfl] at H
   replace H := Option.bind_eq_some_iff.mp H
   obtain ⟨t1408, A70, H⟩ := H
   (try dsimp only at H)
   have A7 := am A70
   clear A70
   have H' := am H
   clear H
   obtain ⟨hcz8_0, hcz8_1, hfz8_0, hfz8_1⟩ := c2 BK1406
   go_wp2_with (first | ((with_reducible refine gate_callee (f := 91) rfl ?_); refine gl_ (some 7) Try.func91 #[.agg #[.int .i64 a0_0, .slice A0_1 l0_1.length c0_1]] ?_; (with_reducible refine (impl_NetOk.calls k a0_0 _ _ l0_1 true _ ?side1 ?side2 A5.out).mono ?_); (case side1 => exact cb HR0_1 HB); (case side2 => exact HC0_1.out); rintro e w9 ⟨rfl, hb⟩; refine ⟨_, rfl, ?_⟩; replace BK1406 := bb BK1406 hb; replace HB := bs HB hb; (try clear hb); obtain ⟨hcz10_0, hcz10_1, hfz10_0, hfz10_1⟩ := c2 BK1406) | (go_at_call 105; (with_reducible refine (impl_Net_own.calls k a0_0 _ _ l0_1 _ _ l1 t1408 _ ?side1 ?side2 ?side3 ?side4 A7.out).mono ?_); (case side1 => exact cb HR0_1 HB); (case side2 => exact HC0_1.out); (case side3 => exact cb HR1 HB); (case side4 => exact HC1.out); rintro e w11 ⟨rfl, hb⟩; replace BK1406 := bb BK1406 hb; replace HB := bs HB hb; (try clear hb); (try clear hi)))
   go_meet
   case rel => exact ⟨_, (!t1408), (by first | rfl | (simp; done) | (simp [*]; done)), H', ⟨by first | omega | exact Nat.le_refl _⟩, ⟨bkn BK1406⟩, ⟨bn HB⟩⟩
  ·replace c6 := Bool.eq_false_iff.mpr c6
   subst c6
   rw [if_neg (show ¬ (false = true) by decide)] at H
   have H' := am H
   clear H
   obtain ⟨hcz12_0, hcz12_1, hfz12_0, hfz12_1⟩ := c2 BK1406
   go_wp2_with (first | ((with_reducible refine gate_callee (f := 91) rfl ?_); refine gl_ (some 7) Try.func91 #[.agg #[.int .i64 a0_0, .slice A0_1 l0_1.length c0_1]] ?_; (with_reducible refine (impl_NetOk.calls k a0_0 _ _ l0_1 false _ ?side1 ?side2 A5.out).mono ?_); (case side1 => exact cb HR0_1 HB); (case side2 => exact HC0_1.out); rintro e w13 ⟨rfl, hb⟩; refine ⟨_, rfl, ?_⟩; replace BK1406 := bb BK1406 hb; replace HB := bs HB hb; (try clear hb); (try clear hi)))
   go_meet
   case rel => exact ⟨_, (true), (by first | rfl | (simp; done) | (simp [*]; done)), H', ⟨by first | omega | exact Nat.le_refl _⟩, ⟨bkn BK1406⟩, ⟨bn HB⟩⟩
 case rest =>
  clear HC3
  try clear c1
  try clear p2
  try clear c6
  try clear c7
  try clear c9
  try clear hcz10_0 hcz10_1 hfz10_0 hfz10_1
  try clear hcz12_0 hcz12_1 hfz12_0 hfz12_1
  try clear hcz8_0 hcz8_1 hfz8_0 hfz8_1
  obtain ⟨kq, x14_2, rfl, HA, HJ2, BK1406, HB⟩ := hcut
  cases kq with
  | zero => exact absurd HA.out (by simp [impl_TreeOk.j0])
  | succ kj2 =>
   have H := HA.out
   clear HA
   simp only [impl_TreeOk.j0] at H
   by_cases c14 : x14_2 = true
   ·subst c14
    rw [if_pos rfl] at H
    obtain rfl := Option.some.inj H
    go_wp2
    go_ret
    exact ⟨by first | rfl | (simp [errW_none, errW_some] <;> rfl) | (simp [*, errW_none, errW_some] <;> rfl), bn HB⟩
   ·replace c14 := Bool.eq_false_iff.mpr c14
    subst c14
    rw [if_neg (show ¬ (false = true) by decide)] at H
    replace H := Option.bind_eq_some_iff.mp H
    obtain ⟨t1409, A150, H⟩ := H
    (try dsimp only at H)
    have A15 := am A150
    clear A150
    replace H := Option.bind_eq_some_iff.mp H
    obtain ⟨t1410, A160, H⟩ := H
    (try dsimp only at H)
    have A16 := am A160
    clear A160
    by_cases c17 : t1410 = t1409
    ·rw [if_pos c17] at H
     have c17b0 : (t1410 == t1409) = true := beq_iff_eq.mpr c17
     have c17b1 : (t1410 != t1409) = false := bne_eq_false_iff_eq.mpr c17
     clear c17
     obtain rfl := Option.some.inj H
     obtain ⟨hcz18_0, hcz18_1, hfz18_0, hfz18_1⟩ := c2 BK1406
     go_wp2_with (first | ((with_reducible refine gate_callee (f := 116) rfl ?_); refine gl_ (some 16) Try.func116 #[.agg #[.int .i64 a0_0, .slice A0_1 l0_1.length c0_1]] ?_; (with_reducible refine (impl_Net_count.calls kj2 a0_0 _ _ l0_1 t1409 _ ?side1 ?side2 A15.out).mono ?_); (case side1 => exact cb HR0_1 HB); (case side2 => exact HC0_1.out); rintro e w19 ⟨rfl, hb⟩; refine ⟨_, rfl, ?_⟩; replace BK1406 := bb BK1406 hb; replace HB := bs HB hb; (try clear hb); obtain ⟨hcz20_0, hcz20_1, hfz20_0, hfz20_1⟩ := c2 BK1406) | ((with_reducible refine gate_callee (f := 116) rfl ?_); refine gl_ (some 21) Try.func116 #[.agg #[.int .i64 a0_0, .slice A1 l1.length c1]] ?_; (with_reducible refine (impl_Net_count.calls kj2 a0_0 _ _ l1 t1410 _ ?side1 ?side2 A16.out).mono ?_); (case side1 => exact cb HR1 HB); (case side2 => exact HC1.out); rintro e w21 ⟨rfl, hb⟩; refine ⟨_, rfl, ?_⟩; replace BK1406 := bb BK1406 hb; replace HB := bs HB hb; (try clear hb); obtain ⟨hcz22_0, hcz22_1, hfz22_0, hfz22_1⟩ := c2 BK1406))
     go_ret
     exact ⟨by first | rfl | (simp [errW_none, errW_some] <;> rfl) | (simp [*, errW_none, errW_some] <;> rfl), bn HB⟩
    ·rw [if_neg c17] at H
     have c17b0 : (t1410 == t1409) = false := beq_eq_false_iff_ne.mpr c17
     have c17b1 : (t1410 != t1409) = true := bne_iff_ne.mpr c17
     obtain rfl := Option.some.inj H
     obtain ⟨hcz23_0, hcz23_1, hfz23_0, hfz23_1⟩ := c2 BK1406
     go_wp2_with (first | ((with_reducible refine gate_callee (f := 116) rfl ?_); refine gl_ (some 16) Try.func116 #[.agg #[.int .i64 a0_0, .slice A0_1 l0_1.length c0_1]] ?_; (with_reducible refine (impl_Net_count.calls kj2 a0_0 _ _ l0_1 t1409 _ ?side1 ?side2 A15.out).mono ?_); (case side1 => exact cb HR0_1 HB); (case side2 => exact HC0_1.out); rintro e w24 ⟨rfl, hb⟩; refine ⟨_, rfl, ?_⟩; replace BK1406 := bb BK1406 hb; replace HB := bs HB hb; (try clear hb); obtain ⟨hcz25_0, hcz25_1, hfz25_0, hfz25_1⟩ := c2 BK1406) | ((with_reducible refine gate_callee (f := 116) rfl ?_); refine gl_ (some 21) Try.func116 #[.agg #[.int .i64 a0_0, .slice A1 l1.length c1]] ?_; (with_reducible refine (impl_Net_count.calls kj2 a0_0 _ _ l1 t1410 _ ?side1 ?side2 A16.out).mono ?_); (case side1 => exact cb HR1 HB); (case side2 => exact HC1.out); rintro e w26 ⟨rfl, hb⟩; refine ⟨_, rfl, ?_⟩; replace BK1406 := bb BK1406 hb; replace HB := bs HB hb; (try clear hb); (try clear hi)))
     go_ret
     exact ⟨by first | rfl | (simp [errW_none, errW_some] <;> rfl) | (simp [*, errW_none, errW_some] <;> rfl), bn HB⟩

/-! ### spec_TreeOk: function 78 -/
mutual
def spec_TreeOk.j0 : Nat → List (S73) → Bool → Int → List (S73) → Int → List (S73) → Option (Bool)
 | 0, _, _, _, _, _, _ => none
 | k + 1, x1, x18, x1412000, x1412001, x1413000, x1413001 => if x18 = true then (some false) else (spec_TreeOk.l0 k x1 0 x1412000 x1412001 x1413000 x1413001)
def spec_TreeOk.l0 : Nat → List (S73) → Int → Int → List (S73) → Int → List (S73) → Option (Bool)
 | 0, _, _, _, _, _, _ => none
 | k + 1, x1, x6, x1412000, x1412001, x1413000, x1413001 => if x6 < (x1.length : Int) then (if 0 ≤ x6 then ((spec_NetHas.f k x1412000 x1412001 ((rd_T73 x1 x6).f0) ((rd_T73 x1 x6).f1)).bind fun t1417 => (if t1417 = true then (spec_TreeOk.l0 k x1 (wrap64 (x6 + 1)) x1412000 x1412001 x1413000 x1413001) else (some false))) else (none)) else ((spec_WayCount.f k x1413000 x1413001).bind fun t1418 => ((spec_WayCount.f k x1412000 x1412001).bind fun t1419 => (if t1418 = t1419 then ((spec_WayCount.f k x1412000 x1412001).bind fun t1420 => (some ((x1.length : Int) == (wrap64 (x1412000 - t1420))))) else (some false))))
end
def spec_TreeOk.f (k : Nat) (a0_0 : Int) (l0_1 : List (S73)) (l1 : List (S73)) : Option (Bool) := (spec_NetOk.f k a0_0 l0_1).bind fun t1413 => (if t1413 = true then ((spec_NetOk.f k a0_0 l1).bind fun t1414 => (spec_TreeOk.j0 k l1 (!t1414) a0_0 l0_1 a0_0 l1)) else (spec_TreeOk.j0 k l1 true a0_0 l0_1 a0_0 l1))
theorem spec_TreeOk.mono_l : ∀ k, (∀ y0 y1 y2 y3 y4 y5, LeO (spec_TreeOk.j0 k y0 y1 y2 y3 y4 y5) (spec_TreeOk.j0 (k + 1) y0 y1 y2 y3 y4 y5)) ∧ (∀ y0 y1 y2 y3 y4 y5, LeO (spec_TreeOk.l0 k y0 y1 y2 y3 y4 y5) (spec_TreeOk.l0 (k + 1) y0 y1 y2 y3 y4 y5))
 | 0 => ⟨fun _ _ _ _ _ _ r h => by simp [spec_TreeOk.j0] at h, fun _ _ _ _ _ _ r h => by simp [spec_TreeOk.l0] at h⟩
 | k + 1 => by
  obtain ⟨ih0, ih1⟩ := spec_TreeOk.mono_l k
  refine ⟨?_, ?_⟩
  ·intro y0 y1 y2 y3 y4 y5
   unfold spec_TreeOk.j0
   have m0_ := @spec_NetHas.mono
   have m1_ := @spec_NetOk.mono
   have m2_ := @spec_WayCount.mono
   exact mo_
  ·intro y0 y1 y2 y3 y4 y5
   unfold spec_TreeOk.l0
   have m0_ := @spec_NetHas.mono
   have m1_ := @spec_NetOk.mono
   have m2_ := @spec_WayCount.mono
   exact mo_
theorem spec_TreeOk.mono : ∀ a0 a1 a2 k, LeO (spec_TreeOk.f k a0 a1 a2) (spec_TreeOk.f (k + 1) a0 a1 a2) := by
 intro a0 a1 a2 k
 obtain ⟨ih0, ih1⟩ := spec_TreeOk.mono_l k
 unfold spec_TreeOk.f
 have m0_ := @spec_NetHas.mono
 have m1_ := @spec_NetOk.mono
 have m2_ := @spec_WayCount.mono
 exact mo_
def spec_TreeOk.T7 : Bool × List (List Nat × List Nat) := (true, [([], []), ([], []), ([], []), ([1, 2], [1, 2]), ([3], [3]), ([4], [4]), ([], []), ([], []), ([6, 7], [6, 7]), ([8], [8]), ([9], [9]), ([0, 5, 10], [0, 5, 10]), ([11], [11])])
def spec_TreeOk.B7 : List Nat := [0, 0, 0, 6, 14, 30, 0, 0, 192, 448, 960, 2047, 4095]
theorem spec_TreeOk.tab7 : rtab .any (opsOf Try.f78 7) = spec_TreeOk.T7 := by kernel_rfl
theorem spec_TreeOk.bits7 : waitsOk spec_TreeOk.T7.2 spec_TreeOk.B7 = true := by kernel_rfl
def spec_TreeOk.T9 : Bool × List (List Nat × List Nat) := (true, [([], []), ([0], [0]), ([], []), ([2, 1], [2]), ([1, 3], [1, 3]), ([4, 3], [4]), ([5], [5]), ([6, 5], [5, 6]), ([5], [5]), ([8, 5], [5, 8]), ([5], [5]), ([10, 5, 5], [5, 10]), ([9, 11, 5], [5, 9, 11]), ([7, 12, 5], [5, 7, 12]), ([5, 13], [5, 13]), ([14, 11, 0, 1, 2, 3, 4, 5, 6, 7, 8, 9, 10, 11, 12, 13, 14], [14])])
def spec_TreeOk.B9 : List Nat := [0, 1, 0, 7, 15, 31, 63, 127, 63, 319, 63, 1087, 3903, 8191, 16383, 32767]
theorem spec_TreeOk.tab9 : rtab .any (opsOf Try.f78 9) = spec_TreeOk.T9 := by kernel_rfl
theorem spec_TreeOk.bits9 : waitsOk spec_TreeOk.T9.2 spec_TreeOk.B9 = true := by kernel_rfl
set_option maxHeartbeats 8000000 in
set_option maxRecDepth 100000 in
theorem spec_TreeOk.calls (k : Nat) (a0_0 : Int) (A0_1 : Option Addr) (c0_1 : Nat) (l0_1 : List (S73)) (A1 : Option Addr) (c1 : Nat) (l1 : List (S73)) (r : Bool) (w : World) (hr0_1 : Kd.C k73 w A0_1 l0_1.length l0_1) (hc0_1 : l0_1.length ≤ c0_1) (hr1 : Kd.C k73 w A1 l1.length l1) (hc1 : l1.length ≤ c1) (h : spec_TreeOk.f k a0_0 l0_1 l1 = some r) :
  Calls Try.prog 78 #[.agg #[.int .i64 a0_0, .slice A0_1 l0_1.length c0_1], .slice A1 l1.length c1] w fun e w' => e = .returned (.bool r) ∧ Below w.heap.size w w' := by
 have hu34 := Try.underlying34
 have HR0_1 := am hr0_1
 have HC0_1 := am hc0_1
 clear hr0_1 hc0_1
 have HR1 := am hr1
 have HC1 := am hc1
 clear hr1 hc1
 have HB := am (Below.refl w.heap.size w)
 have H : ((spec_NetOk.f k a0_0 l0_1).bind fun t1413 => (if t1413 = true then ((spec_NetOk.f k a0_0 l1).bind fun t1414 => (spec_TreeOk.j0 k l1 (!t1414) a0_0 l0_1 a0_0 l1)) else (spec_TreeOk.j0 k l1 true a0_0 l0_1 a0_0 l1))) = some r := h
 clear h
 have HC3 := am H
 clear H
 go_enter Try.func78, Try.ntmps78
 go_upto_region 2 with (first | ((with_reducible refine gate_dst (N := 2) rfl ?_); refine be_ 2 #[.int .i64 a0_0, .slice A0_1 l0_1.length c0_1] 34 ?_; intro gb1411 hg w4 hbox hb; have BK1411 := am hbox; have GW1411 := am (ge_ hg HB); have GE1411 := am (ge_ hg HB); replace HB := bs HB hb; clear hb hbox hg; obtain ⟨hcz5_0, hcz5_1, hfz5_0, hfz5_1⟩ := c2 BK1411) | ((with_reducible refine gate_dst (N := 5) rfl ?_); refine be_ 5 #[.int .i64 0, .slice none 0 0] 34 ?_; intro gb1412 hg w6 hbox hb; have BK1412 := am hbox; have GW1412 := am (ge_ hg HB); have GE1412 := am (ge_ hg HB); replace HB := bs HB hb; obtain ⟨NB1411_1412, NB1412_1411⟩ := nb_ hg BK1411; replace BK1411 := bb BK1411 hb; clear hb hbox hg; obtain ⟨hnb7, hnc7⟩ := n2 NB1412_1411 NB1411_1412; obtain ⟨hcz8_0, hcz8_1, hfz8_0, hfz8_1⟩ := c2 BK1412))
 (try simp only [Act.put, List.setIfInBounds_toArray, List.set_cons_zero, List.set_cons_succ])
 go_cut [18] (fun v18 wc => ∃ (kq : Nat) (x18_2 : Bool), v18 = .bool x18_2 ∧ Aside0 (spec_TreeOk.j0 kq l1 x18_2 a0_0 l0_1 a0_0 l1 = some r) ∧ Aside0 (kq ≤ k) ∧ Aside0 (wc.heap[gb1411]? = some (.cells #[.int .i64 a0_0, (.slice A0_1 l0_1.length c0_1)] 34 (0, 0))) ∧ Aside0 (wc.heap[gb1412]? = some (.cells #[.int .i64 a0_0, (.slice A1 l1.length c1)] 34 (0, 0))) ∧ Aside0 (Below w.heap.size w wc))
 case first =>
  have H := HC3.out
  clear HC3
  replace H := Option.bind_eq_some_iff.mp H
  obtain ⟨t1413, A90, H⟩ := H
  (try dsimp only at H)
  have A9 := am A90
  clear A90
  by_cases c10 : t1413 = true
  ·subst c10
   rw [if_pos rfl] at H
   replace H := Option.bind_eq_some_iff.mp H
   obtain ⟨t1414, A110, H⟩ := H
   (try dsimp only at H)
   have A11 := am A110
   clear A110
   have H' := am H
   clear H
   obtain ⟨hnb12, hnc12⟩ := n2 NB1411_1412 NB1412_1411
   obtain ⟨hcz13_0, hcz13_1, hfz13_0, hfz13_1⟩ := c2 BK1411
   go_wp2_with (first | ((with_reducible refine gate_callee (f := 66) rfl ?_); refine gl_ (some 12) Try.func66 #[.agg #[.int .i64 a0_0, .slice A0_1 l0_1.length c0_1]] ?_; (with_reducible refine (spec_NetOk.calls k a0_0 _ _ l0_1 true _ ?side1 ?side2 A9.out).mono ?_); (case side1 => exact Kd.C_below HR0_1.out (bn HB)); (case side2 => exact HC0_1.out); rintro e w14 ⟨rfl, hb⟩; refine ⟨_, rfl, ?_⟩; replace BK1411 := bb BK1411 hb; replace BK1412 := am (blk_below (g := gb1412) (o := .cells #[.int .i64 a0_0, .slice A1 l1.length c1] 34 (0, 0)) (by (with_reducible repeat (first | refine blk_drewN ?_ _ | refine blk_drew ?_ | refine blk_alloc ?_ _)); refine blk_put (cs := #[.int .i64 a0_0, .slice none 0 0]) ?_ 1 _ rfl; (with_reducible repeat (first | refine blk_drewN ?_ _ | refine blk_drew ?_ | refine blk_alloc ?_ _)); refine blk_put (cs := #[.int .i64 0, .slice none 0 0]) ?_ 0 _ rfl; (with_reducible repeat (first | refine blk_drewN ?_ _ | refine blk_drew ?_ | refine blk_alloc ?_ _)); exact BK1412.out) hb); replace HB := bs HB hb; (try clear hb); obtain ⟨hcz15_0, hcz15_1, hfz15_0, hfz15_1⟩ := c2 BK1412) | (go_at_call 66; (with_reducible refine (spec_NetOk.calls k a0_0 _ _ l1 t1414 _ ?side1 ?side2 A11.out).mono ?_); (case side1 => exact cb HR1 HB); (case side2 => exact HC1.out); rintro e w16 ⟨rfl, hb⟩; replace BK1411 := bb BK1411 hb; replace BK1412 := bb BK1412 hb; replace HB := bs HB hb; (try clear hb); (try clear hi)))
   go_meet
   case rel => exact ⟨_, (!t1414), (by first | rfl | (simp; done) | (simp [*]; done)), H', ⟨by first | omega | exact Nat.le_refl _⟩, ⟨bkn BK1411⟩, ⟨bkn BK1412⟩, ⟨bn HB⟩⟩
  ·replace c10 := Bool.eq_false_iff.mpr c10
   subst c10
   rw [if_neg (show ¬ (false = true) by decide)] at H
   have H' := am H
   clear H
   obtain ⟨hnb17, hnc17⟩ := n2 NB1411_1412 NB1412_1411
   obtain ⟨hcz18_0, hcz18_1, hfz18_0, hfz18_1⟩ := c2 BK1411
   go_wp2_with (first | ((with_reducible refine gate_callee (f := 66) rfl ?_); refine gl_ (some 12) Try.func66 #[.agg #[.int .i64 a0_0, .slice A0_1 l0_1.length c0_1]] ?_; (with_reducible refine (spec_NetOk.calls k a0_0 _ _ l0_1 false _ ?side1 ?side2 A9.out).mono ?_); (case side1 => exact Kd.C_below HR0_1.out (bn HB)); (case side2 => exact HC0_1.out); rintro e w19 ⟨rfl, hb⟩; refine ⟨_, rfl, ?_⟩; replace BK1411 := bb BK1411 hb; replace BK1412 := am (blk_below (g := gb1412) (o := .cells #[.int .i64 a0_0, .slice A1 l1.length c1] 34 (0, 0)) (by (with_reducible repeat (first | refine blk_drewN ?_ _ | refine blk_drew ?_ | refine blk_alloc ?_ _)); refine blk_put (cs := #[.int .i64 a0_0, .slice none 0 0]) ?_ 1 _ rfl; (with_reducible repeat (first | refine blk_drewN ?_ _ | refine blk_drew ?_ | refine blk_alloc ?_ _)); refine blk_put (cs := #[.int .i64 0, .slice none 0 0]) ?_ 0 _ rfl; (with_reducible repeat (first | refine blk_drewN ?_ _ | refine blk_drew ?_ | refine blk_alloc ?_ _)); exact BK1412.out) hb); replace HB := bs HB hb; (try clear hb); (try clear hi)))
   go_meet
   case rel => exact ⟨_, (true), (by first | rfl | (simp; done) | (simp [*]; done)), H', ⟨by first | omega | exact Nat.le_refl _⟩, ⟨bkn BK1411⟩, ⟨bkn BK1412⟩, ⟨bn HB⟩⟩
 case rest =>
  clear HC3
  try clear c1
  try clear p2
  try clear c6
  try clear c7
  try clear c10
  try clear c12
  try clear c17
  try clear hcz13_0 hcz13_1 hfz13_0 hfz13_1
  try clear hcz15_0 hcz15_1 hfz15_0 hfz15_1
  try clear hcz18_0 hcz18_1 hfz18_0 hfz18_1
  try clear hcz5_0 hcz5_1 hfz5_0 hfz5_1
  try clear hcz8_0 hcz8_1 hfz8_0 hfz8_1
  obtain ⟨kq, x18_2, rfl, HA, HJ2, BK1411, BK1412, HB⟩ := hcut
  cases kq with
  | zero => exact absurd HA.out (by simp [spec_TreeOk.j0])
  | succ kj2 =>
   have H := HA.out
   clear HA
   simp only [spec_TreeOk.j0] at H
   by_cases c20 : x18_2 = true
   ·subst c20
    rw [if_pos rfl] at H
    obtain rfl := Option.some.inj H
    go_wp2
    go_ret
    exact ⟨by first | rfl | (simp [errW_none, errW_some] <;> rfl) | (simp [*, errW_none, errW_some] <;> rfl), bn HB⟩
   ·replace c20 := Bool.eq_false_iff.mpr c20
    subst c20
    rw [if_neg (show ¬ (false = true) by decide)] at H
    have H' := am H
    clear H
    go_wp2
    go_loopg [6] kj2 (fun kq v6 w' => ∃ (x6_2 : Int), v6 = .int .i64 x6_2 ∧ Aside0 (spec_TreeOk.l0 kq l1 x6_2 a0_0 l0_1 a0_0 l1 = some r) ∧ Aside0 (kq ≤ kj2) ∧ Aside0 (w'.heap[gb1411]? = some (.cells #[.int .i64 a0_0, (.slice A0_1 l0_1.length c0_1)] 34 (0, 0))) ∧ Aside0 (w'.heap[gb1412]? = some (.cells #[.int .i64 a0_0, (.slice A1 l1.length c1)] 34 (0, 0))) ∧ Aside0 (Below w.heap.size w w'))
    case atStart => exact ⟨(0), (by first | rfl | (simp; done) | (simp [*]; done)), H', ⟨Nat.le_refl _⟩, ⟨bkn BK1411⟩, ⟨bkn BK1412⟩, ⟨bn HB⟩⟩
    case round =>
     clear H'
     try clear c1
     try clear c2
     try clear p2
     try clear c6
     try clear c7
     try clear c10
     try clear c12
     try clear c17
     try clear c20
     try clear hcz13_0 hcz13_1 hfz13_0 hfz13_1
     try clear hcz15_0 hcz15_1 hfz15_0 hfz15_1
     try clear hcz18_0 hcz18_1 hfz18_0 hfz18_1
     try clear hcz5_0 hcz5_1 hfz5_0 hfz5_1
     try clear hcz8_0 hcz8_1 hfz8_0 hfz8_1
     try clear p2
     obtain ⟨x6_2, rfl, HA, HK2, BK1411, BK1412, HB⟩ := hrel
     cases gk with
     | zero => exact absurd HA.out (by simp [spec_TreeOk.l0])
     | succ k2 =>
      have H := HA.out
      clear HA
      simp only [spec_TreeOk.l0] at H
      by_cases c21 : x6_2 < (l1.length : Int)
      ·rw [if_pos c21] at H
       have c21b0 := decide_eq_true c21
       clear c21
       obtain ⟨c22, H⟩ := ig_ H
       have c22b0 := decide_eq_true c22
       clear c22
       replace H := Option.bind_eq_some_iff.mp H
       obtain ⟨t1417, A230, H⟩ := H
       (try dsimp only at H)
       have A23 := am A230
       clear A230
       by_cases c24 : t1417 = true
       ·subst c24
        rw [if_pos rfl] at H
        have H' := am H
        clear H
        try go_wp2
        replace BK1411 := am (blk_drew BK1411.out)
        replace BK1412 := am (blk_drew BK1412.out)
        replace HB := am (below_drew1 HB.out)
        have p1415 : 0 ≤ (x6_2 : Int) := oa
        have q1415 : x6_2 < (l1.length : Int) := oa
        obtain ⟨ad1415, e1415, hx1415_0, hx1415_1⟩ := at_T73 HR1.out x6_2 p1415 q1415
        have hw1415_1 := hx1415_1
        have hw1415_0 := hx1415_0
        cases e1415
        replace hx1415_0 := (HB.out.cell (World.block_lt_of_cell? w _ hx1415_0)).trans hx1415_0
        replace hx1415_1 := (HB.out.cell (World.block_lt_of_cell? w _ hx1415_1)).trans hx1415_1
        replace p1415 := eq_true p1415
        replace q1415 := eq_true q1415
        have p1416 : 0 ≤ (x6_2 : Int) := oa
        have q1416 : x6_2 < (l1.length : Int) := oa
        obtain ⟨ad1416, e1416, hx1416_0, hx1416_1⟩ := at_T73 HR1.out x6_2 p1416 q1416
        have hw1416_1 := hx1416_1
        have hw1416_0 := hx1416_0
        obtain rfl : ad1415 = ad1416 := (by injection e1416)
        replace hx1416_0 := (HB.out.cell (World.block_lt_of_cell? w _ hx1416_0)).trans hx1416_0
        replace hx1416_1 := (HB.out.cell (World.block_lt_of_cell? w _ hx1416_1)).trans hx1416_1
        replace p1416 := eq_true p1416
        replace q1416 := eq_true q1416
        refine start_ (n := 13) (S := fun w' => w'.cell? ⟨gb1411, 0, none⟩ = some (.int .i64 a0_0) ∧ w'.cell? ⟨gb1411, 1, none⟩ = some (.slice A0_1 l0_1.length c0_1) ∧ w'.cell? (ad1415.add ((x6_2).toNat * 2)) = some (.int .i64 ((rd_T73 l1 x6_2).f0)) ∧ w'.cell? ⟨(ad1415.add ((x6_2).toNat * 2)).block, (ad1415.add ((x6_2).toNat * 2)).off + 1, none⟩ = some (.int .i64 ((rd_T73 l1 x6_2).f1)) ∧ w'.cell? (ad1415.add ((x6_2).toNat * 2)) = some (.int .i64 ((rd_T73 l1 x6_2).f0)) ∧ w'.cell? ⟨(ad1415.add ((x6_2).toNat * 2)).block, (ad1415.add ((x6_2).toNat * 2)).off + 1, none⟩ = some (.int .i64 ((rd_T73 l1 x6_2).f1))) (ds := []) #[false, false, false, false, false, false, false, false, false, false, false, false, false] (by kernel_rfl) rfl rfl ⟨(bc BK1411 0), (bc BK1411 1), ((HB.out.cell (World.block_lt_of_cell? w _ hw1415_0)).trans hw1415_0), ((HB.out.cell (World.block_lt_of_cell? w _ hw1415_1)).trans hw1415_1), ((HB.out.cell (World.block_lt_of_cell? w _ hw1416_0)).trans hw1416_0), ((HB.out.cell (World.block_lt_of_cell? w _ hw1416_1)).trans hw1416_1)⟩ (fun hHeld => ?_); refine with_tabW spec_TreeOk.tab7 spec_TreeOk.bits7 (fun HT_ HW_ => ?_)
        generalize wr.drew = w25 at BK1411 BK1412 HB hx1415_0 hx1415_1 hx1416_0 hx1416_1 hHeld ⊢
        refine pz_ 1 (some 26) HT_ ?_
        refine pz_ 2 (some 27) HT_ ?_
        refine pz_ 3 (some 28) HT_ ?_
        refine pz_ 4 (some 29) HT_ ?_
        refine pz_ 6 (some 31) HT_ ?_
        refine pz_ 7 (some 32) HT_ ?_
        refine pz_ 8 (some 33) HT_ ?_
        refine pz_ 9 (some 34) HT_ ?_
        refine tz_ 0 (some 25) HT_ HW_ hHeld ?_
        refine tz_ 5 (some 30) HT_ HW_ hHeld ?_
        refine tz_ 10 (some 35) HT_ HW_ hHeld ?_
        refine one_ (i := 11) (N := some 36) #[true, true, true, true, true, true, true, true, true, true, true, true, false] rfl rfl (one_of HT_.out (by kernel_rfl)) (by decide) (fun K hK => ?_)
        refine gg_ Try.func96 #[.agg #[.int .i64 a0_0, .slice A0_1 l0_1.length c0_1], .int .i64 ((rd_T73 l1 x6_2).f0), .int .i64 ((rd_T73 l1 x6_2).f1)] ?_
        with_reducible refine (spec_NetHas.calls k2 a0_0 _ _ l0_1 ((rd_T73 l1 x6_2).f0) ((rd_T73 l1 x6_2).f1) true _ ?side1 ?side2 A23.out).mono ?_
        (case side1 => exact cb HR0_1 HB)
        (case side2 => exact HC0_1.out)
        rintro e w26 ⟨rfl, hb⟩
        refine ⟨_, rfl, ?_⟩
        replace BK1411 := bb BK1411 hb
        replace BK1412 := bb BK1412 hb
        replace HB := bs HB hb
        (try clear hb)
        (try clear hb2)
        (try clear hk)
        (try clear hi)
        refine hK.out _ _ ⟨(bc BK1411 0), (bc BK1411 1), ((HB.out.cell (World.block_lt_of_cell? w _ hw1415_0)).trans hw1415_0), ((HB.out.cell (World.block_lt_of_cell? w _ hw1415_1)).trans hw1415_1), ((HB.out.cell (World.block_lt_of_cell? w _ hw1416_0)).trans hw1416_0), ((HB.out.cell (World.block_lt_of_cell? w _ hw1416_1)).trans hw1416_1)⟩ (fun hHeld => ?_)
        clear hK K
        refine nz_ 36 ?_
        refine pz_ 12 (some 37) HT_ ?_
        refine done_ (done_of HT_.out (by kernel_rfl)) ?_
        try go_wp2
        go_roundg k2
        case measure => have := HJ2.out; have := HK2.out; omega
        case rel => exact ⟨(wrap64 (x6_2 + 1)), (by first | rfl | (simp; done) | (simp [*]; done)), H', ⟨by have := HJ2.out; have := HK2.out; omega⟩, ⟨bkn BK1411⟩, ⟨bkn BK1412⟩, ⟨bn HB⟩⟩
       ·replace c24 := Bool.eq_false_iff.mpr c24
        subst c24
        rw [if_neg (show ¬ (false = true) by decide)] at H
        obtain rfl := Option.some.inj H
        try go_wp2
        replace BK1411 := am (blk_drew BK1411.out)
        replace BK1412 := am (blk_drew BK1412.out)
        replace HB := am (below_drew1 HB.out)
        have p1415 : 0 ≤ (x6_2 : Int) := oa
        have q1415 : x6_2 < (l1.length : Int) := oa
        obtain ⟨ad1415, e1415, hx1415_0, hx1415_1⟩ := at_T73 HR1.out x6_2 p1415 q1415
        have hw1415_1 := hx1415_1
        have hw1415_0 := hx1415_0
        cases e1415
        replace hx1415_0 := (HB.out.cell (World.block_lt_of_cell? w _ hx1415_0)).trans hx1415_0
        replace hx1415_1 := (HB.out.cell (World.block_lt_of_cell? w _ hx1415_1)).trans hx1415_1
        replace p1415 := eq_true p1415
        replace q1415 := eq_true q1415
        have p1416 : 0 ≤ (x6_2 : Int) := oa
        have q1416 : x6_2 < (l1.length : Int) := oa
        obtain ⟨ad1416, e1416, hx1416_0, hx1416_1⟩ := at_T73 HR1.out x6_2 p1416 q1416
        have hw1416_1 := hx1416_1
        have hw1416_0 := hx1416_0
        obtain rfl : ad1415 = ad1416 := (by injection e1416)
        replace hx1416_0 := (HB.out.cell (World.block_lt_of_cell? w _ hx1416_0)).trans hx1416_0
        replace hx1416_1 := (HB.out.cell (World.block_lt_of_cell? w _ hx1416_1)).trans hx1416_1
        replace p1416 := eq_true p1416
        replace q1416 := eq_true q1416
        refine start_ (n := 13) (S := fun w' => w'.cell? ⟨gb1411, 0, none⟩ = some (.int .i64 a0_0) ∧ w'.cell? ⟨gb1411, 1, none⟩ = some (.slice A0_1 l0_1.length c0_1) ∧ w'.cell? (ad1415.add ((x6_2).toNat * 2)) = some (.int .i64 ((rd_T73 l1 x6_2).f0)) ∧ w'.cell? ⟨(ad1415.add ((x6_2).toNat * 2)).block, (ad1415.add ((x6_2).toNat * 2)).off + 1, none⟩ = some (.int .i64 ((rd_T73 l1 x6_2).f1)) ∧ w'.cell? (ad1415.add ((x6_2).toNat * 2)) = some (.int .i64 ((rd_T73 l1 x6_2).f0)) ∧ w'.cell? ⟨(ad1415.add ((x6_2).toNat * 2)).block, (ad1415.add ((x6_2).toNat * 2)).off + 1, none⟩ = some (.int .i64 ((rd_T73 l1 x6_2).f1))) (ds := []) #[false, false, false, false, false, false, false, false, false, false, false, false, false] (by kernel_rfl) rfl rfl ⟨(bc BK1411 0), (bc BK1411 1), ((HB.out.cell (World.block_lt_of_cell? w _ hw1415_0)).trans hw1415_0), ((HB.out.cell (World.block_lt_of_cell? w _ hw1415_1)).trans hw1415_1), ((HB.out.cell (World.block_lt_of_cell? w _ hw1416_0)).trans hw1416_0), ((HB.out.cell (World.block_lt_of_cell? w _ hw1416_1)).trans hw1416_1)⟩ (fun hHeld => ?_); refine with_tabW spec_TreeOk.tab7 spec_TreeOk.bits7 (fun HT_ HW_ => ?_)
        generalize wr.drew = w27 at BK1411 BK1412 HB hx1415_0 hx1415_1 hx1416_0 hx1416_1 hHeld ⊢
        refine pz_ 1 (some 26) HT_ ?_
        refine pz_ 2 (some 27) HT_ ?_
        refine pz_ 3 (some 28) HT_ ?_
        refine pz_ 4 (some 29) HT_ ?_
        refine pz_ 6 (some 31) HT_ ?_
        refine pz_ 7 (some 32) HT_ ?_
        refine pz_ 8 (some 33) HT_ ?_
        refine pz_ 9 (some 34) HT_ ?_
        refine tz_ 0 (some 25) HT_ HW_ hHeld ?_
        refine tz_ 5 (some 30) HT_ HW_ hHeld ?_
        refine tz_ 10 (some 35) HT_ HW_ hHeld ?_
        refine one_ (i := 11) (N := some 36) #[true, true, true, true, true, true, true, true, true, true, true, true, false] rfl rfl (one_of HT_.out (by kernel_rfl)) (by decide) (fun K hK => ?_)
        refine gg_ Try.func96 #[.agg #[.int .i64 a0_0, .slice A0_1 l0_1.length c0_1], .int .i64 ((rd_T73 l1 x6_2).f0), .int .i64 ((rd_T73 l1 x6_2).f1)] ?_
        with_reducible refine (spec_NetHas.calls k2 a0_0 _ _ l0_1 ((rd_T73 l1 x6_2).f0) ((rd_T73 l1 x6_2).f1) false _ ?side1 ?side2 A23.out).mono ?_
        (case side1 => exact cb HR0_1 HB)
        (case side2 => exact HC0_1.out)
        rintro e w28 ⟨rfl, hb⟩
        refine ⟨_, rfl, ?_⟩
        replace BK1411 := bb BK1411 hb
        replace BK1412 := bb BK1412 hb
        replace HB := bs HB hb
        (try clear hb)
        (try clear hb2)
        (try clear hk)
        (try clear hi)
        refine hK.out _ _ ⟨(bc BK1411 0), (bc BK1411 1), ((HB.out.cell (World.block_lt_of_cell? w _ hw1415_0)).trans hw1415_0), ((HB.out.cell (World.block_lt_of_cell? w _ hw1415_1)).trans hw1415_1), ((HB.out.cell (World.block_lt_of_cell? w _ hw1416_0)).trans hw1416_0), ((HB.out.cell (World.block_lt_of_cell? w _ hw1416_1)).trans hw1416_1)⟩ (fun hHeld => ?_)
        clear hK K
        refine nz_ 36 ?_
        refine pz_ 12 (some 37) HT_ ?_
        refine done_ (done_of HT_.out (by kernel_rfl)) ?_
        try go_wp2
        go_ret
        exact ⟨by first | rfl | (simp [errW_none, errW_some] <;> rfl) | (simp [*, errW_none, errW_some] <;> rfl), bn HB⟩
      ·rw [if_neg c21] at H
       have c21b0 := decide_eq_false c21
       clear c21
       replace H := Option.bind_eq_some_iff.mp H
       obtain ⟨t1418, A290, H⟩ := H
       (try dsimp only at H)
       have A29 := am A290
       clear A290
       replace H := Option.bind_eq_some_iff.mp H
       obtain ⟨t1419, A300, H⟩ := H
       (try dsimp only at H)
       have A30 := am A300
       clear A300
       by_cases c31 : t1418 = t1419
       ·rw [if_pos c31] at H
        have c31b0 : (t1418 == t1419) = true := beq_iff_eq.mpr c31
        have c31b1 : (t1418 != t1419) = false := bne_eq_false_iff_eq.mpr c31
        clear c31
        replace H := Option.bind_eq_some_iff.mp H
        obtain ⟨t1420, A320, H⟩ := H
        (try dsimp only at H)
        have A32 := am A320
        clear A320
        obtain rfl := Option.some.inj H
        try go_wp2
        replace BK1411 := am (blk_drew BK1411.out)
        replace BK1412 := am (blk_drew BK1412.out)
        replace HB := am (below_drew1 HB.out)
        refine start_ (n := 16) (S := fun w' => w'.cell? ⟨gb1412, 0, none⟩ = some (.int .i64 a0_0) ∧ w'.cell? ⟨gb1412, 1, none⟩ = some (.slice A1 l1.length c1) ∧ w'.cell? ⟨gb1411, 0, none⟩ = some (.int .i64 a0_0) ∧ w'.cell? ⟨gb1411, 1, none⟩ = some (.slice A0_1 l0_1.length c0_1)) (ds := []) #[false, false, false, false, false, false, false, false, false, false, false, false, false, false, false, false] (by kernel_rfl) rfl rfl ⟨(bc BK1412 0), (bc BK1412 1), (bc BK1411 0), (bc BK1411 1)⟩ (fun hHeld => ?_); refine with_tabW spec_TreeOk.tab9 spec_TreeOk.bits9 (fun HT_ HW_ => ?_)
        generalize wr.drew = w33 at BK1411 BK1412 HB hHeld ⊢
        refine tz_ 0 (some 38) HT_ HW_ hHeld ?_
        refine tz_ 2 (some 40) HT_ HW_ hHeld ?_
        refine one_ (i := 1) (N := some 39) #[true, true, true, false, false, false, false, false, false, false, false, false, false, false, false, false] rfl rfl (one_of HT_.out (by kernel_rfl)) (by decide) (fun K hK => ?_)
        refine gg_ Try.func115 #[.agg #[.int .i64 a0_0, .slice A1 l1.length c1]] ?_
        with_reducible refine (spec_WayCount.calls k2 a0_0 _ _ l1 t1418 _ ?side1 ?side2 A29.out).mono ?_
        (case side1 => exact cb HR1 HB)
        (case side2 => exact HC1.out)
        rintro e w34 ⟨rfl, hb⟩
        refine ⟨_, rfl, ?_⟩
        replace BK1411 := bb BK1411 hb
        replace BK1412 := bb BK1412 hb
        replace HB := bs HB hb
        (try clear hb)
        (try clear hb2)
        (try clear hk)
        (try clear hi)
        refine hK.out _ _ ⟨(bc BK1412 0), (bc BK1412 1), (bc BK1411 0), (bc BK1411 1)⟩ (fun hHeld => ?_)
        clear hK K
        refine nz_ 39 ?_
        refine one_ (i := 3) (N := some 41) #[true, true, true, true, false, false, false, false, false, false, false, false, false, false, false, false] rfl rfl (one_of HT_.out (by kernel_rfl)) (by decide) (fun K hK => ?_)
        refine gg_ Try.func115 #[.agg #[.int .i64 a0_0, .slice A0_1 l0_1.length c0_1]] ?_
        with_reducible refine (spec_WayCount.calls k2 a0_0 _ _ l0_1 t1419 _ ?side1 ?side2 A30.out).mono ?_
        (case side1 => exact cb HR0_1 HB)
        (case side2 => exact HC0_1.out)
        rintro e w35 ⟨rfl, hb⟩
        refine ⟨_, rfl, ?_⟩
        replace BK1411 := bb BK1411 hb
        replace BK1412 := bb BK1412 hb
        replace HB := bs HB hb
        (try clear hb)
        (try clear hb2)
        (try clear hk)
        (try clear hi)
        refine hK.out _ _ ⟨(bc BK1412 0), (bc BK1412 1), (bc BK1411 0), (bc BK1411 1)⟩ (fun hHeld => ?_)
        clear hK K
        refine nz_ 41 ?_
        refine pz_ 4 (some 42) HT_ ?_
        refine pz_ 5 (some 43) HT_ ?_
        refine pz_ 6 (some 44) HT_ ?_
        refine pz_ 7 (some 45) HT_ ?_
        refine pz_ 8 (some 46) HT_ ?_
        refine tz_ 9 (some 47) HT_ HW_ hHeld ?_
        refine tz_ 10 (some 48) HT_ HW_ hHeld ?_
        refine one_ (i := 11) (N := some 49) #[true, true, true, true, true, true, true, true, true, true, true, true, false, false, false, false] rfl rfl (one_of HT_.out (by kernel_rfl)) (by decide) (fun K hK => ?_)
        refine gg_ Try.func115 #[.agg #[.int .i64 a0_0, .slice A0_1 l0_1.length c0_1]] ?_
        with_reducible refine (spec_WayCount.calls k2 a0_0 _ _ l0_1 t1420 _ ?side1 ?side2 A32.out).mono ?_
        (case side1 => exact cb HR0_1 HB)
        (case side2 => exact HC0_1.out)
        rintro e w36 ⟨rfl, hb⟩
        refine ⟨_, rfl, ?_⟩
        replace BK1411 := bb BK1411 hb
        replace BK1412 := bb BK1412 hb
        replace HB := bs HB hb
        (try clear hb)
        (try clear hb2)
        (try clear hk)
        (try clear hi)
        refine hK.out _ _ ⟨(bc BK1412 0), (bc BK1412 1), (bc BK1411 0), (bc BK1411 1)⟩ (fun hHeld => ?_)
        clear hK K
        refine nz_ 49 ?_
        refine pz_ 12 (some 50) HT_ ?_
        refine pz_ 13 (some 51) HT_ ?_
        refine pz_ 14 (some 52) HT_ ?_
        refine pz_ 15 (some 4) HT_ ?_
        refine done_ (done_of HT_.out (by kernel_rfl)) ?_
        try go_wp2
        go_ret
        exact ⟨by first | rfl | (simp [errW_none, errW_some] <;> rfl) | (simp [*, errW_none, errW_some] <;> rfl), bn HB⟩
       ·rw [if_neg c31] at H
        have c31b0 : (t1418 == t1419) = false := beq_eq_false_iff_ne.mpr c31
        have c31b1 : (t1418 != t1419) = true := bne_iff_ne.mpr c31
        obtain rfl := Option.some.inj H
        try go_wp2
        replace BK1411 := am (blk_drew BK1411.out)
        replace BK1412 := am (blk_drew BK1412.out)
        replace HB := am (below_drew1 HB.out)
        refine start_ (n := 16) (S := fun w' => w'.cell? ⟨gb1412, 0, none⟩ = some (.int .i64 a0_0) ∧ w'.cell? ⟨gb1412, 1, none⟩ = some (.slice A1 l1.length c1) ∧ w'.cell? ⟨gb1411, 0, none⟩ = some (.int .i64 a0_0) ∧ w'.cell? ⟨gb1411, 1, none⟩ = some (.slice A0_1 l0_1.length c0_1)) (ds := []) #[false, false, false, false, false, false, false, false, false, false, false, false, false, false, false, false] (by kernel_rfl) rfl rfl ⟨(bc BK1412 0), (bc BK1412 1), (bc BK1411 0), (bc BK1411 1)⟩ (fun hHeld => ?_); refine with_tabW spec_TreeOk.tab9 spec_TreeOk.bits9 (fun HT_ HW_ => ?_)
        generalize wr.drew = w37 at BK1411 BK1412 HB hHeld ⊢
        refine tz_ 0 (some 38) HT_ HW_ hHeld ?_
        refine tz_ 2 (some 40) HT_ HW_ hHeld ?_
        refine one_ (i := 1) (N := some 39) #[true, true, true, false, false, false, false, false, false, false, false, false, false, false, false, false] rfl rfl (one_of HT_.out (by kernel_rfl)) (by decide) (fun K hK => ?_)
        refine gg_ Try.func115 #[.agg #[.int .i64 a0_0, .slice A1 l1.length c1]] ?_
        with_reducible refine (spec_WayCount.calls k2 a0_0 _ _ l1 t1418 _ ?side1 ?side2 A29.out).mono ?_
        (case side1 => exact cb HR1 HB)
        (case side2 => exact HC1.out)
        rintro e w38 ⟨rfl, hb⟩
        refine ⟨_, rfl, ?_⟩
        replace BK1411 := bb BK1411 hb
        replace BK1412 := bb BK1412 hb
        replace HB := bs HB hb
        (try clear hb)
        (try clear hb2)
        (try clear hk)
        (try clear hi)
        refine hK.out _ _ ⟨(bc BK1412 0), (bc BK1412 1), (bc BK1411 0), (bc BK1411 1)⟩ (fun hHeld => ?_)
        clear hK K
        refine nz_ 39 ?_
        refine one_ (i := 3) (N := some 41) #[true, true, true, true, false, false, false, false, false, false, false, false, false, false, false, false] rfl rfl (one_of HT_.out (by kernel_rfl)) (by decide) (fun K hK => ?_)
        refine gg_ Try.func115 #[.agg #[.int .i64 a0_0, .slice A0_1 l0_1.length c0_1]] ?_
        with_reducible refine (spec_WayCount.calls k2 a0_0 _ _ l0_1 t1419 _ ?side1 ?side2 A30.out).mono ?_
        (case side1 => exact cb HR0_1 HB)
        (case side2 => exact HC0_1.out)
        rintro e w39 ⟨rfl, hb⟩
        refine ⟨_, rfl, ?_⟩
        replace BK1411 := bb BK1411 hb
        replace BK1412 := bb BK1412 hb
        replace HB := bs HB hb
        (try clear hb)
        (try clear hb2)
        (try clear hk)
        (try clear hi)
        refine hK.out _ _ ⟨(bc BK1412 0), (bc BK1412 1), (bc BK1411 0), (bc BK1411 1)⟩ (fun hHeld => ?_)
        clear hK K
        refine nz_ 41 ?_
        refine pz_ 4 (some 42) HT_ ?_
        refine pz_ 5 (some 43) HT_ ?_
        refine pu_ 6 (some 44) HT_ ?_
        refine pu_ 7 (some 45) HT_ ?_
        refine pu_ 8 (some 46) HT_ ?_
        refine pu_ 9 (some 47) HT_ ?_
        refine pu_ 10 (some 48) HT_ ?_
        refine pu_ 11 (some 49) HT_ ?_
        refine pu_ 12 (some 50) HT_ ?_
        refine pu_ 13 (some 51) HT_ ?_
        refine pz_ 14 (some 52) HT_ ?_
        refine pz_ 15 (some 4) HT_ ?_
        refine done_ (done_of HT_.out (by kernel_rfl)) ?_
        try go_wp2
        go_ret
        exact ⟨by first | rfl | (simp [errW_none, errW_some] <;> rfl) | (simp [*, errW_none, errW_some] <;> rfl), bn HB⟩

/-! ### impl_WayParts: function 79 -/
def impl_WayParts.f (k : Nat) (a0_0 : Int) (l0_1 : List (S73)) : Option (List Int) := (impl_NetOk.f k a0_0 l0_1).bind fun t1422 => (if t1422 = true then ((impl_Net_parts.f k a0_0 l0_1).bind fun t1423 => (some t1423)) else (some (([] : List Int))))
theorem impl_WayParts.mono : ∀ a0 a1 k, LeO (impl_WayParts.f k a0 a1) (impl_WayParts.f (k + 1) a0 a1) := by
 intro a0 a1 k
 unfold impl_WayParts.f
 have m0_ := @impl_NetOk.mono
 have m1_ := @impl_Net_parts.mono
 exact mo_
set_option maxHeartbeats 8000000 in
set_option maxRecDepth 100000 in
theorem impl_WayParts.calls (k : Nat) (a0_0 : Int) (A0_1 : Option Addr) (c0_1 : Nat) (l0_1 : List (S73)) (r : List Int) (w : World) (hr0_1 : Kd.C k73 w A0_1 l0_1.length l0_1) (hc0_1 : l0_1.length ≤ c0_1) (h : impl_WayParts.f k a0_0 l0_1 = some r) :
  Calls Try.prog 79 #[.agg #[.int .i64 a0_0, .slice A0_1 l0_1.length c0_1]] w fun e w' => ∃ v0_ : Value, e = .returned (v0_) ∧ Kd.R (Kd.int .i64) 3 w' w.heap.size (fun _ => True) v0_ r ∧ Below w.heap.size w w' := by
 have hu34 := Try.underlying34
 have HR0_1 := am hr0_1
 have HC0_1 := am hc0_1
 clear hr0_1 hc0_1
 have HB := am (Below.refl w.heap.size w)
 have H : ((impl_NetOk.f k a0_0 l0_1).bind fun t1422 => (if t1422 = true then ((impl_Net_parts.f k a0_0 l0_1).bind fun t1423 => (some t1423)) else (some (([] : List Int))))) = some r := h
 clear h
 replace H := Option.bind_eq_some_iff.mp H
 obtain ⟨t1422, A20, H⟩ := H
 (try dsimp only at H)
 have A2 := am A20
 clear A20
 by_cases c3 : t1422 = true
 ·subst c3
  rw [if_pos rfl] at H
  replace H := Option.bind_eq_some_iff.mp H
  obtain ⟨t1423, A40, H⟩ := H
  (try dsimp only at H)
  have A4 := am A40
  clear A40
  obtain rfl := Option.some.inj H
  go_enter Try.func79, Try.ntmps79
  go_wp2_with (first | ((with_reducible refine gate_dst (N := 1) rfl ?_); refine be_ 1 #[.int .i64 a0_0, .slice A0_1 l0_1.length c0_1] 34 ?_; intro gb1421 hg w5 hbox hb; have BK1421 := am hbox; have GW1421 := am (ge_ hg HB); have GE1421 := am (ge_ hg HB); replace HB := bs HB hb; clear hb hbox hg; obtain ⟨hcz6_0, hcz6_1, hfz6_0, hfz6_1⟩ := c2 BK1421) | ((with_reducible refine gate_callee (f := 91) rfl ?_); refine gl_ (some 4) Try.func91 #[.agg #[.int .i64 a0_0, .slice A0_1 l0_1.length c0_1]] ?_; (with_reducible refine (impl_NetOk.calls k a0_0 _ _ l0_1 true _ ?side1 ?side2 A2.out).mono ?_); (case side1 => exact cb HR0_1 HB); (case side2 => exact HC0_1.out); rintro e w7 ⟨rfl, hb⟩; refine ⟨_, rfl, ?_⟩; replace BK1421 := bb BK1421 hb; replace HB := bs HB hb; (try clear hb); obtain ⟨hcz8_0, hcz8_1, hfz8_0, hfz8_1⟩ := c2 BK1421) | ((with_reducible refine gate_callee (f := 121) rfl ?_); refine gl_ (some 8) Try.func121 #[.agg #[.int .i64 a0_0, .slice A0_1 l0_1.length c0_1]] ?_; (with_reducible refine (impl_Net_parts.calls k a0_0 _ _ l0_1 t1423 _ ?side1 ?side2 A4.out).mono ?_); (case side1 => exact cb HR0_1 HB); (case side2 => exact HC0_1.out); rintro e w9 ⟨v1424, rfl, ho0, hb⟩; refine ⟨_, rfl, ?_⟩; have HO1425 := am (Kd.R_lower ho0 (below_size (bn HB))); replace BK1421 := bb BK1421 hb; replace HB := bs HB hb; (try clear hb); (try clear ho0)))
  go_ret
  exact ⟨_, by first | rfl | (simp [errW_none, errW_some] <;> rfl) | (simp [*, errW_none, errW_some] <;> rfl), onR HO1425, bn HB⟩
 ·replace c3 := Bool.eq_false_iff.mpr c3
  subst c3
  rw [if_neg (show ¬ (false = true) by decide)] at H
  obtain ⟨y1426, hy1426⟩ : ∃ y_ : List Int, y_ = (([] : List Int)) := ⟨_, rfl⟩
  replace H : (some y1426) = some r := nh_ hy1426 H
  have Ny1426 := am hy1426
  clear hy1426
  obtain rfl := Option.some.inj H
  go_enter Try.func79, Try.ntmps79
  go_wp2_with (first | ((with_reducible refine gate_dst (N := 1) rfl ?_); refine be_ 1 #[.int .i64 a0_0, .slice A0_1 l0_1.length c0_1] 34 ?_; intro gb1421 hg w10 hbox hb; have BK1421 := am hbox; have GW1421 := am (ge_ hg HB); have GE1421 := am (ge_ hg HB); replace HB := bs HB hb; clear hb hbox hg; obtain ⟨hcz11_0, hcz11_1, hfz11_0, hfz11_1⟩ := c2 BK1421) | ((with_reducible refine gate_callee (f := 91) rfl ?_); refine gl_ (some 4) Try.func91 #[.agg #[.int .i64 a0_0, .slice A0_1 l0_1.length c0_1]] ?_; (with_reducible refine (impl_NetOk.calls k a0_0 _ _ l0_1 false _ ?side1 ?side2 A2.out).mono ?_); (case side1 => exact cb HR0_1 HB); (case side2 => exact HC0_1.out); rintro e w12 ⟨rfl, hb⟩; refine ⟨_, rfl, ?_⟩; replace BK1421 := bb BK1421 hb; replace HB := bs HB hb; (try clear hb); (try clear hi)) | ((with_reducible refine gate_dst (N := 6) rfl ?_); refine Kd.R_lit (Kd.int .i64) _ 3 ?hg (N := 6) ?hd (xs := ([] : List Int)) (inner := []) (ok := fun _ => True) (okp := fun _ => True) ?hr ?hp (fun _ hk => hk) trivial (Below.refl _ _) (Nat.le_refl _) (by simp) ?_; (case hd => rfl); (case hg => rfl); (case hr => first | (go_simp; done) | (go_simp; rfl)); (case hp => exact (Reps.none _ _)); intro v1427 w13 ho14 hb hg_ hnew_; clear hg_ hnew_; (first | rw [← Ny1426.out] at ho14 | (simp only [Int.reduceToNat] at ho14; rw [← Ny1426.out] at ho14)); have HO1428 := am (Kd.R_lower ho14 (below_size (bn HB))); replace BK1421 := bb BK1421 hb; replace HB := bs HB hb; clear hb ho14))
  go_ret
  exact ⟨_, by first | rfl | (simp [errW_none, errW_some] <;> rfl) | (simp [*, errW_none, errW_some] <;> rfl), onR HO1428, bn HB⟩

end Go.Proofs.Ytdlnnjgjfngccaa.F
