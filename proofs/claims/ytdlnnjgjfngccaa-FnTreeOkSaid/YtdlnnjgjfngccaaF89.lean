-- Written by oprint.py (wip/tools) over the kit's print program, for this seat.
import Derived.Test.YtdlnnjgjfngccaaF0
import Derived.Test.YtdlnnjgjfngccaaF66
import Derived.Test.YtdlnnjgjfngccaaF71
import Derived.Test.YtdlnnjgjfngccaaF86
import Derived.Test.YtdlnnjgjfngccaaF87
import Derived.Test.YtdlnnjgjfngccaaF88
namespace Go.Proofs.Ytdlnnjgjfngccaa.F
open Go.RowKit Go.Proofs.YtdlnnjgjfngccaaW.PrintWords Go.Proofs.YtdlnnjgjfngccaaW.PrintLast Go.Proofs.YtdlnnjgjfngccaaW.PrintMore
attribute [local go_sem] max2_int min2_int max_two min_two max_three min_three max_four min_four   -- for this text's walks alone
set_option linter.unusedVariables false
set_option linter.unusedSimpArgs false

/-! ### laws_FnTreeOk: function 22 -/
mutual
def laws_FnTreeOk.j0 : Nat → List Int → List Int → Bool → Option (Bool)
 | 0, _, _, _ => none
 | k + 1, x0, x1, x17 => if x17 = true then (some true) else ((spec_DrawTreeOk.f k x0).bind fun bt1437 => ((impl_TreeOk.f k bt1437.1 bt1437.2.1 bt1437.2.2).bind fun t1445 => ((spec_TreeOk.f k bt1437.1 bt1437.2.1 bt1437.2.2).bind fun t1446 => (if (t1445 != t1446) = true then (laws_FnTreeOk.j1 k x1 bt1437.2.2 t1445 true bt1437.1 bt1437.2.1) else (laws_FnTreeOk.j1 k x1 bt1437.2.2 t1445 (!t1445) bt1437.1 bt1437.2.1)))))
def laws_FnTreeOk.j1 : Nat → List Int → List (S73) → Bool → Bool → Int → List (S73) → Option (Bool)
 | 0, _, _, _, _, _, _ => none
 | k + 1, x1, x6, x7, x34, x1445000, x1445001 => if x34 = true then ((spec_TreeOk.f k x1445000 x1445001 x6).bind fun t1447 => (some (x7 == t1447))) else ((impl_WayParts.f k x1445000 x6).bind fun t1449 => ((impl_WayParts.f k x1445000 x1445001).bind fun t1452 => ((laws_loInts.f k t1449 t1452).bind fun t1455 => (if t1455 = true then ((impl_WayCount.f k x1445000 x1445001).bind fun t1456 => (laws_FnTreeOk.j2 k x1 x6 ((x6.length : Int) != (wrap64 (x1445000 - t1456))) x1445000 x1445001 x1445000 x6)) else (laws_FnTreeOk.j2 k x1 x6 true x1445000 x1445001 x1445000 x6)))))
def laws_FnTreeOk.j2 : Nat → List Int → List (S73) → Bool → Int → List (S73) → Int → List (S73) → Option (Bool)
 | 0, _, _, _, _, _, _, _ => none
 | k + 1, x1, x6, x59, x1445000, x1445001, x1449000, x1449001 => if x59 = true then (some false) else (if (x6.length : Int) = 0 then (some true) else ((some (([] : List (S73)) : List (S73))).bind fun y1457 => (if 0 ≤ ((x1.length : Int) % (x6.length : Int)) then (if ((x1.length : Int) % (x6.length : Int)) ≤ (x6.length : Int) then ((some (x6.take (((x1.length : Int) % (x6.length : Int)) : Int).toNat : List (S73))).bind fun y1460 => (if y1457.length + y1460.length < 8796093022208 then ((some (y1457 ++ y1460 : List (S73))).bind fun y1464 => (if 0 ≤ (wrap64 (((x1.length : Int) % (x6.length : Int)) + 1)) then (if (wrap64 (((x1.length : Int) % (x6.length : Int)) + 1)) ≤ (x6.length : Int) then ((some (x6.drop ((wrap64 (((x1.length : Int) % (x6.length : Int)) + 1)) : Int).toNat : List (S73))).bind fun y1467 => (if y1464.length + y1467.length < 8796093022208 then ((impl_TreeOk.f k x1445000 x1445001 (y1464 ++ y1467)).bind fun t1474 => (if t1474 = true then (some false) else (if ((x1.length : Int) % (x6.length : Int)) < (x6.length : Int) then ((impl_BridgeIs.f k x1449000 x1449001 ((rd_T73 x6 ((x1.length : Int) % (x6.length : Int))).f0) ((rd_T73 x6 ((x1.length : Int) % (x6.length : Int))).f1)).bind fun t1477 => (some t1477)) else (none)))) else (none))) else (none)) else (none))) else (none))) else (none)) else (none))))
end
def laws_FnTreeOk.f (k : Nat) (l0 : List Int) (l1 : List Int) : Option (Bool) := if (l0.length : Int) > 1048576 then (laws_FnTreeOk.j0 k l0 l1 true) else (laws_FnTreeOk.j0 k l0 l1 (decide ((l1.length : Int) > 1048576)))
theorem laws_FnTreeOk.mono_l : ∀ k, (∀ y0 y1 y2, LeO (laws_FnTreeOk.j0 k y0 y1 y2) (laws_FnTreeOk.j0 (k + 1) y0 y1 y2)) ∧ (∀ y0 y1 y2 y3 y4 y5, LeO (laws_FnTreeOk.j1 k y0 y1 y2 y3 y4 y5) (laws_FnTreeOk.j1 (k + 1) y0 y1 y2 y3 y4 y5)) ∧ (∀ y0 y1 y2 y3 y4 y5 y6, LeO (laws_FnTreeOk.j2 k y0 y1 y2 y3 y4 y5 y6) (laws_FnTreeOk.j2 (k + 1) y0 y1 y2 y3 y4 y5 y6))
 | 0 => ⟨fun _ _ _ r h => by simp [laws_FnTreeOk.j0] at h, fun _ _ _ _ _ _ r h => by simp [laws_FnTreeOk.j1] at h, fun _ _ _ _ _ _ _ r h => by simp [laws_FnTreeOk.j2] at h⟩
 | k + 1 => by
  obtain ⟨ih0, ih1, ih2⟩ := laws_FnTreeOk.mono_l k
  refine ⟨?_, ?_, ?_⟩
  ·intro y0 y1 y2
   unfold laws_FnTreeOk.j0
   have m0_ := @impl_BridgeIs.mono
   have m1_ := @impl_TreeOk.mono
   have m2_ := @impl_WayCount.mono
   have m3_ := @impl_WayParts.mono
   have m4_ := @laws_loInts.mono
   have m5_ := @spec_DrawTreeOk.mono
   have m6_ := @spec_TreeOk.mono
   exact mo_
  ·intro y0 y1 y2 y3 y4 y5
   unfold laws_FnTreeOk.j1
   have m0_ := @impl_BridgeIs.mono
   have m1_ := @impl_TreeOk.mono
   have m2_ := @impl_WayCount.mono
   have m3_ := @impl_WayParts.mono
   have m4_ := @laws_loInts.mono
   have m5_ := @spec_DrawTreeOk.mono
   have m6_ := @spec_TreeOk.mono
   exact mo_
  ·intro y0 y1 y2 y3 y4 y5 y6
   unfold laws_FnTreeOk.j2
   have m0_ := @impl_BridgeIs.mono
   have m1_ := @impl_TreeOk.mono
   have m2_ := @impl_WayCount.mono
   have m3_ := @impl_WayParts.mono
   have m4_ := @laws_loInts.mono
   have m5_ := @spec_DrawTreeOk.mono
   have m6_ := @spec_TreeOk.mono
   exact mo_
theorem laws_FnTreeOk.mono : ∀ a0 a1 k, LeO (laws_FnTreeOk.f k a0 a1) (laws_FnTreeOk.f (k + 1) a0 a1) := by
 intro a0 a1 k
 obtain ⟨ih0, ih1, ih2⟩ := laws_FnTreeOk.mono_l k
 unfold laws_FnTreeOk.f
 have m0_ := @impl_BridgeIs.mono
 have m1_ := @impl_TreeOk.mono
 have m2_ := @impl_WayCount.mono
 have m3_ := @impl_WayParts.mono
 have m4_ := @laws_loInts.mono
 have m5_ := @spec_DrawTreeOk.mono
 have m6_ := @spec_TreeOk.mono
 exact mo_
def laws_FnTreeOk.T8 : Bool × List (List Nat × List Nat) := (true, [([], []), ([0], [0]), ([], []), ([2, 1], [2]), ([1, 3, 3], [1, 3]), ([4], [4]), ([5, 4], [5]), ([6], [6]), ([7, 6], [6, 7]), ([6], [6]), ([9, 6], [6, 9]), ([6], [6]), ([11, 6, 6], [6, 11]), ([10, 12, 6], [6, 10, 12]), ([8, 13, 6], [6, 8, 13]), ([6, 14], [6, 14])])
def laws_FnTreeOk.B8 : List Nat := [0, 1, 0, 7, 15, 31, 63, 127, 255, 127, 639, 127, 2175, 7807, 16383, 32767]
theorem laws_FnTreeOk.tab8 : rtab .any (opsOf Try.f22 8) = laws_FnTreeOk.T8 := by kernel_rfl
theorem laws_FnTreeOk.bits8 : waitsOk laws_FnTreeOk.T8.2 laws_FnTreeOk.B8 = true := by kernel_rfl
def laws_FnTreeOk.T13 : Bool × List (List Nat × List Nat) := (true, [([], []), ([], []), ([], []), ([], []), ([2, 3], [2, 3]), ([1, 4], [1, 4]), ([], []), ([], []), ([7], [7]), ([6, 8], [6, 8]), ([5, 9, 5], [5, 9]), ([0, 10, 10], [0, 10]), ([11], [11]), ([12, 11], [12]), ([13], [13]), ([13], [13]), ([13], [13]), ([15, 16, 13], [13, 15, 16]), ([17, 13], [13, 17]), ([18, 13], [13, 18]), ([13], [13]), ([13], [13]), ([20, 21, 13], [13, 20, 21]), ([22, 13], [13, 22]), ([23, 13], [13, 23]), ([14, 19, 24, 13, 13], [13, 14, 19, 24]), ([13, 25], [13, 25]), ([26, 25, 0, 1, 2, 3, 4, 5, 6, 7, 8, 9, 10, 11, 12, 13, 14, 15, 16, 17, 18, 19, 20, 21, 22, 23, 24, 25, 26], [26])])
def laws_FnTreeOk.B13 : List Nat := [0, 0, 0, 0, 12, 30, 0, 0, 128, 448, 1022, 2047, 4095, 8191, 16383, 16383, 16383, 114687, 245759, 507903, 16383, 16383, 3162111, 7356415, 15745023, 33554431, 67108863, 134217727]
theorem laws_FnTreeOk.tab13 : rtab .any (opsOf Try.f22 13) = laws_FnTreeOk.T13 := by kernel_rfl
theorem laws_FnTreeOk.bits13 : waitsOk laws_FnTreeOk.T13.2 laws_FnTreeOk.B13 = true := by kernel_rfl
set_option maxHeartbeats 8000000 in
set_option maxRecDepth 100000 in
theorem laws_FnTreeOk.calls (k : Nat) (A0 : Option Addr) (c0 : Nat) (l0 : List Int) (A1 : Option Addr) (c1 : Nat) (l1 : List Int) (r : Bool) (w : World) (hr0 : Kd.C (Kd.int .u8) w A0 l0.length l0) (hc0 : l0.length ≤ c0) (hr1 : Kd.C (Kd.int .u8) w A1 l1.length l1) (hc1 : l1.length ≤ c1) (hrt : Aside0 (r = true)) (h : laws_FnTreeOk.f k l0 l1 = some r) :
  Calls Try.prog 22 #[.slice A0 l0.length c0, .slice A1 l1.length c1] w fun e w' => e = .returned (.bool r) ∧ Below w.heap.size w w' := by
 have hu34 := Try.underlying34
 have HR0 := am hr0
 have HC0 := am hc0
 clear hr0 hc0
 have HR1 := am hr1
 have HC1 := am hc1
 clear hr1 hc1
 have HB := am (Below.refl w.heap.size w)
 have H : (if (l0.length : Int) > 1048576 then (laws_FnTreeOk.j0 k l0 l1 true) else (laws_FnTreeOk.j0 k l0 l1 (decide ((l1.length : Int) > 1048576)))) = some r := h
 clear h
 have HC3 := am H
 clear H
 go_enter Try.func22, Try.ntmps22
 go_upto_region 1 with (fail)
 go_cut [17] (fun v17 wc => ∃ (kq : Nat) (x17_2 : Bool), v17 = .bool x17_2 ∧ Aside0 (laws_FnTreeOk.j0 kq l0 l1 x17_2 = some r) ∧ Aside0 (kq ≤ k) ∧ Aside0 (Below w.heap.size w wc))
 case first =>
  have H := HC3.out
  clear HC3
  by_cases c4 : (l0.length : Int) > 1048576
  ·rw [if_pos c4] at H
   have c4b0 := decide_eq_true c4
   have c4b1 : decide (1048576 < l0.length) = true := decide_eq_true (by omega)
   clear c4
   (first | rw [c4b0] | (simp only [i64_w, i32_w]; rw [c4b0]) | skip)
   have H' := am H
   clear H
   go_wp2
   go_meet
   case rel => exact ⟨_, (true), (by first | rfl | (simp; done) | (simp [*]; done)), H', ⟨by first | omega | exact Nat.le_refl _⟩, ⟨bn HB⟩⟩
  ·rw [if_neg c4] at H
   have c4b0 := decide_eq_false c4
   have c4b1 : decide (1048576 < l0.length) = false := decide_eq_false (by omega)
   clear c4
   (first | rw [c4b0] | (simp only [i64_w, i32_w]; rw [c4b0]) | skip)
   have H' := am H
   clear H
   go_wp2
   go_meet
   case rel => exact ⟨_, (decide ((l1.length : Int) > 1048576)), (by first | rfl | (simp; done) | (simp [*]; done)), H', ⟨by first | omega | exact Nat.le_refl _⟩, ⟨bn HB⟩⟩
 case rest =>
  clear HC3
  try clear c1
  try clear c2
  try clear p2
  try clear c4
  try clear c4b0
  try clear c4b1
  obtain ⟨kq, x17_2, rfl, HA, HJ2, HB⟩ := hcut
  cases kq with
  | zero => exact absurd HA.out (by simp [laws_FnTreeOk.j0])
  | succ kj2 =>
   have H := HA.out
   clear HA
   simp only [laws_FnTreeOk.j0] at H
   by_cases c5 : x17_2 = true
   ·subst c5
    rw [if_pos rfl] at H
    obtain rfl := Option.some.inj H
    go_wp2
    go_ret
    exact ⟨by first | rfl | (simp [errW_none, errW_some] <;> rfl) | (simp [*, errW_none, errW_some] <;> rfl), bn HB⟩
   ·replace c5 := Bool.eq_false_iff.mpr c5
    subst c5
    rw [if_neg (show ¬ (false = true) by decide)] at H
    replace H := Option.bind_eq_some_iff.mp H
    obtain ⟨⟨t1437, t1438, t1441⟩, A60, H⟩ := H
    (try dsimp only at H)
    have A6 := am A60
    clear A60
    replace H := Option.bind_eq_some_iff.mp H
    obtain ⟨t1445, A70, H⟩ := H
    (try dsimp only at H)
    have A7 := am A70
    clear A70
    have HC8 := am H
    clear H
    go_upto_region 5 with (first | ((with_reducible refine gate_callee (f := 76) rfl ?_); refine gl_ (some 20) Try.func76 #[.slice A0 l0.length c0] ?_; (with_reducible refine (spec_DrawTreeOk.calls kj2 _ _ l0 t1437 t1438 t1441 _ ?side1 ?side2 A6.out).mono ?_); (case side1 => exact cb HR0 HB); (case side2 => exact HC0.out); rintro e w9 ⟨v1439, v1442, rfl, ho0, ho1, hb⟩; refine ⟨_, rfl, ?_⟩; have HO1440 := am (Kd.R_lower ho0 (below_size (bn HB))); have HO1443 := am (Kd.Q_lower ho1 (below_size (bn HB))); replace HB := bs HB hb; (try clear hb); (try clear ho0); (try clear ho1)) | ((with_reducible refine gate_dst (N := 5) rfl ?_); refine be_ 5 #[.int .i64 0, .slice none 0 0] 34 ?_; intro gb1444 hg w10 hbox hb; replace HO1440 := am (Kd.R_below (onR HO1440) hb); replace HO1443 := am (Kd.Q_below (onQ HO1443) hb); have BK1444 := am hbox; have GW1444 := am (ge_ hg HB); have GE1444 := am (ge_ hg HB); replace HB := bs HB hb; clear hb hbox hg; obtain ⟨hcz11_0, hcz11_1, hfz11_0, hfz11_1⟩ := c2 BK1444; obtain ⟨Ao12, co12, eo12⟩ := Kd.R_slice HO1440.out; subst eo12; obtain ⟨Ao13, co13, eo13, _⟩ := Kd.Q_slice HO1443.out; subst eo13) | ((with_reducible refine gate_callee (f := 77) rfl ?_); refine gl_ (some 25) Try.func77 #[.agg #[.int .i64 t1437, .slice Ao12 t1438.length co12], .slice Ao13 t1441.length co13] ?_; (with_reducible refine (impl_TreeOk.calls kj2 t1437 _ _ t1438 _ _ t1441 t1445 _ ?side1 ?side2 ?side3 ?side4 A7.out).mono ?_); (case side1 => refine (Kd.R_reads' (e := 73) (base := w.heap.size) (ok := fun k_ => some k_ ≠ (.slice Ao13 t1441.length co13 : Value).ownBlock) (n := t1438.length) (c := co12) ?_).2.2; exact (by (with_reducible repeat (first | apply Kd.R_alloc | apply Kd.R_drewN | apply Kd.R_drew)); exact (Kd.R_mono (Kd.R_far (p := ⟨gb1444, 1, none⟩) (Kd.R_far (p := ⟨gb1444, 0, none⟩) (Kd.R_types HO1440.out BK1444.out (by decide)) (fun _ hk => hk.2) (.int .i64 t1437)) (fun _ hk => hk.2) (.slice Ao12 t1438.length co12)) (fun _ h_ => h_.1)))); (case side2 => exact (Kd.R_reads' HO1440.out).2.1); (case side3 => refine (Kd.Q_reads' (e := 73) (base := w.heap.size) (ok := fun k_ => some k_ ≠ (.slice Ao12 t1438.length co12 : Value).ownBlock) (n := t1441.length) (c := co13) ?_).2.2; exact (by (with_reducible repeat (first | apply Kd.Q_alloc | apply Kd.Q_drewN | apply Kd.Q_drew)); exact (Kd.Q_mono (Kd.Q_far (p := ⟨gb1444, 1, none⟩) (Kd.Q_far (p := ⟨gb1444, 0, none⟩) (Kd.Q_types HO1443.out BK1444.out (by decide)) (fun _ hk => hk.2) (.int .i64 t1437)) (fun _ hk => hk.2) (.slice Ao12 t1438.length co12)) (fun _ h_ => h_.1)))); (case side4 => exact (Kd.Q_reads' HO1443.out).2.1); rintro e w14 ⟨rfl, hb⟩; refine ⟨_, rfl, ?_⟩; replace HO1440 := am (Kd.R_below (by (with_reducible repeat (first | apply Kd.R_alloc | apply Kd.R_drewN | apply Kd.R_drew)); exact (Kd.R_mono (Kd.R_far (p := ⟨gb1444, 1, none⟩) (Kd.R_far (p := ⟨gb1444, 0, none⟩) (Kd.R_types HO1440.out BK1444.out (by decide)) (fun _ hk => hk.2) (.int .i64 t1437)) (fun _ hk => hk.2) (.slice Ao12 t1438.length co12)) (fun _ h_ => h_.1))) hb); replace HO1443 := am (Kd.Q_below (by (with_reducible repeat (first | apply Kd.Q_alloc | apply Kd.Q_drewN | apply Kd.Q_drew)); exact (Kd.Q_mono (Kd.Q_far (p := ⟨gb1444, 1, none⟩) (Kd.Q_far (p := ⟨gb1444, 0, none⟩) (Kd.Q_types HO1443.out BK1444.out (by decide)) (fun _ hk => hk.2) (.int .i64 t1437)) (fun _ hk => hk.2) (.slice Ao12 t1438.length co12)) (fun _ h_ => h_.1))) hb); replace BK1444 := am (blk_below (g := gb1444) (o := .cells #[.int .i64 t1437, .slice Ao12 t1438.length co12] 34 (0, 0)) (by (with_reducible repeat (first | refine blk_drewN ?_ _ | refine blk_drew ?_ | refine blk_alloc ?_ _)); refine blk_put (cs := #[.int .i64 t1437, .slice none 0 0]) ?_ 1 _ rfl; (with_reducible repeat (first | refine blk_drewN ?_ _ | refine blk_drew ?_ | refine blk_alloc ?_ _)); refine blk_put (cs := #[.int .i64 0, .slice none 0 0]) ?_ 0 _ rfl; (with_reducible repeat (first | refine blk_drewN ?_ _ | refine blk_drew ?_ | refine blk_alloc ?_ _)); exact BK1444.out) hb); replace HB := bs HB hb; (try clear hb); (try clear hi)))
    (try simp only [Act.put, List.setIfInBounds_toArray, List.set_cons_zero, List.set_cons_succ])
    go_cut [34] (fun v34 wc => ∃ (kq : Nat) (x34_7 : Bool), v34 = .bool x34_7 ∧ Aside0 (laws_FnTreeOk.j1 kq l1 t1441 t1445 x34_7 t1437 t1438 = some r) ∧ Aside0 (kq ≤ kj2) ∧ Aside0 (Kd.Q k73 73 wc w.heap.size (fun k_ => some k_ ≠ ((.slice Ao12 t1438.length co12) : Value).ownBlock) (.slice Ao13 t1441.length co13) t1441) ∧ Aside0 (Kd.R k73 73 wc w.heap.size (fun k_ => some k_ ≠ ((.slice Ao13 t1441.length co13) : Value).ownBlock) (.slice Ao12 t1438.length co12) t1438) ∧ Aside0 (wc.heap[gb1444]? = some (.cells #[.int .i64 t1437, (.slice Ao12 t1438.length co12)] 34 (0, 0))) ∧ Aside0 (Below w.heap.size w wc))
    case first =>
     have H := HC8.out
     clear HC8
     replace H := Option.bind_eq_some_iff.mp H
     obtain ⟨t1446, A150, H⟩ := H
     (try dsimp only at H)
     have A15 := am A150
     clear A150
     by_cases c16 : (t1445 != t1446) = true
     ·rw [if_pos c16] at H
      have c16b0 : (t1445 != t1446) = true := c16
      (try (have c16b1 : decide (t1445 = t1446) = false := by simpa using c16))
      (try (have c16b2 : (t1445 == t1446) = false := by simpa using c16))
      (try (have c16b3 : ¬ (t1445 = t1446) := by simpa using c16))
      clear c16
      (first | rw [c16b0] | (simp only [i64_w, i32_w]; rw [c16b0]) | skip)
      have H' := am H
      clear H
      obtain ⟨hcz17_0, hcz17_1, hfz17_0, hfz17_1⟩ := c2 BK1444
      go_wp2_with (first | ((with_reducible refine gate_callee (f := 78) rfl ?_); refine gl_ (some 29) Try.func78 #[.agg #[.int .i64 t1437, .slice Ao12 t1438.length co12], .slice Ao13 t1441.length co13] ?_; (with_reducible refine (spec_TreeOk.calls kj2 t1437 _ _ t1438 _ _ t1441 t1446 _ ?side1 ?side2 ?side3 ?side4 A15.out).mono ?_); (case side1 => exact (Kd.R_reads' (onR HO1440)).2.2); (case side2 => exact (Kd.R_reads' HO1440.out).2.1); (case side3 => exact (Kd.Q_reads' (onQ HO1443)).2.2); (case side4 => exact (Kd.Q_reads' HO1443.out).2.1); rintro e w18 ⟨rfl, hb⟩; refine ⟨_, rfl, ?_⟩; replace HO1440 := am (Kd.R_below (onR HO1440) hb); replace HO1443 := am (Kd.Q_below (onQ HO1443) hb); replace BK1444 := bb BK1444 hb; replace HB := bs HB hb; (try clear hb); (try clear hi)))
      go_meet
      case rel => exact ⟨_, (true), (by first | rfl | (simp; done) | (simp [*]; done)), H', ⟨by have := HJ2.out; first | omega | exact Nat.le_refl _⟩, ⟨onQ HO1443⟩, ⟨onR HO1440⟩, ⟨bkn BK1444⟩, ⟨bn HB⟩⟩
     ·rw [if_neg c16] at H
      have c16b0 : (t1445 != t1446) = false := by simpa using c16
      (try (have c16b1 : decide (t1445 = t1446) = true := by simpa using c16))
      (try (have c16b2 : (t1445 == t1446) = true := by simpa using c16))
      clear c16
      (first | rw [c16b0] | (simp only [i64_w, i32_w]; rw [c16b0]) | skip)
      have H' := am H
      clear H
      obtain ⟨hcz19_0, hcz19_1, hfz19_0, hfz19_1⟩ := c2 BK1444
      go_wp2_with (first | ((with_reducible refine gate_callee (f := 78) rfl ?_); refine gl_ (some 29) Try.func78 #[.agg #[.int .i64 t1437, .slice Ao12 t1438.length co12], .slice Ao13 t1441.length co13] ?_; (with_reducible refine (spec_TreeOk.calls kj2 t1437 _ _ t1438 _ _ t1441 t1446 _ ?side1 ?side2 ?side3 ?side4 A15.out).mono ?_); (case side1 => exact (Kd.R_reads' (onR HO1440)).2.2); (case side2 => exact (Kd.R_reads' HO1440.out).2.1); (case side3 => exact (Kd.Q_reads' (onQ HO1443)).2.2); (case side4 => exact (Kd.Q_reads' HO1443.out).2.1); rintro e w20 ⟨rfl, hb⟩; refine ⟨_, rfl, ?_⟩; replace HO1440 := am (Kd.R_below (onR HO1440) hb); replace HO1443 := am (Kd.Q_below (onQ HO1443) hb); replace BK1444 := bb BK1444 hb; replace HB := bs HB hb; (try clear hb); (try clear hi)))
      go_meet
      case rel => exact ⟨_, (!t1445), (by first | rfl | (simp; done) | (simp [*]; done)), H', ⟨by have := HJ2.out; first | omega | exact Nat.le_refl _⟩, ⟨onQ HO1443⟩, ⟨onR HO1440⟩, ⟨bkn BK1444⟩, ⟨bn HB⟩⟩
    case rest =>
     clear HC8
     try clear c1
     try clear c2
     try clear p2
     try clear c4
     try clear c4b0
     try clear c4b1
     try clear c5
     try clear c7
     try clear c16
     try clear c16b0
     try clear c16b1
     try clear c16b2
     try clear hcz11_0 hcz11_1 hfz11_0 hfz11_1
     try clear hcz17_0 hcz17_1 hfz17_0 hfz17_1
     try clear hcz19_0 hcz19_1 hfz19_0 hfz19_1
     try clear p2
     obtain ⟨kq, x34_7, rfl, HA, HJ7, HO_6, HO_1445001, BK1444, HB⟩ := hcut
     cases kq with
     | zero => exact absurd HA.out (by simp [laws_FnTreeOk.j1])
     | succ kj7 =>
      have H := HA.out
      clear HA
      simp only [laws_FnTreeOk.j1] at H
      by_cases c21 : x34_7 = true
      ·subst c21
       rw [if_pos rfl] at H
       replace H := Option.bind_eq_some_iff.mp H
       obtain ⟨t1447, A220, H⟩ := H
       (try dsimp only at H)
       have A22 := am A220
       clear A220
       obtain rfl := Option.some.inj H
       obtain ⟨hcz23_0, hcz23_1, hfz23_0, hfz23_1⟩ := c2 BK1444
       go_wp2_with (first | ((with_reducible refine gate_callee (f := 78) rfl ?_); refine gl_ (some 38) Try.func78 #[.agg #[.int .i64 t1437, .slice Ao12 t1438.length co12], .slice Ao13 t1441.length co13] ?_; (with_reducible refine (spec_TreeOk.calls kj7 t1437 _ _ t1438 _ _ t1441 t1447 _ ?side1 ?side2 ?side3 ?side4 A22.out).mono ?_); (case side1 => exact (Kd.R_reads' (onR HO_1445001)).2.2); (case side2 => exact (Kd.R_reads' HO_1445001.out).2.1); (case side3 => exact (Kd.Q_reads' (onQ HO_6)).2.2); (case side4 => exact (Kd.Q_reads' HO_6.out).2.1); rintro e w24 ⟨rfl, hb⟩; refine ⟨_, rfl, ?_⟩; replace HO_6 := am (Kd.Q_below (onQ HO_6) hb); replace HO_1445001 := am (Kd.R_below (onR HO_1445001) hb); replace BK1444 := bb BK1444 hb; replace HB := bs HB hb; (try clear hb); (try clear hi)))
       go_ret
       exact ⟨by first | rfl | (simp [errW_none, errW_some] <;> rfl) | (simp [*, errW_none, errW_some] <;> rfl), bn HB⟩
      ·replace c21 := Bool.eq_false_iff.mpr c21
       subst c21
       rw [if_neg (show ¬ (false = true) by decide)] at H
       have HC25 := am H
       clear H
       obtain ⟨hcz26_0, hcz26_1, hfz26_0, hfz26_1⟩ := c2 BK1444
       go_upto_region 8 with (first | ((with_reducible refine gate_dst (N := 8) rfl ?_); refine be_ 8 #[.int .i64 0, .slice none 0 0] 34 ?_; intro gb1448 hg w27 hbox hb; replace HO_6 := am (Kd.Q_below (onQ HO_6) hb); replace HO_1445001 := am (Kd.R_below (onR HO_1445001) hb); have BK1448 := am hbox; have GW1448 := am (ge_ hg HB); have GE1448 := am (ge_ hg HB); replace HB := bs HB hb; obtain ⟨NB1444_1448, NB1448_1444⟩ := nb_ hg BK1444; replace BK1444 := bb BK1444 hb; clear hb hbox hg; obtain ⟨hnb28, hnc28⟩ := n2 NB1448_1444 NB1444_1448; obtain ⟨hcz29_0, hcz29_1, hfz29_0, hfz29_1⟩ := c2 BK1448))
       (try simp only [Act.put, List.setIfInBounds_toArray, List.set_cons_zero, List.set_cons_succ])
       go_cut [59] (fun v59 wc => ∃ (kq : Nat) (x59_24 : Bool), v59 = .bool x59_24 ∧ Aside0 (laws_FnTreeOk.j2 kq l1 t1441 x59_24 t1437 t1438 t1437 t1441 = some r) ∧ Aside0 (kq ≤ kj7) ∧ Aside0 (Kd.Q k73 73 wc w.heap.size (fun k_ => some k_ ≠ ((.slice Ao12 t1438.length co12) : Value).ownBlock) (.slice Ao13 t1441.length co13) t1441) ∧ Aside0 (Kd.R k73 73 wc w.heap.size (fun k_ => some k_ ≠ ((.slice Ao13 t1441.length co13) : Value).ownBlock ∧ some k_ ≠ ((.slice Ao13 t1441.length co13) : Value).ownBlock) (.slice Ao12 t1438.length co12) t1438) ∧ Aside0 (Kd.Q k73 73 wc w.heap.size (fun k_ => some k_ ≠ ((.slice Ao12 t1438.length co12) : Value).ownBlock) (.slice Ao13 t1441.length co13) t1441) ∧ Aside0 (wc.heap[gb1444]? = some (.cells #[.int .i64 t1437, (.slice Ao12 t1438.length co12)] 34 (0, 0))) ∧ Aside0 (wc.heap[gb1448]? = some (.cells #[.int .i64 t1437, (.slice Ao13 t1441.length co13)] 34 (0, 0))) ∧ Aside0 (Below w.heap.size w wc))
       case first =>
        have H := HC25.out
        clear HC25
        replace H := Option.bind_eq_some_iff.mp H
        obtain ⟨t1449, A300, H⟩ := H
        (try dsimp only at H)
        have A30 := am A300
        clear A300
        replace H := Option.bind_eq_some_iff.mp H
        obtain ⟨t1452, A310, H⟩ := H
        (try dsimp only at H)
        have A31 := am A310
        clear A310
        replace H := Option.bind_eq_some_iff.mp H
        obtain ⟨t1455, A320, H⟩ := H
        (try dsimp only at H)
        have A32 := am A320
        clear A320
        by_cases c33 : t1455 = true
        ·subst c33
         rw [if_pos rfl] at H
         replace H := Option.bind_eq_some_iff.mp H
         obtain ⟨t1456, A340, H⟩ := H
         (try dsimp only at H)
         have A34 := am A340
         clear A340
         have H' := am H
         clear H
         try go_wp2
         have n0_ : Aside0 (Kd.Q k73 73 ((w27.setCell ⟨gb1448, 0, none⟩ (.int .i64 t1437)).setCell ⟨gb1448, 1, none⟩ (.slice Ao13 t1441.length co13)) w.heap.size (fun k_ => some k_ ≠ (.slice Ao12 t1438.length co12 : Value).ownBlock) (.slice Ao13 t1441.length co13) t1441) := ⟨by (with_reducible repeat (first | apply Kd.Q_alloc | apply Kd.Q_drewN | apply Kd.Q_drew)); exact Kd.Q_mono (Kd.Q_far (p := ⟨gb1448, 1, none⟩) (Kd.Q_far (p := ⟨gb1448, 0, none⟩) (Kd.Q_types HO_6.out BK1448.out (by decide)) (fun _ hk => hk.2) (.int .i64 t1437)) (fun _ hk => hk.2) (.slice Ao13 t1441.length co13)) (fun _ hk => hk.1)⟩
         have n1_ : Aside0 (Kd.R k73 73 ((w27.setCell ⟨gb1448, 0, none⟩ (.int .i64 t1437)).setCell ⟨gb1448, 1, none⟩ (.slice Ao13 t1441.length co13)) w.heap.size (fun k_ => some k_ ≠ (.slice Ao13 t1441.length co13 : Value).ownBlock) (.slice Ao12 t1438.length co12) t1438) := ⟨by (with_reducible repeat (first | apply Kd.R_alloc | apply Kd.R_drewN | apply Kd.R_drew)); exact Kd.R_mono (Kd.R_far (p := ⟨gb1448, 1, none⟩) (Kd.R_far (p := ⟨gb1448, 0, none⟩) (Kd.R_types HO_1445001.out BK1448.out (by decide)) (fun _ hk => hk.2) (.int .i64 t1437)) (fun _ hk => hk.2) (.slice Ao13 t1441.length co13)) (fun _ hk => hk.1)⟩
         have n2_ : Aside0 (((w27.setCell ⟨gb1448, 0, none⟩ (.int .i64 t1437)).setCell ⟨gb1448, 1, none⟩ (.slice Ao13 t1441.length co13)).heap[gb1444]? = some (.cells #[.int .i64 t1437, .slice Ao12 t1438.length co12] 34 (0, 0))) := ⟨bkn BK1444⟩
         have n3_ : Aside0 (((w27.setCell ⟨gb1448, 0, none⟩ (.int .i64 t1437)).setCell ⟨gb1448, 1, none⟩ (.slice Ao13 t1441.length co13)).heap[gb1448]? = some (.cells #[.int .i64 t1437, .slice Ao13 t1441.length co13] 34 (0, 0))) := ⟨by (with_reducible repeat (first | refine blk_drewN ?_ _ | refine blk_drew ?_ | refine blk_alloc ?_ _)); refine blk_put (cs := #[.int .i64 t1437, .slice none 0 0]) ?_ 1 _ rfl; (with_reducible repeat (first | refine blk_drewN ?_ _ | refine blk_drew ?_ | refine blk_alloc ?_ _)); refine blk_put (cs := #[.int .i64 0, .slice none 0 0]) ?_ 0 _ rfl; (with_reducible repeat (first | refine blk_drewN ?_ _ | refine blk_drew ?_ | refine blk_alloc ?_ _)); exact BK1448.out⟩
         have n4_ : Aside0 (Below w.heap.size w ((w27.setCell ⟨gb1448, 0, none⟩ (.int .i64 t1437)).setCell ⟨gb1448, 1, none⟩ (.slice Ao13 t1441.length co13))) := ⟨bn HB⟩
         (try clear HO_6)
         (try clear HO_1445001)
         (try clear BK1444)
         (try clear BK1448)
         (try clear HB)
         generalize ((w27.setCell ⟨gb1448, 0, none⟩ (.int .i64 t1437)).setCell ⟨gb1448, 1, none⟩ (.slice Ao13 t1441.length co13)) = w35 at n0_ n1_ n2_ n3_ n4_ ⊢
         have HO_6 := n0_
         have HO_1445001 := n1_
         have BK1444 := n2_
         have BK1448 := n3_
         have HB := n4_
         clear n0_ n1_ n2_ n3_ n4_
         replace HO_6 := am (Kd.Q_drew HO_6.out)
         replace HO_1445001 := am (Kd.R_drew HO_1445001.out)
         replace BK1444 := am (blk_drew BK1444.out)
         replace BK1448 := am (blk_drew BK1448.out)
         replace HB := am (below_drew1 HB.out)
         refine start_ (n := 16) (S := fun w' => w'.cell? ⟨gb1448, 0, none⟩ = some (.int .i64 t1437) ∧ w'.cell? ⟨gb1448, 1, none⟩ = some (.slice Ao13 t1441.length co13) ∧ w'.cell? ⟨gb1444, 0, none⟩ = some (.int .i64 t1437) ∧ w'.cell? ⟨gb1444, 1, none⟩ = some (.slice Ao12 t1438.length co12)) (ds := []) #[false, false, false, false, false, false, false, false, false, false, false, false, false, false, false, false] (by kernel_rfl) rfl rfl ⟨(bc BK1448 0), (bc BK1448 1), (bc BK1444 0), (bc BK1444 1)⟩ (fun hHeld => ?_); refine with_tabW laws_FnTreeOk.tab8 laws_FnTreeOk.bits8 (fun HT_ HW_ => ?_)
         generalize w35.drew = w36 at HO_6 HO_1445001 BK1444 BK1448 HB hHeld ⊢
         refine tz_ 0 (some 44) HT_ HW_ hHeld ?_
         refine tz_ 2 (some 46) HT_ HW_ hHeld ?_
         refine one_ (i := 1) (N := some 45) #[true, true, true, false, false, false, false, false, false, false, false, false, false, false, false, false] rfl rfl (one_of HT_.out (by kernel_rfl)) (by decide) (fun K hK => ?_)
         refine gg_ Try.func79 #[.agg #[.int .i64 t1437, .slice Ao13 t1441.length co13]] ?_
         with_reducible refine (impl_WayParts.calls kj7 t1437 _ _ t1441 t1449 _ ?side1 ?side2 A30.out).mono ?_
         (case side1 => exact (Kd.Q_reads' (onQ HO_6)).2.2)
         (case side2 => exact (Kd.Q_reads' HO_6.out).2.1)
         rintro e w37 ⟨v1450, rfl, ho0, hb⟩
         refine ⟨_, rfl, ?_⟩
         replace HO_6 := am (Kd.Q_below (onQ HO_6) hb)
         replace HO_1445001 := am (Kd.R_below (onR HO_1445001) hb)
         have HO1451 := am (Kd.R_lower ho0 (below_size (bn HB)))
         replace BK1444 := bb BK1444 hb
         replace BK1448 := bb BK1448 hb
         replace HB := bs HB hb
         (try clear hb)
         (try clear hb2)
         (try clear hk)
         (try clear hi)
         (try clear ho0)
         refine hK.out _ _ ⟨(bc BK1448 0), (bc BK1448 1), (bc BK1444 0), (bc BK1444 1)⟩ (fun hHeld => ?_)
         clear hK K
         refine nz_ 45 ?_
         refine one_ (i := 3) (N := some 47) #[true, true, true, true, false, false, false, false, false, false, false, false, false, false, false, false] rfl rfl (one_of HT_.out (by kernel_rfl)) (by decide) (fun K hK => ?_)
         refine gg_ Try.func79 #[.agg #[.int .i64 t1437, .slice Ao12 t1438.length co12]] ?_
         with_reducible refine (impl_WayParts.calls kj7 t1437 _ _ t1438 t1452 _ ?side1 ?side2 A31.out).mono ?_
         (case side1 => exact (Kd.R_reads' (onR HO_1445001)).2.2)
         (case side2 => exact (Kd.R_reads' HO_1445001.out).2.1)
         rintro e w38 ⟨v1453, rfl, ho0, hb⟩
         refine ⟨_, rfl, ?_⟩
         replace HO_6 := am (Kd.Q_below (onQ HO_6) hb)
         replace HO_1445001 := am (Kd.R_below (onR HO_1445001) hb)
         have HO1454 := am (Kd.R_lower (Kd.R_new' ho0 (Kd.R_lt (onR HO1451))) (below_size (bn HB)))
         replace HO1451 := am (Kd.R_elder' (onR HO1451) (Kd.R_base ho0) hb)
         replace BK1444 := bb BK1444 hb
         replace BK1448 := bb BK1448 hb
         replace HB := bs HB hb
         (try clear hb)
         (try clear hb2)
         (try clear hk)
         (try clear hi)
         (try clear ho0)
         obtain ⟨Ao39, co39, eo39⟩ := Kd.R_slice HO1451.out
         (first | subst eo39 | (injection eo39 with f1_ f2_ f3_; have f4_ := f1_.symm; have f5_ := f3_.symm; clear f1_ f2_ f3_; subst f4_; subst f5_))
         obtain ⟨Ao40, co40, eo40⟩ := Kd.R_slice HO1454.out
         (first | subst eo40 | (injection eo40 with f1_ f2_ f3_; have f4_ := f1_.symm; have f5_ := f3_.symm; clear f1_ f2_ f3_; subst f4_; subst f5_))
         refine hK.out _ _ ⟨(bc BK1448 0), (bc BK1448 1), (bc BK1444 0), (bc BK1444 1)⟩ (fun hHeld => ?_)
         clear hK K
         refine nz_ 47 ?_
         refine one_ (i := 4) (N := some 48) #[true, true, true, true, true, false, false, false, false, false, false, false, false, false, false, false] rfl rfl (one_of HT_.out (by kernel_rfl)) (by decide) (fun K hK => ?_)
         refine gg_ Try.func65 #[.slice Ao39 t1449.length co39, .slice Ao40 t1452.length co40] ?_
         with_reducible refine (laws_loInts.calls kj7 _ _ t1449 _ _ t1452 true _ ?side1 ?side2 ?side3 ?side4 A32.out).mono ?_
         (case side1 => exact (Kd.R_reads' (onR HO1451)).2.2)
         (case side2 => exact (Kd.R_reads' HO1451.out).2.1)
         (case side3 => exact (Kd.R_reads' (onR HO1454)).2.2)
         (case side4 => exact (Kd.R_reads' HO1454.out).2.1)
         rintro e w' ⟨rfl, ⟨nd, rfl⟩⟩
         refine ⟨_, rfl, ?_⟩
         refine hK.out _ _ ⟨(bc BK1448 0), (bc BK1448 1), (bc BK1444 0), (bc BK1444 1)⟩ (fun hHeld => ?_)
         clear hK K
         refine nz_ 48 ?_
         refine pz_ 5 (some 49) HT_ ?_
         refine pz_ 6 (some 50) HT_ ?_
         refine pz_ 7 (some 51) HT_ ?_
         refine pz_ 8 (some 52) HT_ ?_
         refine pz_ 9 (some 53) HT_ ?_
         refine tz_ 10 (some 54) HT_ HW_ hHeld ?_
         refine tz_ 11 (some 55) HT_ HW_ hHeld ?_
         refine one_ (i := 12) (N := some 56) #[true, true, true, true, true, true, true, true, true, true, true, true, true, false, false, false] rfl rfl (one_of HT_.out (by kernel_rfl)) (by decide) (fun K hK => ?_)
         refine gg_ Try.func62 #[.agg #[.int .i64 t1437, .slice Ao12 t1438.length co12]] ?_
         with_reducible refine (impl_WayCount.calls kj7 t1437 _ _ t1438 t1456 _ ?side1 ?side2 A34.out).mono ?_
         (case side1 => exact (Kd.R_reads' (onR HO_1445001)).2.2)
         (case side2 => exact (Kd.R_reads' HO_1445001.out).2.1)
         rintro e w41 ⟨rfl, hb⟩
         refine ⟨_, rfl, ?_⟩
         replace HO_6 := am (Kd.Q_below (onQ HO_6) hb)
         replace HO_1445001 := am (Kd.R_below (onR HO_1445001) hb)
         replace HO1451 := am (Kd.R_below (onR HO1451) hb)
         replace HO1454 := am (Kd.R_below (onR HO1454) hb)
         replace BK1444 := bb BK1444 hb
         replace BK1448 := bb BK1448 hb
         replace HB := bs HB hb
         (try clear hb)
         (try clear hb2)
         (try clear hk)
         (try clear hi)
         refine hK.out _ _ ⟨(bc BK1448 0), (bc BK1448 1), (bc BK1444 0), (bc BK1444 1)⟩ (fun hHeld => ?_)
         clear hK K
         refine nz_ 56 ?_
         refine pz_ 13 (some 57) HT_ ?_
         refine pz_ 14 (some 58) HT_ ?_
         refine pz_ 15 (some 59) HT_ ?_
         refine done_ (done_of HT_.out (by kernel_rfl)) ?_
         try go_wp2
         go_meet
         case rel => exact ⟨_, (((t1441.length : Int) != (wrap64 (t1437 - t1456)))), (by first | rfl | (simp; done) | (simp [*]; done)), H', ⟨by have := HJ2.out; have := HJ7.out; first | omega | exact Nat.le_refl _⟩, ⟨onQ HO_6⟩, ⟨by (with_reducible repeat (first | apply Kd.R_alloc | apply Kd.R_drewN | apply Kd.R_drew)); exact Kd.R_mono HO_1445001.out (fun _ hk => ⟨hk, hk⟩)⟩, ⟨onQ HO_6⟩, ⟨bkn BK1444⟩, ⟨bkn BK1448⟩, ⟨bn HB⟩⟩
        ·replace c33 := Bool.eq_false_iff.mpr c33
         subst c33
         rw [if_neg (show ¬ (false = true) by decide)] at H
         have H' := am H
         clear H
         try go_wp2
         have n0_ : Aside0 (Kd.Q k73 73 ((w27.setCell ⟨gb1448, 0, none⟩ (.int .i64 t1437)).setCell ⟨gb1448, 1, none⟩ (.slice Ao13 t1441.length co13)) w.heap.size (fun k_ => some k_ ≠ (.slice Ao12 t1438.length co12 : Value).ownBlock) (.slice Ao13 t1441.length co13) t1441) := ⟨by (with_reducible repeat (first | apply Kd.Q_alloc | apply Kd.Q_drewN | apply Kd.Q_drew)); exact Kd.Q_mono (Kd.Q_far (p := ⟨gb1448, 1, none⟩) (Kd.Q_far (p := ⟨gb1448, 0, none⟩) (Kd.Q_types HO_6.out BK1448.out (by decide)) (fun _ hk => hk.2) (.int .i64 t1437)) (fun _ hk => hk.2) (.slice Ao13 t1441.length co13)) (fun _ hk => hk.1)⟩
         have n1_ : Aside0 (Kd.R k73 73 ((w27.setCell ⟨gb1448, 0, none⟩ (.int .i64 t1437)).setCell ⟨gb1448, 1, none⟩ (.slice Ao13 t1441.length co13)) w.heap.size (fun k_ => some k_ ≠ (.slice Ao13 t1441.length co13 : Value).ownBlock) (.slice Ao12 t1438.length co12) t1438) := ⟨by (with_reducible repeat (first | apply Kd.R_alloc | apply Kd.R_drewN | apply Kd.R_drew)); exact Kd.R_mono (Kd.R_far (p := ⟨gb1448, 1, none⟩) (Kd.R_far (p := ⟨gb1448, 0, none⟩) (Kd.R_types HO_1445001.out BK1448.out (by decide)) (fun _ hk => hk.2) (.int .i64 t1437)) (fun _ hk => hk.2) (.slice Ao13 t1441.length co13)) (fun _ hk => hk.1)⟩
         have n2_ : Aside0 (((w27.setCell ⟨gb1448, 0, none⟩ (.int .i64 t1437)).setCell ⟨gb1448, 1, none⟩ (.slice Ao13 t1441.length co13)).heap[gb1444]? = some (.cells #[.int .i64 t1437, .slice Ao12 t1438.length co12] 34 (0, 0))) := ⟨bkn BK1444⟩
         have n3_ : Aside0 (((w27.setCell ⟨gb1448, 0, none⟩ (.int .i64 t1437)).setCell ⟨gb1448, 1, none⟩ (.slice Ao13 t1441.length co13)).heap[gb1448]? = some (.cells #[.int .i64 t1437, .slice Ao13 t1441.length co13] 34 (0, 0))) := ⟨by (with_reducible repeat (first | refine blk_drewN ?_ _ | refine blk_drew ?_ | refine blk_alloc ?_ _)); refine blk_put (cs := #[.int .i64 t1437, .slice none 0 0]) ?_ 1 _ rfl; (with_reducible repeat (first | refine blk_drewN ?_ _ | refine blk_drew ?_ | refine blk_alloc ?_ _)); refine blk_put (cs := #[.int .i64 0, .slice none 0 0]) ?_ 0 _ rfl; (with_reducible repeat (first | refine blk_drewN ?_ _ | refine blk_drew ?_ | refine blk_alloc ?_ _)); exact BK1448.out⟩
         have n4_ : Aside0 (Below w.heap.size w ((w27.setCell ⟨gb1448, 0, none⟩ (.int .i64 t1437)).setCell ⟨gb1448, 1, none⟩ (.slice Ao13 t1441.length co13))) := ⟨bn HB⟩
         (try clear HO_6)
         (try clear HO_1445001)
         (try clear BK1444)
         (try clear BK1448)
         (try clear HB)
         generalize ((w27.setCell ⟨gb1448, 0, none⟩ (.int .i64 t1437)).setCell ⟨gb1448, 1, none⟩ (.slice Ao13 t1441.length co13)) = w42 at n0_ n1_ n2_ n3_ n4_ ⊢
         have HO_6 := n0_
         have HO_1445001 := n1_
         have BK1444 := n2_
         have BK1448 := n3_
         have HB := n4_
         clear n0_ n1_ n2_ n3_ n4_
         replace HO_6 := am (Kd.Q_drew HO_6.out)
         replace HO_1445001 := am (Kd.R_drew HO_1445001.out)
         replace BK1444 := am (blk_drew BK1444.out)
         replace BK1448 := am (blk_drew BK1448.out)
         replace HB := am (below_drew1 HB.out)
         refine start_ (n := 16) (S := fun w' => w'.cell? ⟨gb1448, 0, none⟩ = some (.int .i64 t1437) ∧ w'.cell? ⟨gb1448, 1, none⟩ = some (.slice Ao13 t1441.length co13) ∧ w'.cell? ⟨gb1444, 0, none⟩ = some (.int .i64 t1437) ∧ w'.cell? ⟨gb1444, 1, none⟩ = some (.slice Ao12 t1438.length co12)) (ds := []) #[false, false, false, false, false, false, false, false, false, false, false, false, false, false, false, false] (by kernel_rfl) rfl rfl ⟨(bc BK1448 0), (bc BK1448 1), (bc BK1444 0), (bc BK1444 1)⟩ (fun hHeld => ?_); refine with_tabW laws_FnTreeOk.tab8 laws_FnTreeOk.bits8 (fun HT_ HW_ => ?_)
         generalize w42.drew = w43 at HO_6 HO_1445001 BK1444 BK1448 HB hHeld ⊢
         refine tz_ 0 (some 44) HT_ HW_ hHeld ?_
         refine tz_ 2 (some 46) HT_ HW_ hHeld ?_
         refine one_ (i := 1) (N := some 45) #[true, true, true, false, false, false, false, false, false, false, false, false, false, false, false, false] rfl rfl (one_of HT_.out (by kernel_rfl)) (by decide) (fun K hK => ?_)
         refine gg_ Try.func79 #[.agg #[.int .i64 t1437, .slice Ao13 t1441.length co13]] ?_
         with_reducible refine (impl_WayParts.calls kj7 t1437 _ _ t1441 t1449 _ ?side1 ?side2 A30.out).mono ?_
         (case side1 => exact (Kd.Q_reads' (onQ HO_6)).2.2)
         (case side2 => exact (Kd.Q_reads' HO_6.out).2.1)
         rintro e w44 ⟨v1450, rfl, ho0, hb⟩
         refine ⟨_, rfl, ?_⟩
         replace HO_6 := am (Kd.Q_below (onQ HO_6) hb)
         replace HO_1445001 := am (Kd.R_below (onR HO_1445001) hb)
         have HO1451 := am (Kd.R_lower ho0 (below_size (bn HB)))
         replace BK1444 := bb BK1444 hb
         replace BK1448 := bb BK1448 hb
         replace HB := bs HB hb
         (try clear hb)
         (try clear hb2)
         (try clear hk)
         (try clear hi)
         (try clear ho0)
         refine hK.out _ _ ⟨(bc BK1448 0), (bc BK1448 1), (bc BK1444 0), (bc BK1444 1)⟩ (fun hHeld => ?_)
         clear hK K
         refine nz_ 45 ?_
         refine one_ (i := 3) (N := some 47) #[true, true, true, true, false, false, false, false, false, false, false, false, false, false, false, false] rfl rfl (one_of HT_.out (by kernel_rfl)) (by decide) (fun K hK => ?_)
         refine gg_ Try.func79 #[.agg #[.int .i64 t1437, .slice Ao12 t1438.length co12]] ?_
         with_reducible refine (impl_WayParts.calls kj7 t1437 _ _ t1438 t1452 _ ?side1 ?side2 A31.out).mono ?_
         (case side1 => exact (Kd.R_reads' (onR HO_1445001)).2.2)
         (case side2 => exact (Kd.R_reads' HO_1445001.out).2.1)
         rintro e w45 ⟨v1453, rfl, ho0, hb⟩
         refine ⟨_, rfl, ?_⟩
         replace HO_6 := am (Kd.Q_below (onQ HO_6) hb)
         replace HO_1445001 := am (Kd.R_below (onR HO_1445001) hb)
         have HO1454 := am (Kd.R_lower (Kd.R_new' ho0 (Kd.R_lt (onR HO1451))) (below_size (bn HB)))
         replace HO1451 := am (Kd.R_elder' (onR HO1451) (Kd.R_base ho0) hb)
         replace BK1444 := bb BK1444 hb
         replace BK1448 := bb BK1448 hb
         replace HB := bs HB hb
         (try clear hb)
         (try clear hb2)
         (try clear hk)
         (try clear hi)
         (try clear ho0)
         obtain ⟨Ao46, co46, eo46⟩ := Kd.R_slice HO1451.out
         (first | subst eo46 | (injection eo46 with f1_ f2_ f3_; have f4_ := f1_.symm; have f5_ := f3_.symm; clear f1_ f2_ f3_; subst f4_; subst f5_))
         obtain ⟨Ao47, co47, eo47⟩ := Kd.R_slice HO1454.out
         (first | subst eo47 | (injection eo47 with f1_ f2_ f3_; have f4_ := f1_.symm; have f5_ := f3_.symm; clear f1_ f2_ f3_; subst f4_; subst f5_))
         refine hK.out _ _ ⟨(bc BK1448 0), (bc BK1448 1), (bc BK1444 0), (bc BK1444 1)⟩ (fun hHeld => ?_)
         clear hK K
         refine nz_ 47 ?_
         refine one_ (i := 4) (N := some 48) #[true, true, true, true, true, false, false, false, false, false, false, false, false, false, false, false] rfl rfl (one_of HT_.out (by kernel_rfl)) (by decide) (fun K hK => ?_)
         refine gg_ Try.func65 #[.slice Ao46 t1449.length co46, .slice Ao47 t1452.length co47] ?_
         with_reducible refine (laws_loInts.calls kj7 _ _ t1449 _ _ t1452 false _ ?side1 ?side2 ?side3 ?side4 A32.out).mono ?_
         (case side1 => exact (Kd.R_reads' (onR HO1451)).2.2)
         (case side2 => exact (Kd.R_reads' HO1451.out).2.1)
         (case side3 => exact (Kd.R_reads' (onR HO1454)).2.2)
         (case side4 => exact (Kd.R_reads' HO1454.out).2.1)
         rintro e w' ⟨rfl, ⟨nd, rfl⟩⟩
         refine ⟨_, rfl, ?_⟩
         refine hK.out _ _ ⟨(bc BK1448 0), (bc BK1448 1), (bc BK1444 0), (bc BK1444 1)⟩ (fun hHeld => ?_)
         clear hK K
         refine nz_ 48 ?_
         refine pz_ 5 (some 49) HT_ ?_
         refine pz_ 6 (some 50) HT_ ?_
         refine pu_ 7 (some 51) HT_ ?_
         refine pu_ 8 (some 52) HT_ ?_
         refine pu_ 9 (some 53) HT_ ?_
         refine pu_ 10 (some 54) HT_ ?_
         refine pu_ 11 (some 55) HT_ ?_
         refine pu_ 12 (some 56) HT_ ?_
         refine pu_ 13 (some 57) HT_ ?_
         refine pu_ 14 (some 58) HT_ ?_
         refine pz_ 15 (some 59) HT_ ?_
         refine done_ (done_of HT_.out (by kernel_rfl)) ?_
         try go_wp2
         go_meet
         case rel => exact ⟨_, (true), (by first | rfl | (simp; done) | (simp [*]; done)), H', ⟨by have := HJ2.out; have := HJ7.out; first | omega | exact Nat.le_refl _⟩, ⟨onQ HO_6⟩, ⟨by (with_reducible repeat (first | apply Kd.R_alloc | apply Kd.R_drewN | apply Kd.R_drew)); exact Kd.R_mono HO_1445001.out (fun _ hk => ⟨hk, hk⟩)⟩, ⟨onQ HO_6⟩, ⟨bkn BK1444⟩, ⟨bkn BK1448⟩, ⟨bn HB⟩⟩
       case rest =>
        clear HC25
        try clear c1
        try clear c2
        try clear p2
        try clear c3
        try clear c4
        try clear c4b0
        try clear c4b1
        try clear c5
        try clear c6
        try clear p6
        try clear c7
        try clear c16
        try clear c16b0
        try clear c16b1
        try clear c16b2
        try clear c21
        try clear c28
        try clear c33
        try clear hcz11_0 hcz11_1 hfz11_0 hfz11_1
        try clear hcz17_0 hcz17_1 hfz17_0 hfz17_1
        try clear hcz19_0 hcz19_1 hfz19_0 hfz19_1
        try clear hcz23_0 hcz23_1 hfz23_0 hfz23_1
        try clear hcz26_0 hcz26_1 hfz26_0 hfz26_1
        try clear hcz29_0 hcz29_1 hfz29_0 hfz29_1
        try clear p2
        obtain ⟨kq, x59_24, rfl, HA, HJ24, HO_6, HO_1445001, HO_1449001, BK1444, BK1448, HB⟩ := hcut
        cases kq with
        | zero => exact absurd HA.out (by simp [laws_FnTreeOk.j2])
        | succ kj24 =>
         have H := HA.out
         clear HA
         simp only [laws_FnTreeOk.j2] at H
         by_cases c48 : x59_24 = true
         ·subst c48
          rw [if_pos rfl] at H
          exact absurd (Option.some.inj H) (by rw [hrt.out]; decide)
         ·replace c48 := Bool.eq_false_iff.mpr c48
          subst c48
          rw [if_neg (show ¬ (false = true) by decide)] at H
          by_cases c49 : (t1441.length : Int) = 0
          ·rw [if_pos c49] at H
           have c49b0 : ((t1441.length : Int) == 0) = true := beq_iff_eq.mpr c49
           have c49b1 : ((t1441.length : Int) != 0) = false := bne_eq_false_iff_eq.mpr c49
           clear c49
           obtain rfl := Option.some.inj H
           go_wp2
           go_ret
           exact ⟨by first | rfl | (simp [errW_none, errW_some] <;> rfl) | (simp [*, errW_none, errW_some] <;> rfl), bn HB⟩
          ·rw [if_neg c49] at H
           have c49b0 : ((t1441.length : Int) == 0) = false := beq_eq_false_iff_ne.mpr c49
           have c49b1 : ((t1441.length : Int) != 0) = true := bne_iff_ne.mpr c49
           have c49b2 : ¬ (t1441 = []) := fun h_ => c49 (by rw [h_]; rfl)
           obtain ⟨y1457, hy1457⟩ : ∃ y_ : List (S73), y_ = (([] : List (S73))) := ⟨_, rfl⟩
           replace H : (if 0 ≤ ((l1.length : Int) % (t1441.length : Int)) then (if ((l1.length : Int) % (t1441.length : Int)) ≤ (t1441.length : Int) then ((some (t1441.take (((l1.length : Int) % (t1441.length : Int)) : Int).toNat : List (S73))).bind fun y1460 => (if y1457.length + y1460.length < 8796093022208 then ((some (y1457 ++ y1460 : List (S73))).bind fun y1464 => (if 0 ≤ (wrap64 (((l1.length : Int) % (t1441.length : Int)) + 1)) then (if (wrap64 (((l1.length : Int) % (t1441.length : Int)) + 1)) ≤ (t1441.length : Int) then ((some (t1441.drop ((wrap64 (((l1.length : Int) % (t1441.length : Int)) + 1)) : Int).toNat : List (S73))).bind fun y1467 => (if y1464.length + y1467.length < 8796093022208 then ((impl_TreeOk.f kj24 t1437 t1438 (y1464 ++ y1467)).bind fun t1474 => (if t1474 = true then (some false) else (if ((l1.length : Int) % (t1441.length : Int)) < (t1441.length : Int) then ((impl_BridgeIs.f kj24 t1437 t1441 ((rd_T73 t1441 ((l1.length : Int) % (t1441.length : Int))).f0) ((rd_T73 t1441 ((l1.length : Int) % (t1441.length : Int))).f1)).bind fun t1477 => (some t1477)) else (none)))) else (none))) else (none)) else (none))) else (none))) else (none)) else (none)) = some r := nh_ hy1457 H
           have Ny1457 := am hy1457
           clear hy1457
           obtain ⟨ji50, hji50⟩ : ∃ j_ : Int, ((l1.length : Int) % (t1441.length : Int)) = j_ := ⟨_, rfl⟩
           replace H : (if 0 ≤ (ji50) then (if (ji50) ≤ (t1441.length : Int) then ((some (t1441.take ((ji50) : Int).toNat : List (S73))).bind fun y1460 => (if y1457.length + y1460.length < 8796093022208 then ((some (y1457 ++ y1460 : List (S73))).bind fun y1464 => (if 0 ≤ (wrap64 ((ji50) + 1)) then (if (wrap64 ((ji50) + 1)) ≤ (t1441.length : Int) then ((some (t1441.drop ((wrap64 ((ji50) + 1)) : Int).toNat : List (S73))).bind fun y1467 => (if y1464.length + y1467.length < 8796093022208 then ((impl_TreeOk.f kj24 t1437 t1438 (y1464 ++ y1467)).bind fun t1474 => (if t1474 = true then (some false) else (if (ji50) < (t1441.length : Int) then ((impl_BridgeIs.f kj24 t1437 t1441 ((rd_T73 t1441 (ji50)).f0) ((rd_T73 t1441 (ji50)).f1)).bind fun t1477 => (some t1477)) else (none)))) else (none))) else (none)) else (none))) else (none))) else (none)) else (none)) = some r := by first | (rw [hji50] at H; exact H) | (simp only [hji50] at H ⊢; exact H)
           obtain ⟨c51, H⟩ := ig_ H
           have c51b0 := eq_true c51
           have c51b1 := decide_eq_true c51
           clear c51
           obtain ⟨c52, H⟩ := ig_ H
           have c52b0 := eq_true c52
           have c52b1 := decide_eq_true c52
           clear c52
           obtain ⟨y1460, hy1460⟩ : ∃ y_ : List (S73), y_ = (t1441.take ((ji50) : Int).toNat) := ⟨_, rfl⟩
           replace H : (if y1457.length + y1460.length < 8796093022208 then ((some (y1457 ++ y1460 : List (S73))).bind fun y1464 => (if 0 ≤ (wrap64 ((ji50) + 1)) then (if (wrap64 ((ji50) + 1)) ≤ (t1441.length : Int) then ((some (t1441.drop ((wrap64 ((ji50) + 1)) : Int).toNat : List (S73))).bind fun y1467 => (if y1464.length + y1467.length < 8796093022208 then ((impl_TreeOk.f kj24 t1437 t1438 (y1464 ++ y1467)).bind fun t1474 => (if t1474 = true then (some false) else (if (ji50) < (t1441.length : Int) then ((impl_BridgeIs.f kj24 t1437 t1441 ((rd_T73 t1441 (ji50)).f0) ((rd_T73 t1441 (ji50)).f1)).bind fun t1477 => (some t1477)) else (none)))) else (none))) else (none)) else (none))) else (none)) = some r := nh_ hy1460 H
           have Ny1460 := am hy1460
           clear hy1460
           obtain ⟨c53, H⟩ := ig_ H
           have LMc53 := am c53
           clear c53
           obtain ⟨y1464, hy1464⟩ : ∃ y_ : List (S73), y_ = (y1457 ++ y1460) := ⟨_, rfl⟩
           replace H : (if 0 ≤ (wrap64 ((ji50) + 1)) then (if (wrap64 ((ji50) + 1)) ≤ (t1441.length : Int) then ((some (t1441.drop ((wrap64 ((ji50) + 1)) : Int).toNat : List (S73))).bind fun y1467 => (if y1464.length + y1467.length < 8796093022208 then ((impl_TreeOk.f kj24 t1437 t1438 (y1464 ++ y1467)).bind fun t1474 => (if t1474 = true then (some false) else (if (ji50) < (t1441.length : Int) then ((impl_BridgeIs.f kj24 t1437 t1441 ((rd_T73 t1441 (ji50)).f0) ((rd_T73 t1441 (ji50)).f1)).bind fun t1477 => (some t1477)) else (none)))) else (none))) else (none)) else (none)) = some r := nh_ hy1464 H
           have Ny1464 := am hy1464
           clear hy1464
           obtain ⟨ji54, hji54⟩ : ∃ j_ : Int, (wrap64 ((ji50) + 1)) = j_ := ⟨_, rfl⟩
           replace H : (if 0 ≤ (ji54) then (if (ji54) ≤ (t1441.length : Int) then ((some (t1441.drop ((ji54) : Int).toNat : List (S73))).bind fun y1467 => (if y1464.length + y1467.length < 8796093022208 then ((impl_TreeOk.f kj24 t1437 t1438 (y1464 ++ y1467)).bind fun t1474 => (if t1474 = true then (some false) else (if (ji50) < (t1441.length : Int) then ((impl_BridgeIs.f kj24 t1437 t1441 ((rd_T73 t1441 (ji50)).f0) ((rd_T73 t1441 (ji50)).f1)).bind fun t1477 => (some t1477)) else (none)))) else (none))) else (none)) else (none)) = some r := by first | (rw [hji54] at H; exact H) | (simp only [hji54] at H ⊢; exact H)
           have hji54w : (IntKind.i64.wrap ((ji50) + 1)) = ji54 := (i64_w _).trans hji54
           obtain ⟨c55, H⟩ := ig_ H
           have c55b0 := eq_true c55
           have c55b1 := decide_eq_true c55
           clear c55
           obtain ⟨c56, H⟩ := ig_ H
           have c56b0 := eq_true c56
           have c56b1 := decide_eq_true c56
           clear c56
           obtain ⟨y1467, hy1467⟩ : ∃ y_ : List (S73), y_ = (t1441.drop ((ji54) : Int).toNat) := ⟨_, rfl⟩
           replace H : (if y1464.length + y1467.length < 8796093022208 then ((impl_TreeOk.f kj24 t1437 t1438 (y1464 ++ y1467)).bind fun t1474 => (if t1474 = true then (some false) else (if (ji50) < (t1441.length : Int) then ((impl_BridgeIs.f kj24 t1437 t1441 ((rd_T73 t1441 (ji50)).f0) ((rd_T73 t1441 (ji50)).f1)).bind fun t1477 => (some t1477)) else (none)))) else (none)) = some r := nh_ hy1467 H
           have Ny1467 := am hy1467
           clear hy1467
           obtain ⟨c57, H⟩ := ig_ H
           have LMc57 := am c57
           clear c57
           obtain ⟨y1471, hy1471⟩ : ∃ y_ : List (S73), y_ = (y1464 ++ y1467) := ⟨_, rfl⟩
           replace H : ((impl_TreeOk.f kj24 t1437 t1438 y1471).bind fun t1474 => (if t1474 = true then (some false) else (if (ji50) < (t1441.length : Int) then ((impl_BridgeIs.f kj24 t1437 t1441 ((rd_T73 t1441 (ji50)).f0) ((rd_T73 t1441 (ji50)).f1)).bind fun t1477 => (some t1477)) else (none)))) = some r := nh_ hy1471 H
           have Ny1471 := am hy1471
           clear hy1471
           replace H := Option.bind_eq_some_iff.mp H
           obtain ⟨t1474, A580, H⟩ := H
           (try dsimp only at H)
           have A58 := am A580
           clear A580
           by_cases c59 : t1474 = true
           ·subst c59
            rw [if_pos rfl] at H
            exact absurd (Option.some.inj H) (by rw [hrt.out]; decide)
           ·replace c59 := Bool.eq_false_iff.mpr c59
            subst c59
            rw [if_neg (show ¬ (false = true) by decide)] at H
            obtain ⟨c60, H⟩ := ig_ H
            have c60b0 := decide_eq_true c60
            clear c60
            replace H := Option.bind_eq_some_iff.mp H
            obtain ⟨t1477, A610, H⟩ := H
            (try dsimp only at H)
            have A61 := am A610
            clear A610
            obtain rfl := Option.some.inj H
            try go_wp2
            replace HO_6 := am (Kd.Q_drew HO_6.out)
            replace HO_1445001 := am (Kd.R_drew HO_1445001.out)
            replace HO_1449001 := am (Kd.Q_drew HO_1449001.out)
            replace BK1444 := am (blk_drew BK1444.out)
            replace BK1448 := am (blk_drew BK1448.out)
            replace HB := am (below_drew1 HB.out)
            have q63 : ((ji50) : Int) ≤ ((t1441.length : Int) : Int) := oa
            obtain ⟨i063, hi063, _, hsz63, _⟩ := info_parts info73
            have hroom63 : t1441.length ≤ co13 := (Kd.Q_reads' HO_6.out).2.1
            have hC63 : Kd.C k73 _ Ao13 t1441.length t1441 := (Kd.Q_reads' HO_6.out).2.2
            have hcut63 := cut_to (P := Try.prog) 32 73 .i64 Try.underlying32 hi063 Ao13 t1441.length co13 (ji50) (oa) q63 hroom63
            have hr63 := Kd.C_take (m := ((ji50) : Int).toNat) hC63 (by omega)
            have hy63 : y1460.length = ((ji50) : Int).toNat := (by rw [Ny1460.out, List.length_take]; omega)
            rw [← Ny1460.out] at hr63
            rw [← hy63] at hcut63
            have HR1463 := am hr63
            have HC1463 := am (show y1460.length ≤ co13 from by omega)
            clear hr63 hC63 hroom63 hi063 hsz63
            have KY63 := am hy63
            clear hy63
            have KL63 := am (show ((ji50) : Int).toNat ≤ t1441.length from by omega)
            replace q63 := eq_true q63
            have q64 : ((ji54) : Int) ≤ ((t1441.length : Int) : Int) := oa
            obtain ⟨i064, hi064, _, hsz64, _⟩ := info_parts info73
            have hroom64 : t1441.length ≤ co13 := (Kd.Q_reads' HO_6.out).2.1
            have hC64 : Kd.C k73 _ Ao13 t1441.length t1441 := (Kd.Q_reads' HO_6.out).2.2
            have q064 : (0 : Int) ≤ ((ji54) : Int) := oa
            have hcut64 := cut_from (P := Try.prog) 32 73 .i64 Try.underlying32 hi064 2 hsz64 Ao13 t1441.length co13 (ji54) q064 q64
            have hr64 := Kd.C_drop (m := ((ji54) : Int).toNat) (c := co13) hC64 (by omega) hroom64
            obtain ⟨A64, hA64⟩ : ∃ A1, A1 = (if co13 = ((ji54) : Int).toNat then Ao13 else (Ao13 : Option Addr).map (·.add (((ji54) : Int).toNat * 2))) := ⟨_, rfl⟩
            obtain ⟨c64, hc64⟩ : ∃ c1, c1 = co13 - ((ji54) : Int).toNat := ⟨_, rfl⟩
            have hy64 : y1467.length = t1441.length - ((ji54) : Int).toNat := (by rw [Ny1467.out, List.length_drop] <;> omega)
            rw [show (t1441).drop ((ji54) : Int).toNat = y1467 from Ny1467.out.symm] at hr64
            replace hr64 : Kd.C k73 _ A64 y1467.length y1467 := (by rw [hA64]; exact hr64)
            rw [← hy64, ← hA64, ← hc64] at hcut64
            have HR1470 := am hr64
            have HC1470 := am (show y1467.length ≤ c64 from by rw [hy64, hc64]; exact Nat.sub_le_sub_right hroom64 _)
            clear hr64 hC64 hroom64 hi064 hsz64 hc64
            have KY64 := am hy64
            have KA64 := am hA64
            clear hy64 hA64
            have KL64 := am (show ((ji54) : Int).toNat ≤ t1441.length from by omega)
            replace q64 := eq_true q64
            have p1475 : 0 ≤ ((ji50) : Int) := oa
            have q1475 : (ji50) < (t1441.length : Int) := oa
            obtain ⟨ad1475, e1475, hx1475_0, hx1475_1⟩ := at_T73 (Kd.Q_reads' HO_6.out).2.2 (ji50) p1475 q1475
            cases e1475
            replace p1475 := eq_true p1475
            replace q1475 := eq_true q1475
            have p1476 : 0 ≤ ((ji50) : Int) := oa
            have q1476 : (ji50) < (t1441.length : Int) := oa
            obtain ⟨ad1476, e1476, hx1476_0, hx1476_1⟩ := at_T73 (Kd.Q_reads' HO_6.out).2.2 (ji50) p1476 q1476
            obtain rfl : ad1475 = ad1476 := (by injection e1476)
            replace p1476 := eq_true p1476
            replace q1476 := eq_true q1476
            refine start_ (n := 28) (S := fun w' => w'.cell? ⟨gb1444, 0, none⟩ = some (.int .i64 t1437) ∧ w'.cell? ⟨gb1444, 1, none⟩ = some (.slice Ao12 t1438.length co12) ∧ w'.cell? ⟨gb1448, 0, none⟩ = some (.int .i64 t1437) ∧ w'.cell? ⟨gb1448, 1, none⟩ = some (.slice (some ad1475) t1441.length co13) ∧ w'.cell? (ad1475.add (((ji50)).toNat * 2)) = some (.int .i64 ((rd_T73 t1441 (ji50)).f0)) ∧ w'.cell? ⟨(ad1475.add (((ji50)).toNat * 2)).block, (ad1475.add (((ji50)).toNat * 2)).off + 1, none⟩ = some (.int .i64 ((rd_T73 t1441 (ji50)).f1)) ∧ w'.cell? (ad1475.add (((ji50)).toNat * 2)) = some (.int .i64 ((rd_T73 t1441 (ji50)).f0)) ∧ w'.cell? ⟨(ad1475.add (((ji50)).toNat * 2)).block, (ad1475.add (((ji50)).toNat * 2)).off + 1, none⟩ = some (.int .i64 ((rd_T73 t1441 (ji50)).f1))) (ds := []) #[false, false, false, false, false, false, false, false, false, false, false, false, false, false, false, false, false, false, false, false, false, false, false, false, false, false, false, false] (by kernel_rfl) rfl rfl ⟨(bc BK1444 0), (bc BK1444 1), (bc BK1448 0), (bc BK1448 1), hx1475_0, hx1475_1, hx1476_0, hx1476_1⟩ (fun hHeld => ?_); refine with_tabW laws_FnTreeOk.tab13 laws_FnTreeOk.bits13 (fun HT_ HW_ => ?_)
            generalize wc.drew = w62 at HO_6 HO_1445001 HO_1449001 BK1444 BK1448 HB HR1463 HR1470 hx1475_0 hx1475_1 hx1476_0 hx1476_1 hHeld ⊢
            refine pz_ 2 (some 70) HT_ ?_
            refine pz_ 3 (some 71) HT_ ?_
            refine pz_ 4 (some 72) HT_ ?_
            refine pz_ 6 (some 74) HT_ ?_
            refine pz_ 7 (some 75) HT_ ?_
            refine pz_ 8 (some 76) HT_ ?_
            refine pz_ 9 (some 77) HT_ ?_
            refine tz_ 0 (some 68) HT_ HW_ hHeld ?_
            refine one_ (i := 1) (N := some 69) #[true, true, true, true, true, false, true, true, true, true, false, false, false, false, false, false, false, false, false, false, false, false, false, false, false, false, false, false] rfl rfl (one_of HT_.out (by kernel_rfl)) (by decide) (fun K hK => ?_)
            refine Kd.R_lit_step k73 _ 73 ?hg (N := 69) ?hd (xs := ([] : List (S73))) (inner := []) (ok := fun _ => True) (okp := fun _ => True) ?hr ?hp (fun _ hk => hk) trivial (Below.refl _ _) (Nat.le_refl _) (by simp) ?_; (case hd => rfl); (case hg => rfl); (case hr => first | (go_simp; done) | (go_simp; rfl)); (case hp => exact (Reps.none _ _))
            intro v1458 w65 ho66 hb hg_ hnew_
            have HS4_ := (hb.cell (World.block_lt_of_cell? _ _ (hHeld.2.2.2.2.1))).trans (hHeld.2.2.2.2.1)
            have HS5_ := (hb.cell (World.block_lt_of_cell? _ _ (hHeld.2.2.2.2.2.1))).trans (hHeld.2.2.2.2.2.1)
            have HS6_ := (hb.cell (World.block_lt_of_cell? _ _ (hHeld.2.2.2.2.2.2.1))).trans (hHeld.2.2.2.2.2.2.1)
            have HS7_ := (hb.cell (World.block_lt_of_cell? _ _ (hHeld.2.2.2.2.2.2.2))).trans (hHeld.2.2.2.2.2.2.2)
            clear hg_ hnew_
            (first | rw [← Ny1457.out] at ho66 | (simp only [Int.reduceToNat] at ho66; rw [← Ny1457.out] at ho66))
            have n0_ := am (Kd.Q_elder' (onQ HO_6) (Kd.R_base ho66) hb)
            have n1_ := am (Kd.R_elder' (onR HO_1445001) (Kd.R_base ho66) hb)
            have n2_ := am (Kd.Q_elder' (onQ HO_1449001) (Kd.R_base ho66) hb)
            have n3_ := am (Kd.R_lower (Kd.R_new' (Kd.R_new' (Kd.R_new' ho66 (Kd.Q_lt (onQ HO_6))) (Kd.R_lt (onR HO_1445001))) (Kd.Q_lt (onQ HO_1449001))) (below_size (bn HB)))
            have n4_ := bb BK1444 hb
            have n5_ := bb BK1448 hb
            have n6_ := am (Kd.C_below (by repeat (first | (with_reducible exact HR1463.out) | (with_reducible refine Kd.C_alloc ?_ _) | (with_reducible refine Kd.C_drewN ?_ _) | (with_reducible refine Kd.C_drew ?_) | exact HR1463.out)) hb)
            have n7_ := am (Kd.C_below (by repeat (first | (with_reducible exact HR1470.out) | (with_reducible refine Kd.C_alloc ?_ _) | (with_reducible refine Kd.C_drewN ?_ _) | (with_reducible refine Kd.C_drew ?_) | exact HR1470.out)) hb)
            have n8_ := bs HB hb
            clear HO_6 HO_1445001 HO_1449001 BK1444 BK1448 HR1463 HR1470 HB
            have HO_6 := n0_
            have HO_1445001 := n1_
            have HO_1449001 := n2_
            have HO1459 := n3_
            have BK1444 := n4_
            have BK1448 := n5_
            have HR1463 := n6_
            have HR1470 := n7_
            have HB := n8_
            clear n0_ n1_ n2_ n3_ n4_ n5_ n6_ n7_ n8_ hb ho66
            refine hK.out _ _ ⟨(bc BK1444 0), (bc BK1444 1), (bc BK1448 0), (bc BK1448 1), HS4_, HS5_, HS6_, HS7_⟩ (fun hHeld => ?_)
            clear hK K
            refine nz_ 69 ?_
            refine one_ (i := 5) (N := some 73) #[true, true, true, true, true, true, true, true, true, true, false, false, false, false, false, false, false, false, false, false, false, false, false, false, false, false, false, false] rfl rfl (one_of HT_.out (by kernel_rfl)) (by decide) (fun K hK => ?_)
            refine Kd.R_append_rows_step k73 (w0 := w) w.heap.size (by rfl) (.tmp 69) (.tmp 72) 32 73 (.agg #[(.int .i64 0), (.int .i64 0)]) 16 rfl Try.underlying32 info73 rfl (by decide) (by omega) v1458 y1457 y1460 _ _ _ (fun k_ => some k_ ≠ (.slice (some ad1475) t1441.length co13 : Value).ownBlock ∧ some k_ ≠ (.slice Ao12 t1438.length co12 : Value).ownBlock ∧ some k_ ≠ (.slice (some ad1475) t1441.length co13 : Value).ownBlock) (fun _ => False) rfl rfl ?aO ?aR (fun _ _ h => h) (fun _ h => h.elim) ?aF ?aB ?aS ?aL ?_
            (case aR => repeat (first | exact (by repeat (first | (with_reducible exact HR1463.out) | (with_reducible refine Kd.C_alloc ?_ _) | (with_reducible refine Kd.C_drewN ?_ _) | (with_reducible refine Kd.C_drew ?_) | exact HR1463.out)) | (with_reducible refine Kd.C_alloc ?_ _) | (with_reducible refine Kd.C_drewN ?_ _) | (with_reducible refine Kd.C_drew ?_)))
            (case aB => exact (bn HB))
            (case aF => exact (fun k_ hk => ⟨Kd.fresh' (Kd.Q_lt (onQ HO_6)) k_ hk, Kd.fresh' (Kd.R_lt (onR HO_1445001)) k_ hk, Kd.fresh' (Kd.Q_lt (onQ HO_1449001)) k_ hk⟩))
            (case aO => exact (by (with_reducible repeat (first | apply Kd.R_alloc | apply Kd.R_drewN | apply Kd.R_drew)); exact Kd.R_mono HO1459.out (fun _ hk => ⟨hk.1.1.2, ⟨hk.1.2, hk.2⟩⟩)))
            (case aS => exact (below_size (bn HB)))
            (case aL => have := LMc53.out; omega)
            intro v1465 w67 ho hb hg hat
            have HS4_ := cell_grown hg (hHeld.2.2.2.2.1) (by first | (rw [add_block]; exact (by first | exact fun e_ => (HO1459.out.1 _ e_.symm) rfl | exact fun e_ => (HO1459.out.1 _ e_.symm).1 rfl | exact fun e_ => (HO1459.out.1 _ e_.symm).2 rfl | exact fun e_ => (HO1459.out.1 _ e_.symm).2.1 rfl | exact fun e_ => (HO1459.out.1 _ e_.symm).2.2 rfl | exact fun e_ => (HO1459.out.1 _ e_.symm).1.1 rfl | exact fun e_ => (HO1459.out.1 _ e_.symm).1.2 rfl | exact fun e_ => (HO1459.out.1 _ e_.symm).1.1.2 rfl)) | (show some (Addr.add _ _).block ≠ _; rw [add_block]; exact (by first | exact fun e_ => (HO1459.out.1 _ e_.symm) rfl | exact fun e_ => (HO1459.out.1 _ e_.symm).1 rfl | exact fun e_ => (HO1459.out.1 _ e_.symm).2 rfl | exact fun e_ => (HO1459.out.1 _ e_.symm).2.1 rfl | exact fun e_ => (HO1459.out.1 _ e_.symm).2.2 rfl | exact fun e_ => (HO1459.out.1 _ e_.symm).1.1 rfl | exact fun e_ => (HO1459.out.1 _ e_.symm).1.2 rfl | exact fun e_ => (HO1459.out.1 _ e_.symm).1.1.2 rfl)) | exact (by first | exact fun e_ => (HO1459.out.1 _ e_.symm) rfl | exact fun e_ => (HO1459.out.1 _ e_.symm).1 rfl | exact fun e_ => (HO1459.out.1 _ e_.symm).2 rfl | exact fun e_ => (HO1459.out.1 _ e_.symm).2.1 rfl | exact fun e_ => (HO1459.out.1 _ e_.symm).2.2 rfl | exact fun e_ => (HO1459.out.1 _ e_.symm).1.1 rfl | exact fun e_ => (HO1459.out.1 _ e_.symm).1.2 rfl | exact fun e_ => (HO1459.out.1 _ e_.symm).1.1.2 rfl))
            have HS5_ := cell_grown hg (hHeld.2.2.2.2.2.1) (by first | (rw [add_block]; exact (by first | exact fun e_ => (HO1459.out.1 _ e_.symm) rfl | exact fun e_ => (HO1459.out.1 _ e_.symm).1 rfl | exact fun e_ => (HO1459.out.1 _ e_.symm).2 rfl | exact fun e_ => (HO1459.out.1 _ e_.symm).2.1 rfl | exact fun e_ => (HO1459.out.1 _ e_.symm).2.2 rfl | exact fun e_ => (HO1459.out.1 _ e_.symm).1.1 rfl | exact fun e_ => (HO1459.out.1 _ e_.symm).1.2 rfl | exact fun e_ => (HO1459.out.1 _ e_.symm).1.1.2 rfl)) | (show some (Addr.add _ _).block ≠ _; rw [add_block]; exact (by first | exact fun e_ => (HO1459.out.1 _ e_.symm) rfl | exact fun e_ => (HO1459.out.1 _ e_.symm).1 rfl | exact fun e_ => (HO1459.out.1 _ e_.symm).2 rfl | exact fun e_ => (HO1459.out.1 _ e_.symm).2.1 rfl | exact fun e_ => (HO1459.out.1 _ e_.symm).2.2 rfl | exact fun e_ => (HO1459.out.1 _ e_.symm).1.1 rfl | exact fun e_ => (HO1459.out.1 _ e_.symm).1.2 rfl | exact fun e_ => (HO1459.out.1 _ e_.symm).1.1.2 rfl)) | exact (by first | exact fun e_ => (HO1459.out.1 _ e_.symm) rfl | exact fun e_ => (HO1459.out.1 _ e_.symm).1 rfl | exact fun e_ => (HO1459.out.1 _ e_.symm).2 rfl | exact fun e_ => (HO1459.out.1 _ e_.symm).2.1 rfl | exact fun e_ => (HO1459.out.1 _ e_.symm).2.2 rfl | exact fun e_ => (HO1459.out.1 _ e_.symm).1.1 rfl | exact fun e_ => (HO1459.out.1 _ e_.symm).1.2 rfl | exact fun e_ => (HO1459.out.1 _ e_.symm).1.1.2 rfl))
            have HS6_ := cell_grown hg (hHeld.2.2.2.2.2.2.1) (by first | (rw [add_block]; exact (by first | exact fun e_ => (HO1459.out.1 _ e_.symm) rfl | exact fun e_ => (HO1459.out.1 _ e_.symm).1 rfl | exact fun e_ => (HO1459.out.1 _ e_.symm).2 rfl | exact fun e_ => (HO1459.out.1 _ e_.symm).2.1 rfl | exact fun e_ => (HO1459.out.1 _ e_.symm).2.2 rfl | exact fun e_ => (HO1459.out.1 _ e_.symm).1.1 rfl | exact fun e_ => (HO1459.out.1 _ e_.symm).1.2 rfl | exact fun e_ => (HO1459.out.1 _ e_.symm).1.1.2 rfl)) | (show some (Addr.add _ _).block ≠ _; rw [add_block]; exact (by first | exact fun e_ => (HO1459.out.1 _ e_.symm) rfl | exact fun e_ => (HO1459.out.1 _ e_.symm).1 rfl | exact fun e_ => (HO1459.out.1 _ e_.symm).2 rfl | exact fun e_ => (HO1459.out.1 _ e_.symm).2.1 rfl | exact fun e_ => (HO1459.out.1 _ e_.symm).2.2 rfl | exact fun e_ => (HO1459.out.1 _ e_.symm).1.1 rfl | exact fun e_ => (HO1459.out.1 _ e_.symm).1.2 rfl | exact fun e_ => (HO1459.out.1 _ e_.symm).1.1.2 rfl)) | exact (by first | exact fun e_ => (HO1459.out.1 _ e_.symm) rfl | exact fun e_ => (HO1459.out.1 _ e_.symm).1 rfl | exact fun e_ => (HO1459.out.1 _ e_.symm).2 rfl | exact fun e_ => (HO1459.out.1 _ e_.symm).2.1 rfl | exact fun e_ => (HO1459.out.1 _ e_.symm).2.2 rfl | exact fun e_ => (HO1459.out.1 _ e_.symm).1.1 rfl | exact fun e_ => (HO1459.out.1 _ e_.symm).1.2 rfl | exact fun e_ => (HO1459.out.1 _ e_.symm).1.1.2 rfl))
            have HS7_ := cell_grown hg (hHeld.2.2.2.2.2.2.2) (by first | (rw [add_block]; exact (by first | exact fun e_ => (HO1459.out.1 _ e_.symm) rfl | exact fun e_ => (HO1459.out.1 _ e_.symm).1 rfl | exact fun e_ => (HO1459.out.1 _ e_.symm).2 rfl | exact fun e_ => (HO1459.out.1 _ e_.symm).2.1 rfl | exact fun e_ => (HO1459.out.1 _ e_.symm).2.2 rfl | exact fun e_ => (HO1459.out.1 _ e_.symm).1.1 rfl | exact fun e_ => (HO1459.out.1 _ e_.symm).1.2 rfl | exact fun e_ => (HO1459.out.1 _ e_.symm).1.1.2 rfl)) | (show some (Addr.add _ _).block ≠ _; rw [add_block]; exact (by first | exact fun e_ => (HO1459.out.1 _ e_.symm) rfl | exact fun e_ => (HO1459.out.1 _ e_.symm).1 rfl | exact fun e_ => (HO1459.out.1 _ e_.symm).2 rfl | exact fun e_ => (HO1459.out.1 _ e_.symm).2.1 rfl | exact fun e_ => (HO1459.out.1 _ e_.symm).2.2 rfl | exact fun e_ => (HO1459.out.1 _ e_.symm).1.1 rfl | exact fun e_ => (HO1459.out.1 _ e_.symm).1.2 rfl | exact fun e_ => (HO1459.out.1 _ e_.symm).1.1.2 rfl)) | exact (by first | exact fun e_ => (HO1459.out.1 _ e_.symm) rfl | exact fun e_ => (HO1459.out.1 _ e_.symm).1 rfl | exact fun e_ => (HO1459.out.1 _ e_.symm).2 rfl | exact fun e_ => (HO1459.out.1 _ e_.symm).2.1 rfl | exact fun e_ => (HO1459.out.1 _ e_.symm).2.2 rfl | exact fun e_ => (HO1459.out.1 _ e_.symm).1.1 rfl | exact fun e_ => (HO1459.out.1 _ e_.symm).1.2 rfl | exact fun e_ => (HO1459.out.1 _ e_.symm).1.1.2 rfl))
            rw [← Ny1464.out] at ho
            have n0_ := am (Kd.Q_after (ok := (fun k_ => some k_ ≠ (.slice Ao12 t1438.length co12 : Value).ownBlock)) (onQ HO_6) hg hat)
            have n1_ := am (Kd.R_after (ok := (fun k_ => some k_ ≠ (.slice (some ad1475) t1441.length co13 : Value).ownBlock ∧ some k_ ≠ (.slice (some ad1475) t1441.length co13 : Value).ownBlock)) (onR HO_1445001) hg hat)
            have n2_ := am (Kd.Q_after (ok := (fun k_ => some k_ ≠ (.slice Ao12 t1438.length co12 : Value).ownBlock)) (onQ HO_1449001) hg hat)
            have n3_ := am (blk_grown (bkn BK1444) hg (Kd.R_ne HO1459.out BK1444.out (by decide)))
            have n4_ := am (blk_grown (bkn BK1448) hg (Kd.R_ne HO1459.out BK1448.out (by decide)))
            have n5_ := am hb
            have n6_ := am ((show Kd.C k73 w67 (some ad1475) y1460.length y1460 from by rw [Ny1460.out]; exact Kd.C_take (m := ((ji50) : Int).toNat) ((Kd.Q_reads' (Kd.Q_after (ok := (fun k_ => some k_ ≠ (.slice Ao12 t1438.length co12 : Value).ownBlock)) (onQ HO_6) hg hat)).2.2) KL63.out))
            have n7_ := am ((show Kd.C k73 w67 A64 y1467.length y1467 from by rw [Ny1467.out, KA64.out]; exact Kd.C_drop (m := ((ji54) : Int).toNat) (c := co13) ((Kd.Q_reads' (Kd.Q_after (ok := (fun k_ => some k_ ≠ (.slice Ao12 t1438.length co12 : Value).ownBlock)) (onQ HO_6) hg hat)).2.2) KL64.out ((Kd.Q_reads' (Kd.Q_after (ok := (fun k_ => some k_ ≠ (.slice Ao12 t1438.length co12 : Value).ownBlock)) (onQ HO_6) hg hat)).2.1)))
            have n8_ := am ho
            clear HO_6 HO_1445001 HO_1449001 BK1444 BK1448 HB HR1463 HR1470 HO1459
            have HO_6 := n0_
            have HO_1445001 := n1_
            have HO_1449001 := n2_
            have BK1444 := n3_
            have BK1448 := n4_
            have HB := n5_
            have HR1463 := n6_
            have HR1470 := n7_
            have HO1466 := n8_
            clear n0_ n1_ n2_ n3_ n4_ n5_ n6_ n7_ n8_ ho hb hg hat
            refine hK.out _ _ ⟨(bc BK1444 0), (bc BK1444 1), (bc BK1448 0), (bc BK1448 1), HS4_, HS5_, HS6_, HS7_⟩ (fun hHeld => ?_)
            clear hK K
            refine nz_ 73 ?_
            refine one_ (i := 10) (N := some 78) #[true, true, true, true, true, true, true, true, true, true, true, false, false, false, false, false, false, false, false, false, false, false, false, false, false, false, false, false] rfl rfl (one_of HT_.out (by kernel_rfl)) (by decide) (fun K hK => ?_)
            refine Kd.R_append_rows_step k73 (w0 := w) w.heap.size (by rfl) (.tmp 73) (.tmp 77) 32 73 (.agg #[(.int .i64 0), (.int .i64 0)]) 16 rfl Try.underlying32 info73 rfl (by decide) (by omega) v1465 y1464 y1467 _ _ _ (fun k_ => some k_ ≠ (.slice (some ad1475) t1441.length co13 : Value).ownBlock ∧ some k_ ≠ (.slice Ao12 t1438.length co12 : Value).ownBlock ∧ some k_ ≠ (.slice (some ad1475) t1441.length co13 : Value).ownBlock) (fun _ => False) rfl rfl ?aO ?aR (fun _ _ h => h) (fun _ h => h.elim) ?aF ?aB ?aS ?aL ?_
            (case aR => repeat (first | exact (by repeat (first | (with_reducible exact HR1470.out) | (with_reducible refine Kd.C_alloc ?_ _) | (with_reducible refine Kd.C_drewN ?_ _) | (with_reducible refine Kd.C_drew ?_) | exact HR1470.out)) | (with_reducible refine Kd.C_alloc ?_ _) | (with_reducible refine Kd.C_drewN ?_ _) | (with_reducible refine Kd.C_drew ?_)))
            (case aB => exact (bn HB))
            (case aF => exact (fun k_ hk => ⟨Kd.fresh' (Kd.Q_lt (onQ HO_6)) k_ hk, Kd.fresh' (Kd.R_lt (onR HO_1445001)) k_ hk, Kd.fresh' (Kd.Q_lt (onQ HO_1449001)) k_ hk⟩))
            (case aO => exact (onR HO1466))
            (case aS => exact (below_size (bn HB)))
            (case aL => have := LMc57.out; omega)
            intro v1472 w68 ho hb hg hat
            have HS4_ := cell_grown hg (hHeld.2.2.2.2.1) (by first | (rw [add_block]; exact (by first | exact fun e_ => (HO1466.out.1 _ e_.symm) rfl | exact fun e_ => (HO1466.out.1 _ e_.symm).1 rfl | exact fun e_ => (HO1466.out.1 _ e_.symm).2 rfl | exact fun e_ => (HO1466.out.1 _ e_.symm).2.1 rfl | exact fun e_ => (HO1466.out.1 _ e_.symm).2.2 rfl | exact fun e_ => (HO1466.out.1 _ e_.symm).1.1 rfl | exact fun e_ => (HO1466.out.1 _ e_.symm).1.2 rfl | exact fun e_ => (HO1466.out.1 _ e_.symm).1.1.2 rfl)) | (show some (Addr.add _ _).block ≠ _; rw [add_block]; exact (by first | exact fun e_ => (HO1466.out.1 _ e_.symm) rfl | exact fun e_ => (HO1466.out.1 _ e_.symm).1 rfl | exact fun e_ => (HO1466.out.1 _ e_.symm).2 rfl | exact fun e_ => (HO1466.out.1 _ e_.symm).2.1 rfl | exact fun e_ => (HO1466.out.1 _ e_.symm).2.2 rfl | exact fun e_ => (HO1466.out.1 _ e_.symm).1.1 rfl | exact fun e_ => (HO1466.out.1 _ e_.symm).1.2 rfl | exact fun e_ => (HO1466.out.1 _ e_.symm).1.1.2 rfl)) | exact (by first | exact fun e_ => (HO1466.out.1 _ e_.symm) rfl | exact fun e_ => (HO1466.out.1 _ e_.symm).1 rfl | exact fun e_ => (HO1466.out.1 _ e_.symm).2 rfl | exact fun e_ => (HO1466.out.1 _ e_.symm).2.1 rfl | exact fun e_ => (HO1466.out.1 _ e_.symm).2.2 rfl | exact fun e_ => (HO1466.out.1 _ e_.symm).1.1 rfl | exact fun e_ => (HO1466.out.1 _ e_.symm).1.2 rfl | exact fun e_ => (HO1466.out.1 _ e_.symm).1.1.2 rfl))
            have HS5_ := cell_grown hg (hHeld.2.2.2.2.2.1) (by first | (rw [add_block]; exact (by first | exact fun e_ => (HO1466.out.1 _ e_.symm) rfl | exact fun e_ => (HO1466.out.1 _ e_.symm).1 rfl | exact fun e_ => (HO1466.out.1 _ e_.symm).2 rfl | exact fun e_ => (HO1466.out.1 _ e_.symm).2.1 rfl | exact fun e_ => (HO1466.out.1 _ e_.symm).2.2 rfl | exact fun e_ => (HO1466.out.1 _ e_.symm).1.1 rfl | exact fun e_ => (HO1466.out.1 _ e_.symm).1.2 rfl | exact fun e_ => (HO1466.out.1 _ e_.symm).1.1.2 rfl)) | (show some (Addr.add _ _).block ≠ _; rw [add_block]; exact (by first | exact fun e_ => (HO1466.out.1 _ e_.symm) rfl | exact fun e_ => (HO1466.out.1 _ e_.symm).1 rfl | exact fun e_ => (HO1466.out.1 _ e_.symm).2 rfl | exact fun e_ => (HO1466.out.1 _ e_.symm).2.1 rfl | exact fun e_ => (HO1466.out.1 _ e_.symm).2.2 rfl | exact fun e_ => (HO1466.out.1 _ e_.symm).1.1 rfl | exact fun e_ => (HO1466.out.1 _ e_.symm).1.2 rfl | exact fun e_ => (HO1466.out.1 _ e_.symm).1.1.2 rfl)) | exact (by first | exact fun e_ => (HO1466.out.1 _ e_.symm) rfl | exact fun e_ => (HO1466.out.1 _ e_.symm).1 rfl | exact fun e_ => (HO1466.out.1 _ e_.symm).2 rfl | exact fun e_ => (HO1466.out.1 _ e_.symm).2.1 rfl | exact fun e_ => (HO1466.out.1 _ e_.symm).2.2 rfl | exact fun e_ => (HO1466.out.1 _ e_.symm).1.1 rfl | exact fun e_ => (HO1466.out.1 _ e_.symm).1.2 rfl | exact fun e_ => (HO1466.out.1 _ e_.symm).1.1.2 rfl))
            have HS6_ := cell_grown hg (hHeld.2.2.2.2.2.2.1) (by first | (rw [add_block]; exact (by first | exact fun e_ => (HO1466.out.1 _ e_.symm) rfl | exact fun e_ => (HO1466.out.1 _ e_.symm).1 rfl | exact fun e_ => (HO1466.out.1 _ e_.symm).2 rfl | exact fun e_ => (HO1466.out.1 _ e_.symm).2.1 rfl | exact fun e_ => (HO1466.out.1 _ e_.symm).2.2 rfl | exact fun e_ => (HO1466.out.1 _ e_.symm).1.1 rfl | exact fun e_ => (HO1466.out.1 _ e_.symm).1.2 rfl | exact fun e_ => (HO1466.out.1 _ e_.symm).1.1.2 rfl)) | (show some (Addr.add _ _).block ≠ _; rw [add_block]; exact (by first | exact fun e_ => (HO1466.out.1 _ e_.symm) rfl | exact fun e_ => (HO1466.out.1 _ e_.symm).1 rfl | exact fun e_ => (HO1466.out.1 _ e_.symm).2 rfl | exact fun e_ => (HO1466.out.1 _ e_.symm).2.1 rfl | exact fun e_ => (HO1466.out.1 _ e_.symm).2.2 rfl | exact fun e_ => (HO1466.out.1 _ e_.symm).1.1 rfl | exact fun e_ => (HO1466.out.1 _ e_.symm).1.2 rfl | exact fun e_ => (HO1466.out.1 _ e_.symm).1.1.2 rfl)) | exact (by first | exact fun e_ => (HO1466.out.1 _ e_.symm) rfl | exact fun e_ => (HO1466.out.1 _ e_.symm).1 rfl | exact fun e_ => (HO1466.out.1 _ e_.symm).2 rfl | exact fun e_ => (HO1466.out.1 _ e_.symm).2.1 rfl | exact fun e_ => (HO1466.out.1 _ e_.symm).2.2 rfl | exact fun e_ => (HO1466.out.1 _ e_.symm).1.1 rfl | exact fun e_ => (HO1466.out.1 _ e_.symm).1.2 rfl | exact fun e_ => (HO1466.out.1 _ e_.symm).1.1.2 rfl))
            have HS7_ := cell_grown hg (hHeld.2.2.2.2.2.2.2) (by first | (rw [add_block]; exact (by first | exact fun e_ => (HO1466.out.1 _ e_.symm) rfl | exact fun e_ => (HO1466.out.1 _ e_.symm).1 rfl | exact fun e_ => (HO1466.out.1 _ e_.symm).2 rfl | exact fun e_ => (HO1466.out.1 _ e_.symm).2.1 rfl | exact fun e_ => (HO1466.out.1 _ e_.symm).2.2 rfl | exact fun e_ => (HO1466.out.1 _ e_.symm).1.1 rfl | exact fun e_ => (HO1466.out.1 _ e_.symm).1.2 rfl | exact fun e_ => (HO1466.out.1 _ e_.symm).1.1.2 rfl)) | (show some (Addr.add _ _).block ≠ _; rw [add_block]; exact (by first | exact fun e_ => (HO1466.out.1 _ e_.symm) rfl | exact fun e_ => (HO1466.out.1 _ e_.symm).1 rfl | exact fun e_ => (HO1466.out.1 _ e_.symm).2 rfl | exact fun e_ => (HO1466.out.1 _ e_.symm).2.1 rfl | exact fun e_ => (HO1466.out.1 _ e_.symm).2.2 rfl | exact fun e_ => (HO1466.out.1 _ e_.symm).1.1 rfl | exact fun e_ => (HO1466.out.1 _ e_.symm).1.2 rfl | exact fun e_ => (HO1466.out.1 _ e_.symm).1.1.2 rfl)) | exact (by first | exact fun e_ => (HO1466.out.1 _ e_.symm) rfl | exact fun e_ => (HO1466.out.1 _ e_.symm).1 rfl | exact fun e_ => (HO1466.out.1 _ e_.symm).2 rfl | exact fun e_ => (HO1466.out.1 _ e_.symm).2.1 rfl | exact fun e_ => (HO1466.out.1 _ e_.symm).2.2 rfl | exact fun e_ => (HO1466.out.1 _ e_.symm).1.1 rfl | exact fun e_ => (HO1466.out.1 _ e_.symm).1.2 rfl | exact fun e_ => (HO1466.out.1 _ e_.symm).1.1.2 rfl))
            rw [← Ny1471.out] at ho
            have n0_ := am (Kd.Q_after (ok := (fun k_ => some k_ ≠ (.slice Ao12 t1438.length co12 : Value).ownBlock)) (onQ HO_6) hg hat)
            have n1_ := am (Kd.R_after (ok := (fun k_ => some k_ ≠ (.slice (some ad1475) t1441.length co13 : Value).ownBlock ∧ some k_ ≠ (.slice (some ad1475) t1441.length co13 : Value).ownBlock)) (onR HO_1445001) hg hat)
            have n2_ := am (Kd.Q_after (ok := (fun k_ => some k_ ≠ (.slice Ao12 t1438.length co12 : Value).ownBlock)) (onQ HO_1449001) hg hat)
            have n3_ := am (blk_grown (bkn BK1444) hg (Kd.R_ne HO1466.out BK1444.out (by decide)))
            have n4_ := am (blk_grown (bkn BK1448) hg (Kd.R_ne HO1466.out BK1448.out (by decide)))
            have n5_ := am hb
            have n6_ := am ((show Kd.C k73 w68 (some ad1475) y1460.length y1460 from by rw [Ny1460.out]; exact Kd.C_take (m := ((ji50) : Int).toNat) ((Kd.Q_reads' (Kd.Q_after (ok := (fun k_ => some k_ ≠ (.slice Ao12 t1438.length co12 : Value).ownBlock)) (onQ HO_6) hg hat)).2.2) KL63.out))
            have n7_ := am ((show Kd.C k73 w68 A64 y1467.length y1467 from by rw [Ny1467.out, KA64.out]; exact Kd.C_drop (m := ((ji54) : Int).toNat) (c := co13) ((Kd.Q_reads' (Kd.Q_after (ok := (fun k_ => some k_ ≠ (.slice Ao12 t1438.length co12 : Value).ownBlock)) (onQ HO_6) hg hat)).2.2) KL64.out ((Kd.Q_reads' (Kd.Q_after (ok := (fun k_ => some k_ ≠ (.slice Ao12 t1438.length co12 : Value).ownBlock)) (onQ HO_6) hg hat)).2.1)))
            have n8_ := am ho
            clear HO_6 HO_1445001 HO_1449001 BK1444 BK1448 HB HR1463 HR1470 HO1466
            have HO_6 := n0_
            have HO_1445001 := n1_
            have HO_1449001 := n2_
            have BK1444 := n3_
            have BK1448 := n4_
            have HB := n5_
            have HR1463 := n6_
            have HR1470 := n7_
            have HO1473 := n8_
            clear n0_ n1_ n2_ n3_ n4_ n5_ n6_ n7_ n8_ ho hb hg hat
            obtain ⟨Ao69, co69, eo69⟩ := Kd.R_slice HO1473.out
            (first | subst eo69 | (injection eo69 with f1_ f2_ f3_; have f4_ := f1_.symm; have f5_ := f3_.symm; clear f1_ f2_ f3_; subst f4_; subst f5_))
            refine hK.out _ _ ⟨(bc BK1444 0), (bc BK1444 1), (bc BK1448 0), (bc BK1448 1), HS4_, HS5_, HS6_, HS7_⟩ (fun hHeld => ?_)
            clear hK K
            refine nz_ 78 ?_
            refine one_ (i := 11) (N := some 79) #[true, true, true, true, true, true, true, true, true, true, true, true, false, false, false, false, false, false, false, false, false, false, false, false, false, false, false, false] rfl rfl (one_of HT_.out (by kernel_rfl)) (by decide) (fun K hK => ?_)
            refine gg_ Try.func77 #[.agg #[.int .i64 t1437, .slice Ao12 t1438.length co12], .slice Ao69 y1471.length co69] ?_
            with_reducible refine (impl_TreeOk.calls kj24 t1437 _ _ t1438 _ _ y1471 false _ ?side1 ?side2 ?side3 ?side4 A58.out).mono ?_
            (case side1 => exact (Kd.R_reads' (onR HO_1445001)).2.2)
            (case side2 => exact (Kd.R_reads' HO_1445001.out).2.1)
            (case side3 => exact (Kd.R_reads' (onR HO1473)).2.2)
            (case side4 => exact (Kd.R_reads' HO1473.out).2.1)
            rintro e w70 ⟨rfl, hb⟩
            have HS4_ := (hb.cell (World.block_lt_of_cell? _ _ (hHeld.2.2.2.2.1))).trans (hHeld.2.2.2.2.1)
            have HS5_ := (hb.cell (World.block_lt_of_cell? _ _ (hHeld.2.2.2.2.2.1))).trans (hHeld.2.2.2.2.2.1)
            have HS6_ := (hb.cell (World.block_lt_of_cell? _ _ (hHeld.2.2.2.2.2.2.1))).trans (hHeld.2.2.2.2.2.2.1)
            have HS7_ := (hb.cell (World.block_lt_of_cell? _ _ (hHeld.2.2.2.2.2.2.2))).trans (hHeld.2.2.2.2.2.2.2)
            refine ⟨_, rfl, ?_⟩
            replace HO_6 := am (Kd.Q_below (onQ HO_6) hb)
            replace HO_1445001 := am (Kd.R_below (onR HO_1445001) hb)
            replace HO_1449001 := am (Kd.Q_below (onQ HO_1449001) hb)
            replace HO1473 := am (Kd.R_below (onR HO1473) hb)
            replace BK1444 := bb BK1444 hb
            replace BK1448 := bb BK1448 hb
            replace HR1463 := am (Kd.C_below (by repeat (first | (with_reducible exact HR1463.out) | (with_reducible refine Kd.C_alloc ?_ _) | (with_reducible refine Kd.C_drewN ?_ _) | (with_reducible refine Kd.C_drew ?_) | exact HR1463.out)) hb)
            replace HR1470 := am (Kd.C_below (by repeat (first | (with_reducible exact HR1470.out) | (with_reducible refine Kd.C_alloc ?_ _) | (with_reducible refine Kd.C_drewN ?_ _) | (with_reducible refine Kd.C_drew ?_) | exact HR1470.out)) hb)
            replace HB := bs HB hb
            (try clear hb)
            (try clear hb2)
            (try clear hk)
            (try clear hi)
            refine hK.out _ _ ⟨(bc BK1444 0), (bc BK1444 1), (bc BK1448 0), (bc BK1448 1), HS4_, HS5_, HS6_, HS7_⟩ (fun hHeld => ?_)
            clear hK K
            refine nz_ 79 ?_
            refine pz_ 12 (some 80) HT_ ?_
            refine pz_ 13 (some 81) HT_ ?_
            refine pz_ 15 (some 83) HT_ ?_
            refine pz_ 16 (some 84) HT_ ?_
            refine pz_ 17 (some 85) HT_ ?_
            refine pz_ 18 (some 86) HT_ ?_
            refine pz_ 20 (some 88) HT_ ?_
            refine pz_ 21 (some 89) HT_ ?_
            refine pz_ 22 (some 90) HT_ ?_
            refine pz_ 23 (some 91) HT_ ?_
            refine tz_ 14 (some 82) HT_ HW_ hHeld ?_
            refine tz_ 19 (some 87) HT_ HW_ hHeld ?_
            refine tz_ 24 (some 92) HT_ HW_ hHeld ?_
            refine one_ (i := 25) (N := some 93) #[true, true, true, true, true, true, true, true, true, true, true, true, true, true, true, true, true, true, true, true, true, true, true, true, true, true, false, false] rfl rfl (one_of HT_.out (by kernel_rfl)) (by decide) (fun K hK => ?_)
            refine goes_ Try.func80 (by kernel_rfl) rfl #[.agg #[.int .i64 t1437, .slice (some ad1475) t1441.length co13], .int .i64 ((rd_T73 t1441 (ji50)).f0), .int .i64 ((rd_T73 t1441 (ji50)).f1)] (by rfl) rfl rfl (by (try simp only [List.map_toArray, List.map_cons, List.map_nil]); first | done | (simp only [hji50]; rfl) | rfl | (simp only [List.length_drop, List.length_take]; rfl)) ?_
            with_reducible refine (impl_BridgeIs.calls kj24 t1437 _ _ t1441 ((rd_T73 t1441 (ji50)).f0) ((rd_T73 t1441 (ji50)).f1) t1477 _ ?side1 ?side2 A61.out).mono ?_
            (case side1 => exact (Kd.Q_reads' (onQ HO_1449001)).2.2)
            (case side2 => exact (Kd.Q_reads' HO_1449001.out).2.1)
            rintro e w71 ⟨rfl, hb⟩
            have HS4_ := (hb.cell (World.block_lt_of_cell? _ _ (hHeld.2.2.2.2.1))).trans (hHeld.2.2.2.2.1)
            have HS5_ := (hb.cell (World.block_lt_of_cell? _ _ (hHeld.2.2.2.2.2.1))).trans (hHeld.2.2.2.2.2.1)
            have HS6_ := (hb.cell (World.block_lt_of_cell? _ _ (hHeld.2.2.2.2.2.2.1))).trans (hHeld.2.2.2.2.2.2.1)
            have HS7_ := (hb.cell (World.block_lt_of_cell? _ _ (hHeld.2.2.2.2.2.2.2))).trans (hHeld.2.2.2.2.2.2.2)
            refine ⟨_, rfl, ?_⟩
            replace HO_6 := am (Kd.Q_below (onQ HO_6) hb)
            replace HO_1445001 := am (Kd.R_below (onR HO_1445001) hb)
            replace HO_1449001 := am (Kd.Q_below (onQ HO_1449001) hb)
            replace HO1473 := am (Kd.R_below (onR HO1473) hb)
            replace BK1444 := bb BK1444 hb
            replace BK1448 := bb BK1448 hb
            replace HR1463 := am (Kd.C_below (by repeat (first | (with_reducible exact HR1463.out) | (with_reducible refine Kd.C_alloc ?_ _) | (with_reducible refine Kd.C_drewN ?_ _) | (with_reducible refine Kd.C_drew ?_) | exact HR1463.out)) hb)
            replace HR1470 := am (Kd.C_below (by repeat (first | (with_reducible exact HR1470.out) | (with_reducible refine Kd.C_alloc ?_ _) | (with_reducible refine Kd.C_drewN ?_ _) | (with_reducible refine Kd.C_drew ?_) | exact HR1470.out)) hb)
            replace HB := bs HB hb
            (try clear hb)
            (try clear hb2)
            (try clear hk)
            (try clear hi)
            refine hK.out _ _ ⟨(bc BK1444 0), (bc BK1444 1), (bc BK1448 0), (bc BK1448 1), HS4_, HS5_, HS6_, HS7_⟩ (fun hHeld => ?_)
            clear hK K
            refine nz_ 93 ?_
            refine pz_ 26 (some 94) HT_ ?_
            refine pz_ 27 (some 4) HT_ ?_
            refine done_ (done_of HT_.out (by kernel_rfl)) ?_
            try go_wp2
            go_ret
            exact ⟨by first | rfl | (simp [errW_none, errW_some] <;> rfl) | (simp only [← hji50, ← hji54]; first | rfl | (simp [errW_none, errW_some] <;> rfl)) | (simp [*, errW_none, errW_some] <;> rfl), bn HB⟩

/-- what is to be proved of laws_FnTreeOk, without Go -/
def laws_FnTreeOk.Pure : Prop := ∀ (l0 : List Int) (l1 : List Int), (l0.length ≤ maxLen ∧ ∀ l0_ ∈ l0, ((Lit.int .u8 l0_).wf = true)) → (l1.length ≤ maxLen ∧ ∀ l1_ ∈ l1, ((Lit.int .u8 l1_).wf = true)) → ∃ k, laws_FnTreeOk.f k l0 l1 = some true

end Go.Proofs.Ytdlnnjgjfngccaa.F
