-- Written by oprint.py (wip/tools) over the kit's print program, for this seat.
import Derived.Test.YtdlnnjgjfngccaaF0
import Derived.Test.YtdlnnjgjfngccaaF11
import Derived.Test.YtdlnnjgjfngccaaF71
import Derived.Test.YtdlnnjgjfngccaaF80
namespace Go.Proofs.Ytdlnnjgjfngccaa.F
open Go.RowKit Go.Proofs.YtdlnnjgjfngccaaW.PrintWords Go.Proofs.YtdlnnjgjfngccaaW.PrintLast Go.Proofs.YtdlnnjgjfngccaaW.PrintMore
attribute [local go_sem] max2_int min2_int max_two min_two max_three min_three max_four min_four   -- for this text's walks alone
set_option linter.unusedVariables false
set_option linter.unusedSimpArgs false

/-! ### laws_FnBridgeParts: function 21 -/
mutual
def laws_FnBridgeParts.l0 : Nat → List Int → Int → Int → List (S73) → Option (Bool)
 | 0, _, _, _, _ => none
 | k + 1, x4, x5, x1334000, x1334001 => if x5 < (x4.length : Int) then (laws_FnBridgeParts.l1 k x4 x5 0 x1334000 x1334001) else (some true)
def laws_FnBridgeParts.l1 : Nat → List Int → Int → Int → Int → List (S73) → Option (Bool)
 | 0, _, _, _, _, _ => none
 | k + 1, x4, x5, x6, x1334000, x1334001 => if x6 < x5 then (if 0 ≤ x5 then (if x5 < (x4.length : Int) then (if 0 ≤ x6 then (if x6 < (x4.length : Int) then ((impl_FlowCount.f k x1334000 x1334001 x5 x6).bind fun t1343 => (if (((rd x4 x5) == (rd x4 x6)) != (decide (t1343 ≥ 2))) = true then (some false) else (laws_FnBridgeParts.l1 k x4 x5 (wrap64 (x6 + 1)) x1334000 x1334001))) else (none)) else (none)) else (none)) else (none)) else (laws_FnBridgeParts.l0 k x4 (wrap64 (x5 + 1)) x1334000 x1334001)
end
def laws_FnBridgeParts.f (k : Nat) (l0 : List Int) : Option (Bool) := if (l0.length : Int) > 1048576 then (some true) else ((spec_DrawBridgeParts.f k l0).bind fun bt1329 => ((impl_BridgeParts.f k bt1329.1 bt1329.2).bind fun t1334 => ((spec_BridgeParts.f k bt1329.1 bt1329.2).bind fun t1337 => ((laws_loInts.f k t1334 t1337).bind fun t1340 => (if t1340 = true then (laws_FnBridgeParts.l0 k t1334 0 bt1329.1 bt1329.2) else (some false))))))
theorem laws_FnBridgeParts.mono_l : ∀ k, (∀ y0 y1 y2 y3, LeO (laws_FnBridgeParts.l0 k y0 y1 y2 y3) (laws_FnBridgeParts.l0 (k + 1) y0 y1 y2 y3)) ∧ (∀ y0 y1 y2 y3 y4, LeO (laws_FnBridgeParts.l1 k y0 y1 y2 y3 y4) (laws_FnBridgeParts.l1 (k + 1) y0 y1 y2 y3 y4))
 | 0 => ⟨fun _ _ _ _ r h => by simp [laws_FnBridgeParts.l0] at h, fun _ _ _ _ _ r h => by simp [laws_FnBridgeParts.l1] at h⟩
 | k + 1 => by
  obtain ⟨ih0, ih1⟩ := laws_FnBridgeParts.mono_l k
  refine ⟨?_, ?_⟩
  ·intro y0 y1 y2 y3
   unfold laws_FnBridgeParts.l0
   have m0_ := @impl_BridgeParts.mono
   have m1_ := @impl_FlowCount.mono
   have m2_ := @laws_loInts.mono
   have m3_ := @spec_BridgeParts.mono
   have m4_ := @spec_DrawBridgeParts.mono
   exact mo_
  ·intro y0 y1 y2 y3 y4
   unfold laws_FnBridgeParts.l1
   have m0_ := @impl_BridgeParts.mono
   have m1_ := @impl_FlowCount.mono
   have m2_ := @laws_loInts.mono
   have m3_ := @spec_BridgeParts.mono
   have m4_ := @spec_DrawBridgeParts.mono
   exact mo_
theorem laws_FnBridgeParts.mono : ∀ a0 k, LeO (laws_FnBridgeParts.f k a0) (laws_FnBridgeParts.f (k + 1) a0) := by
 intro a0 k
 obtain ⟨ih0, ih1⟩ := laws_FnBridgeParts.mono_l k
 unfold laws_FnBridgeParts.f
 have m0_ := @impl_BridgeParts.mono
 have m1_ := @impl_FlowCount.mono
 have m2_ := @laws_loInts.mono
 have m3_ := @spec_BridgeParts.mono
 have m4_ := @spec_DrawBridgeParts.mono
 exact mo_
def laws_FnBridgeParts.T13 : Bool × List (List Nat × List Nat) := (true, [([], []), ([], []), ([0, 1], [0, 1]), ([2], [2]), ([], []), ([], []), ([4, 5], [4, 5]), ([6], [6]), ([3, 7], [3, 7]), ([], []), ([], []), ([], []), ([9, 10, 11], [9, 10, 11]), ([12], [12]), ([8, 13], [8, 13])])
def laws_FnBridgeParts.B13 : List Nat := [0, 0, 3, 7, 0, 0, 48, 112, 255, 0, 0, 0, 3584, 7680, 16383]
theorem laws_FnBridgeParts.tab13 : rtab .any (opsOf Try.f21 13) = laws_FnBridgeParts.T13 := by kernel_rfl
theorem laws_FnBridgeParts.bits13 : waitsOk laws_FnBridgeParts.T13.2 laws_FnBridgeParts.B13 = true := by kernel_rfl
set_option maxHeartbeats 8000000 in
set_option maxRecDepth 100000 in
theorem laws_FnBridgeParts.calls (k : Nat) (A0 : Option Addr) (c0 : Nat) (l0 : List Int) (r : Bool) (w : World) (hr0 : Kd.C (Kd.int .u8) w A0 l0.length l0) (hc0 : l0.length ≤ c0) (hrt : Aside0 (r = true)) (h : laws_FnBridgeParts.f k l0 = some r) :
  Calls Try.prog 21 #[.slice A0 l0.length c0] w fun e w' => e = .returned (.bool r) ∧ Below w.heap.size w w' := by
 have hu34 := Try.underlying34
 have HR0 := am hr0
 have HC0 := am hc0
 clear hr0 hc0
 have HB := am (Below.refl w.heap.size w)
 have H : (if (l0.length : Int) > 1048576 then (some true) else ((spec_DrawBridgeParts.f k l0).bind fun bt1329 => ((impl_BridgeParts.f k bt1329.1 bt1329.2).bind fun t1334 => ((spec_BridgeParts.f k bt1329.1 bt1329.2).bind fun t1337 => ((laws_loInts.f k t1334 t1337).bind fun t1340 => (if t1340 = true then (laws_FnBridgeParts.l0 k t1334 0 bt1329.1 bt1329.2) else (some false))))))) = some r := h
 clear h
 by_cases c2 : (l0.length : Int) > 1048576
 ·rw [if_pos c2] at H
  have c2b0 := decide_eq_true c2
  have c2b1 : decide (1048576 < l0.length) = true := decide_eq_true (by omega)
  clear c2
  obtain rfl := Option.some.inj H
  go_enter Try.func21, Try.ntmps21
  go_wp2
  go_ret
  exact ⟨by first | rfl | (simp [errW_none, errW_some] <;> rfl) | (simp [*, errW_none, errW_some] <;> rfl), bn HB⟩
 ·rw [if_neg c2] at H
  have c2b0 := decide_eq_false c2
  have c2b1 : decide (1048576 < l0.length) = false := decide_eq_false (by omega)
  clear c2
  replace H := Option.bind_eq_some_iff.mp H
  obtain ⟨⟨t1329, t1330⟩, A30, H⟩ := H
  (try dsimp only at H)
  have A3 := am A30
  clear A30
  replace H := Option.bind_eq_some_iff.mp H
  obtain ⟨t1334, A40, H⟩ := H
  (try dsimp only at H)
  have A4 := am A40
  clear A40
  replace H := Option.bind_eq_some_iff.mp H
  obtain ⟨t1337, A50, H⟩ := H
  (try dsimp only at H)
  have A5 := am A50
  clear A50
  replace H := Option.bind_eq_some_iff.mp H
  obtain ⟨t1340, A60, H⟩ := H
  (try dsimp only at H)
  have A6 := am A60
  clear A60
  by_cases c7 : t1340 = true
  ·subst c7
   rw [if_pos rfl] at H
   have H' := am H
   clear H
   go_enter Try.func21, Try.ntmps21
   go_wp2_with (first | ((with_reducible refine gate_callee (f := 73) rfl ?_); refine gl_ (some 11) Try.func73 #[.slice A0 l0.length c0] ?_; (with_reducible refine (spec_DrawBridgeParts.calls k _ _ l0 t1329 t1330 _ ?side1 ?side2 A3.out).mono ?_); (case side1 => repeat (first | exact HR0.out | (with_reducible refine Kd.C_alloc ?_ _) | (with_reducible refine Kd.C_drewN ?_ _) | (with_reducible refine Kd.C_drew ?_))); (case side2 => exact HC0.out); rintro e w8 ⟨v1331, rfl, ho0, hb⟩; refine ⟨_, rfl, ?_⟩; have HO1332 := am (Kd.R_lower ho0 (below_size (bn HB))); replace HB := bs HB hb; (try clear hb); (try clear ho0)) | ((with_reducible refine gate_dst (N := 3) rfl ?_); refine be_ 3 #[.int .i64 0, .slice none 0 0] 34 ?_; intro gb1333 hg w9 hbox hb; replace HO1332 := am (Kd.R_below (onR HO1332) hb); have BK1333 := am hbox; have GW1333 := am (ge_ hg HB); have GE1333 := am (ge_ hg HB); replace HB := bs HB hb; clear hb hbox hg; obtain ⟨hcz10_0, hcz10_1, hfz10_0, hfz10_1⟩ := c2 BK1333; obtain ⟨Ao11, co11, eo11⟩ := Kd.R_slice HO1332.out; subst eo11) | ((with_reducible refine gate_callee (f := 74) rfl ?_); refine gl_ (some 13) Try.func74 #[.agg #[.int .i64 t1329, .slice Ao11 t1330.length co11]] ?_; (with_reducible refine (impl_BridgeParts.calls k t1329 _ _ t1330 t1334 _ ?side1 ?side2 A4.out).mono ?_); (case side1 => refine (Kd.R_reads' (e := 73) (base := w.heap.size) (ok := fun k_ => True) (n := t1330.length) (c := co11) ?_).2.2; exact (by (with_reducible repeat (first | apply Kd.R_alloc | apply Kd.R_drewN | apply Kd.R_drew)); exact (Kd.R_mono (Kd.R_far (p := ⟨gb1333, 1, none⟩) (Kd.R_far (p := ⟨gb1333, 0, none⟩) (Kd.R_types HO1332.out BK1333.out (by decide)) (fun _ hk => hk.2) (.int .i64 t1329)) (fun _ hk => hk.2) (.slice Ao11 t1330.length co11)) (fun _ h_ => h_.1)))); (case side2 => exact (Kd.R_reads' HO1332.out).2.1); rintro e w12 ⟨v1335, rfl, ho0, hb⟩; refine ⟨_, rfl, ?_⟩; replace HO1332 := am (Kd.R_below (by (with_reducible repeat (first | apply Kd.R_alloc | apply Kd.R_drewN | apply Kd.R_drew)); exact (Kd.R_mono (Kd.R_far (p := ⟨gb1333, 1, none⟩) (Kd.R_far (p := ⟨gb1333, 0, none⟩) (Kd.R_types HO1332.out BK1333.out (by decide)) (fun _ hk => hk.2) (.int .i64 t1329)) (fun _ hk => hk.2) (.slice Ao11 t1330.length co11)) (fun _ h_ => h_.1))) hb); have HO1336 := am (Kd.R_lower ho0 (below_size (bn HB))); replace BK1333 := am (blk_below (g := gb1333) (o := .cells #[.int .i64 t1329, .slice Ao11 t1330.length co11] 34 (0, 0)) (by (with_reducible repeat (first | refine blk_drewN ?_ _ | refine blk_drew ?_ | refine blk_alloc ?_ _)); refine blk_put (cs := #[.int .i64 t1329, .slice none 0 0]) ?_ 1 _ rfl; (with_reducible repeat (first | refine blk_drewN ?_ _ | refine blk_drew ?_ | refine blk_alloc ?_ _)); refine blk_put (cs := #[.int .i64 0, .slice none 0 0]) ?_ 0 _ rfl; (with_reducible repeat (first | refine blk_drewN ?_ _ | refine blk_drew ?_ | refine blk_alloc ?_ _)); exact BK1333.out) hb); replace HB := bs HB hb; (try clear hb); (try clear ho0); obtain ⟨hcz13_0, hcz13_1, hfz13_0, hfz13_1⟩ := c2 BK1333) | ((with_reducible refine gate_callee (f := 75) rfl ?_); refine gl_ (some 16) Try.func75 #[.agg #[.int .i64 t1329, .slice Ao11 t1330.length co11]] ?_; (with_reducible refine (spec_BridgeParts.calls k t1329 _ _ t1330 t1337 _ ?side1 ?side2 A5.out).mono ?_); (case side1 => exact (Kd.R_reads' (onR HO1332)).2.2); (case side2 => exact (Kd.R_reads' HO1332.out).2.1); rintro e w14 ⟨v1338, rfl, ho0, hb⟩; refine ⟨_, rfl, ?_⟩; replace HO1332 := am (Kd.R_below (onR HO1332) hb); have HO1339 := am (Kd.R_lower (Kd.R_new' ho0 (Kd.R_lt (onR HO1336))) (below_size (bn HB))); replace HO1336 := am (Kd.R_elder' (onR HO1336) (Kd.R_base ho0) hb); replace BK1333 := bb BK1333 hb; replace HB := bs HB hb; (try clear hb); (try clear ho0); obtain ⟨Ao15, co15, eo15⟩ := Kd.R_slice HO1336.out; subst eo15; obtain ⟨Ao16, co16, eo16⟩ := Kd.R_slice HO1339.out; subst eo16) | ((with_reducible refine gate_callee (f := 65) rfl ?_); refine gl_ (some 17) Try.func65 #[.slice Ao15 t1334.length co15, .slice Ao16 t1337.length co16] ?_; (with_reducible refine (laws_loInts.calls k _ _ t1334 _ _ t1337 true _ ?side1 ?side2 ?side3 ?side4 A6.out).mono ?_); (case side1 => exact (Kd.R_reads' (onR HO1336)).2.2); (case side2 => exact (Kd.R_reads' HO1336.out).2.1); (case side3 => exact (Kd.R_reads' (onR HO1339)).2.2); (case side4 => exact (Kd.R_reads' HO1339.out).2.1); rintro e w' ⟨rfl, ⟨nd, rfl⟩⟩; refine ⟨_, rfl, ?_⟩))
   go_loopg [5] k (fun kq v5 w' => ∃ (x5_1 : Int), v5 = .int .i64 x5_1 ∧ Aside0 (laws_FnBridgeParts.l0 kq t1334 x5_1 t1329 t1330 = some r) ∧ Aside0 (kq ≤ k) ∧ Aside0 (Kd.R (Kd.int .i64) 3 w' w.heap.size (fun _ => True) (.slice Ao15 t1334.length co15) t1334) ∧ Aside0 (Kd.R k73 73 w' w.heap.size (fun _ => True) (.slice Ao11 t1330.length co11) t1330) ∧ Aside0 (w'.heap[gb1333]? = some (.cells #[.int .i64 t1329, (.slice Ao11 t1330.length co11)] 34 (0, 0))) ∧ Aside0 (Below w.heap.size w w'))
   case atStart => exact ⟨(0), (by first | rfl | (simp; done) | (simp [*]; done)), H', ⟨Nat.le_refl _⟩, ⟨by (with_reducible repeat (first | apply Kd.R_alloc | apply Kd.R_drewN | apply Kd.R_drew)); exact Kd.R_mono HO1336.out (fun _ hk => trivial)⟩, ⟨onR HO1332⟩, ⟨bkn BK1333⟩, ⟨bn HB⟩⟩
   case round =>
    clear H'
    try clear c2
    try clear c2b0
    try clear c2b1
    try clear p2
    try clear c6
    try clear c7
    try clear hcz10_0 hcz10_1 hfz10_0 hfz10_1
    try clear hcz13_0 hcz13_1 hfz13_0 hfz13_1
    obtain ⟨x5_1, rfl, HA, HK1, HO_4, HO_1334001, BK1333, HB⟩ := hrel
    cases gk with
    | zero => exact absurd HA.out (by simp [laws_FnBridgeParts.l0])
    | succ k1 =>
     have H := HA.out
     clear HA
     simp only [laws_FnBridgeParts.l0] at H
     by_cases c17 : x5_1 < (t1334.length : Int)
     ·rw [if_pos c17] at H
      have c17b0 := decide_eq_true c17
      clear c17
      have H' := am H
      clear H
      go_wp2
      go_loopg [6] k1 (fun kq v6 w' => ∃ (x6_2 : Int), v6 = .int .i64 x6_2 ∧ Aside0 (laws_FnBridgeParts.l1 kq t1334 x5_1 x6_2 t1329 t1330 = some r) ∧ Aside0 (kq ≤ k1) ∧ Aside0 (Kd.R (Kd.int .i64) 3 w' w.heap.size (fun _ => True) (.slice Ao15 t1334.length co15) t1334) ∧ Aside0 (Kd.R k73 73 w' w.heap.size (fun _ => True) (.slice Ao11 t1330.length co11) t1330) ∧ Aside0 (w'.heap[gb1333]? = some (.cells #[.int .i64 t1329, (.slice Ao11 t1330.length co11)] 34 (0, 0))) ∧ Aside0 (Below w.heap.size w w'))
      case atStart => exact ⟨(0), (by first | rfl | (simp; done) | (simp [*]; done)), H', ⟨Nat.le_refl _⟩, ⟨onR HO_4⟩, ⟨onR HO_1334001⟩, ⟨bkn BK1333⟩, ⟨bn HB⟩⟩
      case round =>
       clear H'
       try clear c1
       try clear c2
       try clear c2b0
       try clear c2b1
       try clear p2
       try clear c6
       try clear c7
       try clear c17
       try clear c17b0
       try clear hcz10_0 hcz10_1 hfz10_0 hfz10_1
       try clear hcz13_0 hcz13_1 hfz13_0 hfz13_1
       try clear p2
       obtain ⟨x6_2, rfl, HA, HK2, HO_4, HO_1334001, BK1333, HB⟩ := hrel
       cases gk with
       | zero => exact absurd HA.out (by simp [laws_FnBridgeParts.l1])
       | succ k2 =>
        have H := HA.out
        clear HA
        simp only [laws_FnBridgeParts.l1] at H
        by_cases c18 : x6_2 < x5_1
        ·rw [if_pos c18] at H
         have c18b0 := decide_eq_true c18
         clear c18
         obtain ⟨c19, H⟩ := ig_ H
         have c19b0 := decide_eq_true c19
         clear c19
         obtain ⟨c20, H⟩ := ig_ H
         have c20b0 := decide_eq_true c20
         clear c20
         obtain ⟨c21, H⟩ := ig_ H
         have c21b0 := decide_eq_true c21
         clear c21
         obtain ⟨c22, H⟩ := ig_ H
         have c22b0 := decide_eq_true c22
         clear c22
         replace H := Option.bind_eq_some_iff.mp H
         obtain ⟨t1343, A230, H⟩ := H
         (try dsimp only at H)
         have A23 := am A230
         clear A230
         by_cases c24 : (((rd t1334 x5_1) == (rd t1334 x6_2)) != (decide (t1343 ≥ 2))) = true
         ·rw [if_pos c24] at H
          have c24b0 : (((rd t1334 x5_1) == (rd t1334 x6_2)) != (decide (t1343 ≥ 2))) = true := c24
          (try (have c24b1 : decide (((rd t1334 x5_1) == (rd t1334 x6_2)) = (decide (t1343 ≥ 2))) = false := by simpa using c24))
          (try (have c24b2 : (((rd t1334 x5_1) == (rd t1334 x6_2)) == (decide (t1343 ≥ 2))) = false := by simpa using c24))
          (try (have c24b3 : ¬ (((rd t1334 x5_1) == (rd t1334 x6_2)) = (decide (t1343 ≥ 2))) := by simpa using c24))
          clear c24
          exact absurd (Option.some.inj H) (by rw [hrt.out]; decide)
         ·rw [if_neg c24] at H
          have c24b0 : (((rd t1334 x5_1) == (rd t1334 x6_2)) != (decide (t1343 ≥ 2))) = false := by simpa using c24
          (try (have c24b1 : decide (((rd t1334 x5_1) == (rd t1334 x6_2)) = (decide (t1343 ≥ 2))) = true := by simpa using c24))
          (try (have c24b2 : (((rd t1334 x5_1) == (rd t1334 x6_2)) == (decide (t1343 ≥ 2))) = true := by simpa using c24))
          clear c24
          have H' := am H
          clear H
          try go_wp2
          replace HO_4 := am (Kd.R_drew HO_4.out)
          replace HO_1334001 := am (Kd.R_drew HO_1334001.out)
          replace BK1333 := am (blk_drew BK1333.out)
          replace HB := am (below_drew1 HB.out)
          have p1341 : 0 ≤ (x5_1 : Int) := oa
          have q1341 : x5_1 < (t1334.length : Int) := oa
          obtain ⟨ad1341, e1341, hx1341_0⟩ := Kd.at_int (Kd.R_reads' HO_4.out).2.2 x5_1 p1341 q1341
          cases e1341
          replace p1341 := eq_true p1341
          replace q1341 := eq_true q1341
          have p1342 : 0 ≤ (x6_2 : Int) := oa
          have q1342 : x6_2 < (t1334.length : Int) := oa
          obtain ⟨ad1342, e1342, hx1342_0⟩ := Kd.at_int (Kd.R_reads' HO_4.out).2.2 x6_2 p1342 q1342
          obtain rfl : ad1341 = ad1342 := (by injection e1342)
          replace p1342 := eq_true p1342
          replace q1342 := eq_true q1342
          refine start_ (n := 15) (S := fun w' => w'.cell? ⟨gb1333, 0, none⟩ = some (.int .i64 t1329) ∧ w'.cell? ⟨gb1333, 1, none⟩ = some (.slice Ao11 t1330.length co11) ∧ w'.cell? (ad1341.add (x5_1).toNat) = some (.int .i64 (rd t1334 x5_1)) ∧ w'.cell? (ad1341.add (x6_2).toNat) = some (.int .i64 (rd t1334 x6_2))) (ds := []) #[false, false, false, false, false, false, false, false, false, false, false, false, false, false, false] (by kernel_rfl) rfl rfl ⟨(bc BK1333 0), (bc BK1333 1), hx1341_0, hx1342_0⟩ (fun hHeld => ?_); refine with_tabW laws_FnBridgeParts.tab13 laws_FnBridgeParts.bits13 (fun HT_ HW_ => ?_)
          generalize wr.drew = w25 at HO_4 HO_1334001 BK1333 HB hx1341_0 hx1342_0 hHeld ⊢
          refine pz_ 0 (some 30) HT_ ?_
          refine pz_ 1 (some 31) HT_ ?_
          refine pz_ 2 (some 32) HT_ ?_
          refine pz_ 4 (some 34) HT_ ?_
          refine pz_ 5 (some 35) HT_ ?_
          refine pz_ 6 (some 36) HT_ ?_
          refine pz_ 10 (some 40) HT_ ?_
          refine pz_ 11 (some 41) HT_ ?_
          refine tz_ 3 (some 33) HT_ HW_ hHeld ?_
          refine tz_ 7 (some 37) HT_ HW_ hHeld ?_
          refine pz_ 8 (some 38) HT_ ?_
          refine tz_ 9 (some 39) HT_ HW_ hHeld ?_
          refine one_ (i := 12) (N := some 42) #[true, true, true, true, true, true, true, true, true, true, true, true, true, false, false] rfl rfl (one_of HT_.out (by kernel_rfl)) (by decide) (fun K hK => ?_)
          refine gg_ Try.func33 #[.agg #[.int .i64 t1329, .slice Ao11 t1330.length co11], .int .i64 x5_1, .int .i64 x6_2] ?_
          with_reducible refine (impl_FlowCount.calls k2 t1329 _ _ t1330 x5_1 x6_2 t1343 _ ?side1 ?side2 A23.out).mono ?_
          (case side1 => exact (Kd.R_reads' (onR HO_1334001)).2.2)
          (case side2 => exact (Kd.R_reads' HO_1334001.out).2.1)
          rintro e w26 ⟨rfl, hb⟩
          have HS2_ := (hb.cell (World.block_lt_of_cell? _ _ (hHeld.2.2.1))).trans (hHeld.2.2.1)
          have HS3_ := (hb.cell (World.block_lt_of_cell? _ _ (hHeld.2.2.2))).trans (hHeld.2.2.2)
          refine ⟨_, rfl, ?_⟩
          replace HO_4 := am (Kd.R_below (onR HO_4) hb)
          replace HO_1334001 := am (Kd.R_below (onR HO_1334001) hb)
          replace BK1333 := bb BK1333 hb
          replace HB := bs HB hb
          (try clear hb)
          (try clear hb2)
          (try clear hk)
          (try clear hi)
          refine hK.out _ _ ⟨(bc BK1333 0), (bc BK1333 1), HS2_, HS3_⟩ (fun hHeld => ?_)
          clear hK K
          refine nz_ 42 ?_
          refine pz_ 13 (some 43) HT_ ?_
          refine pz_ 14 (some 44) HT_ ?_
          refine done_ (done_of HT_.out (by kernel_rfl)) ?_
          try go_wp2
          go_roundg k2
          case measure => have := HK1.out; have := HK2.out; omega
          case rel => exact ⟨(wrap64 (x6_2 + 1)), (by first | rfl | (simp; done) | (simp [*]; done)), H', ⟨by have := HK1.out; have := HK2.out; omega⟩, ⟨onR HO_4⟩, ⟨onR HO_1334001⟩, ⟨bkn BK1333⟩, ⟨bn HB⟩⟩
        ·rw [if_neg c18] at H
         have c18b0 := decide_eq_false c18
         clear c18
         have H' := am H
         clear H
         go_wp2
         go_roundg k2
         case measure => have := HK1.out; have := HK2.out; omega
         case rel => exact ⟨(wrap64 (x5_1 + 1)), (by first | rfl | (simp; done) | (simp [*]; done)), H', ⟨by have := HK1.out; have := HK2.out; omega⟩, ⟨onR HO_4⟩, ⟨onR HO_1334001⟩, ⟨bkn BK1333⟩, ⟨bn HB⟩⟩
     ·rw [if_neg c17] at H
      have c17b0 := decide_eq_false c17
      clear c17
      obtain rfl := Option.some.inj H
      go_wp2
      go_ret
      exact ⟨by first | rfl | (simp [errW_none, errW_some] <;> rfl) | (simp [*, errW_none, errW_some] <;> rfl), bn HB⟩
  ·replace c7 := Bool.eq_false_iff.mpr c7
   subst c7
   rw [if_neg (show ¬ (false = true) by decide)] at H
   exact absurd (Option.some.inj H) (by rw [hrt.out]; decide)

/-- what is to be proved of laws_FnBridgeParts, without Go -/
def laws_FnBridgeParts.Pure : Prop := ∀ (l0 : List Int), (l0.length ≤ maxLen ∧ ∀ l0_ ∈ l0, ((Lit.int .u8 l0_).wf = true)) → ∃ k, laws_FnBridgeParts.f k l0 = some true

end Go.Proofs.Ytdlnnjgjfngccaa.F
