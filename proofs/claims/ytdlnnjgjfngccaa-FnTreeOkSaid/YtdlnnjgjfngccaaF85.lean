-- Written by oprint.py (wip/tools) over the kit's print program, for this seat.
import Derived.Test.YtdlnnjgjfngccaaF0
import Derived.Test.YtdlnnjgjfngccaaF14
import Derived.Test.YtdlnnjgjfngccaaF28
namespace Go.Proofs.Ytdlnnjgjfngccaa.F
open Go.RowKit Go.Proofs.YtdlnnjgjfngccaaW.PrintWords Go.Proofs.YtdlnnjgjfngccaaW.PrintLast Go.Proofs.YtdlnnjgjfngccaaW.PrintMore
attribute [local go_sem] max2_int min2_int max_two min_two max_three min_three max_four min_four   -- for this text's walks alone
set_option linter.unusedVariables false
set_option linter.unusedSimpArgs false

/-! ### spec_TreeOf: function 125 -/
def spec_TreeOf.l0 : Nat → List (S73) → Int → Int → List (S73) → Option ((List (S73)))
 | 0, _, _, _, _ => none
 | k + 1, x3, x4, x1345000, x1345001 => if x4 < (x1345001.length : Int) then (if 0 ≤ x4 then ((spec_WayReach.f k x1345000 x3 ((rd_T73 x1345001 x4).f0)).bind fun t1350 => (if 0 ≤ ((rd_T73 x1345001 x4).f1) then (if ((rd_T73 x1345001 x4).f1) < (t1350.length : Int) then (if (rdOf false t1350 ((rd_T73 x1345001 x4).f1) = true) then (spec_TreeOf.l0 k x3 (wrap64 (x4 + 1)) x1345000 x1345001) else (if x3.length < 8796093022208 then (spec_TreeOf.l0 k (x3 ++ [(⟨(rd_T73 x1345001 x4).f0, (rd_T73 x1345001 x4).f1⟩ : S73)]) (wrap64 (x4 + 1)) x1345000 x1345001) else (none))) else (none)) else (none))) else (none)) else (some x3)
def spec_TreeOf.f (k : Nat) (a0_0 : Int) (l0_1 : List (S73)) : Option ((List (S73))) := (some (([] : List (S73)) : List (S73))).bind fun y1345 => ((spec_NetOk.f k a0_0 l0_1).bind fun t1348 => (if t1348 = true then (spec_TreeOf.l0 k y1345 0 a0_0 l0_1) else (some y1345)))
theorem spec_TreeOf.mono_l : ∀ k, (∀ y0 y1 y2 y3, LeO (spec_TreeOf.l0 k y0 y1 y2 y3) (spec_TreeOf.l0 (k + 1) y0 y1 y2 y3))
 | 0 => fun _ _ _ _ r h => by simp [spec_TreeOf.l0] at h
 | k + 1 => by
  have ih0 := spec_TreeOf.mono_l k
  ·intro y0 y1 y2 y3
   unfold spec_TreeOf.l0
   have m0_ := @spec_NetOk.mono
   have m1_ := @spec_WayReach.mono
   exact mo_
theorem spec_TreeOf.mono : ∀ a0 a1 k, LeO (spec_TreeOf.f k a0 a1) (spec_TreeOf.f (k + 1) a0 a1) := by
 intro a0 a1 k
 have ih0 := spec_TreeOf.mono_l k
 unfold spec_TreeOf.f
 have m0_ := @spec_NetOk.mono
 have m1_ := @spec_WayReach.mono
 exact mo_
def spec_TreeOf.T7 : Bool × List (List Nat × List Nat) := (true, [([], []), ([0], [0]), ([], []), ([1, 2], [1, 2]), ([], []), ([4], [4]), ([], []), ([5, 6], [5, 6]), ([7], [7]), ([8], [8]), ([3, 9], [3, 9]), ([10, 10, 0, 1, 2, 3, 4, 5, 6, 7, 8, 9, 10], [10])])
def spec_TreeOf.B7 : List Nat := [0, 1, 0, 7, 0, 16, 0, 112, 240, 496, 1023, 2047]
theorem spec_TreeOf.tab7 : rtab .any (opsOf Try.f125 7) = spec_TreeOf.T7 := by kernel_rfl
theorem spec_TreeOf.bits7 : waitsOk spec_TreeOf.T7.2 spec_TreeOf.B7 = true := by kernel_rfl
set_option maxHeartbeats 8000000 in
set_option maxRecDepth 100000 in
theorem spec_TreeOf.calls (k : Nat) (a0_0 : Int) (A0_1 : Option Addr) (c0_1 : Nat) (l0_1 : List (S73)) (r : List (S73)) (w : World) (hr0_1 : Kd.C k73 w A0_1 l0_1.length l0_1) (hc0_1 : l0_1.length ≤ c0_1) (h : spec_TreeOf.f k a0_0 l0_1 = some r) :
  Calls Try.prog 125 #[.agg #[.int .i64 a0_0, .slice A0_1 l0_1.length c0_1]] w fun e w' => ∃ v0_ : Value, e = .returned (v0_) ∧ Kd.R k73 73 w' w.heap.size (fun _ => True) v0_ r ∧ Below w.heap.size w w' := by
 have hu34 := Try.underlying34
 have hu73 := Try.underlying73
 have HR0_1 := am hr0_1
 have HC0_1 := am hc0_1
 clear hr0_1 hc0_1
 have HB := am (Below.refl w.heap.size w)
 have H : ((some (([] : List (S73)) : List (S73))).bind fun y1345 => ((spec_NetOk.f k a0_0 l0_1).bind fun t1348 => (if t1348 = true then (spec_TreeOf.l0 k y1345 0 a0_0 l0_1) else (some y1345)))) = some r := h
 clear h
 obtain ⟨y1345, hy1345⟩ : ∃ y_ : List (S73), y_ = (([] : List (S73))) := ⟨_, rfl⟩
 replace H : ((spec_NetOk.f k a0_0 l0_1).bind fun t1348 => (if t1348 = true then (spec_TreeOf.l0 k y1345 0 a0_0 l0_1) else (some y1345))) = some r := nh_ hy1345 H
 have Ny1345 := am hy1345
 clear hy1345
 replace H := Option.bind_eq_some_iff.mp H
 obtain ⟨t1348, A20, H⟩ := H
 (try dsimp only at H)
 have A2 := am A20
 clear A20
 by_cases c3 : t1348 = true
 ·subst c3
  rw [if_pos rfl] at H
  have H' := am H
  clear H
  go_enter Try.func125, Try.ntmps125
  go_wp2_with (first | ((with_reducible refine gate_dst (N := 1) rfl ?_); refine be_ 1 #[.int .i64 a0_0, .slice A0_1 l0_1.length c0_1] 34 ?_; intro gb1344 hg w4 hbox hb; have BK1344 := am hbox; have GW1344 := am (ge_ hg HB); have GE1344 := am (ge_ hg HB); replace HB := bs HB hb; clear hb hbox hg) | ((with_reducible refine gate_dst (N := 6) rfl ?_); refine Kd.R_lit k73 _ 73 ?hg (N := 6) ?hd (xs := ([] : List (S73))) (inner := []) (ok := fun _ => True) (okp := fun _ => True) ?hr ?hp (fun _ hk => hk) trivial (Below.refl _ _) (Nat.le_refl _) (by simp) ?_; (case hd => rfl); (case hg => rfl); (case hr => first | (go_simp; done) | (go_simp; rfl)); (case hp => exact (Reps.none _ _)); intro v1346 w5 ho6 hb hg_ hnew_; clear hg_ hnew_; (first | rw [← Ny1345.out] at ho6 | (simp only [Int.reduceToNat] at ho6; rw [← Ny1345.out] at ho6)); have HO1347 := am (Kd.R_lower ho6 (below_size (bn HB))); replace BK1344 := bb BK1344 hb; replace HB := bs HB hb; clear hb ho6; obtain ⟨hcz7_0, hcz7_1, hfz7_0, hfz7_1⟩ := c2 BK1344) | ((with_reducible refine gate_callee (f := 66) rfl ?_); refine gl_ (some 8) Try.func66 #[.agg #[.int .i64 a0_0, .slice A0_1 l0_1.length c0_1]] ?_; (with_reducible refine (spec_NetOk.calls k a0_0 _ _ l0_1 true _ ?side1 ?side2 A2.out).mono ?_); (case side1 => exact cb HR0_1 HB); (case side2 => exact HC0_1.out); rintro e w8 ⟨rfl, hb⟩; refine ⟨_, rfl, ?_⟩; replace HO1347 := am (Kd.R_below (onR HO1347) hb); replace BK1344 := bb BK1344 hb; replace HB := bs HB hb; (try clear hb); (try clear hi)))
  go_loopg [3, 4] k (fun kq v3 v4 w' => ∃ (x3_1 : List (S73)) (x4_1 : Int), v4 = .int .i64 x4_1 ∧ Aside0 (spec_TreeOf.l0 kq x3_1 x4_1 a0_0 l0_1 = some r) ∧ Aside0 (kq ≤ k) ∧ Aside0 (Kd.R k73 73 w' w.heap.size (fun _ => True) v3 x3_1) ∧ Aside0 (w'.heap[gb1344]? = some (.cells #[.int .i64 a0_0, (.slice A0_1 l0_1.length c0_1)] 34 (0, 0))) ∧ Aside0 (Below w.heap.size w w'))
  case atStart => exact ⟨(y1345), (0), (by first | rfl | (simp; done) | (simp [*]; done)), H', ⟨Nat.le_refl _⟩, ⟨onR HO1347⟩, ⟨bkn BK1344⟩, ⟨bn HB⟩⟩
  case round =>
   clear H'
   try clear c1
   try clear p2
   try clear c3
   try clear c6
   try clear hcz7_0 hcz7_1 hfz7_0 hfz7_1
   obtain ⟨x3_1, x4_1, rfl, HA, HK1, HO_3, BK1344, HB⟩ := hrel
   cases gk with
   | zero => exact absurd HA.out (by simp [spec_TreeOf.l0])
   | succ k1 =>
    have H := HA.out
    clear HA
    simp only [spec_TreeOf.l0] at H
    by_cases c9 : x4_1 < (l0_1.length : Int)
    ·rw [if_pos c9] at H
     have c9b0 := decide_eq_true c9
     clear c9
     obtain ⟨c10, H⟩ := ig_ H
     have c10b0 := decide_eq_true c10
     clear c10
     replace H := Option.bind_eq_some_iff.mp H
     obtain ⟨t1350, A110, H⟩ := H
     (try dsimp only at H)
     have A11 := am A110
     clear A110
     obtain ⟨c12, H⟩ := ig_ H
     have c12b0 := decide_eq_true c12
     clear c12
     obtain ⟨c13, H⟩ := ig_ H
     have c13b0 := decide_eq_true c13
     clear c13
     obtain ⟨bq14, hbq14⟩ : ∃ b_ : Bool, b_ = (rdOf false t1350 ((rd_T73 l0_1 x4_1).f1)) := ⟨_, rfl⟩
     replace H : (if (bq14 = true) then (spec_TreeOf.l0 k1 x3_1 (wrap64 (x4_1 + 1)) a0_0 l0_1) else (if x3_1.length < 8796093022208 then (spec_TreeOf.l0 k1 (x3_1 ++ [(⟨(rd_T73 l0_1 x4_1).f0, (rd_T73 l0_1 x4_1).f1⟩ : S73)]) (wrap64 (x4_1 + 1)) a0_0 l0_1) else (none))) = some r := by rw [← hbq14] at H; exact H
     have Nbq14 := am hbq14
     clear hbq14
     by_cases c15 : (bq14 = true)
     ·subst c15
      rw [if_pos rfl] at H
      have H' := am H
      clear H
      obtain ⟨hcz16_0, hcz16_1, hfz16_0, hfz16_1⟩ := c2 BK1344
      try go_wp2
      replace HO_3 := am (Kd.R_drew HO_3.out)
      replace BK1344 := am (blk_drew BK1344.out)
      replace HB := am (below_drew1 HB.out)
      obtain ⟨Ao18, co18, eo18⟩ := Kd.R_slice HO_3.out
      (first | subst eo18 | (injection eo18 with f1_ f2_ f3_; have f4_ := f1_.symm; have f5_ := f3_.symm; clear f1_ f2_ f3_; subst f4_; subst f5_))
      have p1349 : 0 ≤ (x4_1 : Int) := oa
      have q1349 : x4_1 < (l0_1.length : Int) := oa
      obtain ⟨ad1349, e1349, hx1349_0, hx1349_1⟩ := at_T73 HR0_1.out x4_1 p1349 q1349
      have hw1349_1 := hx1349_1
      have hw1349_0 := hx1349_0
      cases e1349
      replace hx1349_0 := (HB.out.cell (World.block_lt_of_cell? w _ hx1349_0)).trans hx1349_0
      replace hx1349_1 := (HB.out.cell (World.block_lt_of_cell? w _ hx1349_1)).trans hx1349_1
      replace p1349 := eq_true p1349
      replace q1349 := eq_true q1349
      refine start_ (n := 12) (S := fun w' => w'.cell? ⟨gb1344, 0, none⟩ = some (.int .i64 a0_0) ∧ w'.cell? ⟨gb1344, 1, none⟩ = some (.slice (some ad1349) l0_1.length c0_1) ∧ w'.cell? (ad1349.add ((x4_1).toNat * 2)) = some (.int .i64 ((rd_T73 l0_1 x4_1).f0)) ∧ w'.cell? ⟨(ad1349.add ((x4_1).toNat * 2)).block, (ad1349.add ((x4_1).toNat * 2)).off + 1, none⟩ = some (.int .i64 ((rd_T73 l0_1 x4_1).f1))) (ds := []) #[false, false, false, false, false, false, false, false, false, false, false, false] (by kernel_rfl) rfl rfl ⟨(bc BK1344 0), (bc BK1344 1), ((HB.out.cell (World.block_lt_of_cell? w _ hw1349_0)).trans hw1349_0), ((HB.out.cell (World.block_lt_of_cell? w _ hw1349_1)).trans hw1349_1)⟩ (fun hHeld => ?_); refine with_tabW spec_TreeOf.tab7 spec_TreeOf.bits7 (fun HT_ HW_ => ?_)
      generalize wr.drew = w17 at HO_3 BK1344 HB hx1349_0 hx1349_1 hHeld ⊢
      refine pz_ 0 (some 18) HT_ ?_
      refine pz_ 2 (some 20) HT_ ?_
      refine pz_ 4 (some 22) HT_ ?_
      refine pz_ 6 (some 24) HT_ ?_
      refine tz_ 1 (some 19) HT_ HW_ hHeld ?_
      refine pz_ 3 (some 21) HT_ ?_
      refine tz_ 5 (some 23) HT_ HW_ hHeld ?_
      refine pz_ 7 (some 25) HT_ ?_
      refine pz_ 8 (some 26) HT_ ?_
      refine tz_ 9 (some 27) HT_ HW_ hHeld ?_
      refine one_ (i := 10) (N := some 28) #[true, true, true, true, true, true, true, true, true, true, true, false] rfl rfl (one_of HT_.out (by kernel_rfl)) (by decide) (fun K hK => ?_)
      refine gg_ Try.func97 #[.agg #[.int .i64 a0_0, .slice Ao18 x3_1.length co18], .int .i64 ((rd_T73 l0_1 x4_1).f0)] ?_
      with_reducible refine (spec_WayReach.calls k1 a0_0 _ _ x3_1 ((rd_T73 l0_1 x4_1).f0) t1350 _ ?side1 ?side2 A11.out).mono ?_
      (case side1 => exact (Kd.R_reads' (onR HO_3)).2.2)
      (case side2 => exact (Kd.R_reads' HO_3.out).2.1)
      rintro e w19 ⟨v1351, rfl, ho0, hb⟩
      refine ⟨_, rfl, ?_⟩
      replace HO_3 := am (Kd.R_below (onR HO_3) hb)
      have HO1352 := am (Kd.R_lower ho0 (below_size (bn HB)))
      replace BK1344 := bb BK1344 hb
      replace HB := bs HB hb
      (try clear hb)
      (try clear hb2)
      (try clear hk)
      (try clear hi)
      (try clear ho0)
      refine hK.out _ _ ⟨(bc BK1344 0), (bc BK1344 1), ((HB.out.cell (World.block_lt_of_cell? w _ hw1349_0)).trans hw1349_0), ((HB.out.cell (World.block_lt_of_cell? w _ hw1349_1)).trans hw1349_1)⟩ (fun hHeld => ?_)
      clear hK K
      refine nz_ 28 ?_
      refine pz_ 11 (some 5) HT_ ?_
      refine done_ (done_of HT_.out (by kernel_rfl)) ?_
      obtain ⟨hcz20_0, hcz20_1, hfz20_0, hfz20_1⟩ := c2 BK1344
      have p1353 : 0 ≤ (x4_1 : Int) := oa
      have q1353 : x4_1 < (l0_1.length : Int) := oa
      obtain ⟨ad1353, e1353, hx1353_0, hx1353_1⟩ := at_T73 HR0_1.out x4_1 p1353 q1353
      obtain rfl : ad1349 = ad1353 := (by injection e1353)
      replace hx1353_0 := (HB.out.cell (World.block_lt_of_cell? w _ hx1353_0)).trans hx1353_0
      replace hx1353_1 := (HB.out.cell (World.block_lt_of_cell? w _ hx1353_1)).trans hx1353_1
      replace p1353 := eq_true p1353
      replace q1353 := eq_true q1353
      obtain ⟨Ao21, co21, eo21⟩ := Kd.R_slice HO1352.out
      subst eo21
      have p1354 : 0 ≤ (((rd_T73 l0_1 x4_1).f1) : Int) := oa
      have q1354 : ((rd_T73 l0_1 x4_1).f1) < (t1350.length : Int) := oa
      obtain ⟨ad1354, e1354, hx1354_0⟩ := Kd.at_bool (Kd.R_reads' HO1352.out).2.2 ((rd_T73 l0_1 x4_1).f1) p1354 q1354
      (try rw [← Nbq14.out] at hx1354_0)
      cases e1354
      replace p1354 := eq_true p1354
      replace q1354 := eq_true q1354
      try go_wp2
      go_roundg k1
      case measure => have := HK1.out; omega
      case rel => exact ⟨(x3_1), (wrap64 (x4_1 + 1)), (by first | rfl | (simp; done) | (simp [*]; done)), H', ⟨by have := HK1.out; omega⟩, ⟨onR HO_3⟩, ⟨bkn BK1344⟩, ⟨bn HB⟩⟩
     ·replace c15 := Bool.eq_false_iff.mpr c15
      subst c15
      rw [if_neg (show ¬ (false = true) by decide)] at H
      obtain ⟨c22, H⟩ := ig_ H
      have LMc22 := am c22
      clear c22
      obtain ⟨y1356, hy1356⟩ : ∃ y_ : List (S73), y_ = (x3_1 ++ [(⟨(rd_T73 l0_1 x4_1).f0, (rd_T73 l0_1 x4_1).f1⟩ : S73)]) := ⟨_, rfl⟩
      replace H : (spec_TreeOf.l0 k1 y1356 (wrap64 (x4_1 + 1)) a0_0 l0_1) = some r := nh_ hy1356 H
      have Ny1356 := am hy1356
      clear hy1356
      have H' := am H
      clear H
      obtain ⟨hcz23_0, hcz23_1, hfz23_0, hfz23_1⟩ := c2 BK1344
      try go_wp2
      replace HO_3 := am (Kd.R_drew HO_3.out)
      replace BK1344 := am (blk_drew BK1344.out)
      replace HB := am (below_drew1 HB.out)
      obtain ⟨Ao25, co25, eo25⟩ := Kd.R_slice HO_3.out
      (first | subst eo25 | (injection eo25 with f1_ f2_ f3_; have f4_ := f1_.symm; have f5_ := f3_.symm; clear f1_ f2_ f3_; subst f4_; subst f5_))
      have p1349 : 0 ≤ (x4_1 : Int) := oa
      have q1349 : x4_1 < (l0_1.length : Int) := oa
      obtain ⟨ad1349, e1349, hx1349_0, hx1349_1⟩ := at_T73 HR0_1.out x4_1 p1349 q1349
      have hw1349_1 := hx1349_1
      have hw1349_0 := hx1349_0
      cases e1349
      replace hx1349_0 := (HB.out.cell (World.block_lt_of_cell? w _ hx1349_0)).trans hx1349_0
      replace hx1349_1 := (HB.out.cell (World.block_lt_of_cell? w _ hx1349_1)).trans hx1349_1
      replace p1349 := eq_true p1349
      replace q1349 := eq_true q1349
      refine start_ (n := 12) (S := fun w' => w'.cell? ⟨gb1344, 0, none⟩ = some (.int .i64 a0_0) ∧ w'.cell? ⟨gb1344, 1, none⟩ = some (.slice (some ad1349) l0_1.length c0_1) ∧ w'.cell? (ad1349.add ((x4_1).toNat * 2)) = some (.int .i64 ((rd_T73 l0_1 x4_1).f0)) ∧ w'.cell? ⟨(ad1349.add ((x4_1).toNat * 2)).block, (ad1349.add ((x4_1).toNat * 2)).off + 1, none⟩ = some (.int .i64 ((rd_T73 l0_1 x4_1).f1))) (ds := []) #[false, false, false, false, false, false, false, false, false, false, false, false] (by kernel_rfl) rfl rfl ⟨(bc BK1344 0), (bc BK1344 1), ((HB.out.cell (World.block_lt_of_cell? w _ hw1349_0)).trans hw1349_0), ((HB.out.cell (World.block_lt_of_cell? w _ hw1349_1)).trans hw1349_1)⟩ (fun hHeld => ?_); refine with_tabW spec_TreeOf.tab7 spec_TreeOf.bits7 (fun HT_ HW_ => ?_)
      generalize wr.drew = w24 at HO_3 BK1344 HB hx1349_0 hx1349_1 hHeld ⊢
      refine pz_ 0 (some 18) HT_ ?_
      refine pz_ 2 (some 20) HT_ ?_
      refine pz_ 4 (some 22) HT_ ?_
      refine pz_ 6 (some 24) HT_ ?_
      refine tz_ 1 (some 19) HT_ HW_ hHeld ?_
      refine pz_ 3 (some 21) HT_ ?_
      refine tz_ 5 (some 23) HT_ HW_ hHeld ?_
      refine pz_ 7 (some 25) HT_ ?_
      refine pz_ 8 (some 26) HT_ ?_
      refine tz_ 9 (some 27) HT_ HW_ hHeld ?_
      refine one_ (i := 10) (N := some 28) #[true, true, true, true, true, true, true, true, true, true, true, false] rfl rfl (one_of HT_.out (by kernel_rfl)) (by decide) (fun K hK => ?_)
      refine gg_ Try.func97 #[.agg #[.int .i64 a0_0, .slice Ao25 x3_1.length co25], .int .i64 ((rd_T73 l0_1 x4_1).f0)] ?_
      with_reducible refine (spec_WayReach.calls k1 a0_0 _ _ x3_1 ((rd_T73 l0_1 x4_1).f0) t1350 _ ?side1 ?side2 A11.out).mono ?_
      (case side1 => exact (Kd.R_reads' (onR HO_3)).2.2)
      (case side2 => exact (Kd.R_reads' HO_3.out).2.1)
      rintro e w26 ⟨v1351, rfl, ho0, hb⟩
      refine ⟨_, rfl, ?_⟩
      replace HO_3 := am (Kd.R_below (onR HO_3) hb)
      have HO1352 := am (Kd.R_lower ho0 (below_size (bn HB)))
      replace BK1344 := bb BK1344 hb
      replace HB := bs HB hb
      (try clear hb)
      (try clear hb2)
      (try clear hk)
      (try clear hi)
      (try clear ho0)
      refine hK.out _ _ ⟨(bc BK1344 0), (bc BK1344 1), ((HB.out.cell (World.block_lt_of_cell? w _ hw1349_0)).trans hw1349_0), ((HB.out.cell (World.block_lt_of_cell? w _ hw1349_1)).trans hw1349_1)⟩ (fun hHeld => ?_)
      clear hK K
      refine nz_ 28 ?_
      refine pz_ 11 (some 5) HT_ ?_
      refine done_ (done_of HT_.out (by kernel_rfl)) ?_
      obtain ⟨hcz27_0, hcz27_1, hfz27_0, hfz27_1⟩ := c2 BK1344
      have p1353 : 0 ≤ (x4_1 : Int) := oa
      have q1353 : x4_1 < (l0_1.length : Int) := oa
      obtain ⟨ad1353, e1353, hx1353_0, hx1353_1⟩ := at_T73 HR0_1.out x4_1 p1353 q1353
      obtain rfl : ad1349 = ad1353 := (by injection e1353)
      replace hx1353_0 := (HB.out.cell (World.block_lt_of_cell? w _ hx1353_0)).trans hx1353_0
      replace hx1353_1 := (HB.out.cell (World.block_lt_of_cell? w _ hx1353_1)).trans hx1353_1
      replace p1353 := eq_true p1353
      replace q1353 := eq_true q1353
      obtain ⟨Ao28, co28, eo28⟩ := Kd.R_slice HO1352.out
      subst eo28
      have p1354 : 0 ≤ (((rd_T73 l0_1 x4_1).f1) : Int) := oa
      have q1354 : ((rd_T73 l0_1 x4_1).f1) < (t1350.length : Int) := oa
      obtain ⟨ad1354, e1354, hx1354_0⟩ := Kd.at_bool (Kd.R_reads' HO1352.out).2.2 ((rd_T73 l0_1 x4_1).f1) p1354 q1354
      (try rw [← Nbq14.out] at hx1354_0)
      cases e1354
      replace p1354 := eq_true p1354
      replace q1354 := eq_true q1354
      have p1355 : 0 ≤ (x4_1 : Int) := oa
      have q1355 : x4_1 < (l0_1.length : Int) := oa
      obtain ⟨ad1355, e1355, hx1355_0, hx1355_1⟩ := at_T73 HR0_1.out x4_1 p1355 q1355
      obtain rfl : ad1349 = ad1355 := (by injection e1355)
      replace hx1355_0 := (HB.out.cell (World.block_lt_of_cell? w _ hx1355_0)).trans hx1355_0
      replace hx1355_1 := (HB.out.cell (World.block_lt_of_cell? w _ hx1355_1)).trans hx1355_1
      replace p1355 := eq_true p1355
      replace q1355 := eq_true q1355
      try go_wp2_with (first | ((with_reducible refine gate_builtin (b := .append) (xs := #[.tmp 39, .tmp 45]) rfl ?_); at_builtin; refine Kd.R_append k73 (w0 := w) w.heap.size rfl (.tmp 39) (.tmp 45) 32 73 (.agg #[(.int .i64 0), (.int .i64 0)]) 16 rfl Try.underlying32 info73 rfl (by decide) (by omega) (.slice Ao25 x3_1.length co25) x3_1 (⟨(rd_T73 l0_1 x4_1).f0, (rd_T73 l0_1 x4_1).f1⟩ : S73) [.int .i64 ((rd_T73 l0_1 x4_1).f0), .int .i64 ((rd_T73 l0_1 x4_1).f1)] (fun _ => True) (fun _ => False) rfl rfl ?aP (fun _ hk => hk.elim) ?aF ?aO ?aB ?aS ?aL ?_; (case aP => exact k73_mkM _ _ _ (⟨(rd_T73 l0_1 x4_1).f0, (rd_T73 l0_1 x4_1).f1⟩ : S73)); (case aB => exact (bn HB)); (case aF => exact (fun _ _ => trivial)); (case aO => exact (onR HO_3)); (case aS => exact (below_size (bn HB))); (case aL => have := LMc22.out; omega); intro v1357 w29 ho hb hg hat; rw [← Ny1356.out] at ho; replace BK1344 := am (blk_grown (bkn BK1344) hg (Kd.R_ne HO_3.out BK1344.out (by decide))); replace HO1352 := am (Kd.R_over' (onR HO1352) (Kd.R_typed (onR HO_3)) (by decide) hg); replace HB := am hb; have HO1358 := am ho; clear HO_3; clear ho hb hg hat))
      go_roundg k1
      case measure => have := HK1.out; omega
      case rel => exact ⟨(y1356), (wrap64 (x4_1 + 1)), (by first | rfl | (simp; done) | (simp [*]; done)), H', ⟨by have := HK1.out; omega⟩, ⟨onR HO1358⟩, ⟨bkn BK1344⟩, ⟨bn HB⟩⟩
    ·rw [if_neg c9] at H
     have c9b0 := decide_eq_false c9
     clear c9
     obtain rfl := Option.some.inj H
     obtain ⟨hcz30_0, hcz30_1, hfz30_0, hfz30_1⟩ := c2 BK1344
     go_wp2
     go_ret
     exact ⟨_, by first | rfl | (simp [errW_none, errW_some] <;> rfl) | (simp [*, errW_none, errW_some] <;> rfl), onR HO_3, bn HB⟩
 ·replace c3 := Bool.eq_false_iff.mpr c3
  subst c3
  rw [if_neg (show ¬ (false = true) by decide)] at H
  obtain rfl := Option.some.inj H
  go_enter Try.func125, Try.ntmps125
  go_wp2_with (first | ((with_reducible refine gate_dst (N := 1) rfl ?_); refine be_ 1 #[.int .i64 a0_0, .slice A0_1 l0_1.length c0_1] 34 ?_; intro gb1344 hg w31 hbox hb; have BK1344 := am hbox; have GW1344 := am (ge_ hg HB); have GE1344 := am (ge_ hg HB); replace HB := bs HB hb; clear hb hbox hg) | ((with_reducible refine gate_dst (N := 6) rfl ?_); refine Kd.R_lit k73 _ 73 ?hg (N := 6) ?hd (xs := ([] : List (S73))) (inner := []) (ok := fun _ => True) (okp := fun _ => True) ?hr ?hp (fun _ hk => hk) trivial (Below.refl _ _) (Nat.le_refl _) (by simp) ?_; (case hd => rfl); (case hg => rfl); (case hr => first | (go_simp; done) | (go_simp; rfl)); (case hp => exact (Reps.none _ _)); intro v1346 w32 ho33 hb hg_ hnew_; clear hg_ hnew_; (first | rw [← Ny1345.out] at ho33 | (simp only [Int.reduceToNat] at ho33; rw [← Ny1345.out] at ho33)); have HO1347 := am (Kd.R_lower ho33 (below_size (bn HB))); replace BK1344 := bb BK1344 hb; replace HB := bs HB hb; clear hb ho33; obtain ⟨hcz34_0, hcz34_1, hfz34_0, hfz34_1⟩ := c2 BK1344) | ((with_reducible refine gate_callee (f := 66) rfl ?_); refine gl_ (some 8) Try.func66 #[.agg #[.int .i64 a0_0, .slice A0_1 l0_1.length c0_1]] ?_; (with_reducible refine (spec_NetOk.calls k a0_0 _ _ l0_1 false _ ?side1 ?side2 A2.out).mono ?_); (case side1 => exact cb HR0_1 HB); (case side2 => exact HC0_1.out); rintro e w35 ⟨rfl, hb⟩; refine ⟨_, rfl, ?_⟩; replace HO1347 := am (Kd.R_below (onR HO1347) hb); replace BK1344 := bb BK1344 hb; replace HB := bs HB hb; (try clear hb); (try clear hi)))
  go_ret
  exact ⟨_, by first | rfl | (simp [errW_none, errW_some] <;> rfl) | (simp [*, errW_none, errW_some] <;> rfl), onR HO1347, bn HB⟩

end Go.Proofs.Ytdlnnjgjfngccaa.F
